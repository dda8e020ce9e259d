/- Contracts. -/
import Derived.WalkKit
import Derived.Test.YtplagoepbghhpaaGreatDoorBZivNarrows3
set_option linter.unusedVariables false
set_option linter.unusedSimpArgs false
set_option exponentiation.threshold 10000000
noncomputable section
open Go.IntKind(i8 i16 i32 i64 u8 u16 u32 u64)
open Go.Proofs.Tryz
open Nat renaming le_trans->cCA,lt_of_le_of_lt->cHT,pow_add->cGE,pow_succ->cGD,pow_pos->cEE,div_le_self->cJR,lt_of_lt_of_le->cCB,mul_comm->cGC,zero_le->cHH,mul_lt_mul''->cJS,zero_add->cBG,sub_le->cHP,mod_lt->cDM,le_refl->cBE,pow_lt_pow_right->cHX,one_mul->cFI,pow_le_pow_right->cEF,ble->cBH,le_of_ble_eq_true->cDC,add_mul->cBY,mul_assoc->cGH,mul_add->cGF,div_lt_of_lt_mul->cGY,div_div_eq_div_mul->cGV,beq->cBF,eq_of_beq_eq_true->cBT,mul_le_mul->cLS,mul_le_mul_right->cCT,add_zero->cCC,lt_succ_self->cPI,add_comm->cHF,mul_lt_mul_of_pos_left->cPK,mul_lt_mul_of_pos_right->cJQ,min_eq_left->cHK,mod_add_div->cLV,mul_le_mul_left->cDS,div_add_mod->cGK
open Rat renaming le_of_lt->cGL,intCast_natCast->cMQ,le_refl->cHS,intCast_mul->cMP,intCast_neg->cOF,natCast_mul->cID,natCast_add->cLQ,le_trans->cGJ,mul_pos->cGX,intCast_sub->cPG,mul_assoc->cMO,mul_comm->cOC,intCast_add->cOG,le_antisymm->cPJ
open Int renaming toNat_natCast->cFB,natAbs_natCast->cGW,eq_ofNat_of_zero_le->cGG,natAbs_neg->cHY,natAbs->cLG,natAbs_mul->cGR,mul_nonneg->cMS,toNat->cPH,neg_mul->cKU,mul_comm->cJD,natCast_mul->cHC,mul_ediv_add_emod->cKH,emod_nonneg->cKI,emod_lt_of_pos->cKJ,mul_le_mul_of_nonneg_left->cPM,tmod_eq_emod_of_nonneg->cIT,mul_le_mul_of_nonneg_right->cDO,natCast_nonneg->cKX
open Bool renaming not_true->cDE,false_or->cDF,or_true->cHD,true_or->cGO,true_and->cEG,and_eq_true->cBK,not_false->cMR,and_eq_false_iff->cNA
open List renaming take->cGZ,replicate->cDH,drop->cHA,take_length->cHZ,length_take->cDU,drop_zero->cHL,take_of_length_le->cIO,drop_replicate->cOS,length_replicate->cOP,nil_append->cFH
open Option renaming bind_eq_some_iff->cDL
namespace Go.Proofs.YtplagoepbghhpaaGreatDoor
open Go.Value(int bool slice)
open AI.S(sc ints)
namespace W
open Go AI M
namespace Jk
def E:Env:={ ({ base with C:=tK [(267,rA.aI)] (callsOf [(261,Cj.aI),(253,oP.prec)]),ioF:=Qu [(267,rA.aI)],n0:=1,io:=[0] })with nt:=34,own:=[],keep:=fun k=>(tlook [(1,[0,1,2,6])] k).getD [],cut:=tlook [] }
def aE:=bd f265
theorem aT:Nk E aE:=nk
def L1(a:List Int)(b:Nat)(c:Nat) d f g:=pZ E f265 aE 1 [(A.any,some { e:=(22:Nat),cont:=rH.ints u64 a }),(A.v (V.one (L.view 0 b c)),none),jR d,jR f,bN g]
theorem start al ao an b c:aF E f265 aE [D.io gX u64 al ao an,D.s (ints u64 b),D.s (ints u64 c)]=Jk.L1 al ao an b c 0:=eJ aT
theorem Tq a b c d e f:L1 a b c d e f=letI C:=(d.length:Int);letI B:=f+(e.length:Int);letI A:=cHA f.toNat (cGZ (if C<i64.wrap B then C else i64.wrap B).toNat d);aB (decide (f<C)) (if 0<=f/\(f<=if C<i64.wrap B then C else i64.wrap B)/\((if C<i64.wrap B then C else i64.wrap B)<=if C<i64.wrap B then C else i64.wrap B)/\(if C<i64.wrap B then C else i64.wrap B)<=C then aM (M6.bZ A/\A.length<=1099511627776) (aD (M6.dg (M6.val A)) fun g=>aM (oP.can g e) (aD (M6.dg (M6.val g*M6.val e)) fun h=>aM (M6.bZ a/\b=0/\c=a.length/\M6.bZ h/\0<=f/\f.toNat+h.length<=a.length/\a.length<=1099511627776/\M6.val a+M6.val h*(18446744073709551616:Nat)^f.toNat<(18446744073709551616:Nat)^a.length) (aD (M6.rP a.length (M6.val a+M6.val h*(18446744073709551616:Nat)^f.toNat)) fun i=>Jk.L1 i b c d e (i64.wrap B))))else none) (some [D.io 22 u64 a 0 0]):=lJ aT
def sp(x:List Int×Nat×Nat)(a b:List Int):Prop×List D:=(M6.bZ x.1/\x.2.1=0/\x.2.2=x.1.length/\M6.cG a/\M6.cG b/\x.1.length=a.length+b.length/\x.1.length<=549755813888/\M6.val x.1=0/\0<b.length/\2*b.length<=a.length/\oP.less (a.length+b.length),
 [.io gX .u64 (M6.rP x.1.length (M6.val a*M6.val b)) 0 0])
theorem bQI{a b:List Int}{N:Nat}(hN:N<=549755813888)(ha:M6.cG a)(hb:M6.cG b)(bOV:N=a.length+b.length)(h0:0<b.length)(h2:2*b.length<=a.length)(hc:oP.less (a.length+b.length)):∀(r at_:Nat) (z:List Int),a.length<=at_+r->at_<=N->z.length=N->M6.bZ z->M6.val z=M6.val (a.take at_)*M6.val b ->
  L1 z 0 N a b at_=some [.io gX .u64 (M6.rP N (M6.val a*M6.val b)) 0 0]:=by
 intro r
 induction r with
 |zero =>
  intro t z hr ht hz hd hv;rw[Tq,aL];rw[M6.bV (by omega)]at hv;rw[M6.qT hd hz hv]
 |succ r ih =>
  intro t z hr ht hz hd hv
  by_cases kM:t<a.length
  ·have w:i64.wrap ((t:Int)+(b.length:Int))=((t+b.length:Nat):Int):=by rw[wrap_i64];omega
   obtain⟨e,he⟩:∃e:Nat,e=min a.length (t+b.length):=⟨_,rfl⟩;have bXY:(if(a.length:Int)<((t+b.length:Nat):Int)then(a.length:Int)else((t+b.length:Nat):Int))=(e:Int):=by split <;> omega
   have So:((a.take e).drop t).length=e-t:=by rw[List.length_drop,cDU];omega
   have bSB:M6.bZ ((a.take e).drop t):=(ha.jE.take _).drop _;have bNB:=M6.dR bSB;rw[So]at bNB;have Qj:M6.val (a.take e)=M6.val (a.take t)+18446744073709551616^t*M6.val ((a.take e).drop t):=by
    have:=M6.iJ (a.take e) (n:=t) (by rw[cDU];omega);rw[List.take_take,show min t e=t from by omega]at this;exact this
   have bSP:=M6.dR hb.jE;have jT:=M6.iG ha.jE e;have h1:M6.val ((a.take e).drop t)*M6.val b<18446744073709551616^(e-t+b.length):=by
    rw[cGE];exact cJS bNB bSP
   have h3:M6.val (a.take e)*M6.val b<18446744073709551616^N:=by
    have:M6.val (a.take e)*M6.val b<18446744073709551616^(e+b.length):=by
     rw[cGE];exact cJS jT bSP
    exact cCB this (M6.sF (by omega))
   have h4:M6.val z+M6.val ((a.take e).drop t)*M6.val b*18446744073709551616^t=M6.val (a.take e)*M6.val b:=by
    rw[hv,Qj,cBY];congr 1;rw[cGC (18446744073709551616^t),Nat.mul_right_comm]
   rw[Tq,aN,w,bXY,if_pos ⟨by omega,by omega,by omega,by omega⟩];simp only[cFB];rw[gP ⟨bSB,by omega⟩,aG,gP (hc _ _ (M6.aY _) hb (by have:=M6.dP bNB;omega)),aG,M6.bD,M6.bD];have Jy:=M6.dP h1;rw[gP ⟨hd,by trivial,by omega,M6.gH _,by omega,by omega,by omega,by rw[h4,hz];exact h3⟩,aG,hz,h4];refine ih (t+b.length) _ (by omega) (by omega) (M6.jJ h3) M6.nH ?_;rw[M6.nG];congr 1
   by_cases bHJ:t+b.length<=a.length
   ·rw[he,Nat.min_eq_right bHJ]
   ·rw[he,cHK (by omega),cHZ,M6.bV (by omega)]
  ·rw[Tq,aL];rw[M6.bV (by omega)]at hv;rw[M6.qT hd hz hv]
theorem spec(x:List Int×Nat×Nat)(a b:List Int)(h:(sp x a b).1):aF E f265 aE [(Ga gX .u64).put x,(pI .u64).put a,(pI .u64).put b]=some (sp x a b).2/\∃rs oH,(sp x a b).2=rs ++ [.io gX .u64 oH 0 0]/\oH.length=x.1.length:=by
 obtain⟨xl,xo,xn⟩:=x;obtain⟨hd,ho,hn,ha,hb,hl,hN,hv,h0,h2,hc⟩:=h;simp only at hd ho hn hl hN hv;subst ho;subst hn;refine⟨(start xl 0 xl.length a b).trans ?_,[],_,rfl,M6.jJ ?_⟩
 ·exact bQI hN ha hb hl h0 h2 hc a.length 0 xl (by omega) (by omega) rfl hd (by simp[hv,M6.val])
 ·show _<18446744073709551616^xl.length;rw[hl,cGE];exact cJS (M6.dR ha.jE) (M6.dR hb.jE)
def aI:dJ:=orc3 (Ga gX .u64) (pI .u64) (pI .u64) sp
theorem fnok:nM prog E 265 f265 aE:=xR tN mixed (nL _ _ rfl rfl (nQ rA.ok zG) (aA Cj.ok (aA oP.aFT aC)) (pJ)) func265 rfl rfl rfl rfl rfl
theorem ok:rW prog base.glob 265 aI:=fnok.xX rfl spec
end Jk
namespace bCN
def E:=mE [(261,Cj.aI)] 29 [16,21] [] []
def aE:=bd f268
theorem aT:Nk E aE:=nk
theorem start a b:aF E f268 aE [D.s (ints u64 a),D.s (sc (int i64 b))]=letI C:=cHA 0 (cGZ b.toNat a);letI A:=(a.length:Int);letI F:=cGZ A.toNat a;letI B:=cHA 0 F;aB (decide (A<=b)) (if(0:Int)<=(0:Int)/\0<=A/\A<=A/\A<=A then aM (M6.bZ B/\B.length<=1099511627776) (some [D.s (ints u64 (M6.dg (M6.val B))),D.s (sc (slice none 0 0))])else none) (if(0:Int)<=(0:Int)/\0<=b/\b<=b/\b<=A then aM (M6.bZ C/\C.length<=1099511627776) (if 0<=b/\b<=A/\A<=A/\A<=A then some [D.s (ints u64 (M6.dg (M6.val C))),D.s (ints u64 (cHA b.toNat F))]else none)else none):=eJ aT
def sp(a:List Int)(k:Int):Prop×List D:=(M6.cG a/\a.length<=1099511627776/\0<=k,[.s (.ints .u64 (M6.dg (M6.val a%18446744073709551616^k.toNat))),.s (.ints .u64 (M6.dg (M6.val a/18446744073709551616^k.toNat)))])
theorem spec:Rq E f268 aE (pI .u64) (pN .i64) sp:=by
 rintro a k ⟨ha,hl,h0⟩;obtain⟨k,rfl⟩:=cGG h0;simp only[sp,cFB];have aGK:=start a (k:Int)
 by_cases hk:a.length<=k
 ·rw[aN,aQ,cFB,cHZ,cHL,gP ⟨ha.jE,hl⟩]at aGK;refine⟨_,aGK,?_⟩;have h1:M6.val a<18446744073709551616^k:=cCB (M6.dR ha.jE) (M6.sF hk);rw[Nat.mod_eq_of_lt h1,Nat.div_eq_of_lt h1,M6.cB];exact .cons (.refl _) (.cons (.nil _) .nil)
 ·rw[aL,aQ,cFB,cFB,cHL,gP ⟨ha.jE.take _,by rw[cDU];omega⟩,aQ,cHZ,M6.vJ ha.jE]at aGK;refine⟨_,aGK,?_⟩;have h2:a.drop k=M6.dg (M6.val a/18446744073709551616^k):=by
   rw[<-M6.lZ ha.jE];exact M6.Ym ha k
  rw[h2];exact .refl _
def aI:dJ:=orc2 (pI .u64) (pN .i64) sp
theorem ok:OK 268 aI:=(eB E aE (aA Cj.ok aC) func268).aSD rfl spec
end bCN
namespace PSum
def E:Env:={ ({ base with C:=tK [(267,rA.aI)] (callsOf [(261,Cj.aI)]),ioF:=Qu [(267,rA.aI)] })with nt:=25,own:=[24],keep:=fun k=>(tlook [] k).getD [],cut:=tlook [(3,[0,1])] }
def aE:=bd f269
theorem aT:Nk E aE:=nk
def J3 a b:=lP E f269 aE 3 [jR a,jR b]
theorem start a b:aF E f269 aE [D.s (ints u64 a),D.s (ints u64 b)]=aB (decide ((a.length:Int)<(b.length:Int))) (PSum.J3 b a) (PSum.J3 a b):=eJ aT
theorem iB a b:J3 a b=letI F:=(a.length:Int);letI G:=F+(1:Int);letI B:=i64.wrap G;letI A:=cGZ B.toNat a ++ cHA (min a.length B.toNat) (cDH B.toNat (0:Int));letI C:=M6.rP A.length (M6.val A+M6.val b*1);if 0<=i64.wrap G/\i64.wrap G<=i64.wrap G/\i64.wrap G<=8796093022208 then aM (M6.bZ A/\(0:Nat)=(0:Nat)/\B.toNat=A.length/\M6.bZ b/\(0:Int)<=(0:Int)/\(0:Nat)+b.length<=A.length/\A.length<=1099511627776/\M6.val A+M6.val b*1<(18446744073709551616:Nat)^A.length) (aM (M6.bZ C/\C.length<=1099511627776) (some [D.s (ints u64 (M6.dg (M6.val C)))]))else none:=cJ aT
def sp(a b:List Int):Prop×List D:=(M6.cG a/\M6.cG b/\a.length<=549755813888/\b.length<=549755813888,[.s (.ints .u64 (M6.dg (M6.val a+M6.val b)))])
theorem aVY{a:List Int}{n:Nat}:cGZ (a.length+n) a ++ cHA (min a.length (a.length+n)) (cDH (a.length+n) (0:Int))=a ++ cDH n 0:=by
 rw[cIO (by omega),cOS];congr 2;omega
theorem J{a b:List Int}(ha:M6.cG a)(hb:M6.cG b)(hl:a.length<=549755813888)(aVA:b.length<=a.length):J3 a b=some [.s (.ints .u64 (M6.dg (M6.val a+M6.val b)))]:=by
 have w:i64.wrap ((a.length:Int)+1)=((a.length+1:Nat):Int):=by rw[wrap_i64];omega
 have h1:=M6.dR ha.jE;have h2:=M6.dR hb.jE;have h3:=M6.sF aVA;have aUO:M6.val a+M6.val b<18446744073709551616^(a.length+1):=by rw[cGD];omega
 have hv:M6.val (a ++ cDH 1 0)=M6.val a:=by rw[M6.jZ,M6.jG];omega
 rw[iB,w,cFB,aVY,aQ,hv,Nat.mul_one,List.length_append,cOP,
  gP ⟨M6.qC.2 ⟨ha.jE,M6.jH _⟩,rfl,rfl,hb.jE,by omega,by omega,by omega,aUO⟩,gP ⟨M6.nH,by rw[M6.jJ aUO];omega⟩,M6.nG]
theorem spec:fL E f269 aE (pI .u64) (pI .u64) sp:=by
 rintro a b ⟨ha,hb,h1,h2⟩;refine(start a b).trans ?_
 by_cases hl:a.length<b.length
 ·rw[aN,J hb ha h2 (by omega),cHF];rfl
 ·rw[aL,J ha hb h1 (by omega)];rfl
def aI:dJ:=orc2 (pI .u64) (pI .u64) sp
theorem fnok:uR prog E 269 f269 aE:=aJJ tN mixed (nL _ _ rfl rfl (nQ rA.ok zG) (aA Cj.ok aC) (pJ)) func269 rfl rfl rfl
theorem ok:mN prog base.glob 269 aI:=fnok.lF rfl spec
end PSum
namespace Kd
def E:Env:={ ({ base with n0:=1,io:=[0] })with nt:=47,own:=[],keep:=fun k=>(tlook [(7,[0,4,6]),(2,[0,1,4,8,9])] k).getD [],cut:=tlook [] }
def aE:=bd f270
theorem aT:Nk E aE:=nk
def L2(a:List Int)(b:Nat)(c:Nat) d f g h:=pZ E f270 aE 2 [(A.any,some { e:=(22:Nat),cont:=rH.ints u64 a }),(A.v (V.one (L.view 0 b c)),none),jR d,dO f,bN g,bN h]
def L7(a:List Int)(b:Nat)(c:Nat) d f:=pZ E f270 aE 7 [(A.any,some { e:=(22:Nat),cont:=rH.ints u64 a }),(A.v (V.one (L.view 0 b c)),none),dO d,bN f]
theorem start al ao an b:aF E f270 aE [D.io gX u64 al ao an,D.s (ints u64 b)]=Kd.L2 al ao an b 0 (b.length:Int) 0:=eJ aT
theorem mK a b c d e f g:L2 a b c d e f g=letI A:=b+g.toNat;aB (decide (g<f)) (if 0<=g/\g<(c:Int)then if 0<=g/\g<(d.length:Int)then aM (0<=a.getD A 0/\0<=d.getD g.toNat 0/\d.getD g.toNat 0<(18446744073709551616:Int)/\0<=e/\e<=1) (if 0<=g/\g<(c:Int)then Kd.L2 (a.set A ((a.getD A 0-d.getD g.toNat 0-e)%18446744073709551616)) b c d (if a.getD A 0<d.getD g.toNat 0+e then(1:Int)else(0:Int)) f (i64.wrap (g+1))else none)else none else none) (Kd.L7 a b c e (d.length:Int)):=lJ aT
theorem yO a b c d e:L7 a b c d e=letI A:=b+e.toNat;aB (decide (0<d)) (if 0<=e/\e<(c:Int)then aM (0<=a.getD A 0/\(0:Int)<=(0:Int)/\(0:Int)<(18446744073709551616:Int)/\0<=d/\d<=1) (if 0<=e/\e<(c:Int)then Kd.L7 (a.set A ((a.getD A 0-(0:Int)-d)%18446744073709551616)) b c (if a.getD A 0<(0:Int)+d then(1:Int)else(0:Int)) (i64.wrap (e+1))else none)else none) (some [D.io 22 u64 a 0 0]):=lJ aT
def sp(x:List Int×Nat×Nat)(b:List Int):Prop×List D:=(M6.bZ x.1/\x.2.1=0/\x.2.2=x.1.length/\M6.bZ b/\b.length<=x.1.length/\x.1.length<=1099511627776/\M6.val b<=M6.val x.1,
 [.io gX .u64 (M6.rP x.1.length (M6.val x.1-M6.val b)) 0 0])
theorem bQF{V W N:Nat}(hN:N<=1099511627776)(hT:W<=V):∀(r j:Nat) (z:List Int) (c:Int),j+r=N+1->z.length=N->M6.bZ z->0<=c->c<=1->M6.val z+W=V+18446744073709551616^j*c.toNat ->
  L7 z 0 N c j=some [.io gX .u64 (M6.rP N (V-W)) 0 0]:=by
 intro r
 induction r with
 |zero =>
  intro j z c hj hz hd h0 h1 hv;have hc:c=0:=by
   have h2:=M6.sF (show N<=j by omega);have h3:=M6.dR hd;rw[hz]at h3;rcases Int.lt_or_le 0 c with h4 |h4
   ·have:c=1:=by omega
    subst this;simp at hv;omega
   ·omega
  subst hc;rw[yO,aL];simp at hv;rw[M6.qT hd hz (v:=V-W) (by omega)]
 |succ r ih =>
  intro j z c hj hz hd h0 h1 hv
  by_cases hc:c=0
  ·subst hc;rw[yO,aL];simp at hv;rw[M6.qT hd hz (v:=V-W) (by omega)]
  ·have bDW:c=1:=by omega
   subst bDW;have bXT:j<N:=by
    rcases Nat.lt_or_ge j N with h |h
    ·exact h
    ·have h2:=M6.sF h;have h3:=M6.dR hd;rw[hz]at h3;simp at hv;omega
   have g:=hd.get j;have w2:i64.wrap ((j:Int)+1)=((j+1:Nat):Int):=by rw[wrap_i64];omega
   rw[yO,aN,aQ,cBG,cFB,gP ⟨g.1,by omega,by omega,by omega,by omega⟩,aQ,w2];refine ih (j+1) _ _ (by omega) (by simp[hz]) (M6.nI hd (by omega)) (by split <;> omega) (by split <;> omega) ?_;have hs:=M6.oT (a:=z) (j:=j) (by omega) ((z.getD j 0-0-1)%18446744073709551616);rw[cGD,cGH];generalize z.getD j 0=x at *;generalize M6.val (z.set j _)=U at *;generalize 18446744073709551616^j=B at *;have e:((x-0-1)%18446744073709551616).toNat+1=x.toNat+18446744073709551616*(if x<0+1 then(1:Int)else 0).toNat:=by split <;> omega
   have e2:B*((x-0-1)%18446744073709551616).toNat+B=B*x.toNat+B*(18446744073709551616*(if x<0+1 then(1:Int)else 0).toNat):=by
    rw[<-cGF,<-e,cGF,Nat.mul_one]
   simp at hv;omega
theorem bQH{b:List Int}{V N:Nat}(hN:N<=1099511627776)(hb:M6.bZ b)(hk:b.length<=N)(hT:M6.val b<=V):∀(r i:Nat) (z:List Int) (c:Int),i+r=b.length->z.length=N->M6.bZ z->0<=c->c<=1 ->
  M6.val z+M6.val (b.take i)=V+18446744073709551616^i*c.toNat ->
  L2 z 0 N b c b.length i=some [.io gX .u64 (M6.rP N (V-M6.val b)) 0 0]:=by
 intro r
 induction r with
 |zero =>
  intro i z c hi hz hd h0 h1 hv;rw[mK,aL];have bAO:i=b.length:=by omega
  subst bAO;rw[cHZ]at hv;exact bQF hN hT (N+1-b.length) b.length z c (by omega) hz hd h0 h1 hv
 |succ r ih =>
  intro i z c hi hz hd h0 h1 hv;have g:=hd.get i;have g2:=hb.get i;have w2:i64.wrap ((i:Int)+1)=((i+1:Nat):Int):=by rw[wrap_i64];omega
  rw[mK,aN,aQ,aQ,cBG,cFB,gP ⟨g.1,g2.1,g2.2,h0,h1⟩,aQ,w2];refine ih (i+1) _ _ (by omega) (by simp[hz]) (M6.nI hd (by omega)) (by split <;> omega) (by split <;> omega) ?_;have hs:=M6.oT (a:=z) (j:=i) (by omega) ((z.getD i 0-b.getD i 0-c)%18446744073709551616);rw[M6.bJ,cGD,cGH];generalize z.getD i 0=x at *;generalize b.getD i 0=y at *;generalize M6.val (z.set i _)=W at *;generalize 18446744073709551616^i=B at *;generalize M6.val (b.take i)=U at *;have e:((x-y-c)%18446744073709551616).toNat+y.toNat+c.toNat=x.toNat+18446744073709551616*(if x<y+c then(1:Int)else 0).toNat:=by split <;> omega
  have e2:B*((x-y-c)%18446744073709551616).toNat+B*y.toNat+B*c.toNat=B*x.toNat+B*(18446744073709551616*(if x<y+c then(1:Int)else 0).toNat):=by
   rw[<-cGF,<-cGF,e,cGF]
  omega
theorem spec(x:List Int×Nat×Nat)(b:List Int)(h:(sp x b).1):aF E f270 aE [(Ga gX .u64).put x,(pI .u64).put b]=some (sp x b).2/\∃rs oH,(sp x b).2=rs ++ [.io gX .u64 oH 0 0]/\oH.length=x.1.length:=by
 obtain⟨xl,xo,xn⟩:=x;obtain⟨hd,ho,hn,hb,aLC,hl,hT⟩:=h;simp only at hd ho hn hb aLC hl hT;subst ho;subst hn;refine⟨(start xl 0 xl.length b).trans ?_,[],_,rfl,M6.jJ (by have:=M6.dR hd;simp only;omega)⟩;have:=bQH hl hb aLC hT b.length 0 xl 0 (by omega) rfl hd (by omega) (by omega) (by simp[M6.val]);exact this
def aI:dJ:=orc2 (Ga gX .u64) (pI .u64) sp
theorem fnok:nM prog E 270 f270 aE:=xR tN mixed (nJ _ rfl aC (pJ)) func270 rfl rfl rfl rfl rfl
theorem ok:rW prog base.glob 270 aI:=fnok.lF rfl spec
end Kd
namespace Ma
def E:Env:={ ({ base with C:=tK [(267,rA.aI),(270,Kd.aI)] (callsOf [(261,Cj.aI),(268,bCN.aI),(269,PSum.aI),(253,oP.prec)]),ioF:=Qu [(267,rA.aI),(270,Kd.aI)],n0:=1,io:=[0] })with nt:=62,own:=[42],keep:=fun k=>(tlook [] k).getD [],cut:=tlook [] }
def aE:=bd f266
theorem aT:Nk E aE:=nk
theorem start al ao an b c:aF E f266 aE [D.io gX u64 al ao an,D.s (ints u64 b),D.s (ints u64 c)]=letI B:=i64.wrap ((b.length:Int)+(1:Int));letI H:=B.tdiv 2;letI F:=i64.wrap ((2:Int)*i64.wrap H);letI C:=i64.wrap H;aM (M6.cG b/\b.length<=1099511627776/\0<=i64.wrap H) (aD (M6.dg (M6.val b%(18446744073709551616:Nat)^C.toNat)) fun a=>aD (M6.dg (M6.val b/(18446744073709551616:Nat)^C.toNat)) fun d=>aM (M6.cG c/\c.length<=1099511627776/\0<=i64.wrap H) (aD (M6.dg (M6.val c%(18446744073709551616:Nat)^C.toNat)) fun e=>aD (M6.dg (M6.val c/(18446744073709551616:Nat)^C.toNat)) fun f=>aM (oP.can a e) (aD (M6.dg (M6.val a*M6.val e)) fun g=>letI A:=cGZ ao al ++ (cGZ an g ++ cHA (ao+min g.length an) al);aM (oP.can d f) (aD (M6.dg (M6.val d*M6.val f)) fun h=>aM (M6.cG a/\M6.cG d/\a.length<=549755813888/\d.length<=549755813888) (aD (M6.dg (M6.val a+M6.val d)) fun i=>aM (M6.cG e/\M6.cG f/\e.length<=549755813888/\f.length<=549755813888) (aD (M6.dg (M6.val e+M6.val f)) fun j=>aM (oP.can i j) (aD (M6.dg (M6.val i*M6.val j)) fun k=>aM (M6.bZ k/\(0:Nat)=(0:Nat)/\k.length=k.length/\M6.bZ g/\g.length<=k.length/\k.length<=1099511627776/\M6.val g<=M6.val k) (aD (M6.rP k.length (M6.val k-M6.val g)) fun l=>aM (M6.bZ l/\(0:Nat)=(0:Nat)/\k.length=l.length/\M6.bZ h/\h.length<=l.length/\l.length<=1099511627776/\M6.val h<=M6.val l) (aD (M6.rP l.length (M6.val l-M6.val h)) fun m=>letI G:=M6.dg (M6.val m);if u64=u64/\ao+an<=al.length then aM (M6.bZ m/\m.length<=1099511627776) (aM (M6.bZ A/\ao=0/\an=A.length/\M6.bZ G/\0<=i64.wrap H/\C.toNat+G.length<=A.length/\A.length<=1099511627776/\M6.val A+M6.val G*(18446744073709551616:Nat)^C.toNat<(18446744073709551616:Nat)^A.length) (aD (M6.rP A.length (M6.val A+M6.val G*(18446744073709551616:Nat)^C.toNat)) fun n=>aM (M6.bZ n/\ao=0/\an=n.length/\M6.bZ h/\0<=i64.wrap ((2:Int)*i64.wrap H)/\F.toNat+h.length<=n.length/\n.length<=1099511627776/\M6.val n+M6.val h*(18446744073709551616:Nat)^F.toNat<(18446744073709551616:Nat)^n.length) (aD (M6.rP n.length (M6.val n+M6.val h*(18446744073709551616:Nat)^F.toNat)) fun o=>some [D.io 22 u64 o 0 0])))else none))))))))):=eJ aT
def sp(x:List Int×Nat×Nat)(a b:List Int):Prop×List D:=(M6.bZ x.1/\x.2.1=0/\x.2.2=x.1.length/\M6.cG a/\M6.cG b/\x.1.length=a.length+b.length/\x.1.length<=274877906944/\M6.val x.1=0/\4<=b.length/\b.length<=a.length/\oP.less (a.length+b.length),
 [.io gX .u64 (M6.rP x.1.length (M6.val a*M6.val b)) 0 0])
theorem bLV(a0 a1 b0 b1 K:Nat):(a0+K*a1)*(b0+K*b1)=a0*b0+(a0*b1+a1*b0)*K+a1*b1*(K*K):=by grind
theorem bLU(a0 a1 b0 b1:Nat):(a0+a1)*(b0+b1)=a0*b0+a1*b1+(a0*b1+a1*b0):=by grind
theorem Ho{v n k:Nat}(h:v<18446744073709551616^n):v/18446744073709551616^k<18446744073709551616^(n-k):=by
 apply cGY;rw[<-cGE];exact cCB h (M6.sF (by omega))
theorem aFV{v k N:Nat}(hk:k<=N)(h:v*18446744073709551616^k<18446744073709551616^N):v<18446744073709551616^(N-k):=by
 have e:18446744073709551616^N=18446744073709551616^(N-k)*18446744073709551616^k:=by rw[<-cGE];congr 1;omega
 rw[e]at h;exact Nat.lt_of_mul_lt_mul_right h
theorem spec(x:List Int×Nat×Nat)(a b:List Int)(h:(sp x a b).1):aF E f266 aE [(Ga gX .u64).put x,(pI .u64).put a,(pI .u64).put b]=some (sp x a b).2/\∃rs oH,(sp x a b).2=rs ++ [.io gX .u64 oH 0 0]/\oH.length=x.1.length:=by
 obtain⟨xl,xo,xn⟩:=x;obtain⟨hd,ho,hn,ha,hb,hl,hN,hv,h4,aVA,hc⟩:=h;simp only at hd ho hn hl hN hv;subst ho;subst hn;have aPI:=M6.dR ha.jE;have bKP:=M6.dR hb.jE;have bHW:M6.val a*M6.val b<18446744073709551616^xl.length:=by rw[hl,cGE];exact cJS aPI bKP
 refine⟨(start xl 0 xl.length a b).trans ?_,[],_,rfl,M6.jJ bHW⟩;obtain⟨k,hk⟩:∃k:Nat,k=(a.length+1)/2:=⟨_,rfl⟩;have w:i64.wrap ((i64.wrap ((a.length:Int)+1)).tdiv 2)=(k:Int):=by
  rw[wrap_i64 (n:=(a.length:Int)+1),Int.tdiv_eq_ediv_of_nonneg (by omega),wrap_i64];omega
 have w2:i64.wrap (2*(k:Int))=((2*k:Nat):Int):=by rw[wrap_i64];omega
 have Ey:xl=cDH xl.length 0:=by
  have:=M6.qT hd rfl hv;rw[M6.aPM]at this;exact this
 rw[w,w2,gP ⟨ha,by omega,by omega⟩];simp only[aG,cFB];have a0l:=M6.dP (cDM (M6.val a) (cEE (n:=k) (by omega:0<18446744073709551616)));have b0l:=M6.dP (cDM (M6.val b) (cEE (n:=k) (by omega:0<18446744073709551616)));have a1l:=M6.dP (Ho (k:=k) aPI);have b1l:=M6.dP (Ho (k:=k) bKP);have hA:=cLV (M6.val a) (18446744073709551616^k);have hB:=cLV (M6.val b) (18446744073709551616^k);have ea0:M6.val a%18446744073709551616^k<18446744073709551616^k:=cDM _ (cY);have eb0:M6.val b%18446744073709551616^k<18446744073709551616^k:=cDM _ (cY);have ea1:M6.val a/18446744073709551616^k<18446744073709551616^k:=cCB (Ho aPI) (M6.sF (by omega));have eb1:M6.val b/18446744073709551616^k<18446744073709551616^k:=cCB (Ho bKP) (M6.sF (by omega));generalize M6.val a%18446744073709551616^k=a0 at *;generalize M6.val a/18446744073709551616^k=a1 at *;generalize M6.val b%18446744073709551616^k=b0 at *;generalize M6.val b/18446744073709551616^k=b1 at *;have s6:a0+a1<18446744073709551616^(k+1):=by rw[cGD];omega
 have s7:b0+b1<18446744073709551616^(k+1):=by rw[cGD];omega
 have s6l:=M6.dP s6;have s7l:=M6.dP s7;have aGM:=bLV a0 a1 b0 b1 (18446744073709551616^k);rw[hA,hB]at aGM;have hmid:=bLU a0 a1 b0 b1;have s8:(a0+a1)*(b0+b1)<18446744073709551616^(2*(k+1)):=by
  rw[Nat.two_mul,cGE];exact cJS s6 s7
 have s8l:=M6.dP s8;have bZO:18446744073709551616^k*18446744073709551616^k=18446744073709551616^(2*k):=by rw[<-cGE,Nat.two_mul]
 rw[bZO]at aGM;have low:a0*b0<=(a0+a1)*(b0+b1):=by omega
 have bNH:=M6.qH low;have bLR:a1*b1<=(a0+a1)*(b0+b1):=by omega
 have bNG:=M6.qH bLR;rw[gP ⟨hb,by omega,by omega⟩,gP (hc _ _ (M6.aY _) (M6.aY _) (by omega)),gP (hc _ _ (M6.aY _) (M6.aY _) (by omega)),gP ⟨M6.aY _,M6.aY _,by omega,by omega⟩,gP ⟨M6.aY _,M6.aY _,by omega,by omega⟩];simp only[M6.bD];have f9:(a0+a1)*(b0+b1)-a0*b0<18446744073709551616^(M6.dg ((a0+a1)*(b0+b1))).length:=by
  have:=M6.qG (n:=(a0+a1)*(b0+b1));omega
 have cAC:=M6.jJ f9;rw[gP (hc _ _ (M6.aY _) (M6.aY _) (by omega)),gP ⟨M6.gH _,by trivial,by trivial,M6.gH _,bNH,by omega,low⟩,cAC,M6.nG,
  gP ⟨M6.nH,by trivial,by trivial,M6.gH _,bNG,by omega,by omega⟩]
 have cAN:(a0+a1)*(b0+b1)-a0*b0-a1*b1=a0*b1+a1*b0:=by omega
 rw[cAN];have f10:a0*b1+a1*b0<18446744073709551616^(M6.dg ((a0+a1)*(b0+b1))).length:=by
  have:=M6.qG (n:=(a0+a1)*(b0+b1));omega
 have aCT:a0*b0<18446744073709551616^xl.length:=by omega
 have bSG:=M6.dP aCT;have bHH:cGZ 0 xl ++ (cGZ xl.length (M6.dg (a0*b0)) ++ cHA (0+min (M6.dg (a0*b0)).length xl.length) xl)=M6.rP xl.length (a0*b0):=by
  rw[List.take_zero,cFH,cIO bSG,cBG,cHK bSG]
  conv=>lhs;rw[Ey,cOS]
  rfl
 rw[bHH,if_pos ⟨by trivial,by omega⟩,gP ⟨M6.nH,by rw[M6.jJ f10];omega⟩,M6.nG,M6.nG,M6.jJ aCT];have bXG:(a0*b1+a1*b0)*18446744073709551616^k<18446744073709551616^xl.length:=by omega
 have bDM:=M6.dP (aFV (by omega) bXG);have bFY:a0*b0+(a0*b1+a1*b0)*18446744073709551616^k<18446744073709551616^xl.length:=by omega
 rw[gP ⟨M6.nH,by trivial,by trivial,M6.gH _,by omega,by omega,by omega,bFY⟩,M6.jJ bFY,M6.nG];have bXZ:a1*b1*18446744073709551616^(2*k)<18446744073709551616^xl.length:=by omega
 have bSJ:=M6.dP (aFV (by omega) bXZ);rw[gP ⟨M6.nH,by trivial,by trivial,M6.gH _,by omega,by omega,by omega,by rw[<-aGM];exact bHW⟩,<-aGM];rfl
def aI:dJ:=orc3 (Ga gX .u64) (pI .u64) (pI .u64) sp
theorem fnok:nM prog E 266 f266 aE:=xR tN mixed (nL _ _ rfl rfl (nQ rA.ok (nQ Kd.ok zG)) (aA Cj.ok (aA bCN.ok (aA PSum.ok (aA oP.aFT aC)))) (pJ)) func266 rfl rfl rfl rfl rfl
theorem ok:rW prog base.glob 266 aI:=fnok.xX rfl spec
end Ma
namespace Tn
def E:Env:={ ({ base with C:=tK [(264,Ke.aI),(265,Jk.aI),(266,Ma.aI)] (callsOf []),ioF:=Qu [(264,Ke.aI),(265,Jk.aI),(266,Ma.aI)],n0:=1,io:=[0] })with nt:=36,own:=[],keep:=fun k=>(tlook [] k).getD [],cut:=tlook [(3,[0,1,2])] }
def aE:=bd f260
theorem aT:Nk E aE:=nk
def J3(a:List Int)(b:Nat)(c:Nat) d f:=lP E f260 aE 3 [(A.any,some { e:=(22:Nat),cont:=rH.ints u64 a }),(A.v (V.one (L.view 0 b c)),none),jR d,jR f]
theorem start al ao an b c:aF E f260 aE [D.io gX u64 al ao an,D.s (ints u64 b),D.s (ints u64 c)]=aB (decide ((b.length:Int)<(c.length:Int))) (Tn.J3 al ao an c b) (Tn.J3 al ao an b c):=eJ aT
theorem iB a b c d e:J3 a b c d e=letI B:=d.length+e.length;letI A:=some [D.io 22 u64 (M6.rP a.length (M6.val d*M6.val e)) 0 0];aB (decide ((e.length:Int)<(40:Int))) (aM (M6.bZ a/\b=0/\c=a.length/\M6.bZ d/\M6.bZ e/\a.length=d.length+e.length/\a.length<=1099511627776/\M6.val a=0) A) (aB (decide (i64.wrap ((2:Int)*(e.length:Int))<=(d.length:Int))) (aM (M6.bZ a/\b=0/\c=a.length/\M6.cG d/\M6.cG e/\a.length=d.length+e.length/\a.length<=549755813888/\M6.val a=0/\0<e.length/\(2:Nat)*e.length<=d.length/\oP.less B) A) (aM (M6.bZ a/\b=0/\c=a.length/\M6.cG d/\M6.cG e/\a.length=d.length+e.length/\a.length<=274877906944/\M6.val a=0/\4<=e.length/\e.length<=d.length/\oP.less B) A)):=cJ aT
def sp(x:List Int×Nat×Nat)(a b:List Int):Prop×List D:=(M6.bZ x.1/\x.2.1=0/\x.2.2=x.1.length/\M6.cG a/\M6.cG b/\x.1.length=a.length+b.length/\x.1.length<=274877906944/\M6.val x.1=0/\oP.less (a.length+b.length),
 [.io gX .u64 (M6.rP x.1.length (M6.val a*M6.val b)) 0 0])
theorem J{z a b:List Int}(hd:M6.bZ z)(ha:M6.cG a)(hb:M6.cG b)(hl:z.length=a.length+b.length)(hN:z.length<=274877906944)(hv:M6.val z=0)(hc:oP.less (a.length+b.length))(aVA:b.length<=a.length) :
  J3 z 0 z.length a b=some [.io gX .u64 (M6.rP z.length (M6.val a*M6.val b)) 0 0]:=by
 have w:i64.wrap (2*(b.length:Int))=((2*b.length:Nat):Int):=by rw[wrap_i64];omega
 rw[iB,w]
 by_cases h1:b.length<40
 ·rw[aN,gP ⟨hd,rfl,rfl,ha.jE,hb.jE,hl,by omega,hv⟩]
 ·rw[aL]
  by_cases h2:2*b.length<=a.length
  ·rw[aN,gP ⟨hd,rfl,rfl,ha,hb,hl,by omega,hv,by omega,h2,hc⟩]
  ·rw[aL,gP ⟨hd,rfl,rfl,ha,hb,hl,by omega,hv,by omega,aVA,hc⟩]
theorem spec(x:List Int×Nat×Nat)(a b:List Int)(h:(sp x a b).1):aF E f260 aE [(Ga gX .u64).put x,(pI .u64).put a,(pI .u64).put b]=some (sp x a b).2/\∃rs oH,(sp x a b).2=rs ++ [.io gX .u64 oH 0 0]/\oH.length=x.1.length:=by
 obtain⟨xl,xo,xn⟩:=x;obtain⟨hd,ho,hn,ha,hb,hl,hN,hv,hc⟩:=h;simp only at hd ho hn hl hN hv;subst ho;subst hn;refine⟨(start xl 0 xl.length a b).trans ?_,[],_,rfl,M6.jJ ?_⟩
 ·by_cases kM:a.length<b.length
  ·rw[aN,J hd hb ha (by omega) hN hv (by rw[cHF];exact hc) (by omega),cGC];rfl
  ·rw[aL,J hd ha hb hl hN hv hc (by omega)];rfl
 ·show _<18446744073709551616^xl.length;rw[hl,cGE];exact cJS (M6.dR ha.jE) (M6.dR hb.jE)
def aI:dJ:=orc3 (Ga gX .u64) (pI .u64) (pI .u64) sp
theorem fnok:nM prog E 260 f260 aE:=xR tN mixed (nL _ _ rfl rfl (nQ Ke.ok (nQ Jk.ok (nQ Ma.ok zG))) aC (pJ)) func260 rfl rfl rfl rfl rfl
theorem ok:rW prog base.glob 260 aI:=fnok.xX rfl spec
end Tn
namespace Jj
def E:Env:={ ({ base with n0:=1,io:=[0] })with nt:=22,own:=[],keep:=fun k=>(tlook [(2,[0,3])] k).getD [],cut:=tlook [] }
def aE:=bd f261
theorem aT:Nk E aE:=nk
def L2(a:List Int)(b:Nat)(c:Nat) d:=pZ E f261 aE 2 [(A.any,some { e:=(22:Nat),cont:=rH.ints u64 a }),(A.v (V.one (L.view 0 b c)),none),bN d]
theorem start al ao an:aF E f261 aE [D.io gX u64 al ao an]=Jj.L2 al ao an (an:Int):=eJ aT
theorem mK a b c d:L2 a b c d=aB (decide (0<d)) (if 0<=i64.wrap (d-1)/\i64.wrap (d-1)<(c:Int)then aB (a.getD (b+(i64.wrap (d-1)).toNat) 0==(0:Int)) (Jj.L2 a b c (i64.wrap (d-1))) (if(0:Int)<=(0:Int)/\0<=d/\d<=d/\d<=(c:Int)then some [D.back 0 (b+0) (d.toNat-0),D.io 22 u64 a 0 0]else none)else none) (if(0:Int)<=(0:Int)/\0<=d/\d<=d/\d<=(c:Int)then some [D.back 0 (b+0) (d.toNat-0),D.io 22 u64 a 0 0]else none):=lJ aT
def sp(x:List Int×Nat×Nat):Prop×List D:=(M6.bZ x.1/\x.2.1=0/\x.2.2=x.1.length/\x.1.length<=1099511627776,[.back 0 0 (M6.dg (M6.val x.1)).length,.io gX .u64 x.1 0 0])
theorem L{xs:List Int}(hd:M6.bZ xs)(hl:xs.length<=4398046511104):∀n:Nat,n<=xs.length->L2 xs 0 xs.length n=some [.back 0 0 (M6.dg (M6.val (xs.take n))).length,.io gX .u64 xs 0 0]
 |0,h=>by
  rw[mK,aL,aQ];simp[M6.val,M6.cB]
 |n+1,h=>by
  rw[mK];have e:i64.wrap (((n+1:Nat):Int)-1)=(n:Int):=by rw[wrap_i64];omega
  rw[e,aN,aQ,cFB,cBG]
  by_cases hz:xs.getD n 0=0
  ·rw[bI hz,L hd hl n (by omega),M6.mL (by omega),hz];simp
  ·rw[bA hz,aQ,cFB];have:M6.cG (xs.take (n+1)):=M6.Be (hd.take _) fun d hg=>by
    rw[M6.getLast_take (by omega)]at hg;cases hg;exact hz
   have hlen:(xs.take (n+1)).length=n+1:=by rw[cDU];omega
   rw[<-this,hlen];rfl
theorem spec(x:List Int×Nat×Nat)(h:(sp x).1):aF E f261 aE [(Ga gX .u64).put x]=some (sp x).2/\∃rs oH,(sp x).2=rs ++ [.io gX .u64 oH 0 0]/\oH.length=x.1.length:=by
 obtain⟨xl,xo,xn⟩:=x;obtain⟨hd,ho,hn,hl⟩:=h;simp only at hd ho hn hl;subst ho;subst hn;refine⟨(start xl 0 xl.length).trans ?_,[_],xl,rfl,rfl⟩;rw[L hd (by omega) xl.length (cBE _),cHZ];rfl
def aI:dJ:=orc1 (Ga gX .u64) sp
theorem fnok:nM prog E 261 f261 aE:=xR tN mixed (nJ _ rfl aC (pJ)) func261 rfl rfl rfl rfl rfl
theorem ok:rW prog base.glob 261 aI:=fnok.oS rfl spec
end Jj
namespace Pt
def E:Env:={ ({ base with C:=tK [(260,Tn.aI),(261,Jj.aI)] (callsOf []),ioF:=Qu [(260,Tn.aI),(261,Jj.aI)] })with nt:=18,own:=[17],keep:=fun k=>(tlook [] k).getD [],cut:=tlook [] }
def aE:=bd f253
theorem aT:Nk E aE:=nk
theorem start a b:aF E f253 aE [D.s (ints u64 a),D.s (ints u64 b)]=letI F:=(a.length:Int);letI G:=F+(b.length:Int);letI C:=i64.wrap G;letI A:=cDH C.toNat (0:Int);letI B:=M6.rP A.length (M6.val a*M6.val b);if 0<=i64.wrap G/\i64.wrap G<=i64.wrap G/\i64.wrap G<=8796093022208 then aM (M6.bZ A/\(0:Nat)=(0:Nat)/\C.toNat=A.length/\M6.cG a/\M6.cG b/\A.length=a.length+b.length/\A.length<=274877906944/\M6.val A=0/\oP.less (a.length+b.length)) (aM (M6.bZ B/\(0:Nat)=(0:Nat)/\C.toNat=B.length/\B.length<=1099511627776) (some [D.own 22 u64 (cGZ (M6.dg (M6.val B)).length B)]))else none:=eJ aT
theorem eval{a b:List Int}(ha:M6.cG a)(hb:M6.cG b)(hN:a.length+b.length<=274877906944)(hc:oP.less (a.length+b.length)):aF E f253 aE [(pI .u64).put a,(pI .u64).put b]=some [.own gX .u64 (M6.dg (M6.val a*M6.val b))]:=by
 refine(start a b).trans ?_;have w:i64.wrap ((a.length:Int)+(b.length:Int))=((a.length+b.length:Nat):Int):=by rw[wrap_i64];omega
 have bHW:M6.val a*M6.val b<18446744073709551616^(a.length+b.length):=by rw[cGE];exact cJS (M6.dR ha.jE) (M6.dR hb.jE)
 rw[w,aQ];simp only[cFB,cOP];rw[gP ⟨M6.jH _,by trivial,by trivial,ha,hb,by trivial,hN,M6.jG _,hc⟩,gP ⟨M6.nH,by trivial,(M6.jJ bHW).symm,by rw[M6.jJ bHW];omega⟩,M6.nG,M6.aPN]
theorem fnok:uR prog E 253 f253 aE:=aJJ tN mixed (nL _ _ rfl rfl (nQ Tn.ok (nQ Jj.ok zG)) aC (pJ)) func253 rfl rfl rfl
theorem all(n:Nat)(hn:n<=274877906944):oP.less (n+1):=by
 induction n with
 |zero =>
  intro a b ha hb hl;refine fn_contract fnok.ty fnok.calls fnok.mix fnok.fnc fnok.body fnok.nt fnok.io (by exact cDC rfl) (eval ha hb (by omega) fun c d _ _ h=>by omega)
 |succ n ih =>
  intro a b ha hb hl;have ih:=ih (by omega);refine fn_contract fnok.ty fnok.calls fnok.mix fnok.fnc fnok.body fnok.nt fnok.io (by exact cDC rfl) (eval ha hb (by omega) fun c d hc hd h=>ih c d hc hd (by omega))
def sp(a b:List Int):Prop×List D:=(M6.cG a/\M6.cG b/\a.length+b.length<=274877906944,[.own gX .u64 (M6.dg (M6.val a*M6.val b))])
theorem spec:fL E f253 aE (pI .u64) (pI .u64) sp:=by
 rintro a b ⟨ha,hb,hN⟩;exact eval ha hb hN fun c d hc hd h=>all (a.length+b.length) hN c d hc hd (by omega)
def aI:dJ:=orc2 (pI .u64) (pI .u64) sp
theorem ok:mN prog base.glob 253 aI:=fnok.lF rfl spec
end Pt
namespace aRO
def E:=mE [(144,iI.aI),(253,Pt.aI),(252,oP.aI)] 20 [17] [] []
def aE:=bd f233
theorem aT:Nk E aE:=nk
theorem start a b:aF E f233 aE [D.s (ints u64 a),D.s (ints u64 b)]=letI A:=some [D.s (sc (slice none 0 0)),D.s (sc (int i64 2))];aM (a.length<=1099511627776) (aB (!iI.qI a) A (aM (b.length<=1099511627776) (aB (!iI.qI b) A (aM (M6.cG a/\M6.cG b/\a.length+b.length<=274877906944) (aD (M6.dg (M6.val a*M6.val b)) fun c=>aM True (aD (bif oP.Mg c then c else []) fun d=>aD (bif oP.Mg c then(0:Int)else(5:Int)) fun e=>some [D.s (ints u64 d),D.s (sc (int i64 e))])))))):=eJ aT
def sp(a b:List Int):Prop×List D:=(M6.cG a/\M6.cG b/\a.length<=8192/\b.length<=8192,[.s (.ints .u64 (bif dM.nT (M6.val a*M6.val b)then M6.dg (M6.val a*M6.val b)else [])),.s (.sc (.int .i64 (bif dM.nT (M6.val a*M6.val b)then 0 else 5)))])
theorem spec:fL E f233 aE (pI .u64) (pI .u64) sp:=by
 rintro a b ⟨ha,hb,h1,h2⟩;refine(start a b).trans ?_;simp only[aG];rw[gP,gP,iI.oV ha h1,iI.oV hb h2,cDE,bF,bF,gP ⟨ha,hb,by omega⟩,gP trivial];rfl
def aI:dJ:=orc2 (pI .u64) (pI .u64) sp
theorem ok:OK 233 aI:=(eB E aE (aA iI.ok (aA Pt.ok (aA oP.ok aC))) func233).lF rfl spec
end aRO
namespace aKM
def E:=mE [(96,fV.aI),(233,aRO.aI),(99,Co.aI)] 35 [32] [(3,[2,3,4])] [3]
def aE:=bd f200
theorem aT:Nk E aE:=nk
def J3 a b c d e:=lP E f200 aE 3 [dS 0 27 [dG a,gO b],dS 1 27 [dG c,gO d],dS 2 27 [dG e,sc (slice none 0 0)]]
theorem start a b c d:aF E f200 aE [D.agg [sc (bool a),ints u64 b],D.agg [sc (bool c),ints u64 d]]=letI A:=some [D.agg [sc (bool false),sc (slice none 0 0)],D.s (sc (int i64 2))];aM (b.length<=1099511627776) (aB (!fV.oZ (a,b)) A (aM (d.length<=1099511627776) (aB (!fV.oZ (c,d)) A (aKM.J3 a b c d false)))):=eJ aT
theorem iB a b c d e:J3 a b c d e=letI F:=M6.val b*M6.val d;letI B:=bif dM.nT F then(0:Int)else(5:Int);letI A:=bif dM.nT F then M6.dg F else [];letI C:=bif B==0 then zs (a !=c) (M6.val A)else(0:Int);aM (M6.cG b/\M6.cG d/\b.length<=8192/\d.length<=8192) (aM (M6.cG A/\A.length<=1099511627776) (some [D.agg [sc (bool (isNeg C)),ints u64 (M6.dg C.natAbs)],D.s (sc (int i64 B))])):=cJ aT
def sp(x y:Bool×List Int):Prop×List D:=(iE x/\iE y,wE (fit (wv x*wv y).natAbs) (wv x*wv y))
theorem spec:fL E f200 aE pV pV sp:=by
 rintro x y ⟨hx,hy⟩;refine(start x.1 x.2 y.1 y.2).trans ?_;have l1:=hx.len;have l2:=hy.len;have f1:=fV.mD hx;have f2:=fV.mD hy;have hs:wv x*wv y=zs (x.1 !=y.1) (M6.val x.2*M6.val y.2):=by
  unfold wv zs;cases x.1 <;> cases y.1 <;> simp[cKU,Int.mul_neg]
 rw[gP,f1,cDE,bF,gP,f2,cDE,bF,iB,gP ⟨hx.1,hy.1,l1,l2⟩,gP (Lo (fun h=>by rw[show dM.nT _=_ from De]at h;exact zH h)),Kv,show dM.nT _=_ from De];unfold sp
 try dsimp only
 rw[hs,kR]
def aI:dJ:=orc2 pV pV sp
theorem ok:OK 200 aI:=(eB E aE (aA fV.ok (aA aRO.ok (aA Co.ok aC))) func200).lF rfl spec
end aKM
namespace eY
def E:=mE [(45,nA.aI),(200,aKM.aI),(50,kG.aI)] 38 [22,35] [(3,[2,3,4])] [3]
def aE:=bd f155
theorem aT:Nk E aE:=nk
def J3 a b c d e f g h:=lP E f155 aE 3 [dS 0 29 [dG a,gO b,cP c],dS 1 29 [dG d,gO e,cP f],dS 2 29 [dG g,sc (slice none 0 0),cP h]]
theorem start a b c d e f:aF E f155 aE [D.agg [sc (bool a),ints u64 b,sc (int i64 c)],D.agg [sc (bool d),ints u64 e,sc (int i64 f)]]=aM (aU (a,b,c)) (aM (aU (d,e,f)) (eY.J3 a b c d e f false 0)):=eJ aT
theorem iB a b c d e f g h:J3 a b c d e f g h=letI F:=wv (a,b)*wv (d,e);letI C:=i64.wrap (c+f);letI B:=bif fit F.natAbs then wv (a,b)*wv (d,e)else(0:Int);aM (iE (a,b)/\iE (d,e)) (aD (isNeg B) fun i=>aD (M6.dg B.natAbs) fun j=>letI A:=bif iQ (wv (i,j)) C then aR (wv (i,j)) C else((0:Int),(0:Int));aD (bif fit F.natAbs then(0:Int)else(5:Int)) fun k=>aB (k !=0) (some [D.agg [sc (bool false),sc (slice none 0 0),sc (int i64 0)],D.s (sc (int i64 k))]) (aM (iE (i,j)/\(-9223372036854775808:Int)<=i64.wrap (c+f)/\i64.wrap (c+f)<9223372036854775808) (aD (isNeg A.fst) fun l=>aD (M6.dg A.fst.natAbs) fun m=>aD A.snd fun n=>aD (bif iQ (wv (i,j)) C then(0:Int)else(5:Int)) fun o=>some [D.agg [sc (bool l),ints u64 m,sc (int i64 n)],D.s (sc (int i64 o))]))):=cJ aT
def mZ(p q:Int×Int):Bool:=fit (p.1*q.1).natAbs&&iQ (p.1*q.1) (p.2+q.2)
def gZ(p q:Int×Int):Int×Int:=aR (p.1*q.1) (p.2+q.2)
def sp(x y:gW):Prop×List D:=(aU x/\aU y,dE (mZ (dv x) (dv y)) (gZ (dv x) (dv y)))
theorem spec:Rq E f155 aE kF kF sp:=by
 rintro x y ⟨hx,hy⟩;have ex:=hx.2.1;have ey:=hy.2.1;have s:=start x.1 x.2.1 x.2.2 y.1 y.2.1 y.2.2;have w:i64.wrap (x.2.2+y.2.2)=x.2.2+y.2.2:=wrap_i64;rw[gP hx,gP hy,iB]at s;simp only[aG]at s;have hz:wv (x.1,x.2.1)*wv (y.1,y.2.1)=(dv x).1*(dv y).1:=rfl;rw[gP ⟨hx.Fo,hy.Fo⟩,hz]at s;have h2:x.2.2+y.2.2=(dv x).2+(dv y).2:=rfl;unfold sp mZ gZ
 try dsimp only
 cases hf:fit ((dv x).1*(dv y).1).natAbs with
 |false =>
  rw[hf]at s;rw[Bool.false_and];refine⟨_,s,kG.uI _⟩
 |true =>
  rw[hf,cond_true,cond_true,gD rfl,w,gP ⟨gN (zH hf),by omega,by omega⟩,oI,h2]at s;rw[cEG];exact⟨_,s,iZ.refl _⟩
def aI:dJ:=orc2 kF kF sp
theorem ok:OK 155 aI:=(eB E aE (aA nA.ok (aA aKM.ok (aA kG.ok aC))) func155).aSD rfl spec
end eY
namespace Cu
def E:=mE [] 9 [] [] []
def aE:=bd f239
theorem aT:Nk E aE:=nk
theorem start a:aF E f239 aE [D.s (sc (int i64 a))]=aB (decide (1<=a)) (some [D.s (sc (bool (decide (a<=70000))))]) (some [D.s (sc (bool false))]):=eJ aT
def sp(p:Int):Prop×List D:=(True,[.s (.sc (.bool (decide (1<=p)&&decide (p<=70000))))])
theorem spec:iU E f239 aE (pN .i64) sp:=by
 intro p h;refine(start p).trans ?_;unfold sp aB;cases (decide ((1:Int)<=p)) <;> cases (decide (p<=(70000:Int))) <;> rfl
def aI:dJ:=orc1 (pN .i64) sp
theorem ok:OK 239 aI:=(eB E aE aC func239).oS rfl spec
end Cu
namespace cT
def E:=mE [(239,Cu.aI),(45,nA.aI),(46,nN.aI),(106,uA.aI),(98,lR.aI),(151,Ci.aI),(95,pS.aI),(100,wA.aI),(240,cV.aI)] 122 [119] [(9,[2,3,4,5,8]),(15,[2,3,4,5,8,10,13]),(16,[2,3,4,5,8,10,16])] [9,15,16]
def aE:=bd f210
theorem aT:Nk E aE:=nk
def J9 a b c d e f g h i j:=lP E f210 aE 9 [bN a,rY b,dS 2 29 [dG c,gO d,cP e],dS 3 29 [dG f,gO g,cP h],dS 4 29 [dG i,sc (slice none 0 0),cP j]]
def aLK a b c d e f g h i j k l:=lP E f210 aE 15 [bN a,rY b,dS 2 29 [dG c,gO d,cP e],dS 3 29 [dG f,gO g,cP h],dS 4 29 [dG i,sc (slice none 0 0),cP j],bN k,jR l]
def aEG a b c d e f g h i j k l m:=lP E f210 aE 16 [bN a,rY b,dS 2 29 [dG c,gO d,cP e],dS 3 29 [dG f,gO g,cP h],dS 4 29 [dG i,sc (slice none 0 0),cP j],bN k,dS 6 27 [dG l,gO m]]
theorem start a b e f g h c d:aF E f210 aE [D.agg [sc (bool a),ints u64 b,sc (int i64 e)],D.agg [sc (bool f),ints u64 g,sc (int i64 h)],D.s (sc (int i64 c)),D.s (sc (bool d))]=letI F:=int i64 0;letI C:=bool false;letI B:=slice none 0 0;letI A:=some [D.agg [sc C,sc B,sc F],D.s (sc (int i64 5))];aM True (aD (decide (1<=c)&&decide (c<=70000)) fun i=>aB (!i) (some [D.agg [sc C,sc B,sc F],D.s (sc (int i64 1))]) (aM (aU (a,b,e)) (aM (aU (f,g,h)) (aM True (aD ((g.length:Int)==(0:Int)) fun j=>aB j (some [D.agg [sc C,sc B,sc F],D.s (sc (int i64 4))]) (aB (decide (4096<(b.length:Int))) A (aB (decide (4096<(g.length:Int))) A (cT.J9 c d a b e f g h false 0)))))))):=eJ aT
theorem aAU a b c d e f g h i j:J9 a b c d e f g h i j=letI A:=i64.wrap (i64.wrap (a+2)+(↑(bl (M6.val g)):Int))-(↑(bl (M6.val d)):Int);aM (M6.bZ g/\g.length<=1099511627776) (aM (M6.bZ d/\d.length<=1099511627776) (aM (M6.cG d/\d.length<=8192/\(0<=if i64.wrap A>(0:Int)then i64.wrap A else(0:Int))/\(if i64.wrap A>(0:Int)then i64.wrap A else(0:Int))<4611686018427387904) (aD (bif lR.kU (M6.val d) (if i64.wrap A>(0:Int)then i64.wrap A else(0:Int)).toNat then M6.dg (M6.val d*(2:Nat)^(if i64.wrap A>(0:Int)then i64.wrap A else(0:Int)).toNat)else []) fun k=>aM (M6.cG k/\k.length<=8192/\M6.cG g/\1<=g.length/\g.length<=8192) (aD (M6.dg (M6.val k/M6.val g)) fun l=>aD (M6.dg (M6.val k%M6.val g)) fun m=>aM (M6.cG l/\l.length<=8192/\(0:Int)<=(1:Int)/\(1:Int)<(4611686018427387904:Int)) (aD (bif lR.kU (M6.val l) 1 then M6.dg (M6.val l*2)else []) fun n=>letI B:=M6.val n+M6.val (M6.dg 1);aB (decide (0<(m.length:Int))) (aM ((0:Int)<=(1:Int)/\(1:Int)<(18446744073709551616:Int)) (aM (M6.cG n/\M6.cG (M6.dg 1)/\n.length<=8192/\(M6.dg 1).length<=8192) (aD (bif dM.nT B then M6.dg B else []) fun o=>cT.aLK a b c d e f g h i j (if i64.wrap A>(0:Int)then i64.wrap A else(0:Int)) o))) (cT.aLK a b c d e f g h i j (if i64.wrap A>(0:Int)then i64.wrap A else(0:Int)) n)))))):=cJ aT
theorem Qb a b c d e f g h i j k l:aLK a b c d e f g h i j k l=aB (c !=f) (cT.aEG a b c d e f g h i j k (decide (0<(l.length:Int))) l) (cT.aEG a b c d e f g h i j k false l):=cJ aT
theorem Cs a b c d e f g h i j k l m:aEG a b c d e f g h i j k l m=letI C:=i64.wrap (i64.wrap (e-h)-k)-1;letI A:=cV.oY b (wv (l,m)) (i64.wrap C) a;letI B:=bif iQ A.fst A.snd then aR A.fst A.snd else((0:Int),(0:Int));aM (iE (l,m)/\((-4611686018427387904:Int)<=i64.wrap C/\i64.wrap C<4611686018427387904)/\1<=a/\a<=70000) (aD (isNeg B.fst) fun n=>aD (M6.dg B.fst.natAbs) fun o=>aD B.snd fun p=>aD (bif iQ A.fst A.snd then(0:Int)else(5:Int)) fun q=>some [D.agg [sc (bool n),ints u64 o,sc (int i64 p)],D.s (sc (int i64 q))]):=cJ aT
def Ea(p:Int)(a b:Nat):Nat:=(p+2+(bl b:Nat)-(bl a:Nat)).toNat
def Yc(a b s:Nat):Nat:=a*2^s/b*2+if a*2^s%b=0 then 0 else 1
def bEV(p:Int)(x y:Int×Int):Int×Int:=(zs (isNeg x.1 !=isNeg y.1) (Yc x.1.natAbs y.1.natAbs (Ea p x.1.natAbs y.1.natAbs)),x.2-y.2-(Ea p x.1.natAbs y.1.natAbs:Nat)-1)
def wJ(up:Bool)(p:Int)(x y:Int×Int):Int×Int:=cV.oY up (bEV p x y).1 (bEV p x y).2 p
def sp(x y:gW)(p:Int)(up:Bool):Prop×List D:=(aU x/\aU y/\(dv y).1≠0/\x.2.1.length<=4096/\y.2.1.length<=4096/\1<=p/\p<=70000,dE (iQ (wJ up p (dv x) (dv y)).1 (wJ up p (dv x) (dv y)).2) (aR (wJ up p (dv x) (dv y)).1 (wJ up p (dv x) (dv y)).2))
theorem aSV(n:Bool)(q:Nat):wv (n&&decide (0<((M6.dg q).length:Int)),M6.dg q)=zs n q/\(bl q<=524288->iE (n&&decide (0<((M6.dg q).length:Int)),M6.dg q)):=by
 have hz:=M6.gM (n:=q)
 by_cases h:q=0
 ·rw[decide_eq_false (by have:=hz.2 h;omega),Bool.and_false,h];refine⟨?_,fun _=>⟨M6.aY _,fun hf=>absurd hf (by simp),by rw[M6.cB];simp⟩⟩;unfold wv zs;rw[M6.bD];cases n <;> rfl
 ·rw[decide_eq_true (by have:=fun hl=>h (hz.1 hl);omega),Bool.and_true];refine⟨?_,fun hb=>⟨M6.aY _,fun _=>by rw[M6.bD];exact h,fZ (k:=8192) (by omega)⟩⟩;unfold wv;rw[M6.bD]
theorem wR{a s n:Nat}(h:a≠0->bl a+s<=n):bl (a*2^s)<=n:=by
 by_cases h0:a=0
 ·subst h0;rw[Nat.zero_mul];exact cCA (by decide) (cHH n)
 ·rw[cGC,zO h0];have:=h h0;omega
theorem spec:Rr E f210 aE kF kF (pN .i64) pB sp:=by
 rintro x y p up ⟨hx,hy,h0,bXI,bNJ,Ao,xA⟩;have ex:=hx.2.1;have ey:=hy.2.1;refine(start x.1 x.2.1 x.2.2 y.1 y.2.1 y.2.2 p up).trans ?_;have hv0:M6.val y.2.1≠0:=fun h=>h0 (Cv.2 h)
 have bDO:y.2.1.length≠0:=fun h=>hv0 ((M6.cZ hy.Kk).1 h)
 have bx:=zP hx.Kk.jE bXI;have cAS:=zP hy.Kk.jE bNJ
 have ax:(dv x).1.natAbs=M6.val x.2.1:=jB (x.1,x.2.1);have ay:(dv y).1.natAbs=M6.val y.2.1:=jB (y.1,y.2.1);have sx:isNeg (dv x).1=x.1:=hx.Fo.cells.1;have sy:isNeg (dv y).1=y.1:=hy.Fo.cells.1;have w1:i64.wrap (i64.wrap (i64.wrap (p+2)+(bl (M6.val y.2.1):Int))-(bl (M6.val x.2.1):Int))=p+2+(bl (M6.val y.2.1):Int)-(bl (M6.val x.2.1):Int):=by
  rw[wrap_i64 (n:=p+2),wrap_i64 (n:=p+2+(bl (M6.val y.2.1):Int)) (by omega) (by omega),wrap_i64]
 simp only[aG];rw[gP trivial,decide_eq_true Ao,decide_eq_true xA,cEG,cDE,bF,gP hx,gP hy,gP trivial,bA,aL,aL,aAU,w1];unfold sp wJ bEV
 try dsimp only
 rw[ax,ay,sx,sy];have hs:(if p+2+(bl (M6.val y.2.1):Int)-(bl (M6.val x.2.1):Int)>0 then p+2+(bl (M6.val y.2.1):Int)-(bl (M6.val x.2.1):Int)else 0)=((Ea p (M6.val x.2.1) (M6.val y.2.1):Nat):Int):=by
  unfold Ea;split <;> omega
 rw[hs];have bWO:M6.val x.2.1≠0->bl (M6.val x.2.1)+Ea p (M6.val x.2.1) (M6.val y.2.1)<=332200:=fun _=>by unfold Ea;omega
 have bMR:Ea p (M6.val x.2.1) (M6.val y.2.1)<=332200:=by unfold Ea;omega
 generalize Ea p (M6.val x.2.1) (M6.val y.2.1)=s at *;have xQ:=wR bWO;have hX:lR.kU (M6.val x.2.1) s=true:=by rw[Cp.Kz];exact decide_eq_true (by omega)
 have lX:=fZ (n:=M6.val x.2.1*2^s) (k:=8192) (by omega);have Ql:bl (M6.val x.2.1*2^s/M6.val y.2.1)<=332200:=cCA (gF (cJR _ _)) xQ;have lQ:=fZ (n:=M6.val x.2.1*2^s/M6.val y.2.1) (k:=8192) (by omega);have hQ:∀q,bl q<=332200->lR.kU q 1=true:=fun q hq=>by rw[Cp.Kz];exact decide_eq_true (by have:=wR (a:=q) (s:=1) (n:=332201) (fun _=>by omega);omega)
 rw[gP ⟨hy.Kk.jE,by omega⟩,gP ⟨hx.Kk.jE,by omega⟩,gP ⟨hx.Kk,hx.len,by omega,by omega⟩,cFB];simp only[aG];rw[hX,cond_true,gP ⟨M6.aY _,lX,hy.Kk,by omega,hy.len⟩,M6.bD,gP ⟨M6.aY _,lQ,by omega,by omega⟩,M6.bD];have bWP:decide (0<(((M6.dg (M6.val x.2.1*2^s%M6.val y.2.1)).length:Nat):Int))=decide (M6.val x.2.1*2^s%M6.val y.2.1≠0):=by
  have:=M6.gM (n:=M6.val x.2.1*2^s%M6.val y.2.1)
  by_cases h:M6.val x.2.1*2^s%M6.val y.2.1=0
  ·rw[decide_eq_false (by have:=this.2 h;omega),decide_eq_false (by omega)]
  ·rw[decide_eq_true (by have:=fun hl=>h (this.1 hl);omega),decide_eq_true h]
 rw[bWP];have j16:∀(bKT:Bool) (q:Nat),bl q<=332202->wv (bKT,M6.dg q)=zs (x.1 !=y.1) q->iE (bKT,M6.dg q)->aEG p up x.1 x.2.1 x.2.2 y.1 y.2.1 y.2.2 false 0 s bKT (M6.dg q)=some (dE (iQ (cV.oY up (zs (x.1 !=y.1) q) (x.2.2-y.2.2-(s:Int)-1) p).1 (cV.oY up (zs (x.1 !=y.1) q) (x.2.2-y.2.2-(s:Int)-1) p).2) (aR (cV.oY up (zs (x.1 !=y.1) q) (x.2.2-y.2.2-(s:Int)-1) p).1 (cV.oY up (zs (x.1 !=y.1) q) (x.2.2-y.2.2-(s:Int)-1) p).2)):=by
  intro bKT q hq hw Qm;have w2:i64.wrap (i64.wrap (i64.wrap (x.2.2-y.2.2)-(s:Int))-1)=x.2.2-y.2.2-(s:Int)-1:=by
   rw[wrap_i64 (n:=x.2.2-y.2.2),wrap_i64 (n:=x.2.2-y.2.2-(s:Int)),wrap_i64]
  rw[Cs,w2,gP ⟨Qm,⟨by omega,by omega⟩,Ao,xA⟩,hw];simp only[aG];rfl
 have j15:∀q,bl q<=332202->aLK p up x.1 x.2.1 x.2.2 y.1 y.2.1 y.2.2 false 0 s (M6.dg q)=some (dE (iQ (cV.oY up (zs (x.1 !=y.1) q) (x.2.2-y.2.2-(s:Int)-1) p).1 (cV.oY up (zs (x.1 !=y.1) q) (x.2.2-y.2.2-(s:Int)-1) p).2) (aR (cV.oY up (zs (x.1 !=y.1) q) (x.2.2-y.2.2-(s:Int)-1) p).1 (cV.oY up (zs (x.1 !=y.1) q) (x.2.2-y.2.2-(s:Int)-1) p).2)):=by
  intro q hq;obtain⟨v1,v2⟩:=aSV (x.1 !=y.1) q;have v2:=v2 (by omega);rw[Qb];cases hn:x.1 !=y.1 with
  |true =>
   rw[hn]at v1 v2;rw[bT];have:=j16 _ q hq (by rw[hn];exact v1) v2;rw[hn]at this;exact this
  |false =>
   rw[hn]at v1 v2;rw[bF];have:=j16 _ q hq (by rw[hn];exact v1) v2;rw[hn]at this;exact this
 unfold Yc;generalize M6.val x.2.1*2^s/M6.val y.2.1=Q at *;have bZJ:bl (Q*2)<=332201:=wR (s:=1) (fun _=>by omega);have bVN:=fZ (n:=Q*2) (k:=8192) (by omega);have bZI:bl (Q*2+1)<=332202:=by
  rw[dK]at bZJ ⊢;rw[cGD];have:=cEE (n:=332201) (show 0<2 by omega);omega
 have one:=fZ (n:=1) (k:=1) (dK.2 (by omega))
 by_cases hr:M6.val x.2.1*2^s%M6.val y.2.1=0
 ·rw[aL,if_pos hr,hQ _ Ql,cond_true,j15 _ (by omega)];rfl
 ·have bVA:dM.nT (Q*2+1)=true:=by rw[show dM.nT _=_ from De];exact decide_eq_true (by omega)
  rw[aN,if_neg hr,hQ _ Ql,cond_true,gP ⟨by omega,by omega⟩,gP ⟨M6.aY _,M6.aY _,bVN,by omega⟩,M6.bD,M6.bD,bVA,cond_true,j15 _ bZI];rfl
def aI:dJ:=orc4 kF kF (pN .i64) pB sp
theorem ok:OK 210 aI:=(eB E aE (aA Cu.ok (aA nA.ok (aA nN.ok (aA uA.ok (aA lR.ok (aA Ci.ok (aA pS.ok (aA wA.ok (aA cV.ok aC))))))))) func210).aSJ rfl spec
end cT
end W
namespace M
open Go AI W
def shD(up:Bool)(p:Int×Int)(n:Int):Int×Int:=aR (cV.oY up p.1 p.2 n).1 (cV.oY up p.1 p.2 n).2
def yR(up:Bool)(p:Int×Int)(n:Int):Bool:=iQ (cV.oY up p.1 p.2 n).1 (cV.oY up p.1 p.2 n).2
theorem Pa{z:Int}{k:Nat}:((z/((2^k:Nat):Int):Int):Rat)*((2^k:Nat):Rat)<=(z:Rat)/\(z:Rat)<(((z/((2^k:Nat):Int):Int):Rat)+1)*((2^k:Nat):Rat):=by
 have hp:(0:Int)<((2^k:Nat):Int):=by have:=cEE (n:=k) (show 0<2 by omega);omega
 have h1:=Int.ediv_mul_le z (show((2^k:Nat):Int)≠0 by omega);have h2:=Int.lt_ediv_add_one_mul_self z hp;constructor
 ·have:(((z/((2^k:Nat):Int))*((2^k:Nat):Int):Int):Rat)<=(z:Rat):=Rat.intCast_le_intCast.2 h1;rwa [cMP,cMQ]at this
 ·have:(z:Rat)<(((z/((2^k:Nat):Int)+1)*((2^k:Nat):Int):Int):Rat):=Rat.intCast_lt_intCast.2 h2;rwa [cMP,cMQ,cOG]at this
theorem aHE(up:Bool)(z:Int)(k:Nat):(up=false->(lL.qU up z k:Rat)*((2^k:Nat):Rat)<=(z:Rat)/\(z:Rat)<(lL.qU up z k:Rat)*((2^k:Nat):Rat)+((2^k:Nat):Rat))/\(up=true->(z:Rat)<=(lL.qU up z k:Rat)*((2^k:Nat):Rat)/\(lL.qU up z k:Rat)*((2^k:Nat):Rat)<(z:Rat)+((2^k:Nat):Rat)):=by
 constructor
 ·rintro rfl;obtain⟨h1,h2⟩:=Pa (z:=z) (k:=k);unfold lL.qU;rw[cond_false];generalize ((z/((2^k:Nat):Int):Int):Rat)=q at *;constructor <;> grind
 ·rintro rfl;obtain⟨h1,h2⟩:=Pa (z:=-z) (k:=k);unfold lL.qU;rw[cond_true,cOF];rw[cOF]at h1 h2;generalize ((-z/((2^k:Nat):Int):Int):Rat)=q at *;constructor <;> grind
theorem pY{p:Int×Int}(h:p.1≠0):R.pz (bC p)<=R.ab (R.qz p)/\R.ab (R.qz p)<R.pz (bC p+1):=by
 have hb:=qV (n:=p.1.natAbs) (by omega);have h1:2^(bl p.1.natAbs-1)<=p.1.natAbs:=sL.1 (by omega);have h2:=wL p.1.natAbs;have e:R.ab (R.qz p)=(p.1.natAbs:Rat)*R.pz p.2:=by
  unfold R.qz;rw[R.fX,R.bR (cGL (R.dW p.2))];congr 1;unfold R.ab
  by_cases hz:0<=p.1
  ·rw[if_pos (by exact_mod_cast hz),<-cMQ];congr 1;omega
  ·rw[if_neg (by intro hc;exact hz (by exact_mod_cast hc)),<-cMQ,<-cOF];congr 1;omega
 have hp:=R.dW p.2;rw[e];unfold bC;constructor
 ·rw[show p.2+(bl p.1.natAbs:Int)-1=p.2+((bl p.1.natAbs-1:Nat):Int) by omega,R.eN];have aBD:((2^(bl p.1.natAbs-1):Nat):Rat)<=(p.1.natAbs:Rat):=by exact_mod_cast h1
  have:=R.aJ (cGL hp) (show 0<=(p.1.natAbs:Rat)-((2^(bl p.1.natAbs-1):Nat):Rat) by grind);grind
 ·rw[show p.2+(bl p.1.natAbs:Int)-1+1=p.2+(bl p.1.natAbs:Int) by omega,R.eN];have aVF:(p.1.natAbs:Rat)<((2^bl p.1.natAbs:Nat):Rat):=by exact_mod_cast h2
  have:=cGX hp (show 0<((2^bl p.1.natAbs:Nat):Rat)-(p.1.natAbs:Rat) by grind);grind
theorem Ht(up:Bool)(p:Int×Int){n:Int}(aCQ:1<=n):(up=false->R.qz (shD up p n)<=R.qz p/\R.qz p<=R.qz (shD up p n)+R.pz (1-n)*R.ab (R.qz p))/\(up=true->R.qz p<=R.qz (shD up p n)/\R.qz (shD up p n)<=R.qz p+R.pz (1-n)*R.ab (R.qz p)):=by
 have h0:0<=R.pz (1-n)*R.ab (R.qz p):=R.aJ (cGL (R.dW _)) (R.aP _);unfold shD cV.oY;split
 ·have e:R.qz (aR p.1 p.2)=R.qz p:=pC p.1 p.2;dsimp only;rw[e];constructor <;> (intro _;constructor <;> grind)
 ·rename_i hn;obtain⟨k,hk⟩:=cGG (show 0<=(bl p.1.natAbs:Int)-n by omega);have aCP:p.1≠0:=by
   intro hz;rw[hz]at hn;have hb:bl (0:Int).natAbs=0:=rfl;rw[hb]at hn;omega
  obtain⟨c1,c2⟩:=aHE up p.1 k;dsimp only;rw[hk,cFB,pC,R.eN];have pE:=R.dW p.2;have ht:=(pY aCP).1;have e2:R.pz p.2*((2^k:Nat):Rat)<=R.pz (1-n)*R.ab (R.qz p):=by
   have e3:R.pz p.2*((2^k:Nat):Rat)=R.pz (1-n)*R.pz (bC p):=by
    rw[<-R.eN,<-R.kS];congr 1;unfold bC;omega
   rw[e3];have:=R.aJ (cGL (R.dW (1-n))) (show 0<=R.ab (R.qz p)-R.pz (bC p) by grind);grind
  have eq:R.qz p=(p.1:Rat)*R.pz p.2:=rfl;generalize R.pz (1-n)*R.ab (R.qz p)=X at *;rw[eq];generalize (lL.qU up p.1 k:Rat)=c at *;generalize ((2^k:Nat):Rat)=K at *;constructor
  ·intro hu;obtain⟨d1,d2⟩:=c1 hu;have m1:=R.aJ (cGL pE) (show 0<=(p.1:Rat)-c*K by grind);have m2:=R.aJ (cGL pE) (show 0<=c*K+K-(p.1:Rat) by grind);constructor <;> grind
  ·intro hu;obtain⟨d1,d2⟩:=c2 hu;have m1:=R.aJ (cGL pE) (show 0<=c*K-(p.1:Rat) by grind);have m2:=R.aJ (cGL pE) (show 0<=(p.1:Rat)+K-c*K by grind);constructor <;> grind
theorem aQY(n:Nat):bl (2^n)=n+1:=by
 have h1:=dK (n:=2^n) (k:=n+1);have h2:=sL (n:=2^n) (k:=n);have:2^n<2^(n+1):=cHX (by omega) (by omega);have:=h1.2 this;have:=h2.2 (cBE _);omega
theorem xG(z e:Int):bl (aR z e).1.natAbs<=bl z.natAbs:=gF (Ge z e)
theorem aDI(up:Bool)(z:Int)(k n:Nat)(h:bl z.natAbs<=n+k):bl (lL.qU up z k).natAbs<=n+1:=by
 have hz:=dK.1 h;rw[cGE]at hz;have hp:=cEE (n:=k) (show 0<2 by omega);have hn:=cEE (n:=n) (show 0<2 by omega);refine dK.2 ?_;rw[cGD];have fl:∀w:Int,w.natAbs<2^n*2^k->(w/((2^k:Nat):Int)).natAbs<=2^n:=by
  intro w hw;have h1:=cKH w ((2^k:Nat):Int);have h2:=cKI w (show((2^k:Nat):Int)≠0 by omega);have h3:=cKJ w (show(0:Int)<((2^k:Nat):Int) by omega);have aXN:(w.natAbs:Int)<((2^n:Nat):Int)*((2^k:Nat):Int):=by exact_mod_cast hw
  generalize w/((2^k:Nat):Int)=q at *;generalize ((2^k:Nat):Int)=K at *;generalize hN:2^n=N at *
  by_cases hq:0<=q
  ·have:q<(N:Int):=by
    refine Int.not_le.1 fun hc=>?_
    have:=cPM hc (show 0<=K by omega);rw[cJD K (N:Int)]at this;omega
   omega
  ·have:-(N:Int)<=q:=by
    refine Int.not_lt.1 fun hc=>?_
    have:=cPM (show q<=-(N:Int)-1 by omega) (show 0<=K by omega);rw[Int.mul_sub,Int.mul_neg,Int.mul_one,cJD K (N:Int)]at this;omega
   omega
 unfold lL.qU;cases up with
 |false =>
  rw[cond_false];have:=fl z hz;omega
 |true =>
  rw[cond_true,cHY];have:=fl (-z) (by rw[cHY];exact hz);omega
def bKU(p:Int×Int):Prop:=kT p/\p.2+(bl p.1.natAbs:Nat)<=1048000
theorem Sa{up:Bool}{p:Int×Int}{n:Int}(hp:bKU p)(hn:1<=n):yR up p n=true/\kT (shD up p n):=by
 obtain⟨⟨h1,h2,h3,h4⟩,h5⟩:=hp;unfold yR shD cV.oY;split
 ·dsimp only;have hi:iQ p.1 p.2=true:=by
   unfold iQ
   by_cases hz:p.1=0
   ·rw[decide_eq_true hz,cGO]
   ·have ht:=Aq (n:=p.1.natAbs) (by have:=h4 hz;omega);rw[ht,decide_eq_false hz,cDF,decide_eq_true (show -1048576<=p.2+((0:Nat):Int) by omega),decide_eq_true (show p.2+((0:Nat):Int)<=1048576 by omega)];rfl
  exact⟨hi,iF hi h1⟩
 ·rename_i hk;dsimp only;have hc:=lL.aHF up p.1 ((bl p.1.natAbs:Int)-n).toNat;have bSN:=aDI up p.1 ((bl p.1.natAbs:Int)-n).toNat n.toNat (by omega);generalize lL.qU up p.1 ((bl p.1.natAbs:Int)-n).toNat=c at *;have bYQ:bl c.natAbs<=bl p.1.natAbs:=gF hc;have bOG:c≠0->tz c.natAbs<bl c.natAbs:=fun h=>Dz (by omega)
  have hi:iQ c (p.2+((bl p.1.natAbs:Int)-n))=true:=by
   unfold iQ
   by_cases hz:c=0
   ·rw[decide_eq_true hz,cGO]
   ·have:=bOG hz;rw[decide_eq_false hz,cDF,decide_eq_true (show -1048576<=p.2+((bl p.1.natAbs:Int)-n)+(tz c.natAbs:Int) by omega),decide_eq_true (show p.2+((bl p.1.natAbs:Int)-n)+(tz c.natAbs:Int)<=1048576 by omega)];rfl
  exact⟨hi,iF hi (cCA bYQ h1)⟩
end M
namespace M
open Go AI W
theorem Ug{p q:Int×Int}(hp:kT p)(hq:kT q)(h:bS.lA p q=true):kT (bS.oN p q):=by
 unfold bS.oN;split
 ·exact hq
 ·split
  ·exact hp
  ·rename_i h1 h2;unfold bS.lA at h;rw[decide_eq_false h1,decide_eq_false h2,cDF,cDF,cBK,cBK,cBK]at h;exact iF h.2.2.2 (of_decide_eq_true h.2.2.1)
theorem kT.top{p:Int×Int}(h:kT p):-1048577<=bC p/\bC p<=1572864:=by
 obtain⟨h1,h2,_⟩:=h;unfold bC;omega
def aKS(p:Int×Int):Int×Int:=((p.1.natAbs:Nat),1-(bl p.1.natAbs:Nat))
theorem aNH{p:Int×Int}(h:kT p)(h0:p.1≠0):kT (aKS p):=by
 obtain⟨h1,h2,h3,h4⟩:=h;have:=h4 h0;unfold aKS;refine⟨by dsimp only;rw[cGW];exact h1,by dsimp only;omega,fun h=>by dsimp only at h;omega,fun _=>by dsimp only;omega⟩
theorem Gq{p q:Int×Int}:eR p q=0↔R.qz p=R.qz q:=by
 obtain⟨h1,h2⟩:=Ly p q;have a:=R.Na (p:=p) (q:=q) h1 h2;have b:=R.Na (p:=q) (q:=p) h2 h1;unfold eR;rw[aWA];constructor
 ·intro h;exact cPJ (a.2 (Int.le_of_eq h)) (b.2 (Int.le_of_eq h.symm))
 ·intro h;exact Int.le_antisymm (a.1 (by rw[h];exact cHS)) (b.1 (by rw[h];exact cHS))
theorem Dk{p q:Int×Int}:eR p q<0↔R.qz p<R.qz q:=by
 have h1:=mI (p:=p) (q:=q);have h3:=Gq (p:=p) (q:=q);constructor
 ·intro h;have:=h1.1 (by omega);refine Rat.not_le.1 fun hn=>?_
  have:=h3.2 (cPJ this hn);omega
 ·intro h;have a:=h1.2 (cGL h);have b:eR p q≠0:=fun hn=>Rat.lt_irrefl ((h3.1 hn)▸h)
  omega
theorem aMR{p q:Int×Int}(h:eR p q≠0):(bS.oN q (-p.1,p.2)).1≠0:=by
 intro h0;have h1:=Uf q (-p.1,p.2);rw[pD,R.pU h0]at h1;exact h (Gq.2 (by grind))
theorem Cw{p:Int×Int}(h:p.1=0):eR p (0,0)=0:=by
 rw[Gq,R.pU h,R.pU rfl]
theorem kT.Ig{p:Int×Int}(h:kT p):kT (-p.1,p.2):=by
 obtain⟨x1,x2,x3,x4⟩:=h;exact⟨by dsimp only;rw[cHY];exact x1,x2,fun h=>x3 (by dsimp only at h;omega),fun h=>by dsimp only at h ⊢;have:=x4 (by omega);omega⟩
theorem aU.Bk{x:gW}(h:aU x)(hb:bl (dv x).1.natAbs<=262144):x.2.1.length<=4096:=by
 have e:M6.dg (dv x).1.natAbs=x.2.1:=h.Fo.cells.2;rw[<-e];exact fZ (k:=4096) (by omega)
def Nn(p q:Int×Int):Int×Int:=bif decide (eR q p<0)then q else p
def Oj(p q:Int×Int):Int×Int:=bif decide (0<eR q p)then q else p
theorem aZS(p q:Int×Int):Nn p q=p\/Nn p q=q:=by unfold Nn;cases decide (eR q p<0);exact Or.inl rfl;exact Or.inr rfl
theorem bBG(p q:Int×Int):Oj p q=p\/Oj p q=q:=by unfold Oj;cases decide (0<eR q p);exact Or.inl rfl;exact Or.inr rfl
theorem aCI(p q:Int×Int):R.qz (Nn p q)<=R.qz p/\R.qz (Nn p q)<=R.qz q:=by
 unfold Nn
 by_cases h:eR q p<0
 ·rw[decide_eq_true h,cond_true];exact⟨cGL (Dk.1 h),cHS⟩
 ·rw[decide_eq_false h,cond_false];exact⟨cHS,Rat.not_lt.1 fun hn=>h (Dk.2 hn)⟩
theorem aDB(p q:Int×Int):R.qz p<=R.qz (Oj p q)/\R.qz q<=R.qz (Oj p q):=by
 unfold Oj
 by_cases h:0<eR q p
 ·rw[decide_eq_true h,cond_true];exact⟨cGL (zL.1 h),cHS⟩
 ·rw[decide_eq_false h,cond_false];exact⟨cHS,Rat.not_lt.1 fun hn=>h (zL.2 hn)⟩
end M
namespace W
open Go AI M
namespace Ji
def E:=mE [(158,Kt.aI)] 14 [10] [] []
def aE:=bd f120
theorem aT:Nk E aE:=nk
theorem start a b c d e f:aF E f120 aE [D.agg [sc (bool a),ints u64 b,sc (int i64 c)],D.agg [sc (bool d),ints u64 e,sc (int i64 f)]]=aM (aU (a,b,c)/\aU (d,e,f)) (some [D.s (sc (int i64 (lI (bS.oG (dv (a,b,c)) (dv (d,e,f))) (bS.oF (dv (a,b,c)) (dv (d,e,f))))))]):=eJ aT
def sp(x y:gW):Prop×List D:=(aU x/\aU y,[.s (.sc (.int .i64 (eR (dv x) (dv y))))])
theorem spec:fL E f120 aE kF kF sp:=by
 intro x y h;exact(start x.1 x.2.1 x.2.2 y.1 y.2.1 y.2.2).trans (gP h)
def aI:dJ:=orc2 kF kF sp
theorem ok:OK 120 aI:=(eB E aE (aA Kt.ok aC) func120).lF rfl spec
end Ji
namespace wV
def E:=mE [(45,nA.aI),(120,Ji.aI)] 19 [] [] []
def aE:=bd f67
theorem aT:Nk E aE:=nk
theorem start a b c d e f:aF E f67 aE [D.agg [sc (bool a),ints u64 b,sc (int i64 c),sc (bool d),ints u64 e,sc (int i64 f)]]=aM (aU (a,b,c)) (aM (aU (d,e,f)) (aM (aU (a,b,c)/\aU (d,e,f)) (some [D.s (sc (bool (decide (eR (dv (a,b,c)) (dv (d,e,f))<=0))))]))):=eJ aT
def sp(s:yN):Prop×List D:=(fA s,[.s (.sc (.bool true))])
theorem spec:iU E f67 aE Ab sp:=by
 rintro s ⟨h1,h2,h3⟩;refine(start s.1 s.2.1 s.2.2.1 s.2.2.2.1 s.2.2.2.2.1 s.2.2.2.2.2).trans ((gP h1).trans ((gP h2).trans ((gP ⟨h1,h2⟩).trans ?_)));show some [D.s (.sc (.bool (decide (eR (dv (iR s)) (dv (iS s))<=0))))]=_;rw[decide_eq_true h3];rfl
def aI:dJ:=orc1 Ab sp
theorem ok:OK 67 aI:=(eB E aE (aA nA.ok (aA Ji.ok aC)) func67).oS rfl spec
end wV
namespace aRL
def E:=mE [(97,Clone.aI)] 10 [] [] []
def aE:=bd f171
theorem aT:Nk E aE:=nk
theorem start a b c:aF E f171 aE [D.agg [sc (bool a),ints u64 b,sc (int i64 c)]]=aM (b.length<=1099511627776) (some [D.agg [sc (bool a),ints u64 b,sc (int i64 c)]]):=eJ aT
def sp(x:gW):Prop×List D:=(x.2.1.length<=1099511627776,[.agg [.sc (.bool x.1),.ints .u64 x.2.1,.sc (.int .i64 x.2.2)]])
theorem spec:iU E f171 aE kF sp:=by
 intro x h;exact(start x.1 x.2.1 x.2.2).trans (gP h)
def aI:dJ:=orc1 kF sp
theorem ok:OK 171 aI:=(eB E aE (aA Clone.ok aC) func171).oS rfl spec
end aRL
namespace aED
def E:=mE [(171,aRL.aI)] 10 [] [] []
def aE:=bd f123
theorem aT:Nk E aE:=nk
theorem start a b c d e f:aF E f123 aE [D.agg [sc (bool a),ints u64 b,sc (int i64 c),sc (bool d),ints u64 e,sc (int i64 f)]]=aM (b.length<=1099511627776) (aM (e.length<=1099511627776) (some [D.agg [sc (bool a),ints u64 b,sc (int i64 c),sc (bool d),ints u64 e,sc (int i64 f)]])):=eJ aT
def sp(s:yN):Prop×List D:=(s.2.1.length<=1099511627776/\s.2.2.2.2.1.length<=1099511627776,[.agg [.sc (.bool s.1),.ints .u64 s.2.1,.sc (.int .i64 s.2.2.1),.sc (.bool s.2.2.2.1),.ints .u64 s.2.2.2.2.1,.sc (.int .i64 s.2.2.2.2.2)]])
theorem spec:iU E f123 aE Ab sp:=by
 intro s h;exact(start s.1 s.2.1 s.2.2.1 s.2.2.2.1 s.2.2.2.2.1 s.2.2.2.2.2).trans ((gP h.1).trans (gP h.2))
def aI:dJ:=orc1 Ab sp
theorem ok:OK 123 aI:=(eB E aE (aA aRL.ok aC) func123).oS rfl spec
end aED
namespace aRN
def E:=mE [(67,wV.aI),(123,aED.aI)] 16 [] [] []
def aE:=bd f154
theorem aT:Nk E aE:=nk
theorem start a b c d e f:aF E f154 aE [D.agg [sc (bool a),ints u64 b,sc (int i64 c)],D.agg [sc (bool d),ints u64 e,sc (int i64 f)]]=aM (fA (a,b,c,d,e,f)) (aM (b.length<=1099511627776/\e.length<=1099511627776) (some [D.agg [sc (bool a),ints u64 b,sc (int i64 c),sc (bool d),ints u64 e,sc (int i64 f)],D.s (sc (int i64 0))])):=eJ aT
def sp(x y:gW):Prop×List D:=(aU x/\aU y/\eR (dv x) (dv y)<=0,[.agg [.sc (.bool x.1),.ints .u64 x.2.1,.sc (.int .i64 x.2.2),.sc (.bool y.1),.ints .u64 y.2.1,.sc (.int .i64 y.2.2)],.s (.sc (.int .i64 0))])
theorem spec:fL E f154 aE kF kF sp:=by
 rintro x y ⟨h1,h2,h3⟩;have l1:=h1.len;have l2:=h2.len;exact(start x.1 x.2.1 x.2.2 y.1 y.2.1 y.2.2).trans ((gP ⟨h1,h2,h3⟩).trans (gP ⟨by omega,by omega⟩))
def aI:dJ:=orc2 kF kF sp
theorem ok:OK 154 aI:=(eB E aE (aA wV.ok (aA aED.ok aC)) func154).lF rfl spec
end aRN
namespace Fc
def E:=mE [(154,aRN.aI)] 9 [6] [] []
def aE:=bd f113
theorem aT:Nk E aE:=nk
theorem start a b c:aF E f113 aE [D.agg [sc (bool a),ints u64 b,sc (int i64 c)]]=aM (aU (a,b,c)/\aU (a,b,c)/\eR (dv (a,b,c)) (dv (a,b,c))<=0) (some [D.agg [sc (bool a),ints u64 b,sc (int i64 c),sc (bool a),ints u64 b,sc (int i64 c)],D.s (sc (int i64 0))]):=eJ aT
def sp(x:gW):Prop×List D:=(aU x,[.agg [.sc (.bool x.1),.ints .u64 x.2.1,.sc (.int .i64 x.2.2),.sc (.bool x.1),.ints .u64 x.2.1,.sc (.int .i64 x.2.2)],.s (.sc (.int .i64 0))])
theorem spec:iU E f113 aE kF sp:=by
 intro x h;exact(start x.1 x.2.1 x.2.2).trans (gP ⟨h,h,Tf _⟩)
def aI:dJ:=orc1 kF sp
theorem ok:OK 113 aI:=(eB E aE (aA aRN.ok aC) func113).oS rfl spec
end Fc
namespace aRZ
def E:=mE [(51,aKL.aI),(50,kG.aI)] 12 [] [] []
def aE:=bd f14
theorem aT:Nk E aE:=nk
theorem start a:aF E f14 aE [D.s (sc (int i64 a))]=letI B:=(isNeg a,M6.dg a.natAbs);letI A:=bif iQ (wv B) 0 then aR (wv B) 0 else((0:Int),(0:Int));aM ((-9223372036854775808:Int)<=a/\a<9223372036854775808) (aM (iE B/\(-9223372036854775808:Int)<=(0:Int)/\(0:Int)<(9223372036854775808:Int)) (some [D.agg [sc (bool (isNeg A.fst)),ints u64 (M6.dg A.fst.natAbs),sc (int i64 A.snd)]])):=eJ aT
def sp(n:Int):Prop×List D:=(-9223372036854775808<=n/\n<9223372036854775808,[dD (aR n 0)])
theorem aUL{n:Int}(h:bl n.natAbs<=524288):iQ n 0=true:=by
 unfold iQ
 by_cases hz:n=0
 ·rw[decide_eq_true hz,cGO]
 ·have:=Dz (n:=n.natAbs) (by omega);rw[decide_eq_true (show(-1048576<=0+(tz n.natAbs:Int)) by omega),decide_eq_true (show(0+(tz n.natAbs:Int)<=1048576) by omega),cEG,cHD]
theorem spec:iU E f14 aE (pN .i64) sp:=by
 rintro n ⟨h1,h2⟩;have hb:bl n.natAbs<=64:=dK.2 (by omega);refine(start n).trans ?_;rw[gP ⟨h1,h2⟩,gP ⟨gN (by omega),by omega,by omega⟩,oI,aUL (by omega)];rfl
def aI:dJ:=orc1 (pN .i64) sp
theorem ok:OK 14 aI:=(eB E aE (aA aKL.ok (aA kG.ok aC)) func14).oS rfl spec
end aRZ
namespace Po
def E:=mE [(113,Fc.aI),(14,aRZ.aI)] 12 [] [] []
def aE:=bd f202
theorem aT:Nk E aE:=nk
theorem start a:aF E f202 aE [D.s (sc (int i64 a))]=letI A:=aR a 0;letI C:=M6.dg A.fst.natAbs;letI B:=bool (isNeg A.fst);aM ((-9223372036854775808:Int)<=a/\a<9223372036854775808) (aM (aU (isNeg A.fst,M6.dg A.fst.natAbs,A.snd)) (some [D.agg [sc B,ints u64 C,sc (int i64 A.snd),sc B,ints u64 C,sc (int i64 A.snd)]])):=eJ aT
def sp(n:Int):Prop×List D:=(-1000000<=n/\n<=1000000,[wZ (aR n 0) (aR n 0)])
theorem spec:iU E f202 aE (pN .i64) sp:=by
 rintro n ⟨h1,h2⟩;have hb:bl n.natAbs<=20:=dK.2 (by have:(2:Nat)^20=1048576:=rfl;omega);exact(start n).trans ((gP ⟨by omega,by omega⟩).trans (gP (dV (iF (iM (by decide) (by omega)) (by omega)))))
def aI:dJ:=orc1 (pN .i64) sp
theorem ok:OK 202 aI:=(eB E aE (aA Fc.ok (aA aRZ.ok aC)) func202).oS rfl spec
end Po
namespace Ct
def E:=mE [(45,nA.aI),(46,nN.aI),(234,aRX.aI)] 13 [12] [] []
def aE:=bd f203
theorem aT:Nk E aE:=nk
theorem start a b c:aF E f203 aE [D.agg [sc (bool a),ints u64 b,sc (int i64 c)]]=aM (aU (a,b,c)) (aM True (aB ((b.length:Int)==(0:Int)) (some [D.s (sc (int i64 0)),D.s (sc (int i64 4))]) (aM (aU (a,b,c)) (some [D.s (sc (int i64 (c+(↑(bl (M6.val b)):Int)-(1:Int)))),D.s (sc (int i64 0))])))):=eJ aT
def sp(x:gW):Prop×List D:=(aU x,[.s (.sc (.int .i64 (if(dv x).1=0 then 0 else x.2.2+(bl (M6.val x.2.1):Nat)-1))),.s (.sc (.int .i64 (if(dv x).1=0 then 4 else 0)))])
theorem spec:iU E f203 aE kF sp:=by
 intro x h;have h:aU x:=h;refine(start x.1 x.2.1 x.2.2).trans ?_;have hz:=M6.cZ h.Kk;have ha:=jB (x.1,x.2.1)
 try dsimp only at ha
 have hd:(dv x).1=wv (x.1,x.2.1):=rfl;unfold sp
 try dsimp only
 rw[gP h,gP trivial]
 by_cases h0:x.2.1.length=0
 ·have:(dv x).1=0:=by rw[hd];have:=hz.1 h0;omega
  rw[bI,if_pos this,if_pos this]
 ·have:(dv x).1≠0:=by rw[hd];have:=fun hv=>h0 (hz.2 hv);omega
  rw[bA,if_neg this,if_neg this,gP h]
def aI:dJ:=orc1 kF sp
theorem ok:OK 203 aI:=(eB E aE (aA nA.ok (aA nN.ok (aA aRX.ok aC))) func203).oS rfl spec
end Ct
end W
namespace W.Arctan
def rounds(k:Nat):Nat->Nat->Nat->Nat->Nat->Nat->Nat×Nat
 |0,_,p,m,_,n=>(p-m,n)
 |f+1,t,p,m,i,n=>if t=0 then(p-m,n)else if i%4=1 then rounds k f (t/k/k) (p+t/i) m (i+2) (n+1)else rounds k f (t/k/k) p (m+t/i) (i+2) (n+1)
theorem aID{k Q:Nat}:∀(f t p m i n:Nat),t<2^Q->p<2^(Q+n+1)->(rounds k f t p m i n).1<2^(Q+n+f+1)/\(rounds k f t p m i n).2<=n+f:=by
 intro f
 induction f with
 |zero =>
  intro t p m i n ht hp;exact⟨cHT (cHP _ _) hp,by simp[rounds]⟩
 |succ f ih =>
  intro t p m i n ht hp;have aOO:2^(Q+n+1)<=2^(Q+n+(f+1)+1):=fK;have bGA:2^(Q+(n+1)+1)=2*2^(Q+n+1):=by rw[show Q+(n+1)+1=(Q+n+1)+1 from by omega,cGD];omega
  have hd:t/i<2^(Q+n+1):=cHT (cJR _ _) (cCB ht (fK));have hk:t/k/k<2^Q:=cHT (cJR _ _) (cHT (cJR _ _) ht);unfold rounds;split
  ·refine⟨cCB (cHT (cHP _ _) hp) aOO,by simp⟩
  ·split
   ·have:=ih (t/k/k) (p+t/i) m (i+2) (n+1) hk (by rw[bGA];omega);rw[show Q+(n+1)+f+1=Q+n+(f+1)+1 from by omega]at this;exact⟨this.1,by omega⟩
   ·have:=ih (t/k/k) p (m+t/i) (i+2) (n+1) hk (by rw[bGA];omega);rw[show Q+(n+1)+f+1=Q+n+(f+1)+1 from by omega]at this;exact⟨this.1,by omega⟩
def atan(k q:Nat):Nat×Nat:=rounds k (q+2) (2^q/k) 0 0 1 0
theorem Gv(k q:Nat):(atan k q).1<2^(2*q+4)/\(atan k q).2<=q+2:=by
 have hb:2^q/k<2^(q+1):=cHT (cJR _ _) (cHX (by omega) (by omega));have:=aID (k:=k) (Q:=q+1) (q+2) (2^q/k) 0 0 1 0 hb (cY);rw[show q+1+0+(q+2)+1=2*q+4 from by omega]at this;exact⟨this.1,by have:=this.2;unfold atan;omega⟩
end W.Arctan
namespace W
open Go AI M
namespace aRW
def E:=mE [(194,oQ.aI)] 32 [12,20,27] [] []
def aE:=bd f251
theorem aT:Nk E aE:=nk
theorem start a b:aF E f251 aE [D.s (ints u64 a),D.s (sc (int u64 b))]=letI A:=M6.dg (M6.val a/b.toNat);aB (decide (b<4294967296)) (aM (M6.cG a/\a.length<=8192/\0<u64.wrap (b*b)/\u64.wrap (b*b)<18446744073709551616) (some [D.s (ints u64 (M6.dg (M6.val a/(u64.wrap (b*b)).toNat)))])) (aM (M6.cG a/\a.length<=8192/\0<b/\b<18446744073709551616) (aM (M6.cG A/\A.length<=8192/\0<b/\b<18446744073709551616) (some [D.s (ints u64 (M6.dg (M6.val A/b.toNat)))]))):=eJ aT
def sp(a:List Int)(b:Int):Prop×List D:=(M6.cG a/\a.length<=8192/\2<=b/\b<4294967296,[.s (.ints .u64 (M6.dg (M6.val a/b.toNat/b.toNat)))])
theorem spec:fL E f251 aE (pI .u64) (pN .u64) sp:=by
 rintro a b ⟨hn,hl,h0,h1⟩;obtain⟨k,rfl⟩:=cGG (show 0<=b by omega);have hk:k*k<4294967296*4294967296:=Nat.mul_lt_mul_of_lt_of_le (by omega) (by omega) (by omega);have bXP:0<k*k:=Nat.mul_pos (by omega) (by omega);have e:u64.wrap ((k:Int)*(k:Int))=((k*k:Nat):Int):=by
  rw[<-cHC];exact wrap_u64
 refine(start a k).trans ?_;rw[aN h1,e,cFB,gP ⟨hn,hl,by omega,by omega⟩];unfold sp;rw[cFB,cGV]
def aI:dJ:=orc2 (pI .u64) (pN .u64) sp
theorem ok:OK 251 aI:=(eB E aE (aA oQ.ok aC) func251).lF rfl spec
end aRW
namespace eF
def E:=mE [(98,lR.aI),(95,pS.aI),(194,oQ.aI),(100,wA.aI),(102,vY.aI),(251,aRW.aI)] 72 [67] [(6,[0,6,8,9,10,11])] []
def aE:=bd f230
theorem aT:Nk E aE:=nk
def L6 a b (c:Nat) (d:List Int) (e:Nat) (f:List Int) g h:=pZ E f230 aE 6 [dO a,jR b,Dq 2 c 22 d,Dq 3 e 22 f,dO g,dO h]
def bQG a b c (d:Nat) (e:List Int) f g:=pZ E f230 aE 6 [dO a,jR b,jR c,Dq 3 d 22 e,dO f,dO g]
def cBA a b (c:Nat) (d:List Int) e f g:=pZ E f230 aE 6 [dO a,jR b,Dq 2 c 22 d,jR e,dO f,dO g]
def bIW a b c d e f:=pZ E f230 aE 6 [dO a,jR b,jR c,jR d,dO e,dO f]
theorem start a b:aF E f230 aE [D.s (sc (int u64 a)),D.s (sc (int i64 b))]=letI B:=M6.dg 1;letI A:=bif lR.kU (M6.val B) b.toNat then M6.dg (M6.val B*(2:Nat)^b.toNat)else [];aM ((0:Int)<=(1:Int)/\(1:Int)<(18446744073709551616:Int)) (aM (M6.cG B/\B.length<=8192/\0<=b/\b<4611686018427387904) (aM (M6.cG A/\A.length<=8192/\0<a/\a<18446744073709551616) (eF.L6 a (M6.dg (M6.val A/a.toNat)) 0 [] 0 [] 2 1))):=eJ aT
theorem vD a b c d e f g h:L6 a b c d e f g h=letI C:=M6.dg (M6.val b/a.toNat/a.toNat);letI B:=M6.cG b/\b.length<=8192/\2<=a/\a<4294967296;letI A:=M6.dg (M6.val b/h.toNat);letI G:=M6.val f+M6.val A;letI F:=M6.val d+M6.val A;aB (decide (0<(b.length:Int))) (aM (M6.cG b/\b.length<=8192/\0<h/\h<18446744073709551616) (aB (h.tmod 4==(1:Int)) (aM (M6.cG d/\M6.cG A/\d.length<=8192/\A.length<=8192) (aM B (eF.bQG a C (bif dM.nT F then M6.dg F else []) e f (u64.wrap (g+3)) (u64.wrap (h+2))))) (aM (M6.cG f/\M6.cG A/\f.length<=8192/\A.length<=8192) (aM B (eF.cBA a C c d (bif dM.nT G then M6.dg G else []) (u64.wrap (g+3)) (u64.wrap (h+2))))))) (aM (M6.cG d/\M6.cG f/\d.length<=8192/\f.length<=8192) (some [D.s (ints u64 (M6.dg (M6.val d-M6.val f))),D.s (sc (int u64 g))])):=lJ aT
theorem bCO a b c d e f g:bQG a b c d e f g=letI C:=M6.dg (M6.val b/a.toNat/a.toNat);letI B:=M6.cG b/\b.length<=8192/\2<=a/\a<4294967296;letI A:=M6.dg (M6.val b/g.toNat);letI G:=M6.val e+M6.val A;letI F:=M6.val c+M6.val A;aB (decide (0<(b.length:Int))) (aM (M6.cG b/\b.length<=8192/\0<g/\g<18446744073709551616) (aB (g.tmod 4==(1:Int)) (aM (M6.cG c/\M6.cG A/\c.length<=8192/\A.length<=8192) (aM B (eF.bQG a C (bif dM.nT F then M6.dg F else []) d e (u64.wrap (f+3)) (u64.wrap (g+2))))) (aM (M6.cG e/\M6.cG A/\e.length<=8192/\A.length<=8192) (aM B (eF.bIW a C c (bif dM.nT G then M6.dg G else []) (u64.wrap (f+3)) (u64.wrap (g+2))))))) (aM (M6.cG c/\M6.cG e/\c.length<=8192/\e.length<=8192) (some [D.s (ints u64 (M6.dg (M6.val c-M6.val e))),D.s (sc (int u64 f))])):=lJ aT
theorem aRT a b c d e f:bIW a b c d e f=letI C:=M6.dg (M6.val b/a.toNat/a.toNat);letI B:=M6.cG b/\b.length<=8192/\2<=a/\a<4294967296;letI A:=M6.dg (M6.val b/f.toNat);letI G:=M6.val d+M6.val A;letI F:=M6.val c+M6.val A;aB (decide (0<(b.length:Int))) (aM (M6.cG b/\b.length<=8192/\0<f/\f<18446744073709551616) (aB (f.tmod 4==(1:Int)) (aM (M6.cG c/\M6.cG A/\c.length<=8192/\A.length<=8192) (aM B (eF.bIW a C (bif dM.nT F then M6.dg F else []) d (u64.wrap (e+3)) (u64.wrap (f+2))))) (aM (M6.cG d/\M6.cG A/\d.length<=8192/\A.length<=8192) (aM B (eF.bIW a C c (bif dM.nT G then M6.dg G else []) (u64.wrap (e+3)) (u64.wrap (f+2))))))) (aM (M6.cG c/\M6.cG d/\c.length<=8192/\d.length<=8192) (some [D.s (ints u64 (M6.dg (M6.val c-M6.val d))),D.s (sc (int u64 e))])):=lJ aT
open Arctan in
theorem mT {n k:Nat} (h:n<2^k) (hk:k<=524288):(M6.dg n).length<=8192:=fZ (k:=8192) (cCA (dK.2 h) (by omega))
theorem aXF{n k:Nat}(h:n<2^k)(hk:k<=524288):dM.nT n=true:=decide_eq_true (mT h hk)
theorem Ld{k Q:Nat}(hk:2<=k)(Zb:k<4294967296)(hQ:Q<=200000):∀(f t p m n:Nat),t<2^Q->t<4^f->f+n<=250000->p<2^(Q+n+1)->m<2^(Q+n+1) ->
  bIW k (M6.dg t) (M6.dg p) (M6.dg m) ((2+3*n:Nat):Int) ((2*n+1:Nat):Int)=some [D.s (.ints .u64 (M6.dg (Arctan.rounds k f t p m (2*n+1) n).1)),D.s (.sc (.int .u64 ((2+3*(Arctan.rounds k f t p m (2*n+1) n).2:Nat):Int)))]:=by
 intro f
 induction f with
 |zero =>
  intro t p m n bKM ht hf hp hm;have:t=0:=by simpa using ht
  subst this;rw[aRT,M6.cB,aL (by simp),gP ⟨M6.aY _,M6.aY _,mT hp (by omega),mT hm (by omega)⟩,M6.bD,M6.bD];rfl
 |succ f ih =>
  intro t p m n bKM ht hf hp hm;rw[aRT];unfold Arctan.rounds
  by_cases hz:t=0
  ·subst hz;rw[M6.cB,aL (by simp),gP ⟨M6.aY _,M6.aY _,mT hp (by omega),mT hm (by omega)⟩,M6.bD,M6.bD,if_pos rfl]
  ·have bDO:(M6.dg t).length≠0:=fun h=>hz (M6.gM.1 h)
   have et:(((2*n+1:Nat):Int)).toNat=2*n+1:=cFB _;have ek:((k:Int)).toNat=k:=cFB _;have em:(((2*n+1:Nat):Int)).tmod 4=(((2*n+1)%4:Nat):Int):=by rw[cIT (by omega)];omega
   have w1:u64.wrap (((2+3*n:Nat):Int)+3)=((2+3*(n+1):Nat):Int):=by rw[wrap_u64];omega
   have w2:u64.wrap (((2*n+1:Nat):Int)+2)=((2*(n+1)+1:Nat):Int):=by rw[wrap_u64];omega
   have bJO:t/k/k<2^Q:=cHT (cJR _ _) (cHT (cJR _ _) bKM);have bRS:t/k/k<4^f:=by
    rw[cGV];apply cGY;have:4<=k*k:=cLS hk hk;rw[cGD 4 f,cGC (4^f)]at ht;exact cCB ht (cCT _ this)
   have aOO:2^(Q+(n+1)+1)=2*2^(Q+n+1):=by rw[show Q+(n+1)+1=(Q+n+1)+1 from by omega,cGD];omega
   have hd:t/(2*n+1)<2^(Q+n+1):=cHT (cJR _ _) (cCB bKM (fK));have lt:=mT bKM (by omega);have ld:=mT hd (by omega);rw[aN];simp only[et,ek,em,M6.bD,w1,w2];rw[gP ⟨M6.aY _,lt,by omega,by omega⟩,if_neg hz,show 2*n+1+2=2*(n+1)+1 by omega]
   by_cases hc:(2*n+1)%4=1
   ·have hs:p+t/(2*n+1)<2^(Q+(n+1)+1):=by rw[aOO];omega
    rw[bI,gP ⟨M6.aY _,M6.aY _,mT hp (by omega),ld⟩,gP ⟨M6.aY _,lt,by omega,by omega⟩,if_pos hc,aXF hs (by omega),cond_true];exact ih _ _ _ (n+1) bJO bRS (by omega) hs (by rw[aOO];omega)
   ·have hs:m+t/(2*n+1)<2^(Q+(n+1)+1):=by rw[aOO];omega
    rw[bA,gP ⟨M6.aY _,M6.aY _,mT hm (by omega),ld⟩,gP ⟨M6.aY _,lt,by omega,by omega⟩,if_neg hc,aXF hs (by omega),cond_true];exact ih _ _ _ (n+1) bJO bRS (by omega) (by rw[aOO];omega) hs
def sp(k q:Int):Prop×List D:=((2<=k/\k<4294967296)/\0<=q/\q<=150000,[.s (.ints .u64 (M6.dg (Arctan.atan k.toNat q.toNat).1)),.s (.sc (.int .u64 ((2+3*(Arctan.atan k.toNat q.toNat).2:Nat):Int)))])
theorem spec:fL E f230 aE (pN .u64) (pN .i64) sp:=by
 rintro k q ⟨⟨h1,h2⟩,h3,h4⟩;refine(start k q).trans ?_;unfold sp;obtain⟨k,rfl⟩:=cGG (show 0<=k by omega);obtain⟨q,rfl⟩:=cGG h3;have Ql:2^q<2^(q+1):=cHX (by omega) (by omega);have hb:2^q/k<2^(q+1):=cHT (cJR _ _) Ql;have so:lR.kU 1 q=true:=by
  unfold lR.kU;rw[show bl 1=1 from rfl,decide_eq_true (show 1+q<=524288 by omega),cHD]
 have l1:(M6.dg 1).length<=8192:=mT (k:=1) (by decide) (by decide);have nn:M6.cG ([]:List Int):=by rw[<-M6.cB];exact M6.aY 0
 have v0:M6.val ([]:List Int)=0:=rfl;simp only[M6.bD,cFB,so,cond_true,cFI];rw[gP ⟨by decide,by decide⟩,gP ⟨M6.aY _,l1,by omega,by omega⟩,gP ⟨M6.aY _,mT Ql (by omega),by omega,by omega⟩];unfold Arctan.atan;have bYF:2^q/k<4^(q+2):=cCB hb (by rw[show(4:Nat)=2^2 from rfl,<-Nat.pow_mul];exact fK);generalize 2^q/k=t at *;have e4:4^(q+2)=16*4^q:=by rw[cGE];omega
 rw[e4]at bYF;have kk:4<=k*k:=cLS (show 2<=k by omega) (show 2<=k by omega);have step:∀a X:Nat,a<4*X->a/k/k<X:=fun a X ha=>by
  rw[cGV];exact cGY (cCB ha (cCT _ kk))
 have aQD:∀a:Nat,a/k/k<=a:=fun a=>cCA (cJR _ _) (cJR _ _)
 have ht:=mT hb (by omega);rw[vD,show q+2=(q+1)+1 by omega];unfold Arctan.rounds
 by_cases z:t=0
 ·subst z;rw[M6.cB,aL (by simp),gP ⟨nn,nn,by decide,by decide⟩,if_pos rfl,v0];rfl
 ·have bDO:(M6.dg t).length≠0:=fun h=>z (M6.gM.1 h)
  rw[aN,if_neg z,if_pos (by decide)];simp only[M6.bD,v0,cBG,Int.toNat_one,Nat.div_one,cFB];have xQ:=cHT (aQD t) hb;have bYG:=step t (4*4^q) (by omega);have l2:=mT xQ (by omega);rw[gP ⟨M6.aY _,ht,by decide,by decide⟩,bI (by decide),gP ⟨nn,M6.aY _,by decide,ht⟩,gP ⟨M6.aY _,ht,by omega,by omega⟩,aXF hb (by omega),cond_true,bCO,show u64.wrap (2+3)=5 from wrap_u64 (by decide) (by decide),show u64.wrap (1+2)=3 from wrap_u64 (by decide) (by decide)];unfold Arctan.rounds;generalize t/k/k=u at *
  by_cases z1:u=0
  ·subst z1;rw[M6.cB,aL (by simp),gP ⟨M6.aY _,nn,ht,by decide⟩,if_pos rfl,v0,M6.bD];rfl
  ·have Jy:(M6.dg u).length≠0:=fun h=>z1 (M6.gM.1 h)
   have bRQ:u/3<2^(q+1):=cHT (cJR _ _) xQ;rw[aN,if_neg z1,if_neg (by decide)];simp only[M6.bD,v0,cBG,cFB,show((3:Int)).toNat=3 from rfl];rw[gP ⟨M6.aY _,l2,by decide,by decide⟩,bA (by decide),gP ⟨nn,M6.aY _,by decide,mT bRQ (by omega)⟩,gP ⟨M6.aY _,l2,by omega,by omega⟩,aXF bRQ (by omega),cond_true,show u64.wrap (5+3)=8 from wrap_u64 (by decide) (by decide),show u64.wrap (3+2)=5 from wrap_u64 (by decide) (by decide)];have up:2^(q+1)<=2^(q+1+2+1):=fK;exact Ld (k:=k) (Q:=q+1) (by omega) (by omega) (by omega) q (u/k/k) t (u/3) 2 (cHT (aQD u) xQ) (step u (4^q) bYG) (by omega) (by omega) (by omega)
def aI:dJ:=orc2 (pN .u64) (pN .i64) sp
theorem ok:OK 230 aI:=(eB E aE (aA lR.ok (aA pS.ok (aA oQ.ok (aA wA.ok (aA vY.ok (aA aRW.ok aC)))))) func230).lF rfl spec
end eF
namespace THalvings
def E:=mE [] 13 [] [(2,[0,3])] []
def aE:=bd f235
theorem aT:Nk E aE:=nk
def L2 a b:=pZ E f235 aE 2 [bN a,bN b]
theorem start a:aF E f235 aE [D.s (sc (int i64 a))]=THalvings.L2 a 4:=eJ aT
theorem mK a b:L2 a b=aB (decide (i64.wrap (i64.wrap ((4:Int)*b)*b)<a)) (THalvings.L2 a (i64.wrap (b+1))) (some [D.s (sc (int i64 b))]):=lJ aT
def hlv(w:Int):Nat->Nat->Nat
 |0,h=>h
 |f+1,h=>if 4*(h:Int)*h<w then hlv w f (h+1)else h
def sp(w:Int):Prop×List D:=(w<=150000,[.s (.sc (.int .i64 (hlv w 200 4:Nat)))])
theorem L{w:Int}(hw:w<=150000):∀f h:Nat,h+f=204->L2 w h=some [.s (.sc (.int .i64 (hlv w f h:Nat)))]:=by
 intro f
 induction f with
 |zero =>
  intro h hh;obtain rfl:h=204:=by omega
  have e:i64.wrap (i64.wrap (4*((204:Nat):Int))*((204:Nat):Int))=166464:=by decide +kernel
  rw[mK,e,aL];rfl
 |succ f ih =>
  intro h hh;have hb:(h:Int)*h<=41616:=Int.ofNat_le.2 (cLS (show h<=204 by omega) (show h<=204 by omega));have hb0:(0:Int)<=(h:Int)*h:=cMS (by omega) (by omega);have ea:4*(h:Int)*h=4*((h:Int)*h):=Int.mul_assoc _ _ _;have e:i64.wrap (i64.wrap (4*(h:Int))*(h:Int))=4*(h:Int)*h:=by rw[wrap_i64 (n:=4*(h:Int)),wrap_i64]
  have e2:i64.wrap ((h:Int)+1)=((h+1:Nat):Int):=by rw[wrap_i64];omega
  rw[mK,e,e2];unfold hlv
  by_cases c:4*(h:Int)*h<w
  ·rw[aN c,if_pos c];exact ih (h+1) (by omega)
  ·rw[aL c,if_neg c]
theorem spec:iU E f235 aE (pN .i64) sp:=fun w h=>(start w).trans (L h 200 4 rfl)
def aI:dJ:=orc1 (pN .i64) sp
theorem ok:OK 235 aI:=(eB E aE aC func235).oS rfl spec
end THalvings
namespace wU
def E:=mE [(48,Cp.aI),(192,kC.aI)] 36 [] [] []
def aE:=bd f236
theorem aT:Nk E aE:=nk
theorem start a c d b:aF E f236 aE [D.agg [sc (bool a),ints u64 c,sc (int i64 d)],D.s (sc (int i64 b))]=letI A:=(false,c);aB (decide (0<=i64.wrap (d+b))) (aM (iE A/\0<=i64.wrap (d+b)/\i64.wrap (d+b)<4611686018427387904) (some [D.s (ints u64 (M6.dg (bif fit (M6.val c*(2:Nat)^(i64.wrap (d+b)).toNat)then wv A*(↑((2:Nat)^(i64.wrap (d+b)).toNat):Int)else(0:Int)).natAbs))])) (aM (iE A/\0<=i64.wrap ((0:Int)-i64.wrap (d+b))/\i64.wrap ((0:Int)-i64.wrap (d+b))<4611686018427387904) (some [D.s (ints u64 (M6.dg (wv A/(↑((2:Nat)^(i64.wrap ((0:Int)-i64.wrap (d+b))).toNat):Int)).natAbs))])):=eJ aT
def aSQ(p:Int×Int)(n:Int):Nat:=if 0<=p.2+n then p.1.natAbs*2^(p.2+n).toNat else p.1.natAbs/2^(-(p.2+n)).toNat
def sp(x:gW)(n:Int):Prop×List D:=(aU x/\-1099511627776<=n/\n<=1099511627776/\(0<=x.2.2+n->fit ((dv x).1.natAbs*2^(x.2.2+n).toNat)=true),[.s (.ints .u64 (M6.dg (aSQ (dv x) n)))])
theorem spec:fL E f236 aE kF (pN .i64) sp:=by
 rintro x n ⟨hx,h1,h2,hf⟩;have he:=hx.2.1;refine(start x.1 x.2.1 x.2.2 n).trans ?_;have w1:i64.wrap (x.2.2+n)=x.2.2+n:=wrap_i64;have ha:(dv x).1.natAbs=M6.val x.2.1:=jB (x.1,x.2.1);have ok:iE (false,x.2.1):=⟨hx.1.1,fun hf=>(by cases hf),hx.1.len⟩;have vx:wv (false,x.2.1)=(M6.val x.2.1:Int):=rfl;rw[w1,vx];unfold sp aSQ;dsimp only
 by_cases c:0<=x.2.2+n
 ·have aXU:=hf c;rw[ha]at aXU ⊢;rw[aN c,gP ⟨ok,c,by omega⟩,aXU,cond_true,if_pos (show 0<=(dv x).2+n from c),<-cHC,cGW];rfl
 ·have w2:i64.wrap (0-(x.2.2+n))=-(x.2.2+n):=by rw[wrap_i64];omega
  rw[ha,w2,aL c,gP ⟨ok,by omega,by omega⟩,if_neg (show ¬0<=(dv x).2+n from c),<-Int.natCast_ediv,cGW];rfl
def aI:dJ:=orc2 kF (pN .i64) sp
theorem ok:OK 236 aI:=(eB E aE (aA Cp.ok (aA kC.ok aC)) func236).lF rfl spec
end wU
namespace Pn
def E:=mE [(233,aRO.aI),(104,Hh.aI)] 22 [12,18] [] []
def aE:=bd f238
theorem aT:Nk E aE:=nk
theorem start a b c:aF E f238 aE [D.s (ints u64 a),D.s (ints u64 b),D.s (sc (int i64 c))]=letI B:=M6.val a*M6.val b;letI A:=bif dM.nT B then M6.dg B else [];aM (M6.cG a/\M6.cG b/\a.length<=8192/\b.length<=8192) (aM (M6.cG A/\A.length<=8192/\0<=c/\c<4611686018427387904) (some [D.s (ints u64 (M6.dg (M6.val A/(2:Nat)^c.toNat)))])):=eJ aT
def sp(a b:List Int)(n:Int):Prop×List D:=(M6.cG a/\M6.cG b/\a.length<=4096/\b.length<=4096/\0<=n/\n<4611686018427387904,[.s (.ints .u64 (M6.dg (M6.val a*M6.val b/2^n.toNat)))])
theorem spec:oO E f238 aE (pI .u64) (pI .u64) (pN .i64) sp:=by
 rintro a b n ⟨h1,h2,l1,l2,n1,n2⟩;have hl:(M6.dg (M6.val a*M6.val b)).length<=8192:=by
  refine M6.dP (k:=8192) ?_;have va:=cCB (M6.dR h1.jE) (cEF (by decide) l1);have vb:=cCB (M6.dR h2.jE) (cEF (by decide) l2);rw[show(8192:Nat)=4096+4096 from rfl,cGE];generalize 18446744073709551616^4096=Q at *;exact cJS va vb
 have ok:dM.nT (M6.val a*M6.val b)=true:=decide_eq_true hl;refine(start a b n).trans ?_;rw[gP ⟨h1,h2,by omega,by omega⟩,ok];simp only[cond_true,M6.bD];exact gP ⟨M6.aY _,hl,n1,n2⟩
def aI:dJ:=orc3 (pI .u64) (pI .u64) (pN .i64) sp
theorem ok:OK 238 aI:=(eB E aE (aA aRO.ok (aA Hh.ok aC)) func238).xX rfl spec
end Pn
namespace TSums
def E:Env:={ ({ base with C:=callsOf [(98,lR.aI),(95,pS.aI),(100,wA.aI),(238,Pn.aI),(194,oQ.aI),(102,vY.aI)],wide:=some .u64 })with nt:=63,own:=[50,58],keep:=fun k=>(tlook [(4,[0,1,6,7,9])] k).getD [],cut:=tlook [] }
def aE:=bd f237
theorem aT:Nk E aE:=nk
def L4 a b c d e f g h:=pZ E f237 aE 4 [jR a,bN b,dS 2 298 [gO c,gO d,gO e,gO f],jR g,dO h]
theorem start a b:aF E f237 aE [D.s (ints u64 a),D.s (sc (int i64 b))]=letI A:=M6.dg 1;aM ((0:Int)<=(1:Int)/\(1:Int)<(18446744073709551616:Int)) (aM (M6.cG A/\A.length<=8192/\0<=b/\b<4611686018427387904) (aD (bif lR.kU (M6.val A) b.toNat then M6.dg (M6.val A*(2:Nat)^b.toNat)else []) fun c=>TSums.L4 a b [] [] [] [] c 0)):=eJ aT
theorem nS a b c d e f g h:L4 a b c d e f g h=letI P:=M6.val f+M6.val g;letI O:=M6.val e+M6.val g;letI N:=M6.val d+M6.val g;letI K:=M6.val c+M6.val g;letI I:=decide (h.tmod 4=(3:Int));letI H:=decide (h.tmod 4=(2:Int));letI G:=decide (h.tmod 4=(1:Int));letI F:=decide (h.tmod 4=(0:Int));letI C:=u64.wrap (h+1);letI B:=M6.dg (M6.val g*M6.val a/(2:Nat)^b.toNat);letI A:=M6.cG g/\M6.cG a/\g.length<=4096/\a.length<=4096/\0<=b/\b<4611686018427387904;aB (decide (0<(g.length:Int))) (aB F (aM (M6.cG c/\M6.cG g/\c.length<=8192/\g.length<=8192) (aD (bif dM.nT K then M6.dg K else []) fun i=>aB F (aM A (aD B fun j=>aM (M6.cG j/\j.length<=8192/\0<u64.wrap (h+1)/\u64.wrap (h+1)<18446744073709551616) (aD (M6.dg (M6.val j/C.toNat)) fun k=>TSums.L4 a b i d e f k C))) (aB G (aM A (aD B fun l=>aM (M6.cG l/\l.length<=8192/\0<u64.wrap (h+1)/\u64.wrap (h+1)<18446744073709551616) (aD (M6.dg (M6.val l/C.toNat)) fun m=>TSums.L4 a b c i e f m C))) (aB H (aM A (aD B fun n=>aM (M6.cG n/\n.length<=8192/\0<u64.wrap (h+1)/\u64.wrap (h+1)<18446744073709551616) (aD (M6.dg (M6.val n/C.toNat)) fun o=>TSums.L4 a b c d i f o C))) (aB I (aM A (aD B fun p=>aM (M6.cG p/\p.length<=8192/\0<u64.wrap (h+1)/\u64.wrap (h+1)<18446744073709551616) (aD (M6.dg (M6.val p/C.toNat)) fun q=>TSums.L4 a b c d e i q C))) none))))) (aB G (aM (M6.cG d/\M6.cG g/\d.length<=8192/\g.length<=8192) (aD (bif dM.nT N then M6.dg N else []) fun r=>aB F (aM A (aD B fun s=>aM (M6.cG s/\s.length<=8192/\0<u64.wrap (h+1)/\u64.wrap (h+1)<18446744073709551616) (aD (M6.dg (M6.val s/C.toNat)) fun t=>TSums.L4 a b r d e f t C))) (aB G (aM A (aD B fun u=>aM (M6.cG u/\u.length<=8192/\0<u64.wrap (h+1)/\u64.wrap (h+1)<18446744073709551616) (aD (M6.dg (M6.val u/C.toNat)) fun v=>TSums.L4 a b c r e f v C))) (aB H (aM A (aD B fun w=>aM (M6.cG w/\w.length<=8192/\0<u64.wrap (h+1)/\u64.wrap (h+1)<18446744073709551616) (aD (M6.dg (M6.val w/C.toNat)) fun x=>TSums.L4 a b c d r f x C))) (aB I (aM A (aD B fun y=>aM (M6.cG y/\y.length<=8192/\0<u64.wrap (h+1)/\u64.wrap (h+1)<18446744073709551616) (aD (M6.dg (M6.val y/C.toNat)) fun z=>TSums.L4 a b c d e r z C))) none))))) (aB H (aM (M6.cG e/\M6.cG g/\e.length<=8192/\g.length<=8192) (aD (bif dM.nT O then M6.dg O else []) fun aa=>aB F (aM A (aD B fun ab=>aM (M6.cG ab/\ab.length<=8192/\0<u64.wrap (h+1)/\u64.wrap (h+1)<18446744073709551616) (aD (M6.dg (M6.val ab/C.toNat)) fun ac=>TSums.L4 a b aa d e f ac C))) (aB G (aM A (aD B fun ad=>aM (M6.cG ad/\ad.length<=8192/\0<u64.wrap (h+1)/\u64.wrap (h+1)<18446744073709551616) (aD (M6.dg (M6.val ad/C.toNat)) fun ae=>TSums.L4 a b c aa e f ae C))) (aB H (aM A (aD B fun af=>aM (M6.cG af/\af.length<=8192/\0<u64.wrap (h+1)/\u64.wrap (h+1)<18446744073709551616) (aD (M6.dg (M6.val af/C.toNat)) fun ag=>TSums.L4 a b c d aa f ag C))) (aB I (aM A (aD B fun ah=>aM (M6.cG ah/\ah.length<=8192/\0<u64.wrap (h+1)/\u64.wrap (h+1)<18446744073709551616) (aD (M6.dg (M6.val ah/C.toNat)) fun ai=>TSums.L4 a b c d e aa ai C))) none))))) (aB I (aM (M6.cG f/\M6.cG g/\f.length<=8192/\g.length<=8192) (aD (bif dM.nT P then M6.dg P else []) fun aj=>aB F (aM A (aD B fun ak=>aM (M6.cG ak/\ak.length<=8192/\0<u64.wrap (h+1)/\u64.wrap (h+1)<18446744073709551616) (aD (M6.dg (M6.val ak/C.toNat)) fun al=>TSums.L4 a b aj d e f al C))) (aB G (aM A (aD B fun am=>aM (M6.cG am/\am.length<=8192/\0<u64.wrap (h+1)/\u64.wrap (h+1)<18446744073709551616) (aD (M6.dg (M6.val am/C.toNat)) fun an=>TSums.L4 a b c aj e f an C))) (aB H (aM A (aD B fun ao=>aM (M6.cG ao/\ao.length<=8192/\0<u64.wrap (h+1)/\u64.wrap (h+1)<18446744073709551616) (aD (M6.dg (M6.val ao/C.toNat)) fun ap=>TSums.L4 a b c d aj f ap C))) (aB I (aM A (aD B fun aq=>aM (M6.cG aq/\aq.length<=8192/\0<u64.wrap (h+1)/\u64.wrap (h+1)<18446744073709551616) (aD (M6.dg (M6.val aq/C.toNat)) fun ar=>TSums.L4 a b c d e aj ar C))) none))))) none)))) (aM (M6.cG c/\M6.cG e/\c.length<=8192/\e.length<=8192) (aD (M6.dg (M6.val c-M6.val e)) fun au=>aM (M6.cG d/\M6.cG f/\d.length<=8192/\f.length<=8192) (aD (M6.dg (M6.val d-M6.val f)) fun av=>some [D.s (ints u64 av),D.s (ints u64 au)]))):=lJ aT
def tay(u W:Nat):Nat->Nat->Nat->Nat->Nat->Nat->Nat×Nat×Nat×Nat
 |0,_,a,b,c,d=>(a,b,c,d)
 |f+1,k,a,b,c,d=>if R.sq u W k=0 then(a,b,c,d)else
  if k%4=0 then tay u W f (k+1) (a+R.sq u W k) b c d else if k%4=1 then tay u W f (k+1) a (b+R.sq u W k) c d
  else if k%4=2 then tay u W f (k+1) a b (c+R.sq u W k) d else tay u W f (k+1) a b c (d+R.sq u W k)
theorem Mn{u W:Nat}(h:u<=W):∀k,R.sq u W k<=W
 |0=>cBE _
 |k+1=>cCA (R.Ml h k) (Mn h k)
theorem L{w:Nat}{a0:List Int}(hn:M6.cG a0)(hl:a0.length<=4096)(hu:M6.val a0<=2^w)(hw:w<=150000):∀(f k a b c d:Nat),k+f<=200000->R.sq (M6.val a0) (2^w) (k+f)=0 ->
  a<=k*2^w->b<=k*2^w->c<=k*2^w->d<=k*2^w ->
  L4 a0 w (M6.dg a) (M6.dg b) (M6.dg c) (M6.dg d) (M6.dg (R.sq (M6.val a0) (2^w) k)) k=some [.s (.ints .u64 (M6.dg ((tay (M6.val a0) (2^w) f k a b c d).2.1-(tay (M6.val a0) (2^w) f k a b c d).2.2.2))),.s (.ints .u64 (M6.dg ((tay (M6.val a0) (2^w) f k a b c d).1-(tay (M6.val a0) (2^w) f k a b c d).2.2.1)))]:=by
 intro f
 induction f with
 |zero =>
  intro k a b c d hk h0 ha hb hc hd;have pw:k*2^w<2^(w+18):=by
   rw[cGE,cGC];exact cPK (by omega) (cEE (by decide))
  rw[cCC]at h0;rw[nS,h0,M6.cB,aL (by simp)];simp only[aG];rw[gP ⟨M6.aY _,M6.aY _,eF.mT (cHT ha pw) (by omega),eF.mT (cHT hc pw) (by omega)⟩,gP ⟨M6.aY _,M6.aY _,eF.mT (cHT hb pw) (by omega),eF.mT (cHT hd pw) (by omega)⟩];simp only[M6.bD];rfl
 |succ f ih =>
  intro k a b c d hk h0 ha hb hc hd;have pw:∀j,j<=200000->j*2^w<2^(w+18):=fun j hj=>by
   rw[cGE,cGC];exact cPK (by omega) (cEE (by decide))
  have hs:(k+1)*2^w=k*2^w+2^w:=by rw[cBY,cFI]
  have ht:=Mn hu k;have lt:(M6.dg (R.sq (M6.val a0) (2^w) k)).length<=4096:=fZ (k:=4096) (cCA (dK.2 (cHT ht (cHX (by decide) (cPI w)))) (by omega));rw[nS];unfold tay
  by_cases hz:R.sq (M6.val a0) (2^w) k=0
  ·rw[hz,M6.cB,aL (by simp),if_pos rfl];simp only[aG];rw[gP ⟨M6.aY _,M6.aY _,eF.mT (cHT ha (pw k (by omega))) (by omega),eF.mT (cHT hc (pw k (by omega))) (by omega)⟩,gP ⟨M6.aY _,M6.aY _,eF.mT (cHT hb (pw k (by omega))) (by omega),eF.mT (cHT hd (pw k (by omega))) (by omega)⟩];simp only[M6.bD]
  ·have bDO:(M6.dg (R.sq (M6.val a0) (2^w) k)).length≠0:=fun h=>hz (M6.gM.1 h)
   have em:(k:Int).tmod 4=((k%4:Nat):Int):=by rw[cIT (by omega)];omega
   have w1:u64.wrap ((k:Int)+1)=((k+1:Nat):Int):=by rw[wrap_u64];omega
   have ew:(w:Int).toNat=w:=cFB _;have ek:(((k+1:Nat)):Int).toNat=k+1:=cFB _;have es:R.sq (M6.val a0) (2^w) k*M6.val a0/2^w/(k+1)=R.sq (M6.val a0) (2^w) (k+1):=rfl;have bVK:(M6.dg (R.sq (M6.val a0) (2^w) k*M6.val a0/2^w)).length<=8192:=by
    have:R.sq (M6.val a0) (2^w) k*M6.val a0/2^w<=R.sq (M6.val a0) (2^w) k:=Nat.div_le_of_le_mul (by rw[cGC (2^w)];exact cDS _ hu);exact eF.mT (cHT (cCA this ht) (cHX (by decide) (cPI w))) (by omega)
   rw[aN];simp only[aG,em,w1,ew,ek,M6.bD,es];rw[if_neg hz];have bAM:k+1+f=k+(f+1):=by omega
   have Tz:∀x,x<=k*2^w->x+R.sq (M6.val a0) (2^w) k<=(k+1)*2^w/\dM.nT (x+R.sq (M6.val a0) (2^w) k)=true/\(M6.dg x).length<=8192:=fun x hx=>by
    have h1:x+R.sq (M6.val a0) (2^w) k<=(k+1)*2^w:=by omega
    exact⟨h1,eF.aXF (cHT h1 (pw (k+1) (by omega))) (by omega),eF.mT (cHT hx (pw k (by omega))) (by omega)⟩
   have up:∀x,x<=k*2^w->x<=(k+1)*2^w:=fun x hx=>by omega
   have g1:M6.cG (M6.dg (R.sq (M6.val a0) (2^w) k))/\M6.cG a0/\(M6.dg (R.sq (M6.val a0) (2^w) k)).length<=4096/\a0.length<=4096/\(0:Int)<=w/\(w:Int)<4611686018427387904:=⟨M6.aY _,hn,lt,hl,by omega,by omega⟩;have g2:M6.cG (M6.dg (R.sq (M6.val a0) (2^w) k*M6.val a0/2^w))/\(M6.dg (R.sq (M6.val a0) (2^w) k*M6.val a0/2^w)).length<=8192/\(0:Int)<((k+1:Nat):Int)/\((k+1:Nat):Int)<18446744073709551616:=⟨M6.aY _,bVK,by omega,by omega⟩;have h4:k%4<4:=cDM _ (by decide)
   by_cases c0:k%4=0
   ·obtain⟨x1,x2,x3⟩:=Tz a ha;rw[aN,gP ⟨M6.aY _,M6.aY _,x3,by omega⟩,aN,x2,cond_true,gP g1,gP g2,if_pos c0];exact ih (k+1) _ _ _ _ (by omega) (by rw[bAM];exact h0) x1 (up b hb) (up c hc) (up d hd)
   ·rw[aL,if_neg c0]
    by_cases c1:k%4=1
    ·obtain⟨x1,x2,x3⟩:=Tz b hb;rw[aN,gP ⟨M6.aY _,M6.aY _,x3,by omega⟩,aL,aN,x2,cond_true,gP g1,gP g2,if_pos c1];exact ih (k+1) _ _ _ _ (by omega) (by rw[bAM];exact h0) (up a ha) x1 (up c hc) (up d hd)
    ·rw[aL,if_neg c1]
     by_cases c2:k%4=2
     ·obtain⟨x1,x2,x3⟩:=Tz c hc;rw[aN,gP ⟨M6.aY _,M6.aY _,x3,by omega⟩,aL,aL,aN,x2,cond_true,gP g1,gP g2,if_pos c2];exact ih (k+1) _ _ _ _ (by omega) (by rw[bAM];exact h0) (up a ha) (up b hb) x1 (up d hd)
     ·obtain⟨x1,x2,x3⟩:=Tz d hd;rw[aL,aN,gP ⟨M6.aY _,M6.aY _,x3,by omega⟩,aL,aL,aL,aN,x2,cond_true,gP g1,gP g2,if_neg c2];exact ih (k+1) _ _ _ _ (by omega) (by rw[bAM];exact h0) (up a ha) (up b hb) (up c hc) x1
def aIA(u w:Nat):Nat:=(tay u (2^w) (w+1) 0 0 0 0 0).2.1-(tay u (2^w) (w+1) 0 0 0 0 0).2.2.2
def aIB(u w:Nat):Nat:=(tay u (2^w) (w+1) 0 0 0 0 0).1-(tay u (2^w) (w+1) 0 0 0 0 0).2.2.1
def sp(a:List Int)(w:Int):Prop×List D:=(M6.cG a/\0<=w/\w<=150000/\2*M6.val a<=2^w.toNat,[.s (.ints .u64 (M6.dg (aIA (M6.val a) w.toNat))),.s (.ints .u64 (M6.dg (aIB (M6.val a) w.toNat)))])
theorem spec:fL E f237 aE (pI .u64) (pN .i64) sp:=by
 rintro a w ⟨hn,w0,w1,hu⟩;refine(start a w).trans ?_;obtain⟨w,rfl⟩:=cGG w0;rw[cFB]at hu;have hl:a.length<=4096:=by
  have e:M6.dg (M6.val a)=a:=by first |exact hn |exact Eq.symm hn
  rw[<-e];exact fZ (k:=4096) (cCA (dK.2 (show M6.val a<2^(w+1) by rw[cGD];have:0<2^w:=cEE (by decide);omega)) (by omega))
 have so:lR.kU 1 w=true:=by
  unfold lR.kU;rw[show bl 1=1 from rfl,decide_eq_true (show 1+w<=524288 by omega),cHD]
 have l1:(M6.dg 1).length<=8192:=eF.mT (k:=1) (by decide) (by decide);unfold sp;simp only[M6.bD,cFB,so,cond_true,cFI,aG];rw[gP ⟨by decide,by decide⟩,gP ⟨M6.aY _,l1,by omega,by omega⟩,<-M6.cB];exact L hn hl (by omega) (by omega) (w+1) 0 0 0 0 0 (by omega) (by rw[cBG];exact R.aEY hu) (by omega) (by omega) (by omega) (by omega)
def aI:dJ:=orc2 (pI .u64) (pN .i64) sp
theorem ok:OK 237 aI:=(eB E aE (aA lR.ok (aA pS.ok (aA wA.ok (aA Pn.ok (aA oQ.ok (aA vY.ok aC)))))) func237).lF rfl spec
end TSums
namespace aW
def E:=mE [(203,Ct.aI),(235,THalvings.aI),(236,wU.aI),(237,TSums.aI),(98,lR.aI),(95,pS.aI),(238,Pn.aI),(102,vY.aI)] 91 [41,56,59,74,84] [(10,[4,5,7,10,12,50,51])] []
def aE:=bd f205
theorem aT:Nk E aE:=nk
def Jl a b c d e f g:=pZ E f205 aE 10 [jR a,jR b,bN c,bN d,jR e,bN f,bN g]
theorem start a c d b:aF E f205 aE [D.agg [sc (bool a),ints u64 c,sc (int i64 d)],D.s (sc (int i64 b))]=letI H:=dv (a,c,d);letI G:=M6.dg 1;aM (aU (a,c,d)) (aD (if H.fst=0 then(0:Int)else d+(↑(bl (M6.val c)):Int)-(1:Int)) fun e=>aM (i64.wrap (i64.wrap (b+80)-if 0<e then(0:Int)else e)<=150000) (aD (↑(THalvings.hlv (i64.wrap (i64.wrap (b+80)-if 0<e then(0:Int)else e)) 200 4):Int) fun f=>letI B:=i64.wrap (i64.wrap (b+80)-match BinOp.lss with |BinOp.gtr=>if(0:Int)>e then(0:Int)else e |x=>if 0<e then(0:Int)else e)+i64.wrap ((2:Int)*f);letI A:=i64.wrap (i64.wrap (b+80)-if 0<e then(0:Int)else e)+i64.wrap ((2:Int)*f);letI F:=i64.wrap A+f;letI C:=i64.wrap F;aM (aU (a,c,d)/\(-1099511627776:Int)<=i64.wrap A/\i64.wrap A<=1099511627776/\(0<=(a,c,d).snd.snd+i64.wrap B->fit (H.fst.natAbs*(2:Nat)^((a,c,d).snd.snd+i64.wrap B).toNat)=true)) (aD (M6.dg (wU.aSQ H (i64.wrap A))) fun g=>aM (M6.cG g/\0<=i64.wrap F/\i64.wrap F<=150000/\(2:Nat)*M6.val g<=(2:Nat)^C.toNat) (aD (M6.dg (TSums.aIA (M6.val g) C.toNat)) fun h=>aD (M6.dg (TSums.aIB (M6.val g) C.toNat)) fun i=>aM ((0:Int)<=(1:Int)/\(1:Int)<(18446744073709551616:Int)) (aM (M6.cG G/\G.length<=8192/\0<=i64.wrap F/\i64.wrap F<4611686018427387904) (aD (bif lR.kU (M6.val G) C.toNat then M6.dg (M6.val G*(2:Nat)^C.toNat)else []) fun j=>aW.Jl h i C f j f 0)))))):=eJ aT
theorem tD a b c d e f g:Jl a b c d e f g=letI B:=M6.dg 1;letI A:=i64.wrap ((2:Int)*d)+22;aB (decide (g<f)) (aM (M6.cG a/\M6.cG b/\a.length<=4096/\b.length<=4096/\0<=c/\c<4611686018427387904) (aD (M6.dg (M6.val a*M6.val b/(2:Nat)^c.toNat)) fun h=>aM (M6.cG h/\h.length<=8192/\(0:Int)<=(1:Int)/\(1:Int)<(4611686018427387904:Int)) (aD (bif lR.kU (M6.val h) 1 then M6.dg (M6.val h*2)else []) fun i=>aM (M6.cG a/\M6.cG a/\a.length<=4096/\a.length<=4096/\0<=c/\c<4611686018427387904) (aD (M6.dg (M6.val a*M6.val a/(2:Nat)^c.toNat)) fun j=>aM (M6.cG j/\j.length<=8192/\(0:Int)<=(1:Int)/\(1:Int)<(4611686018427387904:Int)) (aD (bif lR.kU (M6.val j) 1 then M6.dg (M6.val j*2)else []) fun k=>aM (M6.cG e/\M6.cG k/\e.length<=8192/\k.length<=8192) (aD (M6.dg (M6.val e-M6.val k)) fun l=>aW.Jl i l c d e f (i64.wrap (g+1)))))))) (aM ((0:Int)<=(1:Int)/\(1:Int)<(18446744073709551616:Int)) (aM (M6.cG B/\B.length<=8192/\0<=i64.wrap A/\i64.wrap A<4611686018427387904) (aD (bif lR.kU (M6.val B) (i64.wrap A).toNat then M6.dg (M6.val B*(2:Nat)^(i64.wrap A).toNat)else []) fun m=>some [D.s (ints u64 a),D.s (ints u64 b),D.s (ints u64 m),D.s (sc (int i64 c))]))):=lJ aT
def jU(x:Int×Int):Int:=if x.1=0 then 0 else x.2+(bl x.1.natAbs:Nat)-1
def w0(x:Int×Int)(p:Int):Int:=p+80-if 0<jU x then 0 else jU x
def hv(x:Int×Int)(p:Int):Nat:=THalvings.hlv (w0 x p) 200 4
def w1(x:Int×Int)(p:Int):Int:=w0 x p+2*(hv x p:Nat)
def w2(x:Int×Int)(p:Int):Int:=w1 x p+(hv x p:Nat)
def bU(x:Int×Int)(p:Int):Nat:=wU.aSQ x (w1 x p)
def Ef(x:Int×Int)(p:Int):Nat×Nat:=R.It (2^(w2 x p).toNat) (hv x p) (TSums.aIA (bU x p) (w2 x p).toNat) (TSums.aIB (bU x p) (w2 x p).toNat)
def sp(x:gW)(p:Int):Prop×List D:=(aU x/\(1<=p/\p<=70000)/\(-70000<=jU (dv x)/\jU (dv x)<=100)/\bU (dv x) p<=2^(w1 (dv x) p).toNat,
 [.s (.ints .u64 (M6.dg (Ef (dv x) p).1)),.s (.ints .u64 (M6.dg (Ef (dv x) p).2)),.s (.ints .u64 (M6.dg (2^(2*hv (dv x) p+22)))),.s (.sc (.int .i64 (w2 (dv x) p)))])
theorem aCS(w:Int):∀f h,THalvings.hlv w f h<=h+f/\h<=THalvings.hlv w f h
 |0,h=>⟨cBE _,cBE _⟩
 |f+1,h=>by
  unfold THalvings.hlv;have:=aCS w f (h+1);split <;> omega
theorem aML{u W:Nat}(hu:u<=W):∀f k a b c d,a<=k*W->b<=k*W->c<=k*W->d<=k*W ->
  (TSums.tay u W f k a b c d).1<=(k+f)*W/\(TSums.tay u W f k a b c d).2.1<=(k+f)*W
 |0,k,a,b,c,d,ha,hb,_,_=>⟨ha,hb⟩
 |f+1,k,a,b,c,d,ha,hb,hc,hd=>by
  have hs:=TSums.Mn hu k;have e:(k+1)*W=k*W+W:=by rw[cBY,cFI]
  have e2:k*W<=(k+(f+1))*W:=cCT _ (by omega);have e3:k+1+f=k+(f+1):=by omega
  have r:=fun a b c d h1 h2 h3 h4=>e3▸aML hu f (k+1) a b c d h1 h2 h3 h4
  unfold TSums.tay;split
  ·exact⟨cCA ha e2,cCA hb e2⟩
  ·split
   ·exact r _ _ _ _ (by omega) (by omega) (by omega) (by omega)
   ·split
    ·exact r _ _ _ _ (by omega) (by omega) (by omega) (by omega)
    ·split
     ·exact r _ _ _ _ (by omega) (by omega) (by omega) (by omega)
     ·exact r _ _ _ _ (by omega) (by omega) (by omega) (by omega)
theorem L{w:Nat}(hw:w<=150000)(x3:Nat)(h3:x3<=1000):∀(d k s c:Nat),k+d=x3->s<2^(w+20*(k+1))->c<2^(w+18)->k+d<=210 ->
  Jl (M6.dg s) (M6.dg c) w x3 (M6.dg (2^w)) x3 k=some [.s (.ints .u64 (M6.dg (R.It (2^w) d s c).1)),.s (.ints .u64 (M6.dg (R.It (2^w) d s c).2)),.s (.ints .u64 (M6.dg (2^(2*x3+22)))),.s (.sc (.int .i64 w))]
 |0,k,s,c,hk,hs,hc,hb=>by
  have e1:i64.wrap (2*(x3:Int))=2*(x3:Int):=wrap_i64;have e2:i64.wrap (2*(x3:Int)+22)=((2*x3+22:Nat):Int):=by rw[wrap_i64];omega
  have so:lR.kU 1 (2*x3+22)=true:=by
   unfold lR.kU;rw[show bl 1=1 from rfl,decide_eq_true (show 1+(2*x3+22)<=524288 by omega),cHD]
  have l1:(M6.dg 1).length<=8192:=eF.mT (k:=1) (by decide) (by decide);rw[tD,aL,e1,e2];simp only[aG,M6.bD,cFB,so,cond_true,cFI];rw[gP ⟨by decide,by decide⟩,gP ⟨M6.aY _,l1,by omega,by omega⟩];rfl
 |d+1,k,s,c,hk,hs,hc,hb=>by
  have e:i64.wrap ((k:Int)+1)=((k+1:Nat):Int):=by rw[wrap_i64];omega
  have ls:(M6.dg s).length<=4096:=fZ (k:=4096) (cCA (dK.2 hs) (by omega));have lc:(M6.dg c).length<=4096:=fZ (k:=4096) (cCA (dK.2 hc) (by omega));have W0:0<2^w:=cEE (by decide);have b1:s*c/2^w<2^(w+20*(k+1)+18):=by
   apply cGY;have:2^w*2^(w+20*(k+1)+18)=2^(w+20*(k+1))*2^(w+18):=by rw[<-cGE,<-cGE];congr 1;omega
   rw[this];exact cJS hs hc
  have b2:s*s/2^w<2^(w+40*(k+1)):=by
   apply cGY;have:2^w*2^(w+40*(k+1))=2^(w+20*(k+1))*2^(w+20*(k+1)):=by rw[<-cGE,<-cGE];congr 1;omega
   rw[this];exact cJS hs hs
  have so:∀n,bl n<=500000->lR.kU n 1=true:=fun n hn=>by
   unfold lR.kU;rw[decide_eq_true (show bl n+1<=524288 by omega),cHD]
  have f1:=so _ (cCA (dK.2 b1) (by omega));have f2:=so _ (cCA (dK.2 b2) (by omega));have b3:s*s/2^w*2<2^(w+40*(k+1)+1):=by rw[cGD];omega
  have b4:s*c/2^w*2<2^(w+20*(k+1+1)):=by
   have:2^(w+20*(k+1)+18)*2<=2^(w+20*(k+1+1)):=by rw[<-cGD];exact cEF (by decide) (by omega)
   omega
  have b5:2^w-s*s/2^w*2<2^(w+18):=cHT (cHP _ _) (cHX (by decide) (by omega));rw[tD,aN];simp only[aG,M6.bD,cFB,f1,f2,cond_true,e];rw[gP ⟨M6.aY _,M6.aY _,ls,lc,by omega,by omega⟩,gP ⟨M6.aY _,eF.mT b1 (by omega),by decide,by decide⟩,gP ⟨M6.aY _,M6.aY _,ls,ls,by omega,by omega⟩,gP ⟨M6.aY _,eF.mT b2 (by omega),by decide,by decide⟩,
   gP ⟨M6.aY _,M6.aY _,eF.mT (cHX (by decide) (cPI w)) (by omega),eF.mT b3 (by omega)⟩]
  have r:=L hw x3 h3 d (k+1) (s*c/2^w*2) (2^w-s*s/2^w*2) (by omega) b4 b5 (by omega);rw[R.Tb,cGC 2 (s*c/2^w),cGC 2 (s*s/2^w)];exact r
theorem spec:fL E f205 aE kF (pN .i64) sp:=by
 rintro x p ⟨hx,⟨p0,p1⟩,⟨t0,t1⟩,hu⟩;refine(start x.1 x.2.1 x.2.2 p).trans ?_;have he:=hx.2.1;have ha:(dv x).1.natAbs=M6.val x.2.1:=jB (x.1,x.2.1);have hT:(if(dv (x.1,x.2.1,x.2.2)).1=0 then 0 else x.2.2+(bl (M6.val x.2.1):Int)-1)=jU (dv x):=by rw[<-ha];rfl
 have bDY:w0 (dv x) p=p+80-if 0<jU (dv x)then 0 else jU (dv x):=rfl
 have r0:1<=w0 (dv x) p/\w0 (dv x) p<=140080:=by rw[bDY];split <;> omega
 have e1:i64.wrap (p+80)=p+80:=wrap_i64;have e2:i64.wrap (p+80-if 0<jU (dv x)then 0 else jU (dv x))=w0 (dv x) p:=by rw[<-bDY];exact wrap_i64
 have hh:=aCS (w0 (dv x) p) 200 4;have hv0:THalvings.hlv (w0 (dv x) p) 200 4=hv (dv x) p:=rfl;rw[hv0]at hh;have bHS:w1 (dv x) p=w0 (dv x) p+2*((hv (dv x) p:Nat):Int):=rfl;have bKJ:w2 (dv x) p=w1 (dv x) p+((hv (dv x) p:Nat):Int):=rfl;have e3:i64.wrap (2*((hv (dv x) p:Nat):Int))=2*((hv (dv x) p:Nat):Int):=wrap_i64;have e4:i64.wrap (w0 (dv x) p+2*((hv (dv x) p:Nat):Int))=w1 (dv x) p:=by rw[bHS];exact wrap_i64
 have e5:i64.wrap (w1 (dv x) p+((hv (dv x) p:Nat):Int))=w2 (dv x) p:=by rw[bKJ];exact wrap_i64
 have hU:wU.aSQ (dv x) (w1 (dv x) p)=bU (dv x) p:=rfl;have aZZ:(x.1,x.2.1,x.2.2)=x:=rfl;simp only[hT,aG,e1,e2,hv0,e3,e4,e5,aZZ,M6.bD,hU];obtain⟨w,hw⟩:=cGG (show 0<=w2 (dv x) p by omega);have bZD:2*bU (dv x) p<=2^w:=by
  have:2^(w1 (dv x) p).toNat*2<=2^w:=by rw[<-cGD];exact cEF (by decide) (by omega)
  omega
 have so:lR.kU 1 w=true:=by
  unfold lR.kU;rw[show bl 1=1 from rfl,decide_eq_true (show 1+w<=524288 by omega),cHD]
 have l1:(M6.dg 1).length<=8192:=eF.mT (k:=1) (by decide) (by decide);have aOW:0<=x.2.2+w1 (dv x) p->fit ((dv x).1.natAbs*2^(x.2.2+w1 (dv x) p).toNat)=true:=fun hc=>by
  have:bU (dv x) p=(dv x).1.natAbs*2^(x.2.2+w1 (dv x) p).toNat:=by
   rw[<-hU];unfold wU.aSQ;exact if_pos hc
  rw[<-this];exact decide_eq_true (cCA (dK.2 (cHT hu (cHX (by decide) (cPI _)))) (by omega))
 unfold sp Ef;dsimp only;have hwb:w<=141000:=by omega
 rw[hw];rw[cFB,so,cond_true,cFI];rw[gP hx,gP,gP ⟨hx,by omega,by omega,aOW⟩,gP ⟨M6.aY _,by omega,by omega,bZD⟩,gP ⟨by decide,by decide⟩,gP ⟨M6.aY _,l1,by omega,by omega⟩];obtain⟨g1,g2⟩:=aML (u:=bU (dv x) p) (W:=2^w) (by omega) (w+1) 0 0 0 0 0 (by omega) (by omega) (by omega) (by omega);have pw:(0+(w+1))*2^w<2^(w+18):=by
  rw[cGE,cGC];exact cPK (by omega) (cEE (by decide))
 have hs:TSums.aIA (bU (dv x) p) w<2^(w+18):=cHT (cCA (cHP _ _) g2) pw;have hc:TSums.aIB (bU (dv x) p) w<2^(w+18):=cHT (cCA (cHP _ _) g1) pw;exact L (by omega) (hv (dv x) p) (by omega) (hv (dv x) p) 0 _ _ (by omega) (cCB hs (cEF (by decide) (by omega))) hc (by omega)
def aI:dJ:=orc2 kF (pN .i64) sp
theorem ok:OK 205 aI:=(eB E aE (aA Ct.ok (aA THalvings.ok (aA wU.ok (aA TSums.ok (aA lR.ok (aA pS.ok (aA Pn.ok (aA vY.ok aC)))))))) func205).lF rfl spec
end aW
namespace aAW
def E:=mE [(239,Cu.aI),(45,nA.aI),(240,cV.aI)] 25 [22] [] []
def aE:=bd f209
theorem aT:Nk E aE:=nk
theorem start a d e b c:aF E f209 aE [D.agg [sc (bool a),ints u64 d,sc (int i64 e)],D.s (sc (int i64 b)),D.s (sc (bool c))]=letI A:=cV.oY c (wv (a,d)) e b;letI B:=bif iQ A.fst A.snd then aR A.fst A.snd else((0:Int),(0:Int));aM True (aD (decide (1<=b)&&decide (b<=70000)) fun f=>aB (!f) (some [D.agg [sc (bool false),sc (slice none 0 0),sc (int i64 0)],D.s (sc (int i64 1))]) (aM (aU (a,d,e)) (aM (iE (a,d)/\((-4611686018427387904:Int)<=e/\e<4611686018427387904)/\1<=b/\b<=70000) (aD (isNeg B.fst) fun g=>aD (M6.dg B.fst.natAbs) fun h=>aD B.snd fun i=>aD (bif iQ A.fst A.snd then(0:Int)else(5:Int)) fun j=>some [D.agg [sc (bool g),ints u64 h,sc (int i64 i)],D.s (sc (int i64 j))])))):=eJ aT
def sp(x:gW)(p:Int)(up:Bool):Prop×List D:=(aU x/\1<=p/\p<=70000,dE (iQ (cV.oY up (dv x).1 (dv x).2 p).1 (cV.oY up (dv x).1 (dv x).2 p).2) (aR (cV.oY up (dv x).1 (dv x).2 p).1 (cV.oY up (dv x).1 (dv x).2 p).2))
theorem spec:oO E f209 aE kF (pN .i64) pB sp:=by
 rintro x p up ⟨hx,h1,h2⟩;have he:=hx.2.1;refine(start x.1 x.2.1 x.2.2 p up).trans ?_;simp only[aG];rw[gP trivial,decide_eq_true h1,decide_eq_true h2,cEG,cDE,bF,gP hx,gP ⟨hx.Fo,⟨by omega,by omega⟩,h1,h2⟩];rfl
def aI:dJ:=orc3 kF (pN .i64) pB sp
theorem ok:OK 209 aI:=(eB E aE (aA Cu.ok (aA nA.ok (aA cV.ok aC))) func209).xX rfl spec
end aAW
namespace Qe
def E:=mE [(209,aAW.aI)] 11 [8] [] []
def aE:=bd f162
theorem aT:Nk E aE:=nk
theorem start a c d b:aF E f162 aE [D.agg [sc (bool a),ints u64 c,sc (int i64 d)],D.s (sc (int i64 b))]=letI A:=cV.oY false (dv (a,c,d)).fst (dv (a,c,d)).snd b;letI B:=bif iQ A.fst A.snd then aR A.fst A.snd else((0:Int),(0:Int));aM (aU (a,c,d)/\1<=b/\b<=70000) (some [D.agg [sc (bool (isNeg B.fst)),ints u64 (M6.dg B.fst.natAbs),sc (int i64 B.snd)],D.s (sc (int i64 (bif iQ A.fst A.snd then(0:Int)else(5:Int))))]):=eJ aT
def sp(x:gW)(p:Int):Prop×List D:=(aU x/\1<=p/\p<=70000,dE (iQ (cV.oY false (dv x).1 (dv x).2 p).1 (cV.oY false (dv x).1 (dv x).2 p).2) (aR (cV.oY false (dv x).1 (dv x).2 p).1 (cV.oY false (dv x).1 (dv x).2 p).2))
theorem spec:fL E f162 aE kF (pN .i64) sp:=by
 intro x p h;refine(start x.1 x.2.1 x.2.2 p).trans ((gP h).trans ?_);rfl
def aI:dJ:=orc2 kF (pN .i64) sp
theorem ok:OK 162 aI:=(eB E aE (aA aAW.ok aC) func162).lF rfl spec
end Qe
namespace bDC
def E:=mE [(209,aAW.aI)] 11 [8] [] []
def aE:=bd f163
theorem aT:Nk E aE:=nk
theorem start a c d b:aF E f163 aE [D.agg [sc (bool a),ints u64 c,sc (int i64 d)],D.s (sc (int i64 b))]=letI A:=cV.oY true (dv (a,c,d)).fst (dv (a,c,d)).snd b;letI B:=bif iQ A.fst A.snd then aR A.fst A.snd else((0:Int),(0:Int));aM (aU (a,c,d)/\1<=b/\b<=70000) (some [D.agg [sc (bool (isNeg B.fst)),ints u64 (M6.dg B.fst.natAbs),sc (int i64 B.snd)],D.s (sc (int i64 (bif iQ A.fst A.snd then(0:Int)else(5:Int))))]):=eJ aT
def sp(x:gW)(p:Int):Prop×List D:=(aU x/\1<=p/\p<=70000,dE (iQ (cV.oY true (dv x).1 (dv x).2 p).1 (cV.oY true (dv x).1 (dv x).2 p).2) (aR (cV.oY true (dv x).1 (dv x).2 p).1 (cV.oY true (dv x).1 (dv x).2 p).2))
theorem spec:fL E f163 aE kF (pN .i64) sp:=by
 intro x p h;refine(start x.1 x.2.1 x.2.2 p).trans ((gP h).trans ?_);rfl
def aI:dJ:=orc2 kF (pN .i64) sp
theorem ok:OK 163 aI:=(eB E aE (aA aAW.ok aC) func163).lF rfl spec
end bDC
namespace bP
def E:=mE [(102,vY.aI),(100,wA.aI),(50,kG.aI),(162,Qe.aI),(163,bDC.aI),(158,Kt.aI),(14,aRZ.aI)] 71 [] [] []
def aE:=bd f206
theorem aT:Nk E aE:=nk
theorem start a b c d:aF E f206 aE [D.s (ints u64 a),D.s (ints u64 b),D.s (sc (int i64 c)),D.s (sc (int i64 d))]=letI P:=M6.val a+M6.val b;letI N:=aR 1 0;letI O:=M6.dg N.fst.natAbs;letI K:=M6.cG a/\M6.cG b/\a.length<=8192/\b.length<=8192;letI I:=i64.wrap ((0:Int)-c);aM K (aD (M6.dg (M6.val a-M6.val b)) fun e=>letI C:=bif iQ (wv (false,e)) I then aR (wv (false,e)) I else((0:Int),(0:Int));aM K (aD (bif dM.nT P then M6.dg P else []) fun f=>letI F:=bif iQ (wv (false,f)) I then aR (wv (false,f)) I else((0:Int),(0:Int));aM (iE (false,e)/\(-9223372036854775808:Int)<=i64.wrap ((0:Int)-c)/\i64.wrap ((0:Int)-c)<9223372036854775808) (aD (isNeg C.fst) fun g=>aD (M6.dg C.fst.natAbs) fun h=>aD C.snd fun i=>letI A:=cV.oY false (dv (g,h,i)).fst (dv (g,h,i)).snd d;letI G:=bif iQ A.fst A.snd then aR A.fst A.snd else((0:Int),(0:Int));aM (iE (false,f)/\(-9223372036854775808:Int)<=i64.wrap ((0:Int)-c)/\i64.wrap ((0:Int)-c)<9223372036854775808) (aD (isNeg F.fst) fun j=>aD (M6.dg F.fst.natAbs) fun k=>aD F.snd fun l=>letI B:=cV.oY true (dv (j,k,l)).fst (dv (j,k,l)).snd d;letI H:=bif iQ B.fst B.snd then aR B.fst B.snd else((0:Int),(0:Int));aM (aU (g,h,i)/\1<=d/\d<=70000) (aD (isNeg G.fst) fun m=>aD (M6.dg G.fst.natAbs) fun n=>aD G.snd fun o=>aM (aU (j,k,l)/\1<=d/\d<=70000) (aD (isNeg H.fst) fun p=>aD (M6.dg H.fst.natAbs) fun q=>aD H.snd fun r=>aM ((-9223372036854775808:Int)<=(1:Int)/\(1:Int)<(9223372036854775808:Int)) (aD (isNeg N.fst) fun s=>aD O fun t=>aD N.snd fun u=>aM (aU (p,q,r)/\aU (s,t,u)) (aD (lI (bS.oG (dv (p,q,r)) (dv (s,t,u))) (bS.oF (dv (p,q,r)) (dv (s,t,u)))) fun v=>aB (decide (0<v)) (aM ((-9223372036854775808:Int)<=(1:Int)/\(1:Int)<(9223372036854775808:Int)) (aD (isNeg N.fst) fun w=>aD O fun x=>aD N.snd fun y=>some [D.agg [sc (bool m),ints u64 n,sc (int i64 o),sc (bool w),ints u64 x,sc (int i64 y)]])) (some [D.agg [sc (bool m),ints u64 n,sc (int i64 o),sc (bool p),ints u64 q,sc (int i64 r)]]))))))))):=eJ aT
def Kr(a f:Nat)(w:Int):Int×Int:=aR ((a-f:Nat):Int) (-w)
def Ej(a f:Nat)(w:Int):Int×Int:=aR ((a+f:Nat):Int) (-w)
def zN(p:Int×Int):Int×Int:=bif decide (0<eR p (1,0))then(1,0)else p
def sp(a f:List Int)(w q:Int):Prop×List D:=(M6.cG a/\M6.cG f/\bl (M6.val a)<=500000/\bl (M6.val f)<=500000/\(0<=w/\w<=500000)/\(1<=q/\q<=70000)/\yR false (Kr (M6.val a) (M6.val f) w) q=true/\yR true (Ej (M6.val a) (M6.val f) w) q=true/\kT (shD true (Ej (M6.val a) (M6.val f) w) q),
 [wZ (shD false (Kr (M6.val a) (M6.val f) w) q) (zN (shD true (Ej (M6.val a) (M6.val f) w) q))])
theorem spec:Rr E f206 aE (pI .u64) (pI .u64) (pN .i64) (pN .i64) sp:=by
 rintro a f w q ⟨ha,hf,ba,bf,⟨w0,w1⟩,⟨q0,q1⟩,i1,i2,pu⟩;refine(start a f w q).trans ?_;have la:a.length<=8192:=by
  have e:M6.dg (M6.val a)=a:=by first |exact ha |exact Eq.symm ha
  rw[<-e];exact fZ (k:=8192) (by omega)
 have lf:f.length<=8192:=by
  have e:M6.dg (M6.val f)=f:=by first |exact hf |exact Eq.symm hf
  rw[<-e];exact fZ (k:=8192) (by omega)
 have vN:∀n:Nat,wv (false,M6.dg n)=(n:Int):=fun n=>by show(M6.val (M6.dg n):Int)=n;rw[M6.bD]
 have wN:∀n:Nat,bl n<=524288->iE (false,M6.dg n):=fun n hn=>by
  have:=gN (z:=(n:Int)) (by rw[cGW];exact hn);rw[iH.2 (by omega),cGW]at this;exact this
 have bs:bl (M6.val a-M6.val f)<=500000:=cCA (gF (cHP _ _)) ba;have bt:bl (M6.val a+M6.val f)<=500001:=by
  have h1:=dK.1 ba;have h2:=dK.1 bf;refine dK.2 ?_;rw[cGD 2 500000];generalize 2^500000=Q at *;omega
 have ok:dM.nT (M6.val a+M6.val f)=true:=decide_eq_true (fZ (k:=8192) (by omega));have ew:i64.wrap (0-w)=-w:=by rw[wrap_i64];omega
 have j1:iQ ((M6.val a-M6.val f:Nat):Int) (-w)=true:=iM (by omega) (by rw[cGW];omega);have j2:iQ ((M6.val a+M6.val f:Nat):Int) (-w)=true:=iM (by omega) (by rw[cGW];omega);have p1:kT (Kr (M6.val a) (M6.val f) w):=iF j1 (by rw[cGW];omega);have p2:kT (Ej (M6.val a) (M6.val f) w):=iF j2 (by rw[cGW];omega);have c1:=dY (Kr (M6.val a) (M6.val f) w);have c2:=dY (Ej (M6.val a) (M6.val f) w);have n1:aR 1 0=(1,0):=by decide +kernel
 have pn:kT (1,0):=⟨by decide +kernel,⟨by decide,by decide⟩,fun h=>absurd h (by decide),fun _=>by decide⟩;have d1:=dV pn;have v1:=dY ((1,0):Int×Int);rw[gP ⟨ha,hf,la,lf⟩,aG,gP ⟨ha,hf,la,lf⟩];simp only[aG,ok,cond_true,vN,ew,j1,j2,n1];rw[gP ⟨wN _ (by omega),by omega,by omega⟩,gP ⟨wN _ (by omega),by omega,by omega⟩];have eL:aR ((M6.val a-M6.val f:Nat):Int) (-w)=Kr (M6.val a) (M6.val f) w:=rfl;have eH:aR ((M6.val a+M6.val f:Nat):Int) (-w)=Ej (M6.val a) (M6.val f) w:=rfl;unfold sp zN;dsimp only;rw[eL,eH];generalize Kr (M6.val a) (M6.val f) w=L at *;generalize Ej (M6.val a) (M6.val f) w=H at *;have bLZ:iQ (cV.oY false L.1 L.2 q).1 (cV.oY false L.1 L.2 q).2=true:=i1;have bLY:iQ (cV.oY true H.1 H.2 q).1 (cV.oY true H.1 H.2 q).2=true:=i2;have cu:=dY (shD true H q);have du:=dV pu;have eU:aR (cV.oY true H.1 H.2 q).1 (cV.oY true H.1 H.2 q).2=shD true H q:=rfl;have eD:aR (cV.oY false L.1 L.2 q).1 (cV.oY false L.1 L.2 q).2=shD false L q:=rfl;simp only[c1,c2,bLZ,bLY,cond_true,eU,eD,cu,v1];rw[gP ⟨dV p1,q0,q1⟩,gP ⟨dV p2,q0,q1⟩,gP ⟨by decide,by decide⟩,gP ⟨du,d1⟩];show aB (decide (0<eR (shD true H q) (1,0))) _ _=_
 by_cases g:0<eR (shD true H q) (1,0)
 ·rw[aN g,decide_eq_true g,cond_true,gP ⟨by decide,by decide⟩];rfl
 ·rw[aL g,decide_eq_false g,cond_false];rfl
def aI:dJ:=orc4 (pI .u64) (pI .u64) (pN .i64) (pN .i64) sp
theorem ok:OK 206 aI:=(eB E aE (aA vY.ok (aA wA.ok (aA kG.ok (aA Qe.ok (aA bDC.ok (aA Kt.ok (aA aRZ.ok aC))))))) func206).aSJ rfl spec
end bP
namespace bM
def E:=mE [(202,Po.aI),(203,Ct.aI),(50,kG.aI),(51,aKL.aI),(59,Wv.aI),(14,aRZ.aI),(205,aW.aI),(206,bP.aI)] 63 [] [] []
def aE:=bd f160
theorem aT:Nk E aE:=nk
theorem start a c d b:aF E f160 aE [D.agg [sc (bool a),ints u64 c,sc (int i64 d)],D.s (sc (int i64 b))]=letI Q:=wv (isNeg 1,M6.dg (cLG 1));letI N:=i64.wrap (b+32);letI I:=i64.wrap ((0:Int)-b)-3;letI H:=dv (a,c,d);letI G:=aR 1 0;letI T:=isNeg G.fst;letI K:=M6.dg G.fst.natAbs;letI A:=bif iQ Q (i64.wrap I)then aR Q (i64.wrap I)else((0:Int),(0:Int));aB ((c.length:Int)==(0:Int)) (aM ((-1000000:Int)<=(1:Int)/\(1:Int)<=(1000000:Int)) (aD T fun e=>aD K fun f=>aD G.snd fun g=>aD T fun h=>aD K fun i=>aD G.snd fun j=>some [D.agg [sc (bool e),ints u64 f,sc (int i64 g),sc (bool h),ints u64 i,sc (int i64 j)]])) (aM (aU (a,c,d)) (aD (if H.fst=0 then(0:Int)else d+(↑(bl (M6.val c)):Int)-(1:Int)) fun k=>aB (decide (i64.wrap (i64.wrap ((2:Int)*k)+8)<i64.wrap ((0:Int)-b))) (aM ((-9223372036854775808:Int)<=(1:Int)/\(1:Int)<(9223372036854775808:Int)) (aM (iE (isNeg 1,M6.dg 1)/\(-9223372036854775808:Int)<=i64.wrap I/\i64.wrap I<9223372036854775808) (aD (isNeg A.fst) fun l=>aD (M6.dg A.fst.natAbs) fun m=>aD A.snd fun n=>letI U:=dv (l,m,n);aM ((-9223372036854775808:Int)<=(1:Int)/\(1:Int)<(9223372036854775808:Int)) (aD T fun o=>aD K fun p=>aD G.snd fun q=>letI B:=bif bS.lA (dv (o,p,q)) (-U.fst,U.snd)then bS.oN (dv (o,p,q)) (-U.fst,U.snd)else((0:Int),(0:Int));aM (aU (o,p,q)/\aU (l,m,n)) (aD (isNeg B.fst) fun r=>aD (M6.dg B.fst.natAbs) fun s=>aD B.snd fun t=>aM ((-9223372036854775808:Int)<=(1:Int)/\(1:Int)<(9223372036854775808:Int)) (aD T fun u=>aD K fun v=>aD G.snd fun w=>some [D.agg [sc (bool r),ints u64 s,sc (int i64 t),sc (bool u),ints u64 v,sc (int i64 w)]])))))) (aM (aU (a,c,d)/\(1<=b/\b<=70000)/\((-70000:Int)<=aW.jU H/\aW.jU H<=100)/\aW.bU H b<=(2:Nat)^(aW.w1 H b).toNat) (aD (M6.dg (aW.Ef H b).snd) fun x=>aD (M6.dg ((2:Nat)^((2:Nat)*aW.hv H b+22))) fun y=>aD (aW.w2 H b) fun z=>letI P:=bP.Ej (M6.val x) (M6.val y) z;letI O:=bP.Kr (M6.val x) (M6.val y) z;letI F:=M.shD false O N;letI C:=M.shD true P N;letI W:=bP.zN C;aM (M6.cG x/\M6.cG y/\bl (M6.val x)<=500000/\bl (M6.val y)<=500000/\(0<=z/\z<=500000)/\(1<=i64.wrap (b+32)/\i64.wrap (b+32)<=70000)/\yR false O N=true/\yR true P N=true/\kT C) (aD (isNeg F.fst) fun aa=>aD (M6.dg F.fst.natAbs) fun ab=>aD F.snd fun ac=>aD (isNeg W.fst) fun ad=>aD (M6.dg W.fst.natAbs) fun ae=>aD W.snd fun af=>some [D.agg [sc (bool aa),ints u64 ab,sc (int i64 ac),sc (bool ad),ints u64 ae,sc (int i64 af)]]))))):=eJ aT
def tT(x:Int×Int)(p:Int):Int×Int:=if x.1=0 then(1,0)else if 2*aW.jU x+8 < -p then bS.oN (1,0) (-1,-p-3)else shD false (bP.Kr (aW.Ef x p).2 (2^(2*aW.hv x p+22)) (aW.w2 x p)) (p+32)
def sZ(x:Int×Int)(p:Int):Int×Int:=if x.1=0 then(1,0)else if 2*aW.jU x+8 < -p then(1,0)else bP.zN (shD true (bP.Ej (aW.Ef x p).2 (2^(2*aW.hv x p+22)) (aW.w2 x p)) (p+32))
def Vw(x:Int×Int)(p:Int):Prop:=(-70000<=aW.jU x/\aW.jU x<=100)/\aW.bU x p<=2^(aW.w1 x p).toNat
def aRE(a f:Nat)(w q:Int):Prop:=bl a<=500000/\bl f<=500000/\(0<=w/\w<=500000)/\yR false (bP.Kr a f w) q=true/\yR true (bP.Ej a f w) q=true/\kT (shD true (bP.Ej a f w) q)
def aJX(x:gW)(p:Int):Prop:=aU x/\(1<=p/\p<=67100)/\((dv x).1≠0->-600000<=aW.jU (dv x)/\(2*aW.jU (dv x)+8 < -p->bS.lA (1,0) (-1,-p-3)=true) /\
 (¬2*aW.jU (dv x)+8 < -p->Vw (dv x) p/\aRE (aW.Ef (dv x) p).2 (2^(2*aW.hv (dv x) p+22)) (aW.w2 (dv x) p) (p+32)))
def sp(x:gW)(p:Int):Prop×List D:=(aJX x p,
 [wZ (tT (dv x) p) (sZ (dv x) p)])
theorem spec:fL E f160 aE kF (pN .i64) sp:=by
 rintro x p ⟨hx,⟨p0,p1⟩,h⟩;refine(start x.1 x.2.1 x.2.2 p).trans ?_;have hz:=M6.cZ hx.Kk;have hl:=hx.len;have he:=hx.2.1;have ha:(dv x).1.natAbs=M6.val x.2.1:=jB (x.1,x.2.1);have aZZ:(x.1,x.2.1,x.2.2)=x:=rfl;have n1:aR 1 0=(1,0):=by decide +kernel
 have v1:wv (isNeg 1,M6.dg (cLG 1))=1:=oI 1;have hT:(if(dv x).1=0 then 0 else x.2.2+(bl (M6.val x.2.1):Int)-1)=aW.jU (dv x):=by rw[<-ha];rfl
 have k1:iE (isNeg 1,M6.dg 1):=gN (z:=1) (by decide +kernel);have pn:kT (1,0):=⟨by decide +kernel,⟨by decide,by decide⟩,fun h=>absurd h (by decide),fun _=>by decide⟩;unfold sp tT sZ;dsimp only
 by_cases c0:(dv x).1=0
 ·rw[bI (by have:=hz.2 (by omega);omega),gP ⟨by decide,by decide⟩,if_pos c0,if_pos c0];simp only[aG,n1];rfl
 ·obtain⟨t0,hA,hB⟩:=h c0;have tt:=hx.xF.top;have l0:x.2.1.length≠0:=fun hc=>c0 (by have:=hz.1 hc;omega)
  simp only[aZZ,hT,aG,n1,v1];rw[bA,if_neg c0,if_neg c0];have tU:aW.jU (dv x)<=1572864:=by unfold aW.jU;rw[if_neg c0];exact tt.2
  have w1:i64.wrap (i64.wrap (2*aW.jU (dv x))+8)=2*aW.jU (dv x)+8:=by rw[wrap_i64 (n:=2*aW.jU (dv x)),wrap_i64]
  have w2:i64.wrap (0-p)=-p:=by rw[wrap_i64];omega
  have w3:i64.wrap (-p-3)=-p-3:=wrap_i64;have w4:i64.wrap (p+32)=p+32:=wrap_i64;simp only[w1,w2,w3,w4];rw[gP hx]
  by_cases c1:2*aW.jU (dv x)+8 < -p
  ·have b1:bl (cLG 1)=1:=rfl;have i1:iQ 1 (-p-3)=true:=iM (by omega) (by rw[b1];omega);have m1:aR 1 (-p-3)=(1,-p-3):=by
    unfold aR;rw[if_neg (by decide),show tz (cLG 1)=0 from by decide +kernel];simp
   have pg:kT (1,-p-3):=m1▸iF i1 (by decide +kernel);have d1:=dV pn;have d2:=dV pg;have e1:=dY ((1,0):Int×Int);have e2:=dY ((1,-p-3):Int×Int);rw[aN c1,if_pos c1,if_pos c1];simp only[i1,m1,cond_true,e1,e2,hA c1];rw[gP ⟨by decide,by decide⟩,gP ⟨k1,by omega,by omega⟩,gP ⟨by decide,by decide⟩,gP ⟨d1,d2⟩,gP ⟨by decide,by decide⟩];rfl
  ·obtain⟨⟨b1,b2⟩,a1,a2,a3,a4,a5,a6⟩:=hB c1;rw[aL c1,if_neg c1,if_neg c1];simp only[M6.bD];rw[gP ⟨hx,⟨by omega,by omega⟩,b1,b2⟩,gP ⟨M6.aY _,M6.aY _,a1,a2,a3,⟨by omega,by omega⟩,a4,a5,a6⟩];rfl
def aI:dJ:=orc2 kF (pN .i64) sp
theorem ok:OK 160 aI:=(eB E aE (aA Po.ok (aA Ct.ok (aA kG.ok (aA aKL.ok (aA Wv.ok (aA aRZ.ok (aA aW.ok (aA bP.ok aC)))))))) func160).lF rfl spec
end bM
namespace lD
def E:=mE [(67,wV.aI),(68,aSA.aI)] 27 [] [] []
def aE:=bd f20
theorem aT:Nk E aE:=nk
theorem start a b c d e f:aF E f20 aE [D.agg [sc (bool a),ints u64 b,sc (int i64 c),sc (bool d),ints u64 e,sc (int i64 f)]]=letI B:=dv (a,b,c);letI A:=dv (d,e,f);aM (fA (a,b,c,d,e,f)) (aM (aU (d,e,f)) (aD (isNeg (-A.fst)) fun g=>aD (M6.dg (-A.fst).natAbs) fun h=>aD A.snd fun i=>aM (aU (a,b,c)) (aD (isNeg (-B.fst)) fun j=>aD (M6.dg (-B.fst).natAbs) fun k=>aD B.snd fun l=>some [D.agg [sc (bool g),ints u64 h,sc (int i64 i),sc (bool j),ints u64 k,sc (int i64 l)],D.s (sc (int i64 0))]))):=eJ aT
def yC(p:Int×Int):Int×Int:=(-p.1,p.2)
def sp(s:yN):Prop×List D:=(fA s,[wZ (yC (dv (iS s))) (yC (dv (iR s))),.s (.sc (.int .i64 0))])
theorem spec:iU E f20 aE Ab sp:=by
 intro s h;have h:fA s:=h;have hL:aU (s.1,s.2.1,s.2.2.1):=h.1;have hH:aU (s.2.2.2.1,s.2.2.2.2.1,s.2.2.2.2.2):=h.2.1;refine(start s.1 s.2.1 s.2.2.1 s.2.2.2.1 s.2.2.2.2.1 s.2.2.2.2.2).trans ?_;simp only[aG];rw[gP h,gP hH]
 (try simp only[aG])
 rw[gP hL];rfl
def aI:dJ:=orc1 Ab sp
theorem ok:OK 20 aI:=(eB E aE (aA wV.ok (aA aSA.ok aC)) func20).oS rfl spec
end lD
namespace Jh
def E:=mE [(20,lD.aI)] 12 [] [] []
def aE:=bd f204
theorem aT:Nk E aE:=nk
theorem start a c d e f g b:aF E f204 aE [D.agg [sc (bool a),ints u64 c,sc (int i64 d),sc (bool e),ints u64 f,sc (int i64 g)],D.s (sc (bool b))]=letI A:=(a,c,d,e,f,g);letI C:=dv (iR A);letI B:=dv (iS A);aB b (aM (fA A) (some [D.agg [sc (bool (isNeg (-B.fst))),ints u64 (M6.dg (-B.fst).natAbs),sc (int i64 B.snd),sc (bool (isNeg (-C.fst))),ints u64 (M6.dg (-C.fst).natAbs),sc (int i64 C.snd)]])) (some [D.agg [sc (bool a),ints u64 c,sc (int i64 d),sc (bool e),ints u64 f,sc (int i64 g)]]):=eJ aT
def sp(s:yN)(b:Bool):Prop×List D:=(fA s,[wZ (bif b then lD.yC (dv (iS s))else dv (iR s)) (bif b then lD.yC (dv (iR s))else dv (iS s))])
theorem spec:fL E f204 aE Ab pB sp:=by
 intro s b h;have h:fA s:=id h;refine(start s.1 s.2.1 s.2.2.1 s.2.2.2.1 s.2.2.2.2.1 s.2.2.2.2.2 b).trans ?_;unfold sp;cases b with
 |true =>
  show aM _ _=_;have h':fA (s.1,s.2.1,s.2.2.1,s.2.2.2.1,s.2.2.2.2.1,s.2.2.2.2.2):=h;rw[gP h'];rfl
 |false =>
  dsimp only[cond_false];rw[h.wZ]
def aI:dJ:=orc2 Ab pB sp
theorem ok:OK 204 aI:=(eB E aE (aA lD.ok aC) func204).lF rfl spec
end Jh
namespace fU
def E:=mE [(202,Po.aI),(203,Ct.aI),(163,bDC.aI),(162,Qe.aI),(50,kG.aI),(51,aKL.aI),(59,Wv.aI),(204,Jh.aI),(205,aW.aI),(206,bP.aI)] 92 [] [] []
def aE:=bd f157
theorem aT:Nk E aE:=nk
theorem start a c d b:aF E f157 aE [D.agg [sc (bool a),ints u64 c,sc (int i64 d)],D.s (sc (int i64 b))]=letI F1:=wv (isNeg 1,M6.dg (cLG 1));letI B1:=aR 0 0;letI I1:=M6.dg B1.fst.natAbs;letI A1:=dv (false,c,d);letI X:=aU (false,c,d)/\1<=i64.wrap (b+32)/\i64.wrap (b+32)<=70000;letI W:=dv (a,c,d);letI U:=i64.wrap (b+32);letI B:=cV.oY true A1.fst A1.snd U;letI O:=bif iQ B.fst B.snd then aR B.fst B.snd else((0:Int),(0:Int));letI A:=cV.oY false A1.fst A1.snd U;letI P:=bif iQ A.fst A.snd then aR A.fst A.snd else((0:Int),(0:Int));aB ((c.length:Int)==(0:Int)) (aM ((-1000000:Int)<=(0:Int)/\(0:Int)<=(1000000:Int)) (aD (isNeg B1.fst) fun e=>aD I1 fun f=>aD B1.snd fun g=>aD (isNeg B1.fst) fun h=>aD I1 fun i=>aD B1.snd fun j=>some [D.agg [sc (bool e),ints u64 f,sc (int i64 g),sc (bool h),ints u64 i,sc (int i64 j)]])) (aM (aU (a,c,d)) (aD (if W.fst=0 then(0:Int)else d+(↑(bl (M6.val c)):Int)-(1:Int)) fun k=>letI Y:=i64.wrap (k-b)-3;letI C:=bif iQ F1 (i64.wrap Y)then aR F1 (i64.wrap Y)else((0:Int),(0:Int));aB (decide (i64.wrap (i64.wrap ((2:Int)*k)+8)<i64.wrap ((0:Int)-b))) (aM X (aD (isNeg O.fst) fun l=>aD (M6.dg O.fst.natAbs) fun m=>aD O.snd fun n=>aM X (aD (isNeg P.fst) fun o=>aD (M6.dg P.fst.natAbs) fun p=>aD P.snd fun q=>aM ((-9223372036854775808:Int)<=(1:Int)/\(1:Int)<(9223372036854775808:Int)) (aM (iE (isNeg 1,M6.dg 1)/\(-9223372036854775808:Int)<=i64.wrap Y/\i64.wrap Y<9223372036854775808) (aD (isNeg C.fst) fun r=>aD (M6.dg C.fst.natAbs) fun s=>aD C.snd fun t=>letI G1:=dv (r,s,t);letI F:=bif bS.lA (dv (o,p,q)) (-G1.fst,G1.snd)then bS.oN (dv (o,p,q)) (-G1.fst,G1.snd)else((0:Int),(0:Int));aM (aU (o,p,q)/\aU (r,s,t)) (aD (isNeg F.fst) fun u=>aD (M6.dg F.fst.natAbs) fun v=>aD F.snd fun w=>letI Z:=(u,v,w,l,m,n);letI K:=bif a then lD.yC (dv (iR Z))else dv (iS Z);letI I:=bif a then lD.yC (dv (iS Z))else dv (iR Z);aM (fA Z) (aD (isNeg I.fst) fun x=>aD (M6.dg I.fst.natAbs) fun y=>aD I.snd fun z=>aD (isNeg K.fst) fun aa=>aD (M6.dg K.fst.natAbs) fun ab=>aD K.snd fun ac=>some [D.agg [sc (bool x),ints u64 y,sc (int i64 z),sc (bool aa),ints u64 ab,sc (int i64 ac)]]))))))) (aM (aU (a,c,d)/\(1<=b/\b<=70000)/\((-70000:Int)<=aW.jU W/\aW.jU W<=100)/\aW.bU W b<=(2:Nat)^(aW.w1 W b).toNat) (aD (M6.dg (aW.Ef W b).fst) fun ad=>letI K1:=M6.val ad;aD (M6.dg ((2:Nat)^((2:Nat)*aW.hv W b+22))) fun ae=>letI N1:=M6.val ae;aD (aW.w2 W b) fun af=>letI D1:=bP.Ej K1 N1 af;letI C1:=bP.Kr K1 N1 af;letI N:=M.shD false C1 U;letI G:=M.shD true D1 U;letI H1:=bP.zN G;aM (M6.cG ad/\M6.cG ae/\bl K1<=500000/\bl N1<=500000/\(0<=af/\af<=500000)/\(1<=i64.wrap (b+32)/\i64.wrap (b+32)<=70000)/\yR false C1 U=true/\yR true D1 U=true/\kT G) (aD (isNeg N.fst) fun ag=>aD (M6.dg N.fst.natAbs) fun ah=>aD N.snd fun ai=>aD (isNeg H1.fst) fun aj=>aD (M6.dg H1.fst.natAbs) fun ak=>aD H1.snd fun al=>letI H:=(ag,ah,ai,aj,ak,al);letI T:=bif a then lD.yC (dv (iR H))else dv (iS H);letI Q:=bif a then lD.yC (dv (iS H))else dv (iR H);aM (fA H) (aD (isNeg Q.fst) fun am=>aD (M6.dg Q.fst.natAbs) fun an=>aD Q.snd fun ao=>aD (isNeg T.fst) fun ap=>aD (M6.dg T.fst.natAbs) fun aq=>aD T.snd fun ar=>some [D.agg [sc (bool am),ints u64 an,sc (int i64 ao),sc (bool ap),ints u64 aq,sc (int i64 ar)]])))))):=eJ aT
def vO(x:Int×Int)(p:Int):Int×Int:=if 2*aW.jU x+8 < -p then bS.oN (shD false ((x.1.natAbs:Int),x.2) (p+32)) (-1,aW.jU x-p-3)else shD false (bP.Kr (aW.Ef x p).1 (2^(2*aW.hv x p+22)) (aW.w2 x p)) (p+32)
def uF(x:Int×Int)(p:Int):Int×Int:=if 2*aW.jU x+8 < -p then shD true ((x.1.natAbs:Int),x.2) (p+32)else bP.zN (shD true (bP.Ej (aW.Ef x p).1 (2^(2*aW.hv x p+22)) (aW.w2 x p)) (p+32))
def Mr(x:Int×Int)(p:Int):Int×Int:=if x.1=0 then(0,0)else bif isNeg x.1 then lD.yC (uF x p)else vO x p
def Ms(x:Int×Int)(p:Int):Int×Int:=if x.1=0 then(0,0)else bif isNeg x.1 then lD.yC (vO x p)else uF x p
def aTH(x:gW)(p:Int):Prop:=aU x/\(1<=p/\p<=67100)/\((dv x).1≠0->-600000<=aW.jU (dv x)/\kT (vO (dv x) p)/\kT (uF (dv x) p)/\eR (vO (dv x) p) (uF (dv x) p)<=0 /\
 (2*aW.jU (dv x)+8 < -p->yR true ((((dv x).1.natAbs:Nat):Int),(dv x).2) (p+32)=true/\yR false ((((dv x).1.natAbs:Nat):Int),(dv x).2) (p+32)=true/\kT (shD false ((((dv x).1.natAbs:Nat):Int),(dv x).2) (p+32))/\bS.lA (shD false ((((dv x).1.natAbs:Nat):Int),(dv x).2) (p+32)) (-1,aW.jU (dv x)-p-3)=true) /\
 (¬2*aW.jU (dv x)+8 < -p->bM.Vw (dv x) p/\bM.aRE (aW.Ef (dv x) p).1 (2^(2*aW.hv (dv x) p+22)) (aW.w2 (dv x) p) (p+32)))
def sp(x:gW)(p:Int):Prop×List D:=(aTH x p,
 [wZ (Mr (dv x) p) (Ms (dv x) p)])
theorem spec:fL E f157 aE kF (pN .i64) sp:=by
 rintro x p ⟨hx,⟨p0,p1⟩,h⟩;refine(start x.1 x.2.1 x.2.2 p).trans ?_;have hz:=M6.cZ hx.Kk;have he:=hx.2.1;have ha:(dv x).1.natAbs=M6.val x.2.1:=jB (x.1,x.2.1);have aZZ:(x.1,x.2.1,x.2.2)=x:=rfl;have n0:aR 0 0=(0,0):=fR 0;have hT:(if(dv x).1=0 then 0 else x.2.2+(bl (M6.val x.2.1):Int)-1)=aW.jU (dv x):=by rw[<-ha];rfl
 have hN:isNeg (dv x).1=x.1:=hx.Fo.cells.1;have v1:wv (isNeg 1,M6.dg (cLG 1))=1:=oI 1;have k1:iE (isNeg 1,M6.dg 1):=gN (z:=1) (by decide +kernel);unfold sp Mr Ms;dsimp only
 by_cases c0:(dv x).1=0
 ·rw[bI (by have:=hz.2 (by omega);omega),gP ⟨by decide,by decide⟩,if_pos c0,if_pos c0];simp only[aG,n0];rfl
 ·obtain⟨t0,q1,q2,q3,hA,hB⟩:=h c0;have tt:=hx.xF.top;have l0:x.2.1.length≠0:=fun hc=>c0 (by have:=hz.1 hc;omega)
  have tU:aW.jU (dv x)<=1572864:=by unfold aW.jU;rw[if_neg c0];exact tt.2
  simp only[aZZ,hT,aG,v1];rw[bA,if_neg c0,if_neg c0];have w1:i64.wrap (i64.wrap (2*aW.jU (dv x))+8)=2*aW.jU (dv x)+8:=by rw[wrap_i64 (n:=2*aW.jU (dv x)),wrap_i64]
  have w2:i64.wrap (0-p)=-p:=by rw[wrap_i64];omega
  have w3:i64.wrap (i64.wrap (aW.jU (dv x)-p)-3)=aW.jU (dv x)-p-3:=by rw[wrap_i64 (n:=aW.jU (dv x)-p),wrap_i64]
  have w4:i64.wrap (p+32)=p+32:=wrap_i64;simp only[w1,w2,w3,w4];rw[gP hx];have sk:fA (nV (vO (dv x) p) (uF (dv x) p)):=yW q1 q2 q3;have eL:=qE (vO (dv x) p) (uF (dv x) p);have eH:=qF (vO (dv x) p) (uF (dv x) p);rw[hN];unfold nV at sk eL eH
  by_cases c1:2*aW.jU (dv x)+8 < -p
  ·obtain⟨s1,s2,s3,s4⟩:=hA c1;have ok:aU (false,x.2.1,x.2.2):=⟨⟨hx.1.1,fun hf=>(by cases hf),hx.1.len⟩,hx.2⟩;have vx:dv (false,x.2.1,x.2.2)=((((dv x).1.natAbs:Nat):Int),(dv x).2):=by rw[ha];rfl
   have b1:bl (cLG 1)=1:=rfl;have i1:iQ 1 (aW.jU (dv x)-p-3)=true:=iM (by omega) (by rw[b1];omega);have m1:aR 1 (aW.jU (dv x)-p-3)=(1,aW.jU (dv x)-p-3):=by
    unfold aR;rw[if_neg (by decide),show tz (cLG 1)=0 from by decide +kernel];simp
   have pg:kT (1,aW.jU (dv x)-p-3):=m1▸iF i1 (by decide +kernel);have e2:=dY ((1,aW.jU (dv x)-p-3):Int×Int);have d2:=dV pg;have d3:=dV s3;have e3:=dY (shD false ((((dv x).1.natAbs:Nat):Int),(dv x).2) (p+32));have bUR:iQ (cV.oY true (((dv x).1.natAbs:Nat):Int) (dv x).2 (p+32)).1 (cV.oY true (((dv x).1.natAbs:Nat):Int) (dv x).2 (p+32)).2=true:=s1;have bUQ:iQ (cV.oY false (((dv x).1.natAbs:Nat):Int) (dv x).2 (p+32)).1 (cV.oY false (((dv x).1.natAbs:Nat):Int) (dv x).2 (p+32)).2=true:=s2;have u1:aR (cV.oY true (((dv x).1.natAbs:Nat):Int) (dv x).2 (p+32)).1 (cV.oY true (((dv x).1.natAbs:Nat):Int) (dv x).2 (p+32)).2=shD true ((((dv x).1.natAbs:Nat):Int),(dv x).2) (p+32):=rfl;have u2:aR (cV.oY false (((dv x).1.natAbs:Nat):Int) (dv x).2 (p+32)).1 (cV.oY false (((dv x).1.natAbs:Nat):Int) (dv x).2 (p+32)).2=shD false ((((dv x).1.natAbs:Nat):Int),(dv x).2) (p+32):=rfl;have dL:vO (dv x) p=bS.oN (shD false ((((dv x).1.natAbs:Nat):Int),(dv x).2) (p+32)) (-1,aW.jU (dv x)-p-3):=if_pos c1;have dH:uF (dv x) p=shD true ((((dv x).1.natAbs:Nat):Int),(dv x).2) (p+32):=if_pos c1;rw[aN c1];simp only[vx,bUR,bUQ,u1,u2,i1,m1,cond_true,e2,e3,s4];rw[gP ⟨ok,by omega,by omega⟩,gP ⟨ok,by omega,by omega⟩,gP ⟨by decide,by decide⟩,gP ⟨k1,by omega,by omega⟩,gP ⟨d3,d2⟩,<-dL,<-dH,gP sk,eL,eH];rfl
  ·obtain⟨⟨b1,b2⟩,a1,a2,a3,a4,a5,a6⟩:=hB c1;have dL:vO (dv x) p=shD false (bP.Kr (aW.Ef (dv x) p).1 (2^(2*aW.hv (dv x) p+22)) (aW.w2 (dv x) p)) (p+32):=if_neg c1;have dH:uF (dv x) p=bP.zN (shD true (bP.Ej (aW.Ef (dv x) p).1 (2^(2*aW.hv (dv x) p+22)) (aW.w2 (dv x) p)) (p+32)):=if_neg c1;rw[aL c1];simp only[M6.bD];rw[gP ⟨hx,⟨by omega,by omega⟩,b1,b2⟩,gP ⟨M6.aY _,M6.aY _,a1,a2,a3,⟨by omega,by omega⟩,a4,a5,a6⟩,<-dL,<-dH,gP sk,eL,eH];rfl
def aI:dJ:=orc2 kF (pN .i64) sp
theorem ok:OK 157 aI:=(eB E aE (aA Po.ok (aA Ct.ok (aA bDC.ok (aA Qe.ok (aA kG.ok (aA aKL.ok (aA Wv.ok (aA Jh.ok (aA aW.ok (aA bP.ok aC)))))))))) func157).lF rfl spec
end fU
end W
namespace R
def Ss(F D X p q p' q':Nat):Bool :=
 cBH 9007199254740992 q'&&((cBF (p*q') (p'*q+1)||cBF (p'*q) (p*q'+1)) &&
 ((cBH (p*(F+1)+D) (q*X)&&cBH (q'*X) (p'*F))||(cBH (q*X+D) (p*F)&&cBH (p'*(F+1)) (q'*X))))
def bEB(F D X:Nat)(f:Nat):Nat->Nat->Nat->Nat->Nat->Nat->Bool:=Nat.rec (motive:=fun _=>Nat->Nat->Nat->Nat->Nat->Nat->Bool) (fun _ _ _ _ _ _=>false)
 (fun _ ih a b p q p' q'=>cond (cBH 9007199254740992 q') (Ss F D X p q p' q') (iA (a/b) fun t=>iA (a-t*b) fun r=>iA (t*p'+p) fun p2=>iA (t*q'+q) fun q2=>ih b r p' q' p2 q2)) f
def aVN(F D:Nat)(n:Nat):Nat->Bool:=Nat.rec (motive:=fun _=>Nat->Bool) (fun _=>true) (fun _ ih X=>bEB F D X 80 X F 0 1 1 0&&iA (2*X) fun X'=>ih X') n
def bIM(w n:Nat):Bool :=
 Prod.rec (motive:=fun _=>Bool) (fun t5 s5=>Prod.rec (motive:=fun _=>Bool) (fun t239 nC =>
  cBH (4*nC) (16*s5)&&(cBF t5 0&&(cBF t239 0 &&
  iA ((16*s5-4*nC)/2^64) fun F=>iA (2^(w-64-62)) fun D=>iA (2^(w-64-53)) fun X =>
  cBF (((16*s5-4*nC)+2^40)/2^64) F&&(cBF (((16*s5-4*nC)-2^40)/2^64) F&&aVN F D n X))))
  (aBH 239 w 10 10)) (aBH 5 w 20 20)
theorem bVM{L L' s m k p q p' q' P X:Rat}(hL:L=q*X-p*P)(bKN:L'=q'*X-p'*P)(hs:s*s=1)(aOZ:p*q'-p'*q=s):m*X-k*P=s*(k*q'-m*p')*L+s*(m*p-k*q)*L':=by
 subst hL;subst bKN;have e1:s*(k*q'-m*p')*(q*X-p*P)+s*(m*p-k*q)*(q'*X-p'*P)=s*(p*q'-p'*q)*(m*X-k*P):=by grind
 rw[e1,aOZ,hs];grind
theorem Yf{a b:Bool}(h:(a||b)=true):a=true\/b=true:=by simpa using h
theorem wM{a:Int}(h:0<a):(1:Rat)<=(a:Rat):=by exact_mod_cast h
theorem aVG {F D X p q p' q' : Nat} (h : Ss F D X p q p' q' = true) {P : Rat} (h1 : (F : Rat) ≤ P) (h2 : P ≤ (F : Rat) + 1) {m k : Int} (hm : 0 < m) (bAI : m < 9007199254740992) : (D : Rat) ≤ ab ((m : Rat) * (X : Rat) - (k : Rat) * P) := by
  unfold Ss at h
  obtain ⟨c1, h⟩ := fT h
  obtain ⟨c2, c3⟩ := fT h
  have c1 := cDC c1
  obtain ⟨s, hs, aOZ⟩ : ∃ s : Int, s * s = 1 ∧ (p : Int) * q' - p' * q = s := by
    rcases Yf c2 with h | h
    · have := cBT h
      exact ⟨1, rfl, by have : (p : Int) * q' = p' * q + 1 := by exact_mod_cast this
                        omega⟩
    · have := cBT h
      exact ⟨-1, rfl, by have : (p' : Int) * q = p * q' + 1 := by exact_mod_cast this
                         omega⟩
  obtain ⟨a, ha⟩ : ∃ a : Int, a = s * (k * q' - m * p') := ⟨_, rfl⟩
  obtain ⟨b, hb⟩ : ∃ b : Int, b = s * (m * p - k * q) := ⟨_, rfl⟩
  have hmab : m = a * q + b * q' := by
    have : a * q + b * q' = s * (p * q' - p' * q) * m := by rw [ha, hb]; grind
    rw [this, aOZ, hs]; omega
  obtain ⟨L, hL⟩ : ∃ L : Rat, L = (q : Rat) * X - (p : Rat) * P := ⟨_, rfl⟩
  obtain ⟨L', bKN⟩ : ∃ L' : Rat, L' = (q' : Rat) * X - (p' : Rat) * P := ⟨_, rfl⟩
  have bRU : (s : Rat) * (s : Rat) = 1 := by exact_mod_cast hs
  have aJD : (p : Rat) * q' - p' * q = (s : Rat) := by
    have := congrArg (Int.cast : Int → Rat) aOZ
    rw [cPG, cMP, cMP, cMQ, cMQ, cMQ, cMQ] at this
    exact this
  have bAJ := bVM (m := (m : Rat)) (k := (k : Rat)) hL bKN bRU aJD
  have bTK : (s : Rat) * ((k : Rat) * q' - m * p') = (a : Rat) := by
    rw [ha]; push_cast; rfl
  have bTJ : (s : Rat) * ((m : Rat) * p - k * q) = (b : Rat) := by
    rw [hb]; push_cast; rfl
  rw [bTK, bTJ] at bAJ
  rw [bAJ]
  have aSM : (0 : Int) ≤ q := by omega
  have hq'0 : (9007199254740992 : Int) ≤ q' := by omega
  have aCP : (0 : Rat) ≤ (p : Rat) := by exact_mod_cast cHH p
  have bGF : (0 : Rat) ≤ (p' : Rat) := by exact_mod_cast cHH p'
  have bDK : ((D : Rat) ≤ L ∧ L' ≤ 0) ∨ ((D : Rat) ≤ -L ∧ 0 ≤ L') := by
    rcases Yf c3 with h | h
    · obtain ⟨d1, d2⟩ := fT h
      have d1 : ((p * (F + 1) + D : Nat) : Rat) ≤ ((q * X : Nat) : Rat) := by exact_mod_cast cDC d1
      have d2 : ((q' * X : Nat) : Rat) ≤ ((p' * F : Nat) : Rat) := by exact_mod_cast cDC d2
      push_cast at d1 d2
      have := aJ aCP (show 0 ≤ (F : Rat) + 1 - P by grind)
      have := aJ bGF (show 0 ≤ P - (F : Rat) by grind)
      left
      constructor <;> grind
    · obtain ⟨d1, d2⟩ := fT h
      have d1 : ((q * X + D : Nat) : Rat) ≤ ((p * F : Nat) : Rat) := by exact_mod_cast cDC d1
      have d2 : ((p' * (F + 1) : Nat) : Rat) ≤ ((q' * X : Nat) : Rat) := by exact_mod_cast cDC d2
      push_cast at d1 d2
      have := aJ aCP (show 0 ≤ P - (F : Rat) by grind)
      have := aJ bGF (show 0 ≤ (F : Rat) + 1 - P by grind)
      right
      constructor <;> grind
  have hD0 : (0 : Rat) ≤ (D : Rat) := by exact_mod_cast cHH D
  clear bAJ bTK bTJ aJD bRU hL bKN ha hb aOZ hs c2 c3
  rcases Int.lt_trichotomy b 0 with hb | hb | hb
  · have aVD : 0 < a := by
      refine Int.not_le.1 fun hn => ?_
      have := cMS (show 0 ≤ -a by omega) aSM
      have := cMS (show 0 ≤ -b by omega) (show (0 : Int) ≤ q' by omega)
      rw [cKU] at *
      omega
    have r1 := wM aVD
    have r2 := wM (show 0 < -b by omega)
    have r2 : (1 : Rat) ≤ -(b : Rat) := by rw [← cOF]; exact r2
    rcases bDK with ⟨g1, g2⟩ | ⟨g1, g2⟩
    · have := aJ (show 0 ≤ (a : Rat) - 1 by grind) (show 0 ≤ L by grind)
      have := aJ (show 0 ≤ -(b : Rat) by grind) (show 0 ≤ -L' by grind)
      have := Ec ((a : Rat) * L + (b : Rat) * L')
      grind
    · have := aJ (show 0 ≤ (a : Rat) - 1 by grind) (show 0 ≤ -L by grind)
      have := aJ (show 0 ≤ -(b : Rat) by grind) (show 0 ≤ L' by grind)
      have := oU ((a : Rat) * L + (b : Rat) * L')
      grind
  · subst hb
    have aVD : 0 < a := by
      refine Int.not_le.1 fun hn => ?_
      have := cMS (show 0 ≤ -a by omega) aSM
      rw [cKU] at *
      omega
    have r1 := wM aVD
    have z : ((0 : Int) : Rat) = 0 := by norm_cast
    rw [z]
    rcases bDK with ⟨g1, g2⟩ | ⟨g1, g2⟩
    · have := aJ (show 0 ≤ (a : Rat) - 1 by grind) (show 0 ≤ L by grind)
      have := Ec ((a : Rat) * L + 0 * L')
      grind
    · have := aJ (show 0 ≤ (a : Rat) - 1 by grind) (show 0 ≤ -L by grind)
      have := oU ((a : Rat) * L + 0 * L')
      grind
  · have aVD : a < 0 := by
      refine Int.not_le.1 fun hn => ?_
      have := cMS hn aSM
      have := cDO (show 1 ≤ b by omega) (show (0 : Int) ≤ q' by omega)
      omega
    have r1 := wM (show 0 < -a by omega)
    have r1 : (1 : Rat) ≤ -(a : Rat) := by rw [← cOF]; exact r1
    have r2 := wM hb
    rcases bDK with ⟨g1, g2⟩ | ⟨g1, g2⟩
    · have := aJ (show 0 ≤ -(a : Rat) - 1 by grind) (show 0 ≤ L by grind)
      have := aJ (show 0 ≤ (b : Rat) by grind) (show 0 ≤ -L' by grind)
      have := oU ((a : Rat) * L + (b : Rat) * L')
      grind
    · have := aJ (show 0 ≤ -(a : Rat) - 1 by grind) (show 0 ≤ -L by grind)
      have := aJ (show 0 ≤ (b : Rat) by grind) (show 0 ≤ L' by grind)
      have := Ec ((a : Rat) * L + (b : Rat) * L')
      grind
theorem bBM{F D X:Nat}:∀(f a b p q p' q':Nat),bEB F D X f a b p q p' q'=true->∃p q p' q',Ss F D X p q p' q'=true:=by
 intro f
 induction f with
 |zero=>intro a b p q p' q' h;exact absurd h (by simp[bEB])
 |succ f ih =>
  intro a b p q p' q' h;have e:bEB F D X (f+1) a b p q p' q'=cond (cBH 9007199254740992 q') (Ss F D X p q p' q') (iA (a/b) fun t=>iA (a-t*b) fun r=>iA (t*p'+p) fun p2=>iA (t*q'+q) fun q2=>bEB F D X f b r p' q' p2 q2):=rfl;rw[e]at h;cases hc:cBH 9007199254740992 q' with
  |true=>rw[hc]at h;exact⟨_,_,_,_,h⟩
  |false =>
   rw[hc,cond_false,fH,fH,fH,fH]at h;exact ih _ _ _ _ _ _ h
theorem aVM{F D:Nat}:∀(n X:Nat),aVN F D n X=true->∀i,i<n->∃p q p' q',Ss F D (2^i*X) p q p' q'=true:=by
 intro n
 induction n with
 |zero=>intro X _ i hi;omega
 |succ n ih =>
  intro X h i hi;have e:aVN F D (n+1) X=(bEB F D X 80 X F 0 1 1 0&&iA (2*X) fun X'=>aVN F D n X'):=rfl;rw[e,fH]at h;obtain⟨h1,h2⟩:=fT h;cases i with
  |zero =>
   rw[Nat.pow_zero,cFI];exact bBM _ _ _ _ _ _ _ h1
  |succ i =>
   have:=ih _ h2 i (by omega);rw[cGD,cGH];exact this
theorem bPV:bIM 1464 1030=true:=by kernel_rfl
theorem aUG{s5 nC:Nat}{W a b:Rat}(hle:4*nC<=16*s5)(h5:ab ((s5:Rat)-W*aAD 5)<=a)(Ve:ab ((nC:Rat)-W*aAD 239)<=b):ab (((16*s5-4*nC:Nat):Rat)-W*pi)<=16*a+4*b:=by
 have hc:((16*s5-4*nC:Nat):Rat)+4*(nC:Rat)=16*(s5:Rat):=by exact_mod_cast(show 16*s5-4*nC+4*nC=16*s5 by omega)
 unfold pi;rw[cN]at *;grind
theorem aCF{m k:Int}{i:Nat}(hi:i<1030)(hm:0<m)(bAI:m<9007199254740992):1/4611686018427387904<=ab ((m:Rat)*((2^i:Nat):Rat)/9007199254740992-(k:Rat)*pi):=by
 have h:=bPV;unfold bIM at h;have h5:=Jd (n:=5) (by omega) 1464 20 20 (by omega);have Ve:=Jd (n:=239) (by omega) 1464 10 10 (by omega);generalize hw:(1464:Nat)=w at *;generalize aBH 5 w 20 20=A at *;generalize aBH 239 w 10 10=B at *;obtain⟨t5,s5⟩:=A;obtain⟨t239,nC⟩:=B;dsimp only at *;obtain⟨bUA,h⟩:=fT h;obtain⟨z5,h⟩:=fT h;obtain⟨aYK,h⟩:=fT h;rw[fH,fH,fH]at h;obtain⟨q1,h⟩:=fT h;obtain⟨q2,h⟩:=fT h;have q1:=cBT q1;have q2:=cBT q2;have h5:=h5 (cBT z5);have Ve:=Ve (cBT aYK);obtain⟨p,q,p',q',hg⟩:=aVM _ _ h i hi;have aPG:ab (((16*s5-4*nC:Nat):Rat)-((2^w:Nat):Rat)*pi)<=524288:=by
  have:=aUG (cDC bUA) h5 Ve;refine cGJ this ?_;have n1:((2*(20*20):Nat):Rat)=800:=by norm_cast
  have n2:((2*(10*10):Nat):Rat)=200:=by norm_cast
  rw[n1,n2];grind
 generalize 16*s5-4*nC=P at *;have aJT:=uU w (by omega);have lo:((P/2^64:Nat):Rat)<=((2^(w-64):Nat):Rat)*pi:=by
  have:2^64*(P/2^64)<=P-2^40:=by
   have:=Nat.mul_div_le (P-2^40) (2^64);rwa [q2]at this
  have hz:P/2^64=0\/2^64*(P/2^64)+2^40<=P:=by omega
  rcases hz with hz |h2
  ·rw[hz];have h3:(0:Rat)<=((2^(w-64):Nat):Rat):=by exact_mod_cast cHH _
   have:=aJ h3 (cGL (show 0<pi from by have:=iP.1;grind));have z:((0:Nat):Rat)=0:=by norm_cast
   rw[z];exact this
  ·have h3:((2^64:Nat):Rat)*((P/2^64:Nat):Rat)+((2^40:Nat):Rat)<=(P:Rat):=by exact_mod_cast h2
   rw[aJT,cID,cN]at aPG;have n1:((2^64:Nat):Rat)=18446744073709551616:=by norm_cast
   have n2:((2^40:Nat):Rat)=1099511627776:=by norm_cast
   rw[n1]at aPG h3;rw[n2]at h3;refine cK (q:=18446744073709551616) (by grind) ?_;generalize ((2^(w-64):Nat):Rat)=W at *;grind
 have aGN:((2^(w-64):Nat):Rat)*pi<=((P/2^64:Nat):Rat)+1:=by
  have:P+2^40<2^64*(P/2^64+1):=by
   have:=Nat.lt_mul_div_succ (P+2^40) (show 0<2^64 by omega);rwa [q1]at this
  have h3:(P:Rat)+((2^40:Nat):Rat)<((2^64:Nat):Rat)*(((P/2^64:Nat):Rat)+1):=by exact_mod_cast this
  rw[aJT,cID,cN]at aPG;have n1:((2^64:Nat):Rat)=18446744073709551616:=by norm_cast
  have n2:((2^40:Nat):Rat)=1099511627776:=by norm_cast
  rw[n1]at aPG h3;rw[n2]at h3;refine cK (q:=18446744073709551616) (by grind) ?_;generalize ((2^(w-64):Nat):Rat)=W at *;grind
 have bJY:=aVG hg lo aGN (k:=k) hm bAI;have eD:((2^(w-64):Nat):Rat)=((2^(w-64-62):Nat):Rat)*4611686018427387904:=by
  have:2^(w-64)=2^(w-64-62)*2^62:=by rw[<-cGE];congr 1;omega
  rw[this,cID];congr 1
 have eX:((2^(w-64):Nat):Rat)=((2^(w-64-53):Nat):Rat)*9007199254740992:=by
  have:2^(w-64)=2^(w-64-53)*2^53:=by rw[<-cGE];congr 1;omega
  rw[this,cID];congr 1
 have aPE:(0:Rat)<((2^(w-64):Nat):Rat):=by exact_mod_cast cY
 have hWp2:(0:Rat)<((2^(w-64-62):Nat):Rat):=by exact_mod_cast cY
 have e:(m:Rat)*((2^i*2^(w-64-53):Nat):Rat)-(k:Rat)*(((2^(w-64):Nat):Rat)*pi)=((2^(w-64):Nat):Rat)*((m:Rat)*((2^i:Nat):Rat)/9007199254740992-(k:Rat)*pi):=by
  rw[cID,eX];grind
 rw[e,fX,bR (cGL aPE)]at bJY;refine cK aPE ?_;rw[eD]at bJY ⊢;grind
end R
namespace R
def bIV(x:Rat):Prop:=∃m e:Int,0<m/\m<9007199254740992/\-53<=e/\e<=971/\(x=(m:Rat)*pz e\/x=-((m:Rat)*pz e))
theorem Yp{x:Rat}(h:bIV x){j:Nat}(hj:j=1\/j=2)(k:Int):1/4611686018427387904<=ab (((2^j:Nat):Rat)*x-(k:Rat)*pi):=by
 obtain⟨m,e,m0,m1,e0,e1,hx⟩:=h;obtain⟨i,hi⟩:=cGG (show 0<=e+53+(j:Int) by omega);have ep:((2^j:Nat):Rat)*((m:Rat)*pz e)=(m:Rat)*((2^i:Nat):Rat)/9007199254740992:=by
  have h1:pz (e+53+(j:Int))=((2^i:Nat):Rat):=by rw[hi,nD]
  rw[eN,kS]at h1;have h2:pz 53=9007199254740992:=by rw[show(53:Int)=((53:Nat):Int)from rfl,nD];norm_cast
  rw[h2]at h1;rw[<-h1];grind
 rcases hx with rfl |rfl
 ·have:=aCF (i:=i) (k:=k) (by omega) m0 m1;rw[ep];exact this
 ·have:=aCF (i:=i) (k:=-k) (by omega) m0 m1;rw[<-ep,cOF]at this;have e2:ab (((2^j:Nat):Rat)*-((m:Rat)*pz e)-(k:Rat)*pi)=ab (((2^j:Nat):Rat)*((m:Rat)*pz e) - -(k:Rat)*pi):=by rw[<-jM];congr 1;grind
  rw[e2];exact this
def tZ(x:Rat)(k:Int):Prop:=ab (x-(k:Rat)*(pi/2))<=pi/4+1/36893488147419103232
def Fit(x:Rat):Prop:=bIV x\/ab x<=3/4
theorem aFF{x:Rat}(h:ab x<=3/4){k:Int}(hk:tZ x k):k=0:=by
 obtain⟨p1,p2⟩:=iP;unfold tZ at hk;rw[cN]at hk h;refine Classical.byContradiction fun Bp=>?_
 by_cases c:1<=k
 ·have c1:(1:Rat)<=(k:Rat):=by exact_mod_cast c
  have:=aJ (show 0<=(k:Rat)-1 by grind) (show 0<=pi by grind);grind
 ·have c1:(k:Rat)<=-1:=by
   have:(k:Rat)<=((-1:Int):Rat):=Rat.intCast_le_intCast.2 (by omega);rwa [show((-1:Int):Rat)=-1 by norm_cast]at this
  have:=aJ (show 0<=-1-(k:Rat) by grind) (show 0<=pi by grind);grind
theorem aEO{x:Rat}(h:Fit x){k l:Int}(hk:tZ x k)(hl:tZ x l):¬k<l:=by
 intro kM;rcases h with h |h
 ·obtain⟨p1,p2⟩:=iP;unfold tZ at hk hl;rw[cN]at hk hl
  by_cases e:l=k+1
  ·subst e;have c1:((k+1:Int):Rat)=(k:Rat)+1:=by norm_cast
   rw[c1]at hl;have n:=Yp h (j:=2) (Or.inr rfl) (2*k+1);have c2:((2*k+1:Int):Rat)=2*(k:Rat)+1:=by norm_cast
   have c3:((2^2:Nat):Rat)=4:=by norm_cast
   rw[c2,c3]at n;have:ab (4*x-(2*(k:Rat)+1)*pi)<=1/9223372036854775808:=by rw[cN];constructor <;> grind
   grind
  ·have c1:(k:Rat)+2<=(l:Rat):=by
    have:((k+2:Int):Rat)<=(l:Rat):=by exact_mod_cast(show k+2<=l by omega)
    rwa [show((k+2:Int):Rat)=(k:Rat)+2 by norm_cast]at this
   have:=aJ (show 0<=(l:Rat)-(k:Rat)-2 by grind) (show 0<=pi by grind);grind
 ·have:=aFF h hk;have:=aFF h hl;omega
theorem aYO{x:Rat}(h:Fit x){k l:Int}(hk:tZ x k)(hl:tZ x l):k=l:=by
 have:=aEO h hk hl;have:=aEO h hl hk;omega
theorem aZC{x:Rat}(h:bIV x)(k:Int):1/9223372036854775808<=ab (x-(k:Rat)*(pi/2)):=by
 have n:=Yp h (j:=1) (Or.inl rfl) k;have c3:((2^1:Nat):Rat)=2:=by norm_cast
 have e:((2^1:Nat):Rat)*x-(k:Rat)*pi=2*(x-(k:Rat)*(pi/2)):=by rw[c3];grind
 rw[e,fX,bR (show(0:Rat)<=2 by grind)]at n;grind
theorem mP{x:Rat}{k:Int}(h:tZ x k):ab (x-(k:Rat)*(pi/2))<=79/100:=by
 obtain⟨p1,p2⟩:=iP;unfold tZ at h;grind
theorem aQN(r:Rat):cs (ab r)=cs r:=by
 unfold ab;split
 ·rfl
 ·rw[aDK]
theorem aMX{r:Rat}(h:ab r<=1):sn (ab r)=ab (sn r):=by
 by_cases h0:0<=r
 ·rw[bR h0]at *;rw[bR (Mq h0 h)]
 ·have e:ab r=-r:=by unfold ab;rw[if_neg h0]
  rw[e]at h;rw[e,<-jM (sn r),<-Hr,bR (Mq (by grind) h)]
theorem Zt{r:Rat}(h:ab r<=4/5):17/25<=cs r/\cs r<=1:=by
 have h0:=aP r;obtain⟨c1,c2⟩:=Ow h0 (by grind);have m:=cR h0 h h0 h;have m2:=aJ h0 h0;have m3:=aJ m2 (show 0<=6-ab r*ab r by grind);rw[aQN]at c1 c2;generalize ab r=a at *;constructor <;> grind
theorem aFD{r:Rat}(h0:0<=r)(h:r<=4/5):4/5*r<=sn r/\sn r<=r:=by
 have h1:r<=1:=by grind
 refine⟨?_,aFC h0 h1⟩;have c1:=(Ay h0 h1).1;have m:=cR h0 h h0 h;have m3:=aJ h0 (show 0<=16/25-r*r by grind);grind
theorem aXB{a b:Int}(h:a<b):pz a<pz b:=by
 have h1:=cX (show a+1<=b by omega);have h2:=dW a;rw[lO]at h1;grind
theorem aIG{a b:Int}:pz a<=pz b↔a<=b:=by
 constructor
 ·intro h;refine Int.not_lt.1 fun hn=>?_
  have:=aXB hn;grind
 ·exact cX
theorem yA{a b:Int}:pz a<pz b↔a<b:=by
 constructor
 ·intro h;refine Int.not_le.1 fun hn=>?_
  have:=cX hn;grind
 ·exact aXB
theorem aNG:pz 1=2:=by rw[show(1:Int)=0+1 by rfl,lO,gR];grind
theorem sE(a:Int):pz (a-1)*2=pz a:=by
 have:=lO (a-1);rw[show a-1+1=a by omega]at this;grind
theorem gL(a:Int){n:Nat}{c:Rat}(hc:((2^n:Nat):Rat)=c):pz (a-(n:Int))*c=pz a:=by
 have:=eN (a-(n:Int)) n;rw[show a-(n:Int)+(n:Int)=a by omega,hc]at this;exact this.symm
end R
namespace R
open W.TSums
theorem Mj{f:Nat->Rat}:∀{n:Nat},(∀k,k<n->f k=0)->sum f n=0
 |0,_=>rfl
 |n+1,h=>by rw[dX,Mj fun k hk=>h k (by omega),h n (by omega)];grind
theorem Rw(g:Nat->Rat)(k f:Nat):sum (fun i=>g (k+i)) (f+1)=g k+sum (fun i=>g (k+1+i)) f:=by
 rw[cHF f 1,lS];have e:(fun i=>g (k+(1+i)))=fun i=>g (k+1+i):=funext fun i=>by rw[Nat.add_assoc]
 rw[e,dX];have z:sum (fun i=>g (k+i)) 0=0:=rfl;rw[z,cCC];grind
def gC(u W i:Nat):Rat:=cc i*(sq u W i:Rat)
def gS(u W i:Nat):Rat:=ss i*(sq u W i:Rat)
theorem Fu{u W:Nat}(hu:u<=W):∀f k a b c d,c<=a->d<=b->(k%4=1\/k%4=2->c+sq u W k<=a)->(k%4=2\/k%4=3->d+sq u W k<=b) ->
  (tay u W f k a b c d).2.2.1<=(tay u W f k a b c d).1/\(tay u W f k a b c d).2.2.2<=(tay u W f k a b c d).2.1 /\
  ((tay u W f k a b c d).1:Rat)-((tay u W f k a b c d).2.2.1:Rat)=(a:Rat)-(c:Rat)+sum (fun i=>gC u W (k+i)) f /\
  ((tay u W f k a b c d).2.1:Rat)-((tay u W f k a b c d).2.2.2:Rat)=(b:Rat)-(d:Rat)+sum (fun i=>gS u W (k+i)) f
 |0,k,a,b,c,d,h1,h2,_,_=>by
  have z1:sum (fun i=>gC u W (k+i)) 0=0:=rfl;have z2:sum (fun i=>gS u W (k+i)) 0=0:=rfl;refine⟨h1,h2,?_,?_⟩
  ·show(a:Rat)-(c:Rat)=_;rw[z1];grind
  ·show(b:Rat)-(d:Rat)=_;rw[z2];grind
 |f+1,k,a,b,c,d,h1,h2,h3,h4=>by
  have hs:=Ml hu k;have hm:k%4<4:=cDM _ (by decide);unfold tay
  by_cases hz:sq u W k=0
  ·have za:=Xl hz;rw[if_pos hz];have z1:sum (fun i=>gC u W (k+i)) (f+1)=0:=Mj fun i _=>by unfold gC;rw[za];simp
   have z2:sum (fun i=>gS u W (k+i)) (f+1)=0:=Mj fun i _=>by unfold gS;rw[za];simp
   rw[z1,z2];refine⟨h1,h2,?_,?_⟩
   ·show(a:Rat)-(c:Rat)=_;grind
   ·show(b:Rat)-(d:Rat)=_;grind
  ·rw[if_neg hz,Rw (gC u W) k f,Rw (gS u W) k f];have e4:(k+1)%4=(k%4+1)%4:=by omega
   by_cases c0:k%4=0
   ·rw[if_pos c0];obtain⟨r1,r2,r3,r4⟩:=Fu hu f (k+1) (a+sq u W k) b c d (by omega) h2 (fun _=>by omega) (fun h=>by omega);refine⟨r1,r2,?_,?_⟩
    ·rw[r3,cLQ];have:gC u W k=(sq u W k:Rat):=by unfold gC cc;rw[if_pos c0];grind
     rw[this];grind
    ·rw[r4];have:gS u W k=0:=by unfold gS ss;rw[aO,aO];grind
     rw[this];grind
   ·rw[if_neg c0]
    by_cases c1:k%4=1
    ·rw[if_pos c1];obtain⟨r1,r2,r3,r4⟩:=Fu hu f (k+1) a (b+sq u W k) c d h1 (by omega) (fun _=>by have:=h3 (Or.inl c1);omega) (fun _=>by omega);refine⟨r1,r2,?_,?_⟩
     ·rw[r3];have:gC u W k=0:=by unfold gC cc;rw[if_neg c0,aO];grind
      rw[this];grind
     ·rw[r4,cLQ];have:gS u W k=(sq u W k:Rat):=by unfold gS ss;rw[if_pos c1];grind
      rw[this];grind
    ·rw[if_neg c1]
     by_cases c2:k%4=2
     ·rw[if_pos c2];have g1:=h3 (Or.inr c2);have g2:=h4 (Or.inl c2);obtain⟨r1,r2,r3,r4⟩:=Fu hu f (k+1) a b (c+sq u W k) d (by omega) h2 (fun h=>by omega) (fun _=>by omega);refine⟨r1,r2,?_,?_⟩
      ·rw[r3,cLQ];have:gC u W k=-(sq u W k:Rat):=by unfold gC cc;rw[if_neg c0,if_pos c2];grind
       rw[this];grind
      ·rw[r4];have:gS u W k=0:=by unfold gS ss;rw[if_neg c1,aO];grind
       rw[this];grind
     ·rw[if_neg c2];have g2:=h4 (Or.inr (by omega));obtain⟨r1,r2,r3,r4⟩:=Fu hu f (k+1) a b c (d+sq u W k) h1 (by omega) (fun h=>by omega) (fun h=>by omega);refine⟨r1,r2,?_,?_⟩
      ·rw[r3];have:gC u W k=0:=by unfold gC cc;rw[if_neg c0,if_neg c2];grind
       rw[this];grind
      ·rw[r4,cLQ];have:gS u W k=-(sq u W k:Rat):=by unfold gS ss;rw[if_neg c1,aQ];grind
       rw[this];grind
theorem Iv{x y:Nat}(h:y<=x):((x-y:Nat):Rat)=(x:Rat)-(y:Rat):=by
 have:((x-y:Nat):Rat)+(y:Rat)=(x:Rat):=by exact_mod_cast(show x-y+y=x by omega)
 grind
theorem aMQ{u w:Nat}(hu:u<=2^w):(aIA u w:Rat)=sum (fun k=>ss k*(sq u (2^w) k:Rat)) (w+1)/\(aIB u w:Rat)=sum (fun k=>cc k*(sq u (2^w) k:Rat)) (w+1):=by
 obtain⟨r1,r2,r3,r4⟩:=Fu hu (w+1) 0 0 0 0 0 (cBE _) (cBE _) (fun h=>by omega) (fun h=>by omega);unfold aIA aIB;rw[Iv r1,Iv r2,r3,r4];have z:((0:Nat):Rat)=0:=by norm_cast
 have e1:sum (fun i=>gC u (2^w) (0+i)) (w+1)=sum (fun k=>cc k*(sq u (2^w) k:Rat)) (w+1):=lB fun k _=>by rw[cBG];rfl
 have e2:sum (fun i=>gS u (2^w) (0+i)) (w+1)=sum (fun k=>ss k*(sq u (2^w) k:Rat)) (w+1):=lB fun k _=>by rw[cBG];rfl
 rw[e1,e2,z];constructor <;> grind
end R
namespace M
open Go AI W
theorem Tl(p:Int×Int):R.ab (R.qz p)=(p.1.natAbs:Rat)*R.pz p.2:=by
 unfold R.qz;rw[R.fX,R.bR (cGL (R.dW p.2))];congr 1;unfold R.ab
 by_cases hz:0<=p.1
 ·rw[if_pos (by exact_mod_cast hz),<-cMQ];congr 1;omega
 ·rw[if_neg (by intro hc;exact hz (by exact_mod_cast hc)),<-cMQ,<-cOF];congr 1;omega
theorem Yy(w:Int)(hw:65<=w):∀f h:Nat,4<=h->(h=4\/16*(h:Int)-16<w)->THalvings.hlv w f h=4\/16*(THalvings.hlv w f h:Int)-16<w
 |0,h,_,hh=>hh
 |f+1,h,h4,hh=>by
  unfold THalvings.hlv;split
  ·rename_i hc;refine Yy w hw f (h+1) (by omega) (Or.inr ?_);have:4*(h:Int)*h>=4*4*h:=by
    have:=cDO (show(4*4:Int)<=4*h by omega) (show(0:Int)<=h by omega);omega
   omega
  ·exact hh
theorem Gu{x:Int×Int}{p:Int}(h0:x.1≠0)(h1:bC x<=0)(ht:-1200<=bC x)(hp:1<=p/\p<=67100) :
  aW.jU x=bC x/\aW.w0 x p=p+80-bC x/\4<=aW.hv x p/\aW.hv x p<=204/\(aW.hv x p:Int)+50<=p+80-bC x/\aW.w1 x p=p+80-bC x+2*(aW.hv x p:Nat)/\aW.w2 x p=p+80-bC x+3*(aW.hv x p:Nat):=by
 have e1:aW.jU x=bC x:=by unfold aW.jU bC;rw[if_neg h0]
 have e2:aW.w0 x p=p+80-bC x:=by
  unfold aW.w0;rw[e1];split <;> omega
 obtain⟨h3,h4⟩:=aW.aCS (aW.w0 x p) 200 4;have h5:=Yy (aW.w0 x p) (by omega) 200 4 (by omega) (Or.inl rfl);have eh:THalvings.hlv (aW.w0 x p) 200 4=aW.hv x p:=rfl;rw[eh]at h3 h4 h5;refine⟨e1,e2,h4,h3,?_,?_,?_⟩
 ·omega
 ·unfold aW.w1;omega
 ·unfold aW.w2 aW.w1;omega
theorem aVJ(x:Int×Int)(n:Int):(wU.aSQ x n:Rat)<=R.pz n*R.ab (R.qz x)/\R.pz n*R.ab (R.qz x)<(wU.aSQ x n:Rat)+1:=by
 rw[Tl];have e:R.pz n*((x.1.natAbs:Rat)*R.pz x.2)=(x.1.natAbs:Rat)*R.pz (x.2+n):=by rw[R.kS];grind
 rw[e];unfold wU.aSQ;split
 ·rename_i h;obtain⟨k,hk⟩:=cGG h;rw[hk,R.nD,cFB,cID];constructor <;> grind
 ·rename_i h;obtain⟨k,hk⟩:=cGG (show 0<=-(x.2+n) by omega);have hp:0<2^k:=cEE (by decide);obtain⟨d1,d2⟩:=R.zE x.1.natAbs hp;rw[hk,cFB,show x.2+n=-(k:Int) by omega,R.yY];have h2:=R.Va k;have h3:=R.xP k;have m1:=R.aJ (cGL h3) (show 0<=(x.1.natAbs:Rat)-((2^k:Nat):Rat)*((x.1.natAbs/2^k:Nat):Rat) by grind);have m2:=cGX h3 (show 0<((2^k:Nat):Rat)*((x.1.natAbs/2^k:Nat):Rat)+((2^k:Nat):Rat)-(x.1.natAbs:Rat) by grind);generalize ((x.1.natAbs/2^k:Nat):Rat)=q at *;generalize ((2^k:Nat):Rat)=K at *;generalize (x.1.natAbs:Rat)=m at *;generalize R.hf k=g at *;have e1:g*(K*q)=q:=by rw[<-cMO,h2];grind
  constructor <;> grind
theorem aAA{x:Int×Int}{p:Int}(h0:x.1≠0)(hT:R.ab (R.qz x)<=1)(h1:bC x<=0)(ht:-1200<=bC x)(hp:1<=p/\p<=67100) :
  aW.bU x p<=2^(aW.w1 x p).toNat /\
  R.ab (((aW.Ef x p).1:Rat)-R.pz (aW.w2 x p)*R.sn (R.ab (R.qz x)))<=R.pz (2*(aW.hv x p:Nat)+18) /\
  R.ab (((aW.Ef x p).2:Rat)-R.pz (aW.w2 x p)*R.cs (R.ab (R.qz x)))<=R.pz (2*(aW.hv x p:Nat)+18):=by
 obtain⟨e1,e2,h4,h5,h6,bPO,bPN⟩:=Gu h0 h1 ht hp;obtain⟨u1,u2⟩:=aVJ x (aW.w1 x p);have hT0:=R.aP (R.qz x);unfold aW.Ef;have eU:wU.aSQ x (aW.w1 x p)=aW.bU x p:=rfl;rw[eU]at u1 u2;generalize aW.bU x p=u at *;generalize aW.hv x p=h at *;generalize R.ab (R.qz x)=T at *;obtain⟨n,hn⟩:=cGG (show 0<=aW.w1 x p by omega);have aUR:aW.w2 x p=((n+h:Nat):Int):=by omega
 rw[hn,R.nD]at u1 u2;rw[hn,aUR,R.nD,cFB,cFB];have hu:u<=2^n:=by
  have hW:(0:Rat)<=((2^n:Nat):Rat):=by exact_mod_cast cHH _
  have:=R.aJ hW (show 0<=1-T by grind);have:(u:Rat)<=((2^n:Nat):Rat):=by grind
  exact_mod_cast this
 have Yv:u<=2^(n+h):=cCA hu (cEF (by decide) (by omega));obtain⟨s1,s2⟩:=R.aMQ Yv;have r:=R.aHO hT0 hT u1 u2 (h:=h) (by omega) (by omega) (by omega) s1 s2;have b:((4^h*(2*(n+h)+10):Nat):Rat)<=R.pz (2*(h:Nat)+18):=by
  rw[show 2*(h:Int)+18=((2*h+18:Nat):Int) by omega,R.nD];have:4^h*(2*(n+h)+10)<=2^(2*h+18):=by
   rw[cGE,<-R.Om];exact cDS _ (by have:(2:Nat)^18=262144:=rfl;omega)
  exact_mod_cast this
 exact⟨hu,cGJ r.1 b,cGJ r.2 b⟩
end M
namespace M
open Go AI W
theorem Ba(up:Bool)(p:Int×Int)(n:Nat):bl (shD up p n).1.natAbs<=n+1:=by
 unfold shD cV.oY;refine cCA (xG _ _) ?_;split
 ·dsimp only;omega
 ·rename_i h;dsimp only;exact aDI up p.1 _ n (by omega)
theorem Ho{p:Int×Int}{E:Int}(h0:p.1≠0)(h:R.ab (R.qz p)<R.pz E):bC p<E:=by
 have:=(pY h0).1;refine R.yA.1 ?_;grind
theorem Em{p:Int×Int}{E:Int}(h0:p.1≠0)(h:R.pz E<=R.ab (R.qz p)):E<=bC p:=by
 have:=(pY h0).2;have:R.pz E<R.pz (bC p+1):=by grind
 have:=R.yA.1 this;omega
theorem Ft{p:Int×Int}{E:Int}(h0:p.1≠0)(h:R.ab (R.qz p)<=R.pz E):bC p<=E:=by
 have:=(pY h0).1;refine R.aIG.1 ?_;grind
theorem aWZ{p:Int×Int}(h:p.1≠0):R.qz p≠0:=by
 intro hz;have h1:=(pY h).1;have h2:=R.dW (bC p);rw[hz,R.bR (by grind)]at h1;grind
theorem Jv{p:Int×Int}(h:R.qz p≠0):p.1≠0:=fun hz=>h (R.pU hz)
theorem jI{p:Int×Int}:0<R.qz p↔0<p.1:=by
 have h:=R.dW p.2;unfold R.qz;constructor
 ·intro hp;refine Int.not_le.1 fun hn=>?_
  have c:(p.1:Rat)<=0:=by exact_mod_cast hn
  have:=R.aJ (show 0<=-(p.1:Rat) by grind) (cGL h);grind
 ·intro hp;have c:(0:Rat)<(p.1:Rat):=by exact_mod_cast hp
  exact cGX c h
theorem yX{p:Int×Int}:R.qz p<0↔p.1<0:=by
 have h:=jI (p:=(-p.1,p.2));rw[pD]at h;constructor
 ·intro hp;have:=h.1 (by grind);dsimp only at this;omega
 ·intro hp;have:=h.2 (by dsimp only;omega);grind
theorem aDW{p q:Int×Int}{E:Int}{n:Nat}(hp:kT p)(hq:kT q)(h1:E<=p.2)(h2:E<=q.2)(v1:R.ab (R.qz p)<=R.pz (E+n))(v2:R.ab (R.qz q)<=R.pz (E+n))(hn:n<=500000)(hE:-1048576<=E)(bTA:E+n<=1048000):bS.lA p q=true:=by
 unfold bS.lA
 by_cases z1:p.1=0
 ·rw[decide_eq_true z1,cGO]
 by_cases z2:q.1=0
 ·rw[decide_eq_true z2,cGO,cHD]
 rw[decide_eq_false z1,decide_eq_false z2,cDF,cDF];obtain⟨m1,m2⟩:=Ly p q;have hm:E<=bS.iO p q:=by unfold bS.iO;split <;> omega
 have bAI:bS.iO p q<=1048576/\-1048576<=bS.iO p q:=by have:=hp.2.1;have:=hq.2.1;unfold bS.iO;split <;> omega
 have qX:R.qz (bS.oG p q,bS.iO p q)=R.qz p:=by
  unfold bS.oG R.qz;dsimp only;have e1:R.pz p.2=R.pz (bS.iO p q)*((2^(p.2-bS.iO p q).toNat:Nat):Rat):=by rw[<-R.eN];congr 1;omega
  rw[e1,cMP,cMQ];grind
 have qY:R.qz (bS.oF p q,bS.iO p q)=R.qz q:=by
  unfold bS.oF R.qz;dsimp only;have e1:R.pz q.2=R.pz (bS.iO p q)*((2^(q.2-bS.iO p q).toNat:Nat):Rat):=by rw[<-R.eN];congr 1;omega
  rw[e1,cMP,cMQ];grind
 have qS:R.qz (bS.oG p q+bS.oF p q,bS.iO p q)=R.qz p+R.qz q:=by
  rw[<-qX,<-qY];unfold R.qz;dsimp only;rw[cOG];grind
 have vS:R.ab (R.qz (bS.oG p q+bS.oF p q,bS.iO p q))<=R.pz (E+n+1):=by
  rw[qS,R.lO];have:=R.Wd (R.qz p) (R.qz q);grind
 rw[<-qX]at v1;rw[<-qY]at v2;generalize bS.oG p q=X at *;generalize bS.oF p q=Y at *;generalize bS.iO p q=m at *;have bits:∀(z:Int) (F:Int),R.ab (R.qz (z,m))<=R.pz F->bl z.natAbs=0\/m+(bl z.natAbs:Nat)<=F+1:=by
  intro z F hv
  by_cases hz:z=0
  ·left;rw[hz];rfl
  ·right;have:=Ft (p:=(z,m)) hz hv;unfold bC at this;dsimp only at this;omega
 have b1:=bits X _ v1;have b2:=bits Y _ v2;have b3:=bits (X+Y) _ vS;have f:∀z:Int,bl z.natAbs<=524288->fit z.natAbs=true:=fun z h=>decide_eq_true h
 rw[f X (by omega),f Y (by omega),f (X+Y) (by omega),iM (by omega) (by omega)];rfl
theorem zA{p:Int×Int}(h:kT p):kT ((p.1.natAbs:Int),p.2):=by
 obtain⟨h1,h2,h3,h4⟩:=h;exact⟨by dsimp only;rw[cGW];exact h1,h2,fun hz=>h3 (by dsimp only at hz;omega),fun hz=>by dsimp only at hz ⊢;have:=h4 (by omega);omega⟩
theorem Ep(p:Int×Int):R.qz ((p.1.natAbs:Int),p.2)=R.ab (R.qz p):=by
 rw[Tl];unfold R.qz;dsimp only;rw[cMQ]
theorem aSZ(p:Int×Int):bC ((p.1.natAbs:Int),p.2)=bC p:=by
 unfold bC;dsimp only;rw[cGW]
theorem qP:R.qz (1,0)=1:=by
 unfold R.qz;dsimp only;rw[R.gR];have:((1:Int):Rat)=1:=by norm_cast
 rw[this];grind
theorem Dc:kT (1,0):=⟨by decide +kernel,⟨by decide,by decide⟩,fun h=>absurd h (by decide),fun _=>by decide⟩
theorem aPV{a f:Nat}{w q:Int}{V E:Rat}(hq:1<=q)(hE:R.ab ((a:Rat)-R.pz w*V)<=E)(hf:E<=(f:Rat))(hfa:(f:Rat)+E<=R.pz w*V)(hV:0<=V) :
  f<=a/\R.qz (shD false (bP.Kr a f w) q)<=V-R.pz (-w)*f+R.pz (-w)*E/\V-R.pz (-w)*f-R.pz (-w)*E-R.pz (1-q)*V<=R.qz (shD false (bP.Kr a f w) q) /\
  V+R.pz (-w)*f-R.pz (-w)*E<=R.qz (shD true (bP.Ej a f w) q)/\R.qz (shD true (bP.Ej a f w) q)<=V+R.pz (-w)*f+R.pz (-w)*E+R.pz (1-q)*(2*V):=by
 rw[R.cN]at hE;have bHE:f<=a:=by
  have:(f:Rat)<=(a:Rat):=by grind
  exact_mod_cast this
 refine⟨bHE,?_⟩;have g:=R.dW (-w);have gi:=R.aBZ w;have n1:=(Ht false (bP.Kr a f w) hq).1 rfl;have n2:=(Ht true (bP.Ej a f w) hq).2 rfl;have q1:R.qz (bP.Kr a f w)=((a:Rat)-(f:Rat))*R.pz (-w):=by
  unfold bP.Kr;rw[pC,cMQ,R.Iv bHE]
 have q2:R.qz (bP.Ej a f w)=((a:Rat)+(f:Rat))*R.pz (-w):=by
  unfold bP.Ej;rw[pC,cMQ,cLQ]
 rw[q1]at n1;rw[q2]at n2;have a0:(0:Rat)<=(a:Rat)-(f:Rat):=by grind
 have f0:(0:Rat)<=(f:Rat):=by exact_mod_cast cHH f
 rw[R.bR (R.aJ a0 (cGL g))]at n1;rw[R.bR (R.aJ (show(0:Rat)<=(a:Rat)+(f:Rat) by grind) (cGL g))]at n2;have eV:R.pz (-w)*(R.pz w*V)=V:=by rw[<-cMO,cOC (R.pz (-w)),gi];grind
 have m1:=R.aJ (cGL g) (show 0<=E-((a:Rat)-R.pz w*V) by grind);have m2:=R.aJ (cGL g) (show 0<=E+((a:Rat)-R.pz w*V) by grind);have m3:=R.aJ (cGL g) (show 0<=R.pz w*V-((f:Rat)+E) by grind);have m4:=R.aJ (cGL g) (show 0<=(f:Rat)-E by grind);have e0:R.pz w*V=R.pz w*V:=rfl;generalize R.pz w*V=U at *;generalize R.pz (-w)=G at *;have h0:=R.dW (1-q);generalize R.pz (1-q)=H at *;have k1:=R.aJ (cGL h0) (show 0<=V-((a:Rat)-(f:Rat))*G by grind);have k2:=R.aJ (cGL h0) (show 0<=2*V-((a:Rat)+(f:Rat))*G by grind);refine⟨?_,?_,?_,?_⟩ <;> grind
theorem aHM(p:Int×Int):R.qz (bP.zN p)<=1/\R.qz (bP.zN p)<=R.qz p/\(R.qz (bP.zN p)=R.qz p\/R.qz (bP.zN p)=1)/\(∀v,v<=R.qz p->v<=1->v<=R.qz (bP.zN p)):=by
 unfold bP.zN
 by_cases h:0<eR p (1,0)
 ·rw[decide_eq_true h,cond_true,qP];have:=zL.1 h;rw[qP]at this;exact⟨cHS,cGL this,Or.inr rfl,fun v _ h=>h⟩
 ·rw[decide_eq_false h,cond_false];have:R.qz p<=1:=by rw[<-qP];exact Rat.not_lt.1 fun hn=>h (zL.2 hn)
  exact⟨this,cHS,Or.inl rfl,fun v h _=>h⟩
theorem aFU{p:Int×Int}(h:kT p):kT (bP.zN p):=by
 unfold bP.zN;cases decide (0<eR p (1,0))
 ·exact h
 ·exact Dc
theorem aQW{p:Int×Int}{n:Nat}(hn:1<=n)(h:bl p.1.natAbs<=n):bl (bP.zN p).1.natAbs<=n:=by
 unfold bP.zN;cases decide (0<eR p (1,0))
 ·exact h
 ·exact hn
theorem bIP{x:Int×Int}{p:Int}{V:Rat}{a:Nat}(h0:x.1≠0)(h1:bC x<=0)(ht:-1200<=bC x)(hp:1<=p/\p<=67100)(hV:R.pz (bC x-1)<=V)(bST:V<=1)
  (ha:R.ab ((a:Rat)-R.pz (aW.w2 x p)*V)<=R.pz (2*(aW.hv x p:Nat)+18)) :
  bM.aRE a (2^(2*aW.hv x p+22)) (aW.w2 x p) (p+32) /\
  kT (shD false (bP.Kr a (2^(2*aW.hv x p+22)) (aW.w2 x p)) (p+32)) /\
  R.qz (shD false (bP.Kr a (2^(2*aW.hv x p+22)) (aW.w2 x p)) (p+32))<=V-R.pz (bC x-p-270) /\
  V-R.pz (bC x-p-61)-R.pz (-p-31)*V<=R.qz (shD false (bP.Kr a (2^(2*aW.hv x p+22)) (aW.w2 x p)) (p+32)) /\
  V+R.pz (bC x-p-270)<=R.qz (shD true (bP.Ej a (2^(2*aW.hv x p+22)) (aW.w2 x p)) (p+32)) /\
  R.qz (shD true (bP.Ej a (2^(2*aW.hv x p+22)) (aW.w2 x p)) (p+32))<=V+R.pz (bC x-p-61)+R.pz (-p-31)*(2*V):=by
 obtain⟨e1,e2,h4,h5,h6,bPO,bPN⟩:=Gu h0 h1 ht hp;generalize aW.hv x p=h at *;generalize aW.w2 x p=w at *;have tp:=R.dW (bC x-1);have V0:0<=V:=by grind
 have fE:((2^(2*h+22):Nat):Rat)=R.pz (2*(h:Nat)+22):=by rw[show 2*(h:Int)+22=((2*h+22:Nat):Int) by omega,R.nD]
 have l1:R.pz (2*(h:Nat)+18)<=R.pz (2*(h:Nat)+22):=R.cX (by omega);have l2:R.pz (2*(h:Nat)+22)+R.pz (2*(h:Nat)+18)<=R.pz w*V:=by
  have b1:R.pz (2*(h:Nat)+23)<=R.pz w*R.pz (bC x-1):=by rw[<-R.kS];exact R.cX (by omega)
  have b2:R.pz (2*(h:Nat)+23)=2*R.pz (2*(h:Nat)+22):=by rw[<-R.lO];congr 1
  have b3:=R.aJ (cGL (R.dW w)) (show 0<=V-R.pz (bC x-1) by grind);grind
 have r:=aPV (a:=a) (f:=2^(2*h+22)) (w:=w) (q:=p+32) (V:=V) (E:=R.pz (2*(h:Nat)+18)) (by omega) ha (by rw[fE];exact l1) (by rw[fE];exact l2) V0;obtain⟨r0,r1,r2,r3,r4⟩:=r;rw[fE,<-R.kS,<-R.kS]at r1 r2 r3 r4;rw[show(1:Int)-(p+32)=-p-31 by omega]at r2 r4;have d1:R.pz (-w+(2*(h:Nat)+18))=R.pz (-w+(2*(h:Nat)+22))/16:=by
  have:=R.gL (-w+(2*(h:Nat)+22)) (n:=4) (c:=16) (by norm_cast);rw[show -w+(2*(h:Int)+22)-((4:Nat):Int)=-w+(2*(h:Nat)+18) by omega]at this;grind
 have d2:R.pz (bC x-p-270)<=R.pz (-w+(2*(h:Nat)+22))/16:=by rw[<-d1];exact R.cX (by omega)
 have d3:R.pz (-w+(2*(h:Nat)+22))*2<=R.pz (bC x-p-61):=by
  rw[cOC,<-R.lO];exact R.cX (by omega)
 rw[d1]at r1 r2 r3 r4;have dp:=R.dW (-w+(2*(h:Nat)+22));have ba:bl a<=70000:=by
  have:(a:Rat)<=R.pz (w+1):=by
   rw[R.cN]at ha;rw[R.lO];have b3:=R.aJ (cGL (R.dW w)) (show 0<=1-V by grind);have:R.pz (2*(h:Nat)+18)<=R.pz w:=R.cX (by omega);grind
  obtain⟨n,hn⟩:=cGG (show 0<=w+1 by omega);rw[hn,R.nD]at this;have:a<=2^n:=by exact_mod_cast this
  refine cCA (gF this) ?_;rw[aQY];omega
 have bf:bl (2^(2*h+22))<=500:=by rw[aQY];omega
 have bs:bl (a-2^(2*h+22))<=70000:=cCA (gF (cHP _ _)) ba;have bt:bl (a+2^(2*h+22))<=70001:=cCA (Dl _ _) (by omega);have j1:iQ ((a-2^(2*h+22):Nat):Int) (-w)=true:=iM (by omega) (by rw[cGW];omega);have j2:iQ ((a+2^(2*h+22):Nat):Int) (-w)=true:=iM (by omega) (by rw[cGW];omega);have p1:kT (bP.Kr a (2^(2*h+22)) w):=iF j1 (by rw[cGW];omega);have p2:kT (bP.Ej a (2^(2*h+22)) w):=iF j2 (by rw[cGW];omega);have aXH:∀{z:Nat},bl z<=70001->kT (aR (z:Int) (-w))->bKU (aR (z:Int) (-w)):=by
  intro z hz hP;refine⟨hP,?_⟩;have hb:=xG (z:Int) (-w);rw[cGW]at hb
  by_cases z0:(z:Int)=0
  ·rw[z0,fR];show(0:Int)+((bl (0:Int).natAbs:Nat):Int)<=1048000;decide +kernel
  ·have h2:=(mB (e:=-w) z0).2;have h3:=Dz (n:=z) (by omega);rw[cGW]at h2;omega
 obtain⟨s1,s2⟩:=Sa (up:=false) (n:=p+32) (aXH (by omega) p1) (by omega);obtain⟨s3,s4⟩:=Sa (up:=true) (n:=p+32) (aXH bt p2) (by omega);refine⟨⟨by omega,by omega,⟨by omega,by omega⟩,s1,s3,s4⟩,s2,?_,?_,?_,?_⟩ <;> grind
end M
namespace M
open Go AI W
theorem aYX(up:Bool)(p:Int×Int){n:Int}(hn:bC p+1-n<=0):bC p+1-n<=(shD up p n).2:=by
 have key:∀z e:Int,bC p+1-n<=e->bC p+1-n<=(aR z e).2:=by
  intro z e he
  by_cases hz:z=0
  ·rw[hz,fR];exact hn
  ·have:=tF (e:=e) hz;omega
 unfold shD cV.oY;unfold bC at *;split
 ·exact key _ _ (by omega)
 ·exact key _ _ (by omega)
theorem Lb{up:Bool}{p:Int×Int}{n:Int}(h:(shD up p n).1≠0):bC p+1-n<=(shD up p n).2:=by
 have key:∀z e:Int,(aR z e).1≠0->bC p+1-n<=e->bC p+1-n<=(aR z e).2:=by
  intro z e h0 he;have:=tF (e:=e) (fun hz=>h0 (dZ.2 hz));omega
 unfold shD at *;refine key _ _ h ?_;unfold cV.oY bC at *;split <;> (dsimp only;omega)
theorem aHR{p q:Int×Int}{E:Int}(h1:E<=p.2)(h2:E<=q.2)(h0:E<=0):E<=(bS.oN p q).2:=by
 have hm:E<=bS.iO p q:=by unfold bS.iO;split <;> omega
 unfold bS.oN;split
 ·exact h2
 ·split
  ·exact h1
  ·by_cases hz:bS.oG p q+bS.oF p q=0
   ·rw[hz,fR];exact h0
   ·have:=tF (e:=bS.iO p q) hz;omega
theorem aRB{p:Int×Int}{E F:Int}(h1:E<=p.2)(h2:R.ab (R.qz p)<=R.pz F):(bl p.1.natAbs:Int)<=F+1-E\/bl p.1.natAbs=0:=by
 by_cases h0:p.1=0
 ·right;rw[h0];rfl
 ·left;have:=Ft h0 h2;unfold bC at this;omega
theorem Lg(k:Int):R.qz (-1,k)=-R.pz k:=by
 unfold R.qz;dsimp only;have:((-1:Int):Rat)=-1:=by norm_cast
 rw[this];grind
theorem Yd{k:Int}(h:-1048576<=k/\k<=1048576):kT (-1,k):=⟨by show bl (-1:Int).natAbs<=524288;decide +kernel,h,fun h=>absurd (show(-1:Int)=0 from h) (by decide),fun _=>by show(-1:Int)%2=1;decide⟩
theorem aEQ{x:Int×Int}(h0:x.1≠0)(hT:R.ab (R.qz x)<=4/5):bC x<=-1:=by
 have:R.ab (R.qz x)<R.pz 0:=by rw[R.gR];grind
 have:=Ho h0 this;omega
structure bED(x:Int×Int)(p:Int):Prop where
 pl:kT (fU.vO x p)
 ph:kT (fU.uF x p)
 bl:bl (fU.vO x p).1.natAbs<=80000
 bh:M.bl (fU.uF x p).1.natAbs<=80000
 lo:R.qz (fU.vO x p)<=R.sn (R.ab (R.qz x))-R.pz (bC x-p-270)
 hi:R.sn (R.ab (R.qz x))<=R.qz (fU.uF x p)
 wd:R.qz (fU.uF x p)-R.qz (fU.vO x p)<=R.pz (-p-1)*R.ab (R.qz x)
 one:R.qz (fU.uF x p)<=1
 mh:¬2*bC x+8 < -p->R.sn (R.ab (R.qz x))+R.pz (bC x-p-270)<=R.qz (fU.uF x p)
 pos:0<R.qz (fU.vO x p)
 bLK:2*bC x+8 < -p->yR true ((x.1.natAbs:Int),x.2) (p+32)=true/\yR false ((x.1.natAbs:Int),x.2) (p+32)=true/\kT (shD false ((x.1.natAbs:Int),x.2) (p+32))/\bS.lA (shD false ((x.1.natAbs:Int),x.2) (p+32)) (-1,bC x-p-3)=true
 okB:¬2*bC x+8 < -p->bM.Vw x p/\bM.aRE (aW.Ef x p).1 (2^(2*aW.hv x p+22)) (aW.w2 x p) (p+32)
theorem aXA{p:Int}(hp:1<=p):R.pz (-p-1)<=1/4:=by
 have h:=R.cX (show -p-1<=-2 by omega);have h2:=R.yY 2;rw[show -((2:Nat):Int)=-2 by rfl]at h2;rw[h2]at h;have h3:R.hf 2=1/4:=by simp[R.hf];grind
 grind
theorem Xr{x:Int×Int}{p:Int}(hx:kT x)(h0:x.1≠0)(hT:R.ab (R.qz x)<=4/5)(ht:-1200<=bC x)(hp:1<=p/\p<=67100):bED x p:=by
 have h1:=aEQ h0 hT;obtain⟨e1,e2,h4,h5,h6,bPO,bPN⟩:=Gu h0 (by omega) ht hp;obtain⟨t1,t2⟩:=pY h0;have tp:=R.dW (bC x);have T0:0<R.ab (R.qz x):=by grind
 obtain⟨v1,v2⟩:=R.aFD (cGL T0) hT;obtain⟨z,hz⟩:∃z,z=R.pz (-p-31):=⟨_,rfl⟩;have z0:=R.dW (-p-31);have q1:R.pz (-p-1)=1073741824*z:=by
  have:=R.gL (-p-1) (n:=30) (c:=1073741824) (by norm_cast);rw[show -p-1-((30:Nat):Int)=-p-31 by omega,<-hz]at this;grind
 have q2:R.pz (bC x-p-61)=z*R.pz (bC x)/1073741824:=by
  have:=R.gL (-p-31+bC x) (n:=30) (c:=1073741824) (by norm_cast);rw[show -p-31+bC x-((30:Nat):Int)=bC x-p-61 by omega,R.kS,<-hz]at this;grind
 have q3:R.pz (bC x-p-3)=268435456*(z*R.pz (bC x)):=by
  have:=R.gL (bC x-p-3) (n:=28) (c:=268435456) (by norm_cast);rw[show bC x-p-3-((28:Nat):Int)=-p-31+bC x by omega,R.kS,<-hz]at this;grind
 have sm:=aXA hp.1;rw[q1]at sm;rw[<-hz]at z0;have zt:=R.aJ (cGL z0) (show 0<=R.ab (R.qz x)-R.pz (bC x) by grind);have zT:=R.aJ (cGL T0) (show 0<=1/4-1073741824*z by grind);have aUH:R.pz (bC x-p-270)<=R.pz (bC x-p-61):=R.cX (by omega);have p270:=R.dW (bC x-p-270)
 by_cases c:2*bC x+8 < -p
 ·have dL:fU.vO x p=bS.oN (shD false ((x.1.natAbs:Int),x.2) (p+32)) (-1,bC x-p-3):=by unfold fU.vO;rw[e1,if_pos c]
  have dH:fU.uF x p=shD true ((x.1.natAbs:Int),x.2) (p+32):=by unfold fU.uF;rw[e1,if_pos c]
  have pX:=zA hx;have vX:=Ep x;have tX:=aSZ x;have n1:=(Ht false ((x.1.natAbs:Int),x.2) (n:=p+32) (by omega)).1 rfl;have n2:=(Ht true ((x.1.natAbs:Int),x.2) (n:=p+32) (by omega)).2 rfl;rw[vX,show(1:Int)-(p+32)=-p-31 by omega,<-hz,R.bR (cGL T0)]at n1 n2;have aXH:bKU ((x.1.natAbs:Int),x.2):=⟨pX,by unfold bC at tX h1;dsimp only at *;omega⟩;obtain⟨s1,s2⟩:=Sa (up:=false) (n:=p+32) aXH (by omega);obtain⟨s3,s4⟩:=Sa (up:=true) (n:=p+32) aXH (by omega);have x1:=aYX false ((x.1.natAbs:Int),x.2) (n:=p+32) (by rw[tX];omega);have x2:=Ba true ((x.1.natAbs:Int),x.2) (p+32).toNat;rw[tX]at x1;rw[show(((p+32).toNat:Nat):Int)=p+32 by omega]at x2;have pm:=Yd (k:=bC x-p-3) (by omega);have T1:R.ab (R.qz x)<=R.pz (bC x+1):=cGL t2;have L0:0<=R.qz (shD false ((x.1.natAbs:Int),x.2) (p+32)):=by grind
  have bIQ:bS.lA (shD false ((x.1.natAbs:Int),x.2) (p+32)) (-1,bC x-p-3)=true:=by
   refine aDW (E:=bC x-p-40) (n:=(p+41).toNat) s2 pm (by omega) (by dsimp only;omega) ?_ ?_ (by omega) (by omega) (by omega)
   ·rw[show bC x-p-40+(((p+41).toNat:Nat):Int)=bC x+1 by omega,R.bR L0];grind
   ·rw[Lg,R.jM,R.bR (cGL (R.dW _))];exact R.cX (by omega)
  have pl:=Ug s2 pm bIQ;have xl:=aHR (p:=shD false ((x.1.natAbs:Int),x.2) (p+32)) (q:=(-1,bC x-p-3)) (E:=bC x-p-40) (by omega) (by dsimp only;omega) (by omega);have ql:=Uf (shD false ((x.1.natAbs:Int),x.2) (p+32)) (-1,bC x-p-3);rw[Lg,q3]at ql;rw[<-dL]at pl xl ql;rw[<-dH]at s4 x2 n2;have cube:R.ab (R.qz x)-z*R.pz (bC x)*268435456/16<=R.sn (R.ab (R.qz x)):=by
   have s:=(R.Ay (cGL T0) (show R.ab (R.qz x)<=1 by grind)).1;have a1:R.ab (R.qz x)*R.ab (R.qz x)<=R.pz (bC x+1)*R.pz (bC x+1):=R.cR (cGL T0) T1 (cGL T0) T1;rw[<-R.kS]at a1;have a2:R.pz (bC x+1+(bC x+1))<=R.pz (-p-7):=R.cX (by omega);have a3:R.pz (-p-7)=16777216*z:=by
    have:=R.gL (-p-7) (n:=24) (c:=16777216) (by norm_cast);rw[show -p-7-((24:Nat):Int)=-p-31 by omega,<-hz]at this;grind
   have a4:=R.aJ (show 0<=16777216*z-R.ab (R.qz x)*R.ab (R.qz x) by grind) (cGL T0);rw[R.lO]at T1;have a5:=R.aJ (cGL z0) (show 0<=2*R.pz (bC x)-R.ab (R.qz x) by grind);generalize R.ab (R.qz x)=T at *;grind
  have bTZ:=cGX z0 tp;refine⟨pl,s4,?_,by omega,?_,?_,?_,?_,fun h=>absurd c h,?_,fun _=>⟨s3,s1,s2,bIQ⟩,fun h=>absurd c h⟩
  ·have v:R.ab (R.qz (fU.vO x p))<=R.pz (bC x+1):=by
    rw[R.bR (by grind)];grind
   have:=aRB xl v;omega
  ·rw[q2]at aUH;grind
  ·grind
  ·rw[q1];grind
  ·grind
  ·grind
 ·have dL:fU.vO x p=shD false (bP.Kr (aW.Ef x p).1 (2^(2*aW.hv x p+22)) (aW.w2 x p)) (p+32):=by unfold fU.vO;rw[e1,if_neg c]
  have dH:fU.uF x p=bP.zN (shD true (bP.Ej (aW.Ef x p).1 (2^(2*aW.hv x p+22)) (aW.w2 x p)) (p+32)):=by unfold fU.uF;rw[e1,if_neg c]
  obtain⟨b1,b2,b3⟩:=aAA h0 (by grind) (by omega) ht hp;have hV:R.pz (bC x-1)<=R.sn (R.ab (R.qz x)):=by
   have:=R.sE (bC x);grind
  obtain⟨a1,a2,a3,a4,a5,a6⟩:=bIP h0 (by omega) ht hp hV (by grind) b2;have a7:=a1.2.2.2.2.2;have c1:=Ba false (bP.Kr (aW.Ef x p).1 (2^(2*aW.hv x p+22)) (aW.w2 x p)) (p+32).toNat;have c2:=Ba true (bP.Ej (aW.Ef x p).1 (2^(2*aW.hv x p+22)) (aW.w2 x p)) (p+32).toNat;rw[show(((p+32).toNat:Nat):Int)=p+32 by omega]at c1 c2;obtain⟨k1,k2,k3,k4⟩:=aHM (shD true (bP.Ej (aW.Ef x p).1 (2^(2*aW.hv x p+22)) (aW.w2 x p)) (p+32));have c3:=aQW (n:=80000) (by omega) (show bl (shD true (bP.Ej (aW.Ef x p).1 (2^(2*aW.hv x p+22)) (aW.w2 x p)) (p+32)).1.natAbs<=80000 by omega);have c4:=aFU a7;rw[<-dL]at a2 a3 a4 c1;rw[<-dH]at k1 k2 k3 k4 c3 c4;generalize shD true (bP.Ej (aW.Ef x p).1 (2^(2*aW.hv x p+22)) (aW.w2 x p)) (p+32)=hi at *;rw[<-hz]at a4 a6;have zV:=R.aJ (cGL z0) (show 0<=R.ab (R.qz x)-R.sn (R.ab (R.qz x)) by grind);have hm:R.sn (R.ab (R.qz x))+R.pz (bC x-p-270)<=R.qz (fU.uF x p):=by
   refine k4 _ a5 ?_;rw[q2]at aUH;grind
  refine⟨a2,c4,by omega,c3,a3,by grind,?_,k1,fun _=>hm,?_,fun h=>absurd h c,fun _=>⟨⟨⟨by omega,by omega⟩,b1⟩,a1⟩⟩
  ·rw[q1];rw[q2]at a4 a6;grind
  ·rw[q2]at a4;grind
structure bKV(x:Int×Int)(p:Int):Prop where
 pl:kT (bM.tT x p)
 ph:kT (bM.sZ x p)
 bl:bl (bM.tT x p).1.natAbs<=80000
 bh:M.bl (bM.sZ x p).1.natAbs<=80000
 lo:R.qz (bM.tT x p)<=R.cs (R.ab (R.qz x))
 hi:R.cs (R.ab (R.qz x))<=R.qz (bM.sZ x p)
 wd:R.qz (bM.sZ x p)-R.qz (bM.tT x p)<=R.pz (-p-1)
 one:R.qz (bM.sZ x p)<=1
 ml:x.1≠0->R.qz (bM.tT x p)<=R.cs (R.ab (R.qz x))-R.pz (bC x-p-270)
 mh:x.1≠0->¬2*bC x+8 < -p->R.cs (R.ab (R.qz x))+R.pz (bC x-p-270)<=R.qz (bM.sZ x p)
 bLK:x.1≠0->2*bC x+8 < -p->bS.lA (1,0) (-1,-p-3)=true
 okB:x.1≠0->¬2*bC x+8 < -p->bM.Vw x p/\bM.aRE (aW.Ef x p).2 (2^(2*aW.hv x p+22)) (aW.w2 x p) (p+32)
theorem Oy{x:Int×Int}{p:Int}(hT:R.ab (R.qz x)<=4/5)(ht:x.1≠0->-1200<=bC x)(hp:1<=p/\p<=67100):bKV x p:=by
 obtain⟨z,hz⟩:∃z,z=R.pz (-p-31):=⟨_,rfl⟩;have z0:=R.dW (-p-31);have q1:R.pz (-p-1)=1073741824*z:=by
  have:=R.gL (-p-1) (n:=30) (c:=1073741824) (by norm_cast);rw[show -p-1-((30:Nat):Int)=-p-31 by omega,<-hz]at this;grind
 have sm:=aXA hp.1;rw[q1]at sm;rw[<-hz]at z0
 by_cases h0:x.1=0
 ·have dL:bM.tT x p=(1,0):=by unfold bM.tT;rw[if_pos h0]
  have dH:bM.sZ x p=(1,0):=by unfold bM.sZ;rw[if_pos h0]
  have c1:R.cs (R.ab (R.qz x))=1:=by rw[R.pU h0,R.bR (cHS),R.aHH]
  refine⟨by rw[dL];exact Dc,by rw[dH];exact Dc,by rw[dL];decide +kernel,by rw[dH];decide +kernel,by rw[dL,qP,c1];exact cHS,by rw[dH,qP,c1];exact cHS,?_,by rw[dH,qP];exact cHS,fun h=>absurd h0 h,fun h=>absurd h0 h,fun h=>absurd h0 h,fun h=>absurd h0 h⟩;rw[dL,dH,q1];grind
 ·have ht:=ht h0;have h1:=aEQ h0 hT;obtain⟨e1,e2,h4,h5,h6,bPO,bPN⟩:=Gu h0 (by omega) ht hp;obtain⟨t1,t2⟩:=pY h0;have tp:=R.dW (bC x);have T0:0<R.ab (R.qz x):=by grind
  obtain⟨v1,v2⟩:=R.Zt (r:=R.ab (R.qz x)) (by rw[R.bR (cGL T0)];exact hT);have T1:R.ab (R.qz x)<=R.pz (bC x+1):=cGL t2;have pt:R.pz (bC x)<=1/2:=by
   have:=R.cX (show bC x+1<=0 by omega);rw[R.lO,R.gR]at this;grind
  have q2:R.pz (bC x-p-61)=z*R.pz (bC x)/1073741824:=by
   have:=R.gL (-p-31+bC x) (n:=30) (c:=1073741824) (by norm_cast);rw[show -p-31+bC x-((30:Nat):Int)=bC x-p-61 by omega,R.kS,<-hz]at this;grind
  have zt:=R.aJ (cGL z0) (show 0<=1/2-R.pz (bC x) by grind);have bTZ:=cGX z0 tp;have aUH:R.pz (bC x-p-270)<=R.pz (bC x-p-61):=R.cX (by omega);rw[q2]at aUH;have cs2:=R.Ow (cGL T0) (show R.ab (R.qz x)<=1 by grind)
  by_cases c:2*bC x+8 < -p
  ·have dL:bM.tT x p=bS.oN (1,0) (-1,-p-3):=by unfold bM.tT;rw[e1,if_neg h0,if_pos c]
   have dH:bM.sZ x p=(1,0):=by unfold bM.sZ;rw[e1,if_neg h0,if_pos c]
   have pm:=Yd (k:=-p-3) (by omega);have o1:R.ab (R.qz (1,0))<=R.pz 0:=by rw[qP,R.gR,R.bR (by grind)];exact cHS
   have bIQ:bS.lA (1,0) (-1,-p-3)=true:=by
    refine aDW (E:=-p-3) (n:=(p+3).toNat) Dc pm (by dsimp only;omega) (by dsimp only;omega) ?_ ?_ (by omega) (by omega) (by omega)
    ·rw[show -p-3+(((p+3).toNat:Nat):Int)=0 by omega];exact o1
    ·rw[Lg,R.jM,R.bR (cGL (R.dW _))];exact R.cX (by omega)
   have pl:=Ug Dc pm bIQ;have xl:=aHR (p:=(1,0)) (q:=(-1,-p-3)) (E:=-p-3) (by dsimp only;omega) (by dsimp only;omega) (by omega);have ql:=Uf (1,0) (-1,-p-3);have q3:R.pz (-p-3)=268435456*z:=by
    have:=R.gL (-p-3) (n:=28) (c:=268435456) (by norm_cast);rw[show -p-3-((28:Nat):Int)=-p-31 by omega,<-hz]at this;grind
   rw[Lg,qP,q3]at ql;rw[<-dL]at pl xl ql;have lo:R.qz (bM.tT x p)<=R.cs (R.ab (R.qz x))-R.pz (bC x-p-270):=by
    have a1:R.ab (R.qz x)*R.ab (R.qz x)<=R.pz (bC x+1)*R.pz (bC x+1):=R.cR (cGL T0) T1 (cGL T0) T1;rw[<-R.kS]at a1;have a2:R.pz (bC x+1+(bC x+1))<=R.pz (-p-7):=R.cX (by omega);have a3:R.pz (-p-7)=16777216*z:=by
     have:=R.gL (-p-7) (n:=24) (c:=16777216) (by norm_cast);rw[show -p-7-((24:Nat):Int)=-p-31 by omega,<-hz]at this;grind
    grind
   refine⟨pl,by rw[dH];exact Dc,?_,by rw[dH];decide +kernel,?_,by rw[dH,qP];exact v2,?_,by rw[dH,qP];exact cHS,fun _=>lo,fun _ h=>absurd c h,fun _ _=>bIQ,fun _ h=>absurd c h⟩
   ·have v:R.ab (R.qz (bM.tT x p))<=R.pz 0:=by
     rw[R.gR,R.bR (by grind)];grind
    have:=aRB xl v;omega
   ·have:=R.dW (bC x-p-270);grind
   ·rw[dH,qP,q1];grind
  ·have dL:bM.tT x p=shD false (bP.Kr (aW.Ef x p).2 (2^(2*aW.hv x p+22)) (aW.w2 x p)) (p+32):=by unfold bM.tT;rw[e1,if_neg h0,if_neg c]
   have dH:bM.sZ x p=bP.zN (shD true (bP.Ej (aW.Ef x p).2 (2^(2*aW.hv x p+22)) (aW.w2 x p)) (p+32)):=by unfold bM.sZ;rw[e1,if_neg h0,if_neg c]
   obtain⟨b1,b2,b3⟩:=aAA h0 (by grind) (by omega) ht hp;have hV:R.pz (bC x-1)<=R.cs (R.ab (R.qz x)):=by
    have:=R.sE (bC x);grind
   obtain⟨a1,a2,a3,a4,a5,a6⟩:=bIP h0 (by omega) ht hp hV v2 b3;have a7:=a1.2.2.2.2.2;have c1:=Ba false (bP.Kr (aW.Ef x p).2 (2^(2*aW.hv x p+22)) (aW.w2 x p)) (p+32).toNat;have c2:=Ba true (bP.Ej (aW.Ef x p).2 (2^(2*aW.hv x p+22)) (aW.w2 x p)) (p+32).toNat;rw[show(((p+32).toNat:Nat):Int)=p+32 by omega]at c1 c2;obtain⟨k1,k2,k3,k4⟩:=aHM (shD true (bP.Ej (aW.Ef x p).2 (2^(2*aW.hv x p+22)) (aW.w2 x p)) (p+32));have c3:=aQW (n:=80000) (by omega) (show bl (shD true (bP.Ej (aW.Ef x p).2 (2^(2*aW.hv x p+22)) (aW.w2 x p)) (p+32)).1.natAbs<=80000 by omega);have c4:=aFU a7;rw[<-dL]at a2 a3 a4 c1;rw[<-dH]at k1 k2 k3 k4 c3 c4;generalize shD true (bP.Ej (aW.Ef x p).2 (2^(2*aW.hv x p+22)) (aW.w2 x p)) (p+32)=hi at *;rw[<-hz]at a4 a6;have zV:=R.aJ (cGL z0) (show 0<=1-R.cs (R.ab (R.qz x)) by grind);have m9:=R.dW (bC x-p-270);have room:R.cs (R.ab (R.qz x))+R.pz (bC x-p-270)<=1:=by
    have a1:R.pz (bC x)*R.pz (bC x)<=R.ab (R.qz x)*R.ab (R.qz x):=R.cR (cGL tp) t1 (cGL tp) t1;rw[<-R.kS]at a1;have a2:R.pz (-p-9)<=R.pz (bC x+bC x):=R.cX (by omega);have a3:R.pz (-p-9)=4194304*z:=by
     have:=R.gL (-p-9) (n:=22) (c:=4194304) (by norm_cast);rw[show -p-9-((22:Nat):Int)=-p-31 by omega,<-hz]at this;grind
    have a5:=R.cR (cGL T0) hT (cGL T0) hT;have a6:=R.aJ (show 0<=R.ab (R.qz x)*R.ab (R.qz x) by grind) (show 0<=16/25-R.ab (R.qz x)*R.ab (R.qz x) by grind);generalize R.ab (R.qz x)=T at *;grind
   have hm:R.cs (R.ab (R.qz x))+R.pz (bC x-p-270)<=R.qz (bM.sZ x p):=k4 _ a5 room;rw[q2]at a4 a6;refine⟨a2,c4,by omega,c3,by grind,by grind,?_,k1,fun _=>a3,fun _ _=>hm,fun _ h=>absurd h c,fun _ _=>⟨⟨⟨by omega,by omega⟩,b1⟩,a1⟩⟩;rw[q1];grind
end M
namespace W
open Go AI M
namespace Wy
def E:=mE [(12,aZ.aI)] 8 [5] [] []
def aE:=bd f241
theorem aT:Nk E aE:=nk
theorem start a:aF E f241 aE [D.s (sc (int u64 a))]=letI A:=bif cD.eZ 64 a&&cE.jD 64 a then aR (aZ.kA 64 a) (aZ.lG 64 a)else((0:Int),(0:Int));aM (((64:Int)=(32:Int)\/(64:Int)=(64:Int))/\0<=a/\a<18446744073709551616) (some [D.agg [sc (bool (isNeg A.fst)),ints u64 (M6.dg A.fst.natAbs),sc (int i64 A.snd)],D.s (sc (int i64 (bif cD.eZ 64 a then bif cE.jD 64 a then(0:Int)else(6:Int)else(2:Int))))]):=eJ aT
def sp(b:Int):Prop×List D:=(0<=b/\b<18446744073709551616,[dD (bif cD.eZ 64 b&&cE.jD 64 b then aR (aZ.kA 64 b) (aZ.lG 64 b)else(0,0)),.s (.sc (.int .i64 (bif cD.eZ 64 b then(bif cE.jD 64 b then 0 else 6)else 2)))])
theorem spec:iU E f241 aE (pN .u64) sp:=fun b h=>(start b).trans (gP ⟨Or.inr rfl,h.1,h.2⟩)
def aI:dJ:=orc1 (pN .u64) sp
theorem ok:OK 241 aI:=(eB E aE (aA aZ.ok aC) func241).oS rfl spec
end Wy
namespace Fk
def E:=mE [(51,aKL.aI)] 5 [] [] []
def aE:=bd f244
theorem aT:Nk E aE:=nk
theorem start a:aF E f244 aE [D.s (sc (int i64 a))]=aM ((-9223372036854775808:Int)<=a/\a<9223372036854775808) (some [D.agg [sc (bool (isNeg a)),ints u64 (M6.dg a.natAbs)]]):=eJ aT
def sp(a:Int):Prop×List D:=(-9223372036854775808<=a/\a<9223372036854775808,[wD a])
theorem spec:iU E f244 aE (pN .i64) sp:=fun a h=>(start a).trans (gP h)
def aI:dJ:=orc1 (pN .i64) sp
theorem ok:OK 244 aI:=(eB E aE (aA aKL.ok aC) func244).oS rfl spec
end Fk
namespace uS
def E:=mE [(244,Fk.aI),(50,kG.aI),(158,Kt.aI)] 22 [] [] []
def aE:=bd f242
theorem aT:Nk E aE:=nk
theorem start a b c:aF E f242 aE [D.agg [sc (bool a),ints u64 b,sc (int i64 c)]]=letI F:=(false,b,c);letI C:=wv (isNeg 3,M6.dg (cLG 3));letI A:=bif iQ C (-2:Int)then aR C (-2:Int)else((0:Int),(0:Int));letI B:=(isNeg A.fst,M6.dg A.fst.natAbs,A.snd);aM ((-9223372036854775808:Int)<=(3:Int)/\(3:Int)<(9223372036854775808:Int)) (aM (iE (isNeg 3,M6.dg 3)/\(-9223372036854775808:Int)<=(-2:Int)/\(-2:Int)<(9223372036854775808:Int)) (aM (aU F/\aU B) (some [D.s (sc (bool (decide (lI (bS.oG (dv F) (dv B)) (bS.oF (dv F) (dv B))<=0))))]))):=eJ aT
def aSF(p:Int×Int):Bool:=decide (eR ((p.1.natAbs:Int),p.2) (3,-2)<=0)
def sp(x:gW):Prop×List D:=(aU x,[.s (.sc (.bool (aSF (dv x))))])
theorem spec:iU E f242 aE kF sp:=by
 intro x h;have hx:aU x:=h;refine(start x.1 x.2.1 x.2.2).trans ?_;have e3:wv (isNeg 3,M6.dg (cLG 3))=3:=oI 3;have i3:iQ 3 (-2)=true:=by decide +kernel
 have n3:aR 3 (-2)=(3,-2):=by decide +kernel
 have p3:kT (3,-2):=by
  have:=iF (z:=3) (e:=-2) i3 (by decide +kernel);rw[n3]at this;exact this
 have d3:=dV p3;have v3:=dY (3,-2);dsimp only at d3 v3;have ok:aU (false,x.2.1,x.2.2):=⟨⟨hx.1.1,fun hf=>(by cases hf),hx.1.len⟩,hx.2⟩;have vx:dv (false,x.2.1,x.2.2)=((((dv x).1.natAbs:Nat):Int),(dv x).2):=by
  rw[show(dv x).1.natAbs=M6.val x.2.1 from jB (x.1,x.2.1)];rfl
 rw[gP ⟨by decide,by decide⟩,gP ⟨gN (z:=3) (by decide +kernel),by decide,by decide⟩];simp only[e3,i3,n3,cond_true];rw[gP ⟨ok,d3⟩,v3,vx];rfl
def aI:dJ:=orc1 kF sp
theorem ok:OK 242 aI:=(eB E aE (aA Fk.ok (aA kG.ok (aA Kt.ok aC))) func242).oS rfl spec
end uS
end W
namespace R
open W.Arctan
theorem Eo{k w:Nat}(hk:2<=k):∀f j p m,2^w/k^(2*j+1)<4^f->m<=p->(j%2=1->m+iX k w j<=p) ->
  ∃N J,rounds k f (2^w/k^(2*j+1)) p m (2*j+1) j=(N,J)/\J<=j+f/\(N:Rat)=(p:Rat)-(m:Rat)+(sum (fun i=>sg i*(iX k w i:Rat)) J-sum (fun i=>sg i*(iX k w i:Rat)) j)/\iX k w J=0
 |0,j,p,m,h,hm,_=>by
  have h0:2^w/k^(2*j+1)=0:=by simpa using h
  refine⟨p-m,j,rfl,cBE _,?_,by unfold iX;rw[h0,Nat.zero_div]⟩;have:((p-m:Nat):Rat)=(p:Rat)-(m:Rat):=by
   have e:p-m+m=p:=by omega
   have e2:((p-m:Nat):Rat)+(m:Rat)=(p:Rat):=by exact_mod_cast e
   grind
  rw[this];grind
 |f+1,j,p,m,h,hm,ho=>by
  by_cases h0:2^w/k^(2*j+1)=0
  ·refine⟨p-m,j,by unfold rounds;rw[if_pos h0],by omega,?_,by unfold iX;rw[h0,Nat.zero_div]⟩;have:((p-m:Nat):Rat)=(p:Rat)-(m:Rat):=by
    have e:p-m+m=p:=by omega
    have e2:((p-m:Nat):Rat)+(m:Rat)=(p:Rat):=by exact_mod_cast e
    grind
   rw[this];grind
  ·have e1:2^w/k^(2*j+1)/k/k=2^w/k^(2*(j+1)+1):=by
    rw[cGV,cGV,show 2*(j+1)+1=2*j+1+1+1 by omega,cGD k (2*j+1+1),cGD k (2*j+1),cGH]
   have e2:2^w/k^(2*(j+1)+1)<4^f:=by
    rw[<-e1,cGV];apply cGY;have:4<=k*k:=cLS hk hk;rw[cGD 4 f,cGC (4^f)]at h;exact cCB h (cCT _ this)
   have e3:iX k w (j+1)<=iX k w j:=by
    unfold iX;rw[<-e1];refine cCA (Nat.div_le_div_left (by omega) (by omega)) (Nat.div_le_div_right ?_);exact cCA (cJR _ _) (cJR _ _)
   have es:sum (fun i=>sg i*(iX k w i:Rat)) (j+1)=sum (fun i=>sg i*(iX k w i:Rat)) j+sg j*(iX k w j:Rat):=dX _ _;have ea:2^w/k^(2*j+1)/(2*j+1)=iX k w j:=rfl;unfold rounds;rw[if_neg h0,e1,ea,show 2*j+1+2=2*(j+1)+1 by omega]
   by_cases hc:(2*j+1)%4=1
   ·rw[if_pos hc];obtain⟨N,J,r1,r2,r3,r4⟩:=Eo hk f (j+1) (p+iX k w j) m e2 (by omega) (fun _=>by omega);refine⟨N,J,r1,by omega,?_,r4⟩;have:sg j=1:=by unfold sg;rw[aQ]
    rw[es,this]at r3;rw[cLQ]at r3;grind
   ·rw[if_neg hc];have hj:=ho (by omega);obtain⟨N,J,r1,r2,r3,r4⟩:=Eo hk f (j+1) p (m+iX k w j) e2 (by omega) (fun h=>by omega);refine⟨N,J,r1,by omega,?_,r4⟩;have:sg j=-1:=by unfold sg;rw[aO]
    rw[es,this]at r3;rw[cLQ]at r3;grind
theorem aAE{k:Nat}(hk:2<=k){w:Nat}(hw:w<=1000000):(atan k w).2<=w+2/\ab (((atan k w).1:Rat)-((2^w:Nat):Rat)*aAD k)<=((atan k w).2:Rat)+2:=by
 have h:2^w/k^(2*0+1)<4^(w+2):=by
  rw[Om];exact cHT (cJR _ _) (cHX (by omega) (by omega))
 obtain⟨N,J,r1,r2,r3,r4⟩:=Eo (w:=w) hk (w+2) 0 0 0 h (cBE _) (fun h=>by omega);have e:atan k w=(N,J):=by
  unfold atan;rw[<-r1];simp
 rw[e];have hJ:J<=1048576:=by omega
 have:=aHQ hk w hJ r4;refine⟨by dsimp only;omega,?_⟩;dsimp only;have e0:sum (fun i=>sg i*(iX k w i:Rat)) 0=0:=rfl;rw[e0]at r3;have e1:(N:Rat)=sum (fun i=>sg i*(iX k w i:Rat)) J:=by
  have z:((0:Nat):Rat)=0:=by norm_cast
  rw[z]at r3;grind
 rw[e1];exact this
end R
namespace W
open Go AI M
namespace Cl
def E:=mE [(144,iI.aI),(145,dM.aI),(250,Pu.aI)] 55 [52] [(6,[0,1,6,7,20,21])] []
def aE:=bd f231
theorem aT:Nk E aE:=nk
def L6 a b (c:Nat) (d:List Int) e f g:=pZ E f231 aE 6 [jR a,dO b,Dq 2 c 22 d,dO e,bN f,bN g]
theorem start a b:aF E f231 aE [D.s (ints u64 a),D.s (sc (int u64 b))]=letI A:=(a.length:Int);letI B:=A+(1:Int);aM (a.length<=1099511627776) (aB (!iI.qI a) (some [D.s (sc (slice none 0 0)),D.s (sc (int i64 2))]) (if 0<=i64.wrap B/\i64.wrap B<=i64.wrap B/\i64.wrap B<=8796093022208 then Cl.L6 a b (i64.wrap B).toNat (cDH (i64.wrap B).toNat (0:Int)) 0 A 0 else none)):=eJ aT
theorem vD a b c d e f g:L6 a b c d e f g=letI C:=a.getD g.toNat 0*b%18446744073709551616+e+0;letI B:=(a.length:Int);letI A:=d.set B.toNat e;aB (decide (g<f)) (if 0<=g/\g<B then aM (0<=a.getD g.toNat 0/\a.getD g.toNat 0<(18446744073709551616:Int)/\0<=b/\b<18446744073709551616) (aM (0<=a.getD g.toNat 0*b%18446744073709551616/\0<=e/\(0:Int)<=(0:Int)/\(0:Int)<=(1:Int)) (if 0<=g/\g<(c:Int)then Cl.L6 a b c (d.set g.toNat (C%18446744073709551616)) (u64.wrap (a.getD g.toNat 0*b/18446744073709551616+C/18446744073709551616)) f (i64.wrap (g+1))else none))else none) (if 0<=B/\B<(c:Int)then aM (M6.bZ A/\A.length<=1099511627776) (some [D.s (ints u64 (bif dM.nT (M6.val A)then M6.dg (M6.val A)else [])),D.s (sc (int i64 (bif dM.nT (M6.val A)then(0:Int)else(5:Int))))])else none):=lJ aT
theorem L{a:List Int}{b:Nat}(ha:M6.bZ a)(hl:a.length<=8192)(hb:b<18446744073709551616):∀(k i:Nat) (pre:List Int) (c:Nat),i+k=a.length->pre.length=i->M6.bZ pre->c<18446744073709551616 ->
  M6.val pre+18446744073709551616^i*c=M6.val (a.take i)*b ->
  L6 a b (a.length+1) (pre ++ cDH (k+1) 0) c a.length i=some [D.s (.ints .u64 (bif dM.nT (M6.val a*b)then M6.dg (M6.val a*b)else [])),D.s (.sc (.int .i64 (bif dM.nT (M6.val a*b)then 0 else 5)))]:=by
 intro k
 induction k with
 |zero =>
  intro i pre c hi hp hd hc hv;rw[M6.bV (by omega)]at hv;have hs:(pre ++ cDH (0+1) 0).set a.length (c:Int)=pre ++ [(c:Int)]:=by
   have:=Bb (pre:=pre) (i:=a.length) (k:=0) (by omega) (c:Int);simpa using this
  have hval:M6.val (pre ++ [(c:Int)])=M6.val a*b:=by
   rw[M6.lY,hp,cFB];exact hv
  have bOC:M6.bZ (pre ++ [(c:Int)]):=M6.mG hd ⟨cKX _,by omega⟩;rw[vD,aL,if_pos ⟨by omega,by omega⟩,cFB,hs,gP ⟨bOC,by simp;omega⟩,hval]
 |succ k ih =>
  intro i pre c hi hp hd hc hv;have g:=ha.get i;obtain⟨x,hx⟩:=cGG g.1;have Ey:x<18446744073709551616:=by omega
  have bRJ:x*b<=18446744073709551615*18446744073709551615:=cLS (by omega) (by omega);have e1:((x:Int)*(b:Int))=((x*b:Nat):Int):=by rw[cHC]
  have uL:M6.val (pre ++ [(((x*b%18446744073709551616+c)%18446744073709551616:Nat):Int)])+18446744073709551616^(i+1)*(x*b/18446744073709551616+(x*b%18446744073709551616+c)/18446744073709551616)=M6.val (a.take (i+1))*b:=by
   rw[M6.lY,hp,M6.bJ,hx,cFB,cFB,cBY,<-hv,cGD,cGH (18446744073709551616^i) x b,cGH (18446744073709551616^i) 18446744073709551616];have e:(x*b%18446744073709551616+c)%18446744073709551616+18446744073709551616*(x*b/18446744073709551616+(x*b%18446744073709551616+c)/18446744073709551616)=x*b+c:=by omega
   have e2:=congrArg (18446744073709551616^i*·) e;simp only[cGF]at e2 ⊢;omega
  have bSN:x*b/18446744073709551616+(x*b%18446744073709551616+c)/18446744073709551616<18446744073709551616:=by omega
  have w1:u64.wrap ((x:Int)*(b:Int)/18446744073709551616+((x:Int)*(b:Int)%18446744073709551616+(c:Int)+0)/18446744073709551616)=((x*b/18446744073709551616+(x*b%18446744073709551616+c)/18446744073709551616:Nat):Int):=by
   rw[e1,wrap_u64];omega
  have w2:((x:Int)*(b:Int)%18446744073709551616+(c:Int)+0)%18446744073709551616=(((x*b%18446744073709551616+c)%18446744073709551616:Nat):Int):=by rw[e1];omega
  rw[vD,aN,if_pos ⟨by omega,by omega⟩,cFB,hx,gP ⟨by omega,by omega,by omega,by omega⟩,gP ⟨by rw[e1];omega,by omega,by omega,by omega⟩,if_pos ⟨by omega,by omega⟩,Bb hp,w1,w2,wrap_i64 (n:=(i:Int)+1),show(i:Int)+1=((i+1:Nat):Int)from rfl];exact ih (i+1) _ _ (by omega) (by simp[hp]) (M6.mG hd ⟨cKX _,by omega⟩) bSN uL
def sp(a:List Int)(b:Int):Prop×List D:=(M6.cG a/\a.length<=8192/\0<=b/\b<18446744073709551616,[.s (.ints .u64 (bif dM.nT (M6.val a*b.toNat)then M6.dg (M6.val a*b.toNat)else [])),.s (.sc (.int .i64 (bif dM.nT (M6.val a*b.toNat)then 0 else 5)))])
theorem spec:fL E f231 aE (pI .u64) (pN .u64) sp:=by
 rintro a b ⟨ha,hl,h0,h1⟩;obtain⟨n,rfl⟩:=cGG h0;refine(start a n).trans ?_;have w:i64.wrap ((a.length:Int)+1)=((a.length+1:Nat):Int):=by rw[wrap_i64];rfl
 have:=L (b:=n) ha.jE hl (by omega) a.length 0 [] 0 (by omega) rfl M6.mQ (by omega) (by simp[M6.val]);rw[gP,iI.oV ha hl,cDE,bF,w,if_pos ⟨by omega,by omega,by omega⟩,cFB];rw[cFH]at this;exact this
def aI:dJ:=orc2 (pI .u64) (pN .u64) sp
theorem ok:OK 231 aI:=(eB E aE (aA iI.ok (aA dM.ok (aA Pu.ok aC))) func231).lF rfl spec
end Cl
namespace Wq
def E:=mE [(102,vY.aI),(100,wA.aI),(95,pS.aI)] 26 [14,21] [] []
def aE:=bd f232
theorem aT:Nk E aE:=nk
theorem start a b:aF E f232 aE [D.s (ints u64 a),D.s (sc (int u64 b))]=letI B:=M6.dg b.toNat;letI C:=M6.val a+M6.val B;letI A:=M6.cG a/\M6.cG B/\a.length<=8192/\B.length<=8192;aM (0<=b/\b<18446744073709551616) (aM A (aM (0<=b/\b<18446744073709551616) (aM A (some [D.s (ints u64 (M6.dg (M6.val a-M6.val B))),D.s (ints u64 (bif dM.nT C then M6.dg C else []))])))):=eJ aT
theorem aZL{v n:Nat}(hv:v<18446744073709551616^8000)(hn:n<18446744073709551616):dM.nT (v+n)=true:=by
 unfold dM.nT;refine decide_eq_true (cCA (M6.dP (k:=8001) ?_) (by decide));rw[cGD];have h1:1<=18446744073709551616^8000:=cEE (by decide);generalize 18446744073709551616^8000=X at *;omega
def sp(a:List Int)(b:Int):Prop×List D:=(M6.cG a/\a.length<=8000/\0<=b/\b<18446744073709551616,[.s (.ints .u64 (M6.dg (M6.val a-b.toNat))),.s (.ints .u64 (M6.dg (M6.val a+b.toNat)))])
theorem spec:fL E f232 aE (pI .u64) (pN .u64) sp:=by
 rintro a b ⟨hn,hl,h0,h1⟩;have hb:b.toNat<18446744073709551616:=by omega
 have lb:(M6.dg b.toNat).length<=1:=M6.dP (k:=1) (by rw[Nat.pow_one];exact hb);refine(start a b).trans ?_;have lv:=M6.dR hn.jE;have ok:dM.nT (M6.val a+b.toNat)=true:=aZL (cCB lv (cEF (by decide) hl)) hb;rw[gP ⟨h0,h1⟩,gP ⟨hn,M6.aY _,by omega,by omega⟩,gP ⟨h0,h1⟩,gP ⟨hn,M6.aY _,by omega,by omega⟩,M6.bD,ok];rfl
def aI:dJ:=orc2 (pI .u64) (pN .u64) sp
theorem ok:OK 232 aI:=(eB E aE (aA vY.ok (aA wA.ok (aA pS.ok aC))) func232).lF rfl spec
end Wq
namespace mS
def E:=mE [(230,eF.aI),(231,Cl.aI),(102,vY.aI),(232,Wq.aI)] 45 [42] [] []
def aE:=bd f198
theorem aT:Nk E aE:=nk
theorem start a:aF E f198 aE [D.s (sc (int i64 a))]=letI K:=Arctan.atan (cPH 5) a.toNat;letI I:=Arctan.atan (cPH 239) a.toNat;letI F:=M6.dg K.fst;letI G:=bif dM.nT (M6.val F*16)then M6.dg (M6.val F*16)else [];letI C:=M6.dg I.fst;letI H:=bif dM.nT (M6.val C*4)then M6.dg (M6.val C*4)else [];letI B:=u64.wrap ((16:Int)*(↑((2:Nat)+(3:Nat)*K.snd):Int))+u64.wrap ((4:Int)*(↑((2:Nat)+(3:Nat)*I.snd):Int));letI A:=M6.dg (M6.val G-M6.val H);aM (((2:Int)<=(5:Int)/\(5:Int)<(4294967296:Int))/\0<=a/\a<=150000) (aM (((2:Int)<=(239:Int)/\(239:Int)<(4294967296:Int))/\0<=a/\a<=150000) (aM (M6.cG F/\F.length<=8192/\(0:Int)<=(16:Int)/\(16:Int)<(18446744073709551616:Int)) (aM (M6.cG C/\C.length<=8192/\(0:Int)<=(4:Int)/\(4:Int)<(18446744073709551616:Int)) (aM (M6.cG G/\M6.cG H/\G.length<=8192/\H.length<=8192) (aM (M6.cG A/\A.length<=8000/\0<=u64.wrap B/\u64.wrap B<18446744073709551616) (some [D.s (ints u64 (M6.dg (M6.val A-(u64.wrap B).toNat))),D.s (ints u64 (M6.dg (M6.val A+(u64.wrap B).toNat)))])))))):=eJ aT
def mX(w:Nat):Nat:=(Arctan.atan 5 w).1*16-(Arctan.atan 239 w).1*4
def mO(w:Nat):Nat:=16*(2+3*(Arctan.atan 5 w).2)+4*(2+3*(Arctan.atan 239 w).2)
theorem aXK(w:Nat):mO w<=60*w+160:=by
 have h1:=(Arctan.Gv 5 w).2;have h2:=(Arctan.Gv 239 w).2;unfold mO;omega
def sp(w:Int):Prop×List D:=(0<=w/\w<=150000,[.s (.ints .u64 (M6.dg (mX w.toNat-mO w.toNat))),.s (.ints .u64 (M6.dg (mX w.toNat+mO w.toNat)))])
theorem spec:iU E f198 aE (pN .i64) sp:=by
 rintro w ⟨h0,h1⟩;refine(start w).trans ?_;obtain⟨q,rfl⟩:=cGG h0;have a1:=Arctan.Gv 5 q;have a2:=Arctan.Gv 239 q;have hO:=aXK q;unfold sp;have k1:cPH 5=5:=rfl;have k2:cPH 239=239:=rfl;simp only[cFB,k1,k2,M6.bD];have eO:u64.wrap (u64.wrap (16*((2+3*(Arctan.atan 5 q).2:Nat):Int))+u64.wrap (4*((2+3*(Arctan.atan 239 q).2:Nat):Int)))=((mO q:Nat):Int):=by
  rw[wrap_u64 (n:=16*_),wrap_u64 (n:=4*_),wrap_u64];unfold mO;omega
 rw[eO];have hX:mX q<=(Arctan.atan 5 q).1*16:=cHP _ _;unfold mX at hX ⊢;generalize (Arctan.atan 5 q).1=a at *;generalize (Arctan.atan 239 q).1=b at *;have hp:2^(2*q+4+4)=16*2^(2*q+4):=by rw[cGE];omega
 have b1:a*16<2^(2*q+4+4):=by rw[hp];omega
 have b2:b*4<2^(2*q+4+4):=by rw[hp];omega
 have b3:a*16-b*4<2^(2*q+4+4):=by omega
 have l3:(M6.dg (a*16-b*4)).length<=8000:=fZ (k:=8000) (cCA (dK.2 b3) (by omega));rw[gP ⟨⟨by decide,by decide⟩,by omega,by omega⟩,gP ⟨⟨by decide,by decide⟩,by omega,by omega⟩,gP ⟨M6.aY _,eF.mT a1.1 (by omega),by decide,by decide⟩,gP ⟨M6.aY _,eF.mT a2.1 (by omega),by decide,by decide⟩,
  eF.aXF b1 (by omega),eF.aXF b2 (by omega),cond_true,cond_true]
 simp only[M6.bD,cFB];rw[gP ⟨M6.aY _,M6.aY _,eF.mT b1 (by omega),eF.mT b2 (by omega)⟩,gP ⟨M6.aY _,l3,by omega,by omega⟩]
open R in
theorem num {w:Nat} (bTG:40<=w) (hw:w<=1000000):R.ab ((mX w:Rat)-((2^w:Nat):Rat)*R.pi)<=(mO w:Rat):=by
 obtain⟨j1,e1⟩:=R.aAE (k:=5) (by decide) hw;obtain⟨j2,e2⟩:=R.aAE (k:=239) (by decide) hw;have hp:=R.iP.1;have hW:(1099511627776:Rat)<=((2^w:Nat):Rat):=by
  have:2^40<=2^w:=cEF (by decide) bTG;exact_mod_cast this
 have hO:(mO w:Rat)=16*(2+3*((Arctan.atan 5 w).2:Rat))+4*(2+3*((Arctan.atan 239 w).2:Rat)):=by
  unfold mO
  push_cast
  rfl
 have hJ1:((Arctan.atan 5 w).2:Rat)<=1000002:=by exact_mod_cast cCA j1 (by omega)
 have hJ2:((Arctan.atan 239 w).2:Rat)<=1000002:=by exact_mod_cast cCA j2 (by omega)
 have aCQ:(0:Rat)<=((Arctan.atan 5 w).2:Rat):=by exact_mod_cast cHH _
 have aUR:(0:Rat)<=((Arctan.atan 239 w).2:Rat):=by exact_mod_cast cHH _
 rw[hO];clear hO;have h3:0<=R.pi-3:=by grind
 have hm:=R.aJ (cGJ (by decide:(0:Rat)<=1099511627776) hW) h3;have bGD:((2^w:Nat):Rat)*R.pi=16*(((2^w:Nat):Rat)*R.aAD 5)-4*(((2^w:Nat):Rat)*R.aAD 239):=by
  rw[show R.pi=16*R.aAD 5-4*R.aAD 239 from rfl];grind
 have bXH:3*((2^w:Nat):Rat)<=((2^w:Nat):Rat)*R.pi:=by grind
 rw[R.cN]at e1 e2 ⊢;have bYY:(mX w:Rat)=((mX w:Nat):Rat):=rfl;unfold mX;generalize ((2^w:Nat):Rat)*R.pi=WP at *;generalize ((2^w:Nat):Rat)*R.aAD 5=W5 at *;generalize ((2^w:Nat):Rat)*R.aAD 239=W2 at *;generalize ((2^w:Nat):Rat)=W at *;clear hm h3 hp bYY;generalize ((Arctan.atan 5 w).2:Rat)=J1 at *;generalize ((Arctan.atan 239 w).2:Rat)=J2 at *;generalize (Arctan.atan 5 w).1=a at *;generalize (Arctan.atan 239 w).1=b at *;have hle:b*4<=a*16:=by
  have:(b:Rat)*4<=(a:Rat)*16:=by
   obtain⟨e3,e4⟩:=e1;obtain⟨e5,e6⟩:=e2;grind
  exact_mod_cast this
 have hX:((a*16-b*4:Nat):Rat)=(a:Rat)*16-(b:Rat)*4:=by
  have e:(a*16-b*4)+b*4=a*16:=by omega
  have e':((a*16-b*4:Nat):Rat)+(b:Rat)*4=(a:Rat)*16:=by exact_mod_cast e
  grind
 rw[hX];obtain⟨e3,e4⟩:=e1;obtain⟨e5,e6⟩:=e2;constructor <;> grind
def aI:dJ:=orc1 (pN .i64) sp
theorem ok:OK 198 aI:=(eB E aE (aA eF.ok (aA Cl.ok (aA vY.ok (aA Wq.ok aC)))) func198).oS rfl spec
end mS
namespace uB
def E:=mE [(198,mS.aI),(104,Hh.aI),(101,Cm.aI)] 39 [19,25] [(5,[0,4]),(3,[0])] [3]
def aE:=bd f152
theorem aT:Nk E aE:=nk
def J3 a:=lP E f152 aE 3 [bN a]
def L5 a b:=pZ E f152 aE 5 [bN a,bN b]
theorem start a:aF E f152 aE [D.s (sc (int i64 a))]=letI A:=some [D.s (sc (slice none 0 0)),D.s (sc (int i64 1))];aB (decide (a<1)) A (aB (decide (70000<a)) A (uB.J3 a)):=eJ aT
theorem iB a:J3 a=uB.L5 a 48:=cJ aT
theorem Px a b:L5 a b=letI G:=i64.wrap (a+b);letI B:=M6.dg (mS.mX G.toNat+mS.mO G.toNat);letI F:=M6.dg (M6.val B/(2:Nat)^b.toNat);letI A:=M6.dg (mS.mX G.toNat-mS.mO G.toNat);letI C:=M6.dg (M6.val A/(2:Nat)^b.toNat);aM (0<=i64.wrap (a+b)/\i64.wrap (a+b)<=150000) (aM (M6.cG A/\A.length<=8192/\0<=b/\b<4611686018427387904) (aM (M6.cG B/\B.length<=8192/\0<=b/\b<4611686018427387904) (aM (M6.bZ C/\M6.bZ F/\C.length<=1099511627776/\F.length<=1099511627776) (aB (jK (M6.val C) (M6.val F)==0) (some [D.s (ints u64 C),D.s (sc (int i64 0))]) (uB.L5 a (i64.wrap (b*2))))))):=lJ aT
def sp(p:Int):Prop×List D:=(1<=p/\p<=70000,[.s (.ints .u64 (M6.dg (R.pF p.toNat))),.s (.sc (.int .i64 0))])
theorem bFH(w:Nat):mS.mX w<2^(2*w+8):=by
 have a1:=Arctan.Gv 5 w;have hp:2^(2*w+8)=16*2^(2*w+4):=by rw[show 2*w+8=2*w+4+4 by omega,cGE];omega
 have:mS.mX w<=(Arctan.atan 5 w).1*16:=cHP _ _;omega
theorem spec:iU E f152 aE (pN .i64) sp:=by
 rintro p ⟨h0,h1⟩;refine(start p).trans ?_;obtain⟨q,rfl⟩:=cGG (show 0<=p by omega);have hX:=mS.num (w:=q+48) (by omega) (by omega);have hO:=mS.aXK (q+48);have lX:=bFH (q+48);have bZU:2*mS.mO (q+48)<=2^(48-24):=by
  have:2^(48-24)=16777216:=by decide
  omega
 obtain⟨o1,o2,o3⟩:=R.bEY (q:=q) (g:=48) (by omega) (by omega) bZU hX;have ew:i64.wrap ((q:Int)+48)=((q+48:Nat):Int):=by rw[wrap_i64];omega
 unfold sp;rw[aL,aL,iB,Px,ew,cFB,cFB];have hp:2^(2*(q+48)+9)=2*2^(2*(q+48)+8):=by rw[cGD];omega
 have bTG:2^40<=2^(2*(q+48)+8):=fK;have l1:=eF.mT (n:=mS.mX (q+48)-mS.mO (q+48)) (k:=2*(q+48)+8) (by omega) (by omega);have l2:=eF.mT (n:=mS.mX (q+48)+mS.mO (q+48)) (k:=2*(q+48)+9) (by omega) (by omega);rw[gP ⟨by omega,by omega⟩,gP ⟨M6.aY _,l1,by decide,by decide⟩,gP ⟨M6.aY _,l2,by decide,by decide⟩];simp only[M6.bD,show cPH 48=48 from rfl,o2,o3];have l3:(M6.dg (R.pF q)).length<=8192:=by
  rw[<-o2];exact eF.mT (k:=2*(q+48)+8) (cHT (cJR _ _) (by omega)) (by omega)
 rw[gP ⟨M6.gH _,M6.gH _,by omega,by omega⟩,bI (by unfold jK;simp)]
def aI:dJ:=orc1 (pN .i64) sp
theorem ok:OK 152 aI:=(eB E aE (aA mS.ok (aA Hh.ok (aA Cm.ok aC))) func152).oS rfl spec
end uB
namespace uT
def E:=mE [(48,Cp.aI),(192,kC.aI)] 37 [] [] []
def aE:=bd f254
theorem aT:Nk E aE:=nk
theorem start a c d b:aF E f254 aE [D.agg [sc (bool a),ints u64 c,sc (int i64 d)],D.s (sc (int i64 b))]=letI C:=i64.wrap ((0:Int)-d)-b;letI B:=wv (a,c)/(↑((2:Nat)^(i64.wrap C).toNat):Int);letI A:=bif fit (M6.val c*(2:Nat)^(i64.wrap (d+b)).toNat)then wv (a,c)*(↑((2:Nat)^(i64.wrap (d+b)).toNat):Int)else(0:Int);aB (decide (0<=i64.wrap (d+b))) (aM (iE (a,c)/\0<=i64.wrap (d+b)/\i64.wrap (d+b)<4611686018427387904) (some [D.agg [sc (bool (isNeg A)),ints u64 (M6.dg A.natAbs)]])) (aM (iE (a,c)/\0<=i64.wrap C/\i64.wrap C<4611686018427387904) (some [D.agg [sc (bool (isNeg B)),ints u64 (M6.dg B.natAbs)]])):=eJ aT
def aPJ(p:Int×Int)(n:Int):Int:=if 0<=p.2+n then p.1*((2^(p.2+n).toNat:Nat):Int)else p.1/((2^(-p.2-n).toNat:Nat):Int)
def sp(x:gW)(n:Int):Prop×List D:=(aU x/\-1099511627776<=n/\n<=1099511627776/\(0<=x.2.2+n->fit ((dv x).1.natAbs*2^(x.2.2+n).toNat)=true),[wD (aPJ (dv x) n)])
theorem spec:fL E f254 aE kF (pN .i64) sp:=by
 rintro x n ⟨hx,h1,h2,hf⟩;have he:=hx.2.1;refine(start x.1 x.2.1 x.2.2 n).trans ?_;have w1:i64.wrap (x.2.2+n)=x.2.2+n:=wrap_i64;have w2:i64.wrap (i64.wrap (0-x.2.2)-n)=-x.2.2-n:=by rw[wrap_i64 (n:=0-x.2.2),wrap_i64];omega
 have ha:(dv x).1.natAbs=M6.val x.2.1:=jB (x.1,x.2.1);unfold sp aPJ
 by_cases c:0<=x.2.2+n
 ·have aXU:=hf c;rw[ha]at aXU;rw[w1,aN c,gP ⟨hx.Fo,c,by omega⟩,aXU,cond_true];dsimp only;rw[if_pos (show 0<=(dv x).2+n from c)];rfl
 ·rw[w1,w2,aL c,gP ⟨hx.Fo,by omega,by omega⟩];dsimp only;rw[if_neg (show ¬0<=(dv x).2+n from c)];rfl
def aI:dJ:=orc2 kF (pN .i64) sp
theorem ok:OK 254 aI:=(eB E aE (aA Cp.ok (aA kC.ok aC)) func254).lF rfl spec
end uT
namespace uP
def E:=mE [(96,fV.aI),(151,Ci.aI),(102,vY.aI),(101,Cm.aI),(190,aAT.aI)] 66 [31,43,63] [(3,[0,4,5,6])] [3]
def aE:=bd f262
theorem aT:Nk E aE:=nk
def J3 a b c d e f:=lP E f262 aE 3 [bN a,dS 1 27 [dG b,gO c],dS 2 27 [dG d,gO e],dS 3 27 [dG f,sc (slice none 0 0)]]
theorem start a b c d e:aF E f262 aE [D.s (sc (int i64 a)),D.agg [sc (bool b),ints u64 c],D.agg [sc (bool d),ints u64 e]]=letI A:=some [D.agg [sc (bool false),sc (slice none 0 0)],D.s (sc (int i64 2))];aM (c.length<=1099511627776) (aD (fV.oZ (b,c)) fun f=>aB (!f) A (aM (e.length<=1099511627776) (aD (fV.oZ (d,e)) fun g=>aB (!g) A (uP.J3 a b c d e false)))):=eJ aT
theorem iB a b c d e f:J3 a b c d e f=aB ((e.length:Int)==(0:Int)) (some [D.agg [sc (bool false),sc (slice none 0 0)],D.s (sc (int i64 4))]) (aM (M6.cG c/\c.length<=8192/\M6.cG e/\1<=e.length/\e.length<=8192) (aD (M6.dg (M6.val c/M6.val e)) fun g=>aD (M6.dg (M6.val c%M6.val e)) fun h=>aM (M6.cG e/\M6.cG h/\e.length<=8192/\h.length<=8192) (aD (M6.dg (M6.val e-M6.val h)) fun i=>letI A:=M6.val g+bif oC.oB a (b !=d) (decide (M6.val g%2=(1:Nat))) (decide (0<(h.length:Int))) (jK (M6.val h) (M6.val i))then(1:Nat)else(0:Nat);letI B:=bif fit A then zs (b !=d) A else(0:Int);aD (if M6.val e<M6.val h then(3:Int)else(0:Int)) fun j=>aB (j !=0) (some [D.agg [sc (bool false),sc (slice none 0 0)],D.s (sc (int i64 j))]) (aM (M6.bZ h/\M6.bZ i/\h.length<=1099511627776/\i.length<=1099511627776) (aM (M6.cG g/\g.length<=8192) (aD (isNeg B) fun k=>aD (M6.dg B.natAbs) fun l=>aD (bif fit A then(0:Int)else(5:Int)) fun m=>some [D.agg [sc (bool k),ints u64 l],D.s (sc (int i64 m))])))))):=cJ aT
def wQ(w:Int)(neg:Bool)(u v:Nat):Nat:=u/v+bif oC.oB w neg (decide (u/v%2=1)) (decide (u%v≠0)) (jK (u%v) (v-u%v))then 1 else 0
def sp(w:Int)(x y:Bool×List Int):Prop×List D:=(iE x/\iE y/\wv y≠0,wE (fit (wQ w (x.1 !=y.1) (M6.val x.2) (M6.val y.2))) (zs (x.1 !=y.1) (wQ w (x.1 !=y.1) (M6.val x.2) (M6.val y.2))))
theorem spec:oO E f262 aE (pN .i64) pV pV sp:=by
 rintro w x y ⟨hx,hy,h0⟩;refine(start w x.1 x.2 y.1 y.2).trans ?_;have l1:=hx.len;have l2:=hy.len;have f1:=fV.mD hx;have f2:=fV.mD hy;have hv0:M6.val y.2≠0:=fun h=>h0 (Cv.2 h)
 have bDO:y.2.length≠0:=fun h=>hv0 ((M6.cZ hy.1).1 h)
 have hm:=cDM (M6.val x.2) (show 0<M6.val y.2 by omega);have b1:=hx.bl;have b2:=hy.bl;have q1:=fZ (n:=M6.val x.2/M6.val y.2) (k:=8192) (cCA (gF (cJR _ _)) b1);have q2:=fZ (n:=M6.val x.2%M6.val y.2) (k:=8192) (cCA (gF (Nat.le_of_lt hm)) b2);have q3:=fZ (n:=M6.val y.2-M6.val x.2%M6.val y.2) (k:=8192) (cCA (gF (cHP _ _)) b2);have hd:decide (0<(((M6.dg (M6.val x.2%M6.val y.2)).length:Nat):Int))=decide (M6.val x.2%M6.val y.2≠0):=by
  have:=M6.gM (n:=M6.val x.2%M6.val y.2)
  by_cases h:M6.val x.2%M6.val y.2=0
  ·rw[decide_eq_false (by have:=this.2 h;omega),decide_eq_false (by omega)]
  ·rw[decide_eq_true (by have:=fun hl=>h (this.1 hl);omega),decide_eq_true h]
 simp only[aG];rw[gP,f1,cDE,bF,gP,f2,cDE,bF,iB];simp only[aG];rw[bA,gP ⟨hx.1,l1,hy.1,by omega,l2⟩,gP ⟨hy.1,M6.aY _,l2,by omega⟩,M6.bD,aO,gD rfl,gP ⟨M6.gH _,M6.gH _,by omega,by omega⟩,gP ⟨M6.aY _,by omega⟩,hd];simp only[M6.bD];rfl
def aI:dJ:=orc3 (pN .i64) pV pV sp
theorem ok:OK 262 aI:=(eB E aE (aA fV.ok (aA Ci.ok (aA vY.ok (aA Cm.ok (aA aAT.ok aC))))) func262).xX rfl spec
end uP
namespace Pv
def E:=mE [(262,uP.aI)] 11 [8] [] []
def aE:=bd f255
theorem aT:Nk E aE:=nk
theorem start a b c d:aF E f255 aE [D.agg [sc (bool a),ints u64 b],D.agg [sc (bool c),ints u64 d]]=letI A:=uP.wQ 2 (a !=c) (M6.val b) (M6.val d);letI B:=bif fit A then zs (a !=c) A else(0:Int);aM (iE (a,b)/\iE (c,d)/\wv (c,d)≠0) (some [D.agg [sc (bool (isNeg B)),ints u64 (M6.dg B.natAbs)],D.s (sc (int i64 (bif fit A then(0:Int)else(5:Int))))]):=eJ aT
def sp(x y:Bool×List Int):Prop×List D:=(iE x/\iE y/\wv y≠0/\fit (uP.wQ 2 false (M6.val x.2) (M6.val y.2))=true,[wD (zs (x.1 !=y.1) (uP.wQ 2 false (M6.val x.2) (M6.val y.2))),.s (.sc (.int .i64 0))])
theorem spec:fL E f255 aE pV pV sp:=by
 rintro x y ⟨hx,hy,h0,hf⟩;refine(start x.1 x.2 y.1 y.2).trans ((gP ⟨hx,hy,h0⟩).trans ?_);have e:uP.wQ 2 (x.1 !=y.1) (M6.val x.2) (M6.val y.2)=uP.wQ 2 false (M6.val x.2) (M6.val y.2):=rfl;unfold sp
 try dsimp only
 rw[e,hf];rfl
def aI:dJ:=orc2 pV pV sp
theorem ok:OK 255 aI:=(eB E aE (aA uP.ok aC) func255).lF rfl spec
end Pv
namespace aKK
def E:=mE [(96,fV.aI),(105,Fi.aI),(49,Hi.aI)] 25 [22] [(3,[2,3,4])] [3]
def aE:=bd f256
theorem aT:Nk E aE:=nk
def J3 a b c d e:=lP E f256 aE 3 [dS 0 27 [dG a,gO b],dS 1 27 [dG c,gO d],dS 2 27 [dG e,sc (slice none 0 0)]]
theorem start a b c d:aF E f256 aE [D.agg [sc (bool a),ints u64 b],D.agg [sc (bool c),ints u64 d]]=letI A:=some [D.agg [sc (bool false),sc (slice none 0 0)],D.s (sc (int i64 2))];aM (b.length<=1099511627776) (aB (!fV.oZ (a,b)) A (aM (d.length<=1099511627776) (aB (!fV.oZ (c,d)) A (aKK.J3 a b c d false)))):=eJ aT
theorem iB a b c d e:J3 a b c d e=letI C:=zs (!c) (M6.val d);letI A:=(isNeg C,M6.dg C.natAbs);letI B:=bif fit (wv (a,b)+wv A).natAbs then wv (a,b)+wv A else(0:Int);aM (M6.cG d/\d.length<=1099511627776) (aM (iE (a,b)/\iE A) (some [D.agg [sc (bool (isNeg B)),ints u64 (M6.dg B.natAbs)],D.s (sc (int i64 (bif fit (wv (a,b)+wv A).natAbs then(0:Int)else(5:Int))))])):=cJ aT
def sp(x y:Bool×List Int):Prop×List D:=(iE x/\iE y,wE (fit (wv x-wv y).natAbs) (wv x-wv y))
theorem spec:fL E f256 aE pV pV sp:=by
 rintro x y ⟨hx,hy⟩;refine(start x.1 x.2 y.1 y.2).trans ?_;have l1:=hx.len;have l2:=hy.len;have f1:=fV.mD hx;have f2:=fV.mD hy;have e1:zs (!y.1) (M6.val y.2)=-(wv y):=by unfold wv zs;cases y.1 <;> simp
 have b2:bl (-(wv y)).natAbs<=524288:=by rw[cHY,jB];exact hy.bl
 rw[gP,f1,cDE,bF,gP,f2,cDE,bF,iB,gP ⟨hy.1,by omega⟩,e1,gP ⟨hx,gN b2⟩,oI];rfl
def aI:dJ:=orc2 pV pV sp
theorem ok:OK 256 aI:=(eB E aE (aA fV.ok (aA Fi.ok (aA Hi.ok aC))) func256).lF rfl spec
end aKK
namespace aEL
def E:=mE [(256,aKK.aI),(192,kC.aI)] 22 [] [] []
def aE:=bd f257
theorem aT:Nk E aE:=nk
theorem start a b d e c:aF E f257 aE [D.agg [sc (bool a),ints u64 b],D.agg [sc (bool d),ints u64 e],D.s (sc (int i64 c))]=letI A:=bif fit (wv (a,b)-wv (d,e)).natAbs then wv (a,b)-wv (d,e)else(0:Int);letI C:=(isNeg A,M6.dg A.natAbs);letI B:=wv C/(↑((2:Nat)^c.toNat):Int);aM (iE (a,b)/\iE (d,e)) (aM (iE C/\0<=c/\c<4611686018427387904) (some [D.agg [sc (bool (isNeg B)),ints u64 (M6.dg B.natAbs)]])):=eJ aT
def sp(x y:Bool×List Int)(n:Int):Prop×List D:=(iE x/\iE y/\fit (wv x-wv y).natAbs=true/\0<=n/\n<4611686018427387904,[wD ((wv x-wv y)/((2^n.toNat:Nat):Int))])
theorem spec:oO E f257 aE pV pV (pN .i64) sp:=by
 rintro x y n ⟨h1,h2,h3,h4,h5⟩;have bPI:fit (wv (x.1,x.2)-wv (y.1,y.2)).natAbs=true:=h3;refine(start x.1 x.2 y.1 y.2 n).trans ?_;rw[gP ⟨h1,h2⟩];simp only[bPI,cond_true,oI];exact gP ⟨gN (zH h3),h4,h5⟩
def aI:dJ:=orc3 pV pV (pN .i64) sp
theorem ok:OK 257 aI:=(eB E aE (aA aKK.ok (aA kC.ok aC)) func257).xX rfl spec
end aEL
namespace aKO
def E:=mE [(96,fV.aI),(101,Cm.aI)] 43 [37,42] [(3,[2,3])] [3]
def aE:=bd f263
theorem aT:Nk E aE:=nk
def J3 a b c d:=lP E f263 aE 3 [dS 0 27 [dG a,gO b],dS 1 27 [dG c,gO d]]
theorem start a b c d:aF E f263 aE [D.agg [sc (bool a),ints u64 b],D.agg [sc (bool c),ints u64 d]]=letI A:=some [D.s (sc (int i64 0)),D.s (sc (int i64 2))];aM (b.length<=1099511627776) (aB (!fV.oZ (a,b)) A (aM (d.length<=1099511627776) (aB (!fV.oZ (c,d)) A (aKO.J3 a b c d)))):=eJ aT
theorem iB a b c d:J3 a b c d=letI C:=sc (int i64 0);letI A:=aB a (aM (M6.bZ d/\M6.bZ b/\d.length<=1099511627776/\b.length<=1099511627776) (some [D.s (sc (int i64 (jK (M6.val d) (M6.val b)))),D.s C])) (aM (M6.bZ b/\M6.bZ d/\b.length<=1099511627776/\d.length<=1099511627776) (some [D.s (sc (int i64 (jK (M6.val b) (M6.val d)))),D.s C]));letI B:=aB (!a) (aB c (some [D.s (sc (int i64 1)),D.s C]) A) A;aB a (aB (!c) (some [D.s (sc (int i64 (-1:Int))),D.s C]) B) B:=cJ aT
def lI(a b:Int):Int:=if a<b then -1 else if b<a then 1 else 0
def sp(x y:Bool×List Int):Prop×List D:=(iE x/\iE y,[.s (.sc (.int .i64 (lI (wv x) (wv y)))),.s (.sc (.int .i64 0))])
theorem spec:fL E f263 aE pV pV sp:=by
 rintro x y ⟨hx,hy⟩;refine(start x.1 x.2 y.1 y.2).trans ?_;have l1:=hx.len;have l2:=hy.len;have f1:=fV.mD hx;have f2:=fV.mD hy;have d1:=hx.1.jE;have d2:=hy.1.jE;have z1:=hx.2.1;have z2:=hy.2.1;rw[gP,f1,cDE,bF,gP,f2,cDE,bF,iB];unfold sp lI wv zs;obtain⟨p,a⟩:=x;obtain⟨q,b⟩:=y
 try dsimp only at *
 have g1:M6.bZ b/\M6.bZ a/\b.length<=1099511627776/\a.length<=1099511627776:=⟨d2,d1,by omega,by omega⟩;have g2:M6.bZ a/\M6.bZ b/\a.length<=1099511627776/\b.length<=1099511627776:=⟨d1,d2,by omega,by omega⟩;simp only[gP g1,gP g2];cases p with
 |true =>
  have:=z1 rfl;cases q with
  |true =>
   simp only[aB,cDE,cond_true,cond_false];have e:∀z:Int,z=(if -(M6.val a:Int) < -(M6.val b:Int)then -1 else if -(M6.val b:Int) < -(M6.val a:Int)then 1 else 0)->some [D.s (.sc (.int .i64 z)),D.s (.sc (.int .i64 0))]=some [D.s (.sc (.int .i64 (if -(M6.val a:Int) < -(M6.val b:Int)then -1 else if -(M6.val b:Int) < -(M6.val a:Int)then 1 else 0))),D.s (.sc (.int .i64 0))]:=fun z h=>by rw[h]
   refine e _ ?_;unfold jK
   (repeat' split) <;> omega
  |false =>
   simp only[aB,cMR,cond_true,cond_false];rw[aQ]
 |false =>
  cases q with
  |true =>
   have:=z2 rfl;simp only[aB,cMR,cond_true,cond_false];rw[aO,aQ]
  |false =>
   simp only[aB,cMR,cond_true,cond_false];have e:∀z:Int,z=(if(M6.val a:Int)<(M6.val b:Int)then -1 else if(M6.val b:Int)<(M6.val a:Int)then 1 else 0)->some [D.s (.sc (.int .i64 z)),D.s (.sc (.int .i64 0))]=some [D.s (.sc (.int .i64 (if(M6.val a:Int)<(M6.val b:Int)then -1 else if(M6.val b:Int)<(M6.val a:Int)then 1 else 0))),D.s (.sc (.int .i64 0))]:=fun z h=>by rw[h]
   refine e _ ?_;unfold jK
   (repeat' split) <;> omega
def aI:dJ:=orc2 pV pV sp
theorem ok:OK 263 aI:=(eB E aE (aA fV.ok (aA Cm.ok aC)) func263).lF rfl spec
end aKO
namespace rI
def E:=mE [(48,Cp.aI),(49,Hi.aI),(263,aKO.aI)] 39 [] [] []
def aE:=bd f258
theorem aT:Nk E aE:=nk
theorem start a b c d e f:aF E f258 aE [D.agg [sc (bool a),ints u64 b],D.agg [sc (bool c),ints u64 d],D.agg [sc (bool e),ints u64 f]]=letI B:=bif fit (M6.val d*4)then wv (c,d)*4 else(0:Int);aM (iE (c,d)/\(0:Int)<=(2:Int)/\(2:Int)<(4611686018427387904:Int)) (aD (isNeg B) fun g=>aD (M6.dg B.natAbs) fun h=>letI A:=bif fit (wv (false,b)+wv (g,h)).natAbs then wv (false,b)+wv (g,h)else(0:Int);aM (iE (false,b)/\iE (g,h)) (aD (isNeg A) fun i=>aD (M6.dg A.natAbs) fun j=>letI C:=bif fit (M6.val j*2)then wv (i,j)*2 else(0:Int);aM (iE (i,j)/\(0:Int)<=(1:Int)/\(1:Int)<(4611686018427387904:Int)) (aD (isNeg C) fun k=>aD (M6.dg C.natAbs) fun l=>aM (iE (k,l)/\iE (e,f)) (aD (aKO.lI (wv (k,l)) (wv (e,f))) fun m=>some [D.s (sc (bool (decide (m<0))))])))):=eJ aT
theorem aWE{n k:Nat}(h:bl n<=k):bl (n*4)<=k+2:=dK.2 (by rw[cGE];exact cJQ (dK.1 h) (by decide))
theorem Lx{n k:Nat}(h:bl n<=k):bl (n*2)<=k+1:=dK.2 (by rw[cGD];exact cJQ (dK.1 h) (by decide))
theorem Bw{a b:Int}{n k:Nat}(ha:bl a.natAbs<=k)(hb:bl b.natAbs<=k)(hn:n=(a+b).natAbs):bl n<=k+1:=dK.2 (by
 have h1:=dK.1 ha;have h2:=dK.1 hb;rw[cGD];generalize 2^k=Q at *;omega)
def aQU(r off pi:Int):Bool:=decide (aKO.lI (((r.natAbs:Int)+off*4)*2) pi<0)
def sp(x y z:Bool×List Int):Prop×List D:=(iE x/\iE y/\iE z/\0<=wv y/\bl (wv x).natAbs<=524000/\bl (wv y).natAbs<=524000,[.s (.sc (.bool (aQU (wv x) (wv y) (wv z))))])
theorem spec:oO E f258 aE pV pV pV sp:=by
 rintro x y z ⟨h1,h2,h3,h0,b1,b2⟩;refine(start x.1 x.2 y.1 y.2 z.1 z.2).trans ?_;have ex:(x.1,x.2)=x:=rfl;have ey:(y.1,y.2)=y:=rfl;have ez:(z.1,z.2)=z:=rfl;have vy:(wv y).natAbs=M6.val y.2:=jB y;have vx:(wv x).natAbs=M6.val x.2:=jB x;have wx:wv (false,x.2)=(((wv x).natAbs:Nat):Int):=by rw[vx];rfl
 have bUZ:iE (false,x.2):=⟨h1.1,fun hf=>(by cases hf),h1.len⟩;have c1:bl (wv y*4).natAbs<=524002:=by
  rw[cGR];exact aWE b2
 have f1:fit (M6.val y.2*4)=true:=decide_eq_true (by
  rw[cGR,vy]at c1;exact cCA c1 (by decide))
 rw[gP ⟨h2,by decide,by decide⟩];simp only[aG,ex,ey,ez,f1,cond_true];have oS:iE (isNeg (wv y*4),M6.dg (wv y*4).natAbs):=gN (cCA c1 (by decide));have c2:bl ((((wv x).natAbs:Nat):Int)+wv y*4).natAbs<=524003:=Bw (k:=524002) (by rw[cGW];exact cCA b1 (by decide)) c1 rfl;have f2:fit ((((wv x).natAbs:Nat):Int)+wv y*4).natAbs=true:=decide_eq_true (cCA c2 (by decide));rw[gP ⟨bUZ,oS⟩];simp only[wx,oI,f2,cond_true,M6.bD];have lF:iE (isNeg ((((wv x).natAbs:Nat):Int)+wv y*4),M6.dg ((((wv x).natAbs:Nat):Int)+wv y*4).natAbs):=gN (cCA c2 (by decide));have c3:bl (((((wv x).natAbs:Nat):Int)+wv y*4).natAbs*2)<=524004:=Lx c2;have f3:fit (((((wv x).natAbs:Nat):Int)+wv y*4).natAbs*2)=true:=decide_eq_true (cCA c3 (by decide));rw[gP ⟨lF,by decide,by decide⟩,f3,cond_true,gP ⟨gN (by rw[cGR];exact cCA c3 (by decide)),h3⟩];rfl
def aI:dJ:=orc3 pV pV pV sp
theorem ok:OK 258 aI:=(eB E aE (aA Cp.ok (aA Hi.ok (aA aKO.ok aC))) func258).xX rfl spec
end rI
namespace cC
def E:=mE [(106,uA.aI),(152,uB.aI),(254,uT.aI),(48,Cp.aI),(255,Pv.aI),(200,aKM.aI),(256,aKK.aI),(49,Hi.aI),(244,Fk.aI),(257,aEL.aI),(258,rI.aI)] 90 [89] [] []
def aE:=bd f243
theorem aT:Nk E aE:=nk
theorem start a c d b:aF E f243 aE [D.agg [sc (bool a),ints u64 c,sc (int i64 d)],D.s (sc (int i64 b))]=letI U:=(isNeg 3,M6.dg 3);letI C:=d+(↑(bl (M6.val c)):Int);letI B:=i64.wrap (b+match BinOp.gtr with |BinOp.gtr=>if(0:Int)>i64.wrap C then(0:Int)else i64.wrap C |x=>if 0<i64.wrap C then(0:Int)else i64.wrap C)+8;letI A:=i64.wrap (b+if(0:Int)>i64.wrap C then(0:Int)else i64.wrap C)+8;letI P:=uT.aPJ (dv (a,c,d)) (i64.wrap A);letI I:=i64.wrap (i64.wrap A-b)+1;letI Q:=(↑((2:Nat)^(i64.wrap I).toNat):Int);aM (M6.bZ c/\c.length<=1099511627776) (aM (1<=i64.wrap A/\i64.wrap A<=70000) (aD (M6.dg (R.pF (i64.wrap A).toNat)) fun e=>letI O:=(false,e);aM (aU (a,c,d)/\(-1099511627776:Int)<=i64.wrap A/\i64.wrap A<=1099511627776/\(0<=(a,c,d).snd.snd+i64.wrap B->fit ((dv (a,c,d)).fst.natAbs*(2:Nat)^((a,c,d).snd.snd+i64.wrap B).toNat)=true)) (aD (isNeg P) fun f=>aD (M6.dg P.natAbs) fun g=>letI N:=bif fit (M6.val g*2)then wv (f,g)*2 else(0:Int);aM (iE (f,g)/\(0:Int)<=(1:Int)/\(1:Int)<(4611686018427387904:Int)) (aD (isNeg N) fun h=>aD (M6.dg N.natAbs) fun i=>letI G:=uP.wQ 2 false (M6.val i) (M6.val e);aM (iE (h,i)/\iE O/\wv O≠0/\fit G=true) (aD (isNeg (zs (h !=false) G)) fun j=>aD (M6.dg (zs (h !=false) G).natAbs) fun k=>letI H:=bif fit (wv (j,k)*wv O).natAbs then wv (j,k)*wv O else(0:Int);letI F:=bif fit (wv (false,k)+wv U).natAbs then wv (false,k)+wv U else(0:Int);aM (iE (j,k)/\iE O) (aD (isNeg H) fun l=>aD (M6.dg H.natAbs) fun m=>letI K:=bif fit (wv (h,i)-wv (l,m)).natAbs then wv (h,i)-wv (l,m)else(0:Int);aM (iE (h,i)/\iE (l,m)) (aD (isNeg K) fun n=>aD (M6.dg K.natAbs) fun o=>aM ((-9223372036854775808:Int)<=(3:Int)/\(3:Int)<(9223372036854775808:Int)) (aM (iE (false,k)/\iE U) (aD (isNeg F) fun p=>aD (M6.dg F.natAbs) fun q=>letI T:=wv (n,o)-wv (p,q);aM (iE (n,o)/\iE (p,q)/\fit T.natAbs=true/\0<=i64.wrap I/\i64.wrap I<4611686018427387904) (aD (isNeg (T/Q)) fun r=>aD (M6.dg (T/Q).natAbs) fun s=>aM (iE (n,o)/\iE (p,q)/\iE O/\0<=wv (p,q)/\bl (wv (n,o)).natAbs<=524000/\bl (wv (p,q)).natAbs<=524000) (aD (rI.aQU (wv (n,o)) (wv (p,q)) (wv O)) fun t=>some [D.agg [sc (bool j),ints u64 k],D.agg [sc (bool r),ints u64 s],D.s (sc (bool t))]))))))))))):=eJ aT
def qO(p:Int×Int):Int:=if 0>p.2+(bl p.1.natAbs:Nat)then 0 else p.2+(bl p.1.natAbs:Nat)
def rG(p:Int×Int)(w:Int):Int:=w+qO p+8
def rF(p:Int×Int)(w:Int):Nat:=R.pF (rG p w).toNat
def rX(p:Int×Int)(w:Int):Int:=uT.aPJ p (rG p w)*2
def nK(X:Int)(f:Nat):Int:=zs (isNeg X) (uP.wQ 2 false X.natAbs f)
def rK(p:Int×Int)(w:Int):Int:=nK (rX p w) (rF p w)
def rR(p:Int×Int)(w:Int):Int:=rX p w-rK p w*(rF p w:Nat)
def rO(p:Int×Int)(w:Int):Int:=((rK p w).natAbs:Nat)+3
def rM(p:Int×Int)(w:Int):Int:=(rR p w-rO p w)/((2^(rG p w-w+1).toNat:Nat):Int)
def sp(x:gW)(w:Int):Prop×List D:=(aU x/\bl (dv x).1.natAbs<=64/\(-1200<=(dv x).2/\(dv x).2<=1200)/\1<=w/\w<=66600,[wD (rK (dv x) w),wD (rM (dv x) w),.s (.sc (.bool (rI.aQU (rR (dv x) w) (rO (dv x) w) (rF (dv x) w:Nat))))])
theorem Lw{n k m:Nat}(h:bl n<=m):bl (n*2^k)<=m+k:=dK.2 (by rw[cGE];exact cJQ (dK.1 h) (cEE (by decide)))
theorem aVT(X f:Nat):uP.wQ 2 false X f<=X/f+1:=by
 unfold uP.wQ;cases oC.oB 2 false (decide (X/f%2=1)) (decide (X%f≠0)) (jK (X%f) (f-X%f)) <;> simp
theorem aWW{X:Int}{f B:Nat}(hX:bl X.natAbs<=B)(hf:bl f<=B)(hB:2<=B) :
  bl (uP.wQ 2 false X.natAbs f)<=B+1/\bl (nK X f*(f:Int)).natAbs<=B+1/\bl (X-nK X f*(f:Int)).natAbs<=B+2/\bl (((nK X f).natAbs:Int)+3).natAbs<=B+2/\bl (X-nK X f*(f:Int)-(((nK X f).natAbs:Int)+3)).natAbs<=B+3:=by
 have h1:=dK.1 hX;have h2:=dK.1 hf;have h3:=aVT X.natAbs f;have h4:X.natAbs/f*f<=X.natAbs:=Nat.div_mul_le_self _ _;have h5:X.natAbs/f<=X.natAbs:=cJR _ _;have h6:uP.wQ 2 false X.natAbs f*f<=X.natAbs+f:=cCA (cCT f h3) (by rw[cBY,cFI];omega);have ek:(nK X f).natAbs=uP.wQ 2 false X.natAbs f:=kR _ _;have h7:(nK X f*(f:Int)).natAbs<=X.natAbs+f:=by rw[cGR,ek,cGW];exact h6
 have e4:4<=2^B:=cCA (show 4<=2^2 by decide) (cEF (by decide) hB);have p1:2^(B+1)=2*2^B:=by rw[cGD];omega
 have p2:2^(B+2)=4*2^B:=by rw[cGE];omega
 have p3:2^(B+3)=8*2^B:=by rw[cGE];omega
 generalize nK X f*(f:Int)=kf at *;rw[ek];generalize uP.wQ 2 false X.natAbs f=d at *;generalize 2^B=Q at *;refine⟨dK.2 ?_,dK.2 ?_,dK.2 ?_,dK.2 ?_,dK.2 ?_⟩
 ·rw[p1];omega
 ·rw[p1];omega
 ·rw[p2];omega
 ·rw[p2];omega
 ·rw[p3];omega
theorem Uh{g:Nat}(hg:g<=136000):bl (R.pF g)<=g+2/\R.pF g≠0:=by
 obtain⟨h1,h2⟩:=R.Bc hg;obtain⟨q1,q2⟩:=R.iP;have hW:(1:Rat)<=((2^g:Nat):Rat):=by exact_mod_cast cEE (by decide)
 constructor
 ·refine dK.2 ?_;rw[cGE];have:(R.pF g:Rat)<((2^g:Nat):Rat)*4:=by
   have:=R.aJ (cGJ (by decide:(0:Rat)<=1) hW) (show 0<=3142/1000-R.pi by grind);generalize ((2^g:Nat):Rat)=W at *;grind
  exact_mod_cast this
 ·intro h0;rw[h0]at h2;have z:((0:Nat):Rat)=0:=by norm_cast
  rw[z]at h2;have:=R.aJ (cGJ (by decide:(0:Rat)<=1) hW) (show 0<=R.pi-3 by grind);generalize ((2^g:Nat):Rat)=W at *;grind
theorem aFQ{p:Int×Int}{w:Int}(hz:bl p.1.natAbs<=64)(e1:-1200<=p.2)(e2:p.2<=1200)(w1:1<=w)(w2:w<=66600):bl (rM p w).natAbs<=80004/\bl (rK p w).natAbs<=80002:=by
 have t0:0<=qO p/\qO p<=1264:=by unfold qO;split <;> omega
 have g1:1<=rG p w/\rG p w<=70000:=by unfold rG;omega
 have bIA:bl (uT.aPJ p (rG p w)).natAbs<=80000:=by
  unfold uT.aPJ;split
  ·rw[cGR,cGW];exact cCA (Lw hz) (by omega)
  ·exact cCA (gF (tJ (cEE (by decide)))) (by omega)
 have Xs:bl (rX p w).natAbs<=80001:=by
  unfold rX;rw[cGR];exact rI.Lx bIA
 obtain⟨Fs,F0⟩:=Uh (g:=(rG p w).toNat) (by omega);have hF:R.pF (rG p w).toNat=rF p w:=rfl;rw[hF]at Fs F0;obtain⟨s1,s2,s3,s4,s5⟩:=aWW (X:=rX p w) (f:=rF p w) (B:=80001) Xs (by omega) (by decide);refine⟨cCA (gF (tJ (cEE (by decide)))) s5,?_⟩;show bl (zs _ _).natAbs<=_;rw[kR];exact s1
theorem spec:fL E f243 aE kF (pN .i64) sp:=by
 rintro x w ⟨hx,hz,⟨e1,e2⟩,w1,w2⟩;refine(start x.1 x.2.1 x.2.2 w).trans ?_;have ha:(dv x).1.natAbs=M6.val x.2.1:=jB (x.1,x.2.1);have aKY:x.2.2=(dv x).2:=rfl;have aZZ:(x.1,x.2.1,x.2.2)=x:=rfl;have len:=hx.len;unfold sp;dsimp only;simp only[aZZ,aKY,<-ha];have hT:qO (dv x)=if 0>(dv x).2+(bl (dv x).1.natAbs:Nat)then 0 else(dv x).2+(bl (dv x).1.natAbs:Nat):=rfl
 have wt:i64.wrap ((dv x).2+((bl (dv x).1.natAbs:Nat):Int))=(dv x).2+((bl (dv x).1.natAbs:Nat):Int):=wrap_i64;have t0:0<=qO (dv x)/\qO (dv x)<=1264:=by rw[hT];split <;> omega
 have t1:(dv x).2+(bl (dv x).1.natAbs:Nat)<=qO (dv x):=by rw[hT];split <;> omega
 have hG:rG (dv x) w=w+qO (dv x)+8:=rfl;have wg:i64.wrap (i64.wrap (w+qO (dv x))+8)=rG (dv x) w:=by rw[wrap_i64 (n:=w+qO (dv x)),wrap_i64,hG]
 have wl:i64.wrap (i64.wrap (rG (dv x) w-w)+1)=rG (dv x) w-w+1:=by rw[wrap_i64 (n:=rG (dv x) w-w),wrap_i64]
 simp only[wt,<-hT,wg,wl,aG];have g1:1<=rG (dv x) w/\rG (dv x) w<=70000:=by omega
 have bIA:bl (uT.aPJ (dv x) (rG (dv x) w)).natAbs<=80000:=by
  unfold uT.aPJ;split
  ·rw[cGR,cGW];exact cCA (Lw hz) (by omega)
  ·exact cCA (gF (tJ (cEE (by decide)))) (by omega)
 have Xs:bl (rX (dv x) w).natAbs<=80001:=by
  unfold rX;rw[cGR];exact rI.Lx bIA
 obtain⟨Fs,F0⟩:=Uh (g:=(rG (dv x) w).toNat) (by omega);have hF:R.pF (rG (dv x) w).toNat=rF (dv x) w:=rfl;rw[hF]at Fs F0;obtain⟨s1,s2,s3,s4,s5⟩:=aWW (X:=rX (dv x) w) (f:=rF (dv x) w) (B:=80001) Xs (by omega) (by decide);have aOW:(0:Int)<=x.2.2+rG (dv x) w->fit ((dv x).1.natAbs*2^(x.2.2+rG (dv x) w).toNat)=true:=fun _=>decide_eq_true (cCA (Lw hz) (by omega))
 rw[gP ⟨hx.Kk.jE,by omega⟩,gP g1,gP ⟨hx,by omega,by omega,aOW⟩];have aSL:(x.1,x.2.1,(dv x).2)=x:=rfl;have f1:fit ((uT.aPJ (dv x) (rG (dv x) w)).natAbs*2)=true:=decide_eq_true (cCA (rI.Lx bIA) (by decide));have eX:uT.aPJ (dv x) (rG (dv x) w)*2=rX (dv x) w:=rfl;have eK:zs (isNeg (rX (dv x) w)) (uP.wQ 2 false (rX (dv x) w).natAbs (rF (dv x) w))=rK (dv x) w:=rfl;have vN:∀n:Nat,wv (false,M6.dg n)=(n:Int):=fun n=>by show(M6.val (M6.dg n):Int)=n;rw[M6.bD]
 have wN:∀n:Nat,bl n<=524288->iE (false,M6.dg n):=fun n hn=>by
  have:=gN (z:=(n:Int)) (by rw[cGW];exact hn);rw[iH.2 (by omega),cGW]at this;exact this
 have v3:wv (isNeg 3,M6.dg 3)=3:=oI 3;have k3:iE (isNeg 3,M6.dg 3):=gN (z:=3) (by decide +kernel);have kK:(rK (dv x) w).natAbs=uP.wQ 2 false (rX (dv x) w).natAbs (rF (dv x) w):=kR _ _;rw[show nK (rX (dv x) w) (rF (dv x) w)=rK (dv x) w from rfl]at s2 s3 s4 s5;have f2:fit (rK (dv x) w*(rF (dv x) w:Nat)).natAbs=true:=decide_eq_true (cCA s2 (by decide));have f3:fit (rX (dv x) w-rK (dv x) w*(rF (dv x) w:Nat)).natAbs=true:=decide_eq_true (cCA s3 (by decide));have f4:fit (((rK (dv x) w).natAbs:Int)+3).natAbs=true:=decide_eq_true (cCA s4 (by decide));have f5:fit (rX (dv x) w-rK (dv x) w*(rF (dv x) w:Nat)-(((rK (dv x) w).natAbs:Int)+3)).natAbs=true:=decide_eq_true (cCA s5 (by decide));simp only[aSL,hF,oI,M6.bD,f1,cond_true,eX,Bool.bne_false,eK,vN,v3,f2,f3,f4];rw[gP ⟨gN (cCA bIA (by decide)),by decide,by decide⟩,gP ⟨gN (cCA Xs (by decide)),wN _ (by omega),by omega,decide_eq_true (cCA s1 (by decide))⟩,
  gP ⟨gN (by rw[kK];exact cCA s1 (by decide)),wN _ (by omega)⟩,gP ⟨gN (cCA Xs (by decide)),gN (cCA s2 (by decide))⟩,gP ⟨by decide,by decide⟩,
  gP ⟨wN _ (by rw[kK];exact cCA s1 (by decide)),k3⟩,gP ⟨gN (cCA s3 (by decide)),gN (cCA s4 (by decide)),f5,by omega,by omega⟩,
  gP ⟨gN (cCA s3 (by decide)),gN (cCA s4 (by decide)),wN _ (by omega),by omega,cCA s3 (by decide),cCA s4 (by decide)⟩]
 rfl
def aI:dJ:=orc2 kF (pN .i64) sp
theorem ok:OK 243 aI:=(eB E aE (aA uA.ok (aA uB.ok (aA uT.ok (aA Cp.ok (aA Pv.ok (aA aKM.ok (aA aKK.ok (aA Hi.ok (aA Fk.ok (aA aEL.ok (aA rI.ok aC))))))))))) func243).lF rfl spec
end cC
namespace bB
def E:=mE [(241,Wy.aI),(242,uS.aI),(243,cC.aI),(192,kC.aI),(244,Fk.aI),(49,Hi.aI),(50,kG.aI),(109,aKN.aI),(110,uO.aI)] 105 [33,98] [(3,[0,1,5])] [3]
def aE:=bd f211
theorem aT:Nk E aE:=nk
def J3 a b c d e f:=lP E f211 aE 3 [dO a,bN b,dS 2 44 [dG c,sc (slice none 0 0),cP d,dG e,sc (slice none 0 0),cP f]]
theorem start a b:aF E f211 aE [D.s (sc (int u64 a)),D.s (sc (int i64 b))]=letI B:=int i64 0;letI A:=some [D.s (sc B),D.agg [sc (bool false),sc (slice none 0 0),sc B,sc (bool false),sc (slice none 0 0),sc B],D.s (sc (int i64 1))];aB (decide (b<1)) A (aB (decide (68000<b)) A (bB.J3 a b false 0 false 0)):=eJ aT
theorem iB a b c d e f:J3 a b c d e f=letI O:=int i64 0;letI H:=(isNeg 4,M6.dg 4);letI C:=i64.wrap ((0:Int)-i64.wrap (b+8));letI B:=if(72:Int)>i64.wrap (b+8)then(72:Int)else i64.wrap (b+8);letI P:=B-i64.wrap (b+8);letI A:=bif cD.eZ 64 a&&cE.jD 64 a then aR (aZ.kA 64 a) (aZ.lG 64 a)else((0:Int),(0:Int));letI Q:=M6.dg A.fst.natAbs;aM (0<=a/\a<18446744073709551616) (aD (isNeg A.fst) fun g=>aD Q fun h=>aD A.snd fun i=>letI I:=dv (g,h,i);aD (bif cD.eZ 64 a then bif cE.jD 64 a then(0:Int)else(6:Int)else(2:Int)) fun j=>aB (j !=0) (some [D.s (sc O),D.agg [sc (bool false),sc (slice none 0 0),sc O,sc (bool false),sc (slice none 0 0),sc O],D.s (sc (int i64 j))]) (aM (aU (g,h,i)) (aD (uS.aSF I) fun k=>aB k (aM (0<=a/\a<18446744073709551616) (aD (isNeg A.fst) fun l=>aD Q fun m=>aD A.snd fun n=>some [D.s (sc O),D.agg [sc (bool g),ints u64 h,sc (int i64 i),sc (bool l),ints u64 m,sc (int i64 n)],D.s (sc O)])) (aM (aU (g,h,i)/\bl I.fst.natAbs<=64/\((-1200:Int)<=I.snd/\I.snd<=1200)/\(1<=if(72:Int)>i64.wrap (b+8)then(72:Int)else i64.wrap (b+8))/\B<=66600) (aD (isNeg (cC.rK I B)) fun o=>aD (M6.dg (cC.rK I B).natAbs) fun p=>aD (isNeg (cC.rM I B)) fun q=>aD (M6.dg (cC.rM I B).natAbs) fun r=>letI K:=wv (q,r)/(↑((2:Nat)^(i64.wrap P).toNat):Int);aM (iE (q,r)/\0<=i64.wrap P/\i64.wrap P<4611686018427387904) (aD (isNeg K) fun s=>aD (M6.dg K.natAbs) fun t=>letI N:=bif fit (wv (s,t)+wv H).natAbs then wv (s,t)+wv H else(0:Int);letI F:=bif iQ (wv (s,t)) C then aR (wv (s,t)) C else((0:Int),(0:Int));aM ((-9223372036854775808:Int)<=(4:Int)/\(4:Int)<(9223372036854775808:Int)) (aM (iE (s,t)/\iE H) (aD (isNeg N) fun u=>aD (M6.dg N.natAbs) fun v=>letI G:=bif iQ (wv (u,v)) C then aR (wv (u,v)) C else((0:Int),(0:Int));aM (iE (s,t)/\(-9223372036854775808:Int)<=i64.wrap ((0:Int)-i64.wrap (b+8))/\i64.wrap ((0:Int)-i64.wrap (b+8))<9223372036854775808) (aD (isNeg F.fst) fun w=>aD (M6.dg F.fst.natAbs) fun x=>aD F.snd fun y=>aM (iE (u,v)/\(-9223372036854775808:Int)<=i64.wrap ((0:Int)-i64.wrap (b+8))/\i64.wrap ((0:Int)-i64.wrap (b+8))<9223372036854775808) (aD (isNeg G.fst) fun z=>aD (M6.dg G.fst.natAbs) fun aa=>aD G.snd fun ab=>aM ((-9223372036854775808:Int)<=(4:Int)/\(4:Int)<(9223372036854775808:Int)) (aM (iE (o,p)/\iE H/\isNeg 4=false/\1<=(M6.dg 4).length) (aD (isNeg (wv (o,p)%wv H)) fun ac=>aD (M6.dg (wv (o,p)%wv H).natAbs) fun ad=>aM (iE (ac,ad)) (aD (bif uO.uE (wv (ac,ad))then wv (ac,ad)else(0:Int)) fun ae=>some [D.s (sc (int i64 ae)),D.agg [sc (bool w),ints u64 x,sc (int i64 y),sc (bool z),ints u64 aa,sc (int i64 ab)],D.s (sc O)]))))))))))))):=cJ aT
def sW(b:Int):Int×Int:=aR (aZ.kA 64 b) (aZ.lG 64 b)
def cW(p:Int):Int:=if 72>p+8 then 72 else p+8
def cM(x:Int×Int)(p:Int):Int:=cC.rM x (cW p)/((2^(cW p-(p+8)).toNat:Nat):Int)
def cQ(x:Int×Int)(p:Int):Int:=bif uS.aSF x then 0 else cC.rK x (cW p)%4
def aBF(x:Int×Int)(p:Int):Int×Int:=bif uS.aSF x then x else aR (cM x p) (-(p+8))
def aBG(x:Int×Int)(p:Int):Int×Int:=bif uS.aSF x then x else aR (cM x p+4) (-(p+8))
def sp(b p:Int):Prop×List D:=((0<=b/\b<18446744073709551616)/\cD.eZ 64 b=true/\cE.jD 64 b=true/\(1<=p/\p<=66590)/\kT (sW b)/\bl (sW b).1.natAbs<=64/\-1200<=(sW b).2/\(sW b).2<=1200,[.s (.sc (.int .i64 (cQ (sW b) p))),wZ (aBF (sW b) p) (aBG (sW b) p),.s (.sc (.int .i64 0))])
theorem aHP{z:Int}{k:Nat}(h:bl z.natAbs<=k)(hk:3<=k):bl (z+4).natAbs<=k+1:=rI.Bw h (by rw[show(4:Int).natAbs=4 from rfl,show bl 4=3 from rfl];exact hk) rfl
theorem spec:fL E f211 aE (pN .u64) (pN .i64) sp:=by
 rintro b p ⟨hb,hp,hf,⟨p1,p2⟩,hx,hz,e1,e2⟩;refine(start b p).trans ?_;unfold sp cQ aBF aBG;dsimp only;have eb:(bif cD.eZ 64 b&&cE.jD 64 b then aR (aZ.kA 64 b) (aZ.lG 64 b)else(0,0))=sW b:=by rw[hp,hf];rfl
 have ee:(bif cD.eZ 64 b then(bif cE.jD 64 b then 0 else 6)else 2:Int)=0:=by rw[hp,hf];rfl
 have dk:=dV hx;have dc:=dY (sW b);rw[aL,aL,iB,gP hb];simp only[aG,eb,ee,dc];rw[gD rfl,gP dk];cases hs:uS.aSF (sW b)with
 |true =>
  rw[cond_true,cond_true,cond_true];show aM _ _=_;rw[gP hb];rfl
 |false =>
  rw[cond_false,cond_false,cond_false];show aM _ _=_;have w8:i64.wrap (p+8)=p+8:=wrap_i64;have eW:(if 72>p+8 then 72 else p+8)=cW p:=rfl;have hW:1<=cW p/\cW p<=66600/\p+8<=cW p:=by unfold cW;split <;> omega
  have wd:i64.wrap (cW p-(p+8))=cW p-(p+8):=wrap_i64;have w0:i64.wrap (0-(p+8))=-(p+8):=by rw[wrap_i64];omega
  obtain⟨sM,sK⟩:=cC.aFQ (p:=sW b) (w:=cW p) hz e1 e2 hW.1 hW.2.1;have v4:wv (isNeg 4,M6.dg 4)=4:=oI 4;have k4:iE (isNeg 4,M6.dg 4):=gN (z:=4) (by decide +kernel);have eM:cC.rM (sW b) (cW p)/((2^(cW p-(p+8)).toNat:Nat):Int)=cM (sW b) p:=rfl;have sC:bl (cM (sW b) p).natAbs<=80004:=cCA (gF (tJ (cEE (by decide)))) sM;have bQQ:=aHP sC (by decide);have f4:fit (cM (sW b) p+4).natAbs=true:=decide_eq_true (cCA bQQ (by decide));have i1:iQ (cM (sW b) p) (-(p+8))=true:=iM (by omega) (by omega);have i2:iQ (cM (sW b) p+4) (-(p+8))=true:=iM (by omega) (by omega);have m4:0<=cC.rK (sW b) (cW p)%4/\cC.rK (sW b) (cW p)%4<4:=by omega
  have sm:uO.uE (cC.rK (sW b) (cW p)%4)=true:=by
   unfold uO.uE;simp only[cBK,decide_eq_true_eq];omega
  have b3:bl (cC.rK (sW b) (cW p)%4).natAbs<=3:=dK.2 (by have:(2:Nat)^3=8:=rfl;omega);have l4:(M6.dg 4).length=1:=by decide +kernel
  simp only[w8,eW,wd,w0,oI,v4,eM,f4,i1,i2,sm,cond_true];rw[gP ⟨dk,hz,⟨e1,e2⟩,hW.1,hW.2.1⟩,gP ⟨gN (cCA sM (by decide)),by omega,by omega⟩,gP ⟨by decide,by decide⟩,gP ⟨gN (cCA sC (by decide)),k4⟩,
   gP ⟨gN (cCA sC (by decide)),by omega,by omega⟩,gP ⟨gN (cCA bQQ (by decide)),by omega,by omega⟩,gP ⟨by decide,by decide⟩,
   gP ⟨gN (cCA sK (by decide)),k4,by decide,by omega⟩,gP (gN (cCA b3 (by decide)))]
  rfl
def aI:dJ:=orc2 (pN .u64) (pN .i64) sp
theorem ok:OK 211 aI:=(eB E aE (aA Wy.ok (aA uS.ok (aA cC.ok (aA kC.ok (aA Fk.ok (aA Hi.ok (aA kG.ok (aA aKN.ok (aA uO.ok aC))))))))) func211).lF rfl spec
end bB
end W
namespace M
open Go AI W
theorem aJV{u v:Nat}(hv:0<v):2*u<=2*(uP.wQ 2 false u v*v)+v/\2*(uP.wQ 2 false u v*v)<=2*u+v:=by
 have hd:=cGK u v;have hm:=cDM u hv;have hc:v*(u/v)=u/v*v:=cGC _ _;unfold uP.wQ oC.oB
 by_cases h:v-u%v<=u%v
 ·cases hb:(bif (2:Int)==0 then false&&decide (u%v≠0)else bif (2:Int)==1 then !false&&decide (u%v≠0)else(decide (0<jK (u%v) (v-u%v))||(jK (u%v) (v-u%v)==0&&decide (u/v%2=1))))with
  |true=>rw[cond_true,cBY,cFI];omega
  |false =>
   rw[cond_false,cCC];have Bp:¬0<jK (u%v) (v-u%v):=by
    intro hh;rw[decide_eq_true hh]at hb
    revert hb
    simp
   have:u%v<=v-u%v:=by
    unfold jK at Bp;split at Bp
    ·omega
    ·split at Bp <;> omega
   omega
 ·have e:jK (u%v) (v-u%v)=-1:=by unfold jK;rw[aQ]
  rw[e];have hb:(bif (2:Int)==0 then false&&decide (u%v≠0)else bif (2:Int)==1 then !false&&decide (u%v≠0)else(decide ((0:Int) < -1)||((-1:Int)==0&&decide (u/v%2=1))))=false:=by
   cases decide (u/v%2=1) <;> rfl
  rw[hb,cond_false,cCC];omega
theorem aUE{X:Int}{f:Nat}(hf:0<f):-(f:Rat)<=2*((X:Rat)-(cC.nK X f:Rat)*(f:Rat))/\2*((X:Rat)-(cC.nK X f:Rat)*(f:Rat))<=(f:Rat):=by
 obtain⟨d1,d2⟩:=aJV (u:=X.natAbs) hf;have h:-(f:Int)<=2*(X-cC.nK X f*(f:Int))/\2*(X-cC.nK X f*(f:Int))<=(f:Int):=by
  have cAP:2*(X.natAbs:Int)<=2*((uP.wQ 2 false X.natAbs f:Nat)*(f:Int))+f:=by exact_mod_cast d1
  have cAO:2*((uP.wQ 2 false X.natAbs f:Nat)*(f:Int))<=2*(X.natAbs:Int)+f:=by exact_mod_cast d2
  unfold cC.nK;generalize uP.wQ 2 false X.natAbs f=d at *;cases hb:isNeg X with
  |true =>
   have:X<0:=lT.1 hb;have e:zs true d*(f:Int)=-((d:Int)*(f:Int)):=by show -(d:Int)*_=_;rw[cKU]
   rw[e];generalize (d:Int)*(f:Int)=P at *;omega
  |false =>
   have:0<=X:=iH.1 hb;have e:zs false d*(f:Int)=(d:Int)*(f:Int):=rfl;rw[e];generalize (d:Int)*(f:Int)=P at *;omega
 obtain⟨h1,h2⟩:=h;constructor
 ·have:((-(f:Int):Int):Rat)<=((2*(X-cC.nK X f*(f:Int)):Int):Rat):=by exact_mod_cast h1
  rw[cOF,cMP,cPG,cMP,cMQ]at this;exact this
 ·have:((2*(X-cC.nK X f*(f:Int)):Int):Rat)<=((f:Int):Rat):=by exact_mod_cast h2
  rw[cMP,cPG,cMP,cMQ]at this;exact this
theorem aMC{q:Rat}{a b:Int}(h1:R.pz a<=q)(h2:q<R.pz (a+1))(h3:R.pz b<=q)(h4:q<R.pz (b+1)):a=b:=by
 have:R.pz a<R.pz (b+1):=by grind
 have:=R.yA.1 this;have:R.pz b<R.pz (a+1):=by grind
 have:=R.yA.1 this;omega
theorem aYS{p q:Int×Int}(hp:p.1≠0)(h:R.qz p=R.qz q):bC p=bC q:=by
 have hq:q.1≠0:=Jv (by rw[<-h];exact aWZ hp);obtain⟨a,b⟩:=pY hp;obtain⟨c,d⟩:=pY hq;rw[h]at a b;exact aMC a b c d
structure bDB(z e:Int):Prop where
 z0:z≠0
 z1:z.natAbs<9007199254740992
 e0:-1074<=e
 e1:e<=971
theorem aHS(z:Int):R.ab (z:Rat)=(z.natAbs:Rat):=by
 unfold R.ab
 by_cases hz:0<=z
 ·rw[if_pos (by exact_mod_cast hz),<-cMQ];congr 1;omega
 ·rw[if_neg (by intro hc;exact hz (by exact_mod_cast hc)),<-cMQ,<-cOF];congr 1;omega
theorem aFG(p:Int×Int):uS.aSF p=decide (R.ab (R.qz p)<=3/4):=by
 unfold uS.aSF;have e:R.qz (3,-2)=3/4:=by
  unfold R.qz;dsimp only;rw[show(-2:Int)=-((2:Nat):Int) by rfl,R.yY];have h3:R.hf 2=1/4:=by simp[R.hf];grind
  have:((3:Int):Rat)=3:=by norm_cast
  rw[h3,this];grind
 by_cases h:R.ab (R.qz p)<=3/4
 ·rw[decide_eq_true h];refine decide_eq_true (mI.2 ?_);rw[Ep,e];exact h
 ·rw[decide_eq_false h];refine decide_eq_false fun hc=>h ?_
  have:=mI.1 hc;rwa [Ep,e]at this
structure aEJ(x:Int×Int):Prop where
 xF:kT x
 ne:x.1≠0
 bl:bl x.1.natAbs<=53
 t0:-1074<=bC x
 t1:bC x<=1023
 e0:-1074<=x.2
 e1:x.2<=1023
 fit:R.Fit (R.qz x)
 bKS:¬R.ab (R.qz x)<=3/4->-53<=x.2/\R.bIV (R.qz x)
theorem bIF{z e:Int}(h:bDB z e):aEJ (aR z e):=by
 obtain⟨z0,z1,e0,e1⟩:=h;have bz:bl z.natAbs<=53:=dK.2 (by have:(2:Nat)^53=9007199254740992:=rfl;omega);have b0:=qV (n:=z.natAbs) (by omega);have q:=pC z e;have q':R.qz (aR z e)=R.qz (z,e):=q;have ne:(aR z e).1≠0:=fun hz=>z0 (dZ.1 hz)
 have tt:=aYS ne q';have t':bC (z,e)=e+(bl z.natAbs:Nat)-1:=rfl;have ge:=tF (e:=e) z0;have bb:=xG z e;have b1:=qV (n:=(aR z e).1.natAbs) (by omega);have te:bC (aR z e)=(aR z e).2+(bl (aR z e).1.natAbs:Nat)-1:=rfl;have xF:kT (aR z e):=iF (iM (by omega) (by omega)) (by omega);have num:¬R.ab (R.qz (aR z e))<=3/4->-53<=e/\R.bIV (R.qz (aR z e)):=by
  intro hb;have he:-53<=e:=by
   refine Int.not_lt.1 fun hn=>hb ?_
   have h2:=(pY (p:=(z,e)) z0).2;have:R.pz (bC (z,e)+1)<=R.pz (-1):=R.cX (by omega);have p1:R.pz (-1)*2=1:=by
    have:=R.sE 0;rw[R.gR]at this;exact this
   rw[q'];grind
  refine⟨he,(z.natAbs:Int),e,by omega,by omega,he,e1,?_⟩;rw[q',cMQ,<-aHS];show(z:Rat)*R.pz e=_\/(z:Rat)*R.pz e=_;unfold R.ab;split
  ·left;rfl
  ·right;grind
 refine⟨xF,ne,by omega,by omega,by omega,by omega,by omega,?_,fun hb=>⟨by have:=(num hb).1;omega,(num hb).2⟩⟩
 by_cases c:R.ab (R.qz (aR z e))<=3/4
 ·exact Or.inr c
 ·exact Or.inl (num c).2
theorem aTL{G q K f M P W p:Rat}(hG:G=W*(256*P))(P1:1<=P)(W1:1<=W)(aq:R.ab q<=P)(f0:0<=f)(f1:f<=G*p)(f2:G*p<f+1)(p1:314159/100000<p)(p2:p<314160/100000)
  (n1:-f<=2*(2*(G*q)-K*f)) (n2:2*(2*(G*q)-K*f)<=f) (m1:M*(512*P)<=2*(G*q)-K*f-(R.ab K+3)) (m2:2*(G*q)-K*f-(R.ab K+3)<(M+1)*(512*P)) :
  M<=W*(q-K*(p/2))/\W*(q-K*(p/2))<=M+2/\W*R.ab (q-K*(p/2))<=W*(p/4)+1:=by
 have WP:=R.aJ (show 0<=W-1 by grind) (show 0<=P-1 by grind);have G1:256<=G:=by rw[hG];grind
 have Gp:=R.aJ (show 0<=G by grind) (show 0<=p-314159/100000 by grind);have Gp2:=R.aJ (show 0<=G by grind) (show 0<=314160/100000-p by grind);have f3:3*G<=f:=by grind
 have f4:f<=4*G:=by grind
 have k0:=R.aP K;have eX:R.ab (2*(G*q))=2*(G*R.ab q):=by
  rw[R.fX,R.fX,R.bR (show(0:Rat)<=2 by grind),R.bR (show 0<=G by grind)]
 have eK:R.ab (K*f)=R.ab K*f:=by rw[R.fX,R.bR f0]
 have aKf:R.ab K*f<=2*(G*R.ab q)+f/2:=by
  rw[<-eK,<-eX];have a1:=R.Ec (2*(G*q));have a2:=R.oU (2*(G*q));rw[R.cN];constructor <;> grind
 have g1:=R.aJ (show 0<=G by grind) (show 0<=P-R.ab q by grind);have g2:=R.aJ k0 (show 0<=f-3*G by grind);have aK:3*R.ab K<=2*P+2:=by
  refine R.cK (q:=G) (by grind) ?_;grind
 have kd:R.ab (K*(G*p-f))<=R.ab K:=by
  rw[R.fX,R.bR (show 0<=G*p-f by grind)];have:=R.aJ k0 (show 0<=1-(G*p-f) by grind);grind
 rw[R.cN]at kd;have e2:2*(G*q)-K*f-K*(G*p-f)=512*P*(W*(q-K*(p/2))):=by rw[hG];grind
 have P0:0<512*P:=by grind
 refine⟨?_,?_,?_⟩
 ·refine R.cK P0 ?_;rw[<-e2];generalize K*(G*p-f)=Z at *;grind
 ·refine R.cK P0 ?_;rw[<-e2];generalize K*(G*p-f)=Z at *;grind
 ·refine R.cK P0 ?_;have e3:512*P*(W*R.ab (q-K*(p/2)))=R.ab (512*P*(W*(q-K*(p/2)))):=by
   rw[R.fX (512*P),R.fX W,R.bR (cGL P0),R.bR (show 0<=W by grind)]
  rw[e3,<-e2,R.cN];have e4:512*P*(W*(p/4)+1)=G*p/2+512*P:=by rw[hG];grind
  rw[e4];generalize K*(G*p-f)=Z at *;constructor <;> grind
structure bCL(x:Int×Int)(w k:Int):Prop where
 aCF:R.tZ (R.qz x) k
 q:bB.cQ x w=k%4
 pl:kT (bB.aBF x w)
 ph:kT (bB.aBG x w)
 lo:R.qz (bB.aBF x w)<=R.qz x-(k:Rat)*(R.pi/2)
 hi:R.qz x-(k:Rat)*(R.pi/2)<=R.qz (bB.aBG x w)
 wd:R.qz (bB.aBG x w)-R.qz (bB.aBF x w)<=R.pz (57-w)*R.ab (R.qz x-(k:Rat)*(R.pi/2))
 rg:R.pz (-1074)<=R.ab (R.qz x-(k:Rat)*(R.pi/2))
theorem Le{x:Int×Int}{w:Int}(hx:aEJ x)(hw:64<=w/\w<=66590):∃k,bCL x w k:=by
 obtain⟨q1,q2⟩:=R.iP
 by_cases c:R.ab (R.qz x)<=3/4
 ·have sm:uS.aSF x=true:=by rw[aFG,decide_eq_true c]
  have k0:((0:Int):Rat)=0:=by norm_cast
  have dL:bB.aBF x w=x:=by unfold bB.aBF;rw[sm];rfl
  have dH:bB.aBG x w=x:=by unfold bB.aBG;rw[sm];rfl
  have er:R.qz x-((0:Int):Rat)*(R.pi/2)=R.qz x:=by rw[k0];grind
  refine⟨0,?_,by unfold bB.cQ;rw[sm];rfl,by rw[dL];exact hx.xF,by rw[dH];exact hx.xF,by rw[dL,er];exact cHS,by rw[dH,er];exact cHS,?_,?_⟩
  ·unfold R.tZ;rw[er];grind
  ·rw[dL,dH,er];have:=R.aJ (cGL (R.dW (57-w))) (R.aP (R.qz x));grind
  ·rw[er];have:=(pY hx.ne).1;have:=R.cX hx.t0;grind
 ·have sm:uS.aSF x=false:=by rw[aFG,decide_eq_false c]
  obtain⟨e53,num⟩:=hx.bKS c;have hb:=hx.bl;have aGQ:=hx.e1;obtain⟨sM,sK⟩:=cC.aFQ (p:=x) (w:=bB.cW w) (by omega) (by omega) (by omega) (by unfold bB.cW;split <;> omega) (by unfold bB.cW;split <;> omega);have eW:bB.cW w=w+8:=by unfold bB.cW;split <;> omega
  have hM:bB.cM x w=cC.rM x (w+8):=by
   unfold bB.cM;rw[eW,show w+8-(w+8)=0 by omega];show cC.rM x (w+8)/((2^(0:Int).toNat:Nat):Int)=_;rw[show(2^(0:Int).toNat:Nat)=1 by rfl];omega
  have hQ:bB.cQ x w=cC.rK x (w+8)%4:=by unfold bB.cQ;rw[sm,eW];rfl
  have dL:bB.aBF x w=aR (cC.rM x (w+8)) (-(w+8)):=by unfold bB.aBF;rw[sm,hM];rfl
  have dH:bB.aBG x w=aR (cC.rM x (w+8)+4) (-(w+8)):=by unfold bB.aBG;rw[sm,hM];rfl
  rw[eW]at sM sK;have hT:cC.qO x=if 0>bC x+1 then 0 else bC x+1:=by
   unfold cC.qO bC;rw[show x.2+((M.bl x.1.natAbs:Nat):Int)-1+1=x.2+((M.bl x.1.natAbs:Nat):Int) by omega]
  have t1:=hx.t1;have T0:0<=cC.qO x/\bC x+1<=cC.qO x/\cC.qO x<=1024:=by rw[hT];split <;> omega
  have hG:cC.rG x (w+8)=w+8+cC.qO x+8:=rfl;obtain⟨g,hg⟩:=cGG (show 0<=cC.rG x (w+8) by omega);have hX:(cC.rX x (w+8):Rat)=2*(R.pz (cC.rG x (w+8))*R.qz x):=by
   unfold cC.rX uT.aPJ;rw[aQ];obtain⟨n,hn⟩:=cGG (show 0<=x.2+cC.rG x (w+8) by omega);rw[hn,cFB,cMP,cMP,cMQ];have e1:((2^n:Nat):Rat)=R.pz x.2*R.pz (cC.rG x (w+8)):=by rw[<-R.kS,hn,R.nD]
   rw[e1];unfold R.qz;have:((2:Int):Rat)=2:=by norm_cast
   rw[this];grind
  obtain⟨f1,f2⟩:=R.Bc (q:=(cC.rG x (w+8)).toNat) (by omega);have f0:=(cC.Uh (g:=(cC.rG x (w+8)).toNat) (by omega)).2;have hF:R.pF (cC.rG x (w+8)).toNat=cC.rF x (w+8):=rfl;rw[hF]at f0 f1 f2;have eG:((2^(cC.rG x (w+8)).toNat:Nat):Rat)=R.pz (cC.rG x (w+8)):=by rw[hg,cFB,R.nD]
  rw[eG]at f1 f2;obtain⟨n1,n2⟩:=aUE (X:=cC.rX x (w+8)) (f:=cC.rF x (w+8)) (by omega);have hK:cC.nK (cC.rX x (w+8)) (cC.rF x (w+8))=cC.rK x (w+8):=rfl;rw[hK]at n1 n2;have hR:(cC.rR x (w+8):Rat)=(cC.rX x (w+8):Rat)-(cC.rK x (w+8):Rat)*(cC.rF x (w+8):Rat):=by
   unfold cC.rR;rw[cPG,cMP,cMQ]
  have hO:(cC.rO x (w+8):Rat)=R.ab (cC.rK x (w+8):Rat)+3:=by
   unfold cC.rO;rw[cOG,cMQ,aHS];have:((3:Int):Rat)=3:=by norm_cast
   rw[this]
  have hS:cC.rG x (w+8)-(w+8)+1=cC.qO x+9:=by omega
  have bOW:cC.rM x (w+8)=(cC.rR x (w+8)-cC.rO x (w+8))/((2^(cC.qO x+9).toNat:Nat):Int):=by
   show(cC.rR x (w+8)-cC.rO x (w+8))/((2^(cC.rG x (w+8)-(w+8)+1).toNat:Nat):Int)=_;rw[hS]
  obtain⟨m1,m2⟩:=Pa (z:=cC.rR x (w+8)-cC.rO x (w+8)) (k:=(cC.qO x+9).toNat);rw[<-bOW,cPG]at m1 m2;obtain⟨s,hs⟩:=cGG (show 0<=cC.qO x+9 by omega);have eS:((2^(cC.qO x+9).toNat:Nat):Rat)=512*R.pz (cC.qO x):=by
   rw[hs,cFB,<-R.nD,<-hs];have:=R.eN (cC.qO x) 9;have n9:((2^9:Nat):Rat)=512:=by norm_cast
   rw[n9]at this;rw[show cC.qO x+9=cC.qO x+((9:Nat):Int) by rfl,this];grind
  rw[eS]at m1 m2;have cAI:R.pz (cC.rG x (w+8))=R.pz (w+8)*(256*R.pz (cC.qO x)):=by
   rw[hG,R.kS,R.kS];have:R.pz 8=256:=by rw[show(8:Int)=((8:Nat):Int) by rfl,R.nD];norm_cast
   rw[this];grind
  have P1:1<=R.pz (cC.qO x):=by rw[<-R.gR];exact R.cX (by omega)
  have aq:R.ab (R.qz x)<=R.pz (cC.qO x):=by
   have:=(pY hx.ne).2;have:=R.cX T0.2.1;grind
  have W80:(4722366482869645213696:Rat)<=R.pz (w+8):=by
   have:=R.cX (show(72:Int)<=w+8 by omega);have e:R.pz 72=4722366482869645213696:=by rw[show(72:Int)=((72:Nat):Int) by rfl,R.nD];norm_cast
   rw[e]at this;grind
  rw[hR,hO,hX]at m1 m2;rw[hX]at n1 n2;have F0:(0:Rat)<=(cC.rF x (w+8):Rat):=by exact_mod_cast cHH _
  obtain⟨r1,r2,r3⟩:=aTL cAI P1 (by grind) aq F0 f1 f2 q1 q2 n1 n2 m1 m2;have Wi:=R.aBZ (w+8);have Wp:=R.dW (-(w+8));have v:=R.aZC num (cC.rK x (w+8));have i1:iQ (cC.rM x (w+8)) (-(w+8))=true:=iM (by omega) (by omega);have s4:M.bl (cC.rM x (w+8)+4).natAbs<=80010:=by
   have:=bB.aHP sM (by decide);omega
  have i2:iQ (cC.rM x (w+8)+4) (-(w+8))=true:=iM (by omega) (by omega);have vL:R.qz (bB.aBF x w)=(cC.rM x (w+8):Rat)*R.pz (-(w+8)):=by rw[dL,pC]
  have vH:R.qz (bB.aBG x w)=(cC.rM x (w+8):Rat)*R.pz (-(w+8))+4*R.pz (-(w+8)):=by
   rw[dH,pC,cOG];have:((4:Int):Rat)=4:=by norm_cast
   rw[this];grind
  have p63:R.pz (57-w)*(1/9223372036854775808)=4*R.pz (-(w+8)):=by
   have:=R.gL (57-w) (n:=65) (c:=36893488147419103232) (by norm_cast);rw[show 57-w-((65:Nat):Int)=-(w+8) by omega]at this;grind
  have mm:=R.aJ (cGL (R.dW (57-w))) (show 0<=R.ab (R.qz x-(cC.rK x (w+8):Rat)*(R.pi/2))-1/9223372036854775808 by grind);have bFB:R.tZ (R.qz x) (cC.rK x (w+8)):=by
   unfold R.tZ;generalize R.ab (R.qz x-(cC.rK x (w+8):Rat)*(R.pi/2))=a at *;have u:=R.aJ (cGL Wp) (show 0<=R.pz (w+8)*(R.pi/4)+1-R.pz (w+8)*a by grind);have u3:R.pz (-(w+8))*(R.pz (w+8)*a)=a:=by rw[<-cMO,cOC (R.pz (-(w+8))),Wi];grind
   have u4:R.pz (-(w+8))*(R.pz (w+8)*(R.pi/4))=R.pi/4:=by rw[<-cMO,cOC (R.pz (-(w+8))),Wi];grind
   have l65:R.pz (-(w+8))<=R.pz (-65):=R.cX (by omega);have cAK:=R.gL 0 (n:=65) (c:=36893488147419103232) (by norm_cast);rw[R.gR,show(0:Int)-((65:Nat):Int)=-65 by rfl]at cAK;grind
  obtain⟨r,hr⟩:∃r,r=R.qz x-(cC.rK x (w+8):Rat)*(R.pi/2):=⟨_,rfl⟩;rw[<-hr]at r1 r2 r3 v mm;have u1:=R.aJ (cGL Wp) (show 0<=R.pz (w+8)*r-(cC.rM x (w+8):Rat) by grind);have u2:=R.aJ (cGL Wp) (show 0<=(cC.rM x (w+8):Rat)+2-R.pz (w+8)*r by grind);have u3:R.pz (-(w+8))*(R.pz (w+8)*r)=r:=by rw[<-cMO,cOC (R.pz (-(w+8))),Wi];grind
  refine⟨cC.rK x (w+8),?_,hQ,by rw[dL];exact iF i1 (by omega),by rw[dH];exact iF i2 (by omega),?_,?_,?_,?_⟩
  ·exact bFB
  ·rw[vL,<-hr];grind
  ·rw[vH,<-hr];grind
  ·rw[vH,vL,<-hr];grind
  ·rw[<-hr];have p64:R.pz (-1074)<=R.pz (-63):=R.cX (by omega);have bPR:=R.gL 0 (n:=63) (c:=9223372036854775808) (by norm_cast);rw[R.gR,show(0:Int)-((63:Nat):Int)=-63 by rfl]at bPR;grind
end M
namespace AI
open Go Go.RowKit
def t2{β:Type}(x y:β):Nat->β
 |0=>x
 |_+1=>y
def t4{β:Type}(x y z u:β):Nat->β
 |0=>x
 |1=>y
 |2=>z
 |_+3=>u
def bQS{β:Type}(p:SPar β)(d:β):mJ (β) where
 put x:=.rows p.n 1 fun _=>p.put x
 get
  | .rows sz n g=>if n=1/\sz=p.n then(p.get (g 0)).bind fun x=>some x else none
  |_=>none
 le:=by
  intro dd x h
  match dd,h with
  | .rows sz n g,h =>
   dsimp only at h;split at h
   ·rename_i hc;obtain⟨rfl,hc⟩:=hc;simp only[cDL]at h;obtain⟨y0,h0,h⟩:=h;cases h;have Br:allB 1 (fun i=>(p.get (g i)).isSome)=true:=by simp[allB,h0]
    have e:=(pR p d).le (d:=.rows sz 1 g) (x:=(1,fun i=>(p.get (g i)).getD d)) (if_pos ⟨hc,Br⟩);rintro Y w v hv;obtain⟨A,c,e1,e2,e3⟩:=e Y w v hv;refine⟨A,c,e1,e2,fun i hi=>?_⟩;have e4:=e3 i hi;obtain rfl:i=0:=by omega
    dsimp only at e4;rw[h0]at e4;exact e4
   ·cases h
def bJE{β:Type}(p:SPar β)(d:β):mJ (β×β) where
 put x:=.rows p.n 2 fun i=>p.put (t2 x.1 x.2 i)
 get
  | .rows sz n g=>if n=2/\sz=p.n then(p.get (g 0)).bind fun x=>(p.get (g 1)).bind fun y=>some (x,y)else none
  |_=>none
 le:=by
  intro dd x h
  match dd,h with
  | .rows sz n g,h =>
   dsimp only at h;split at h
   ·rename_i hc;obtain⟨rfl,hc⟩:=hc;simp only[cDL]at h;obtain⟨y0,h0,y1,h1,h⟩:=h;cases h;have Br:allB 2 (fun i=>(p.get (g i)).isSome)=true:=by simp[allB,h0,h1]
    have e:=(pR p d).le (d:=.rows sz 2 g) (x:=(2,fun i=>(p.get (g i)).getD d)) (if_pos ⟨hc,Br⟩);rintro Y w v hv;obtain⟨A,c,e1,e2,e3⟩:=e Y w v hv;refine⟨A,c,e1,e2,fun i hi=>?_⟩;have e4:=e3 i hi;obtain rfl |rfl:i=0\/i=1:=by omega
    ·dsimp only at e4;rw[h0]at e4;exact e4
    ·dsimp only at e4;rw[h1]at e4;exact e4
   ·cases h
def aXD{β:Type}(p:SPar β)(d:β):mJ (β×β×β×β) where
 put x:=.rows p.n 4 fun i=>p.put (t4 x.1 x.2.1 x.2.2.1 x.2.2.2 i)
 get
  | .rows sz n g=>if n=4/\sz=p.n then(p.get (g 0)).bind fun x=>(p.get (g 1)).bind fun y=>(p.get (g 2)).bind fun z=>(p.get (g 3)).bind fun u=>some (x,y,z,u)else none
  |_=>none
 le:=by
  intro dd x h
  match dd,h with
  | .rows sz n g,h =>
   dsimp only at h;split at h
   ·rename_i hc;obtain⟨rfl,hc⟩:=hc;simp only[cDL]at h;obtain⟨y0,h0,y1,h1,y2,h2,y3,h3,h⟩:=h;cases h;have Br:allB 4 (fun i=>(p.get (g i)).isSome)=true:=by simp[allB,h0,h1,h2,h3]
    have e:=(pR p d).le (d:=.rows sz 4 g) (x:=(4,fun i=>(p.get (g i)).getD d)) (if_pos ⟨hc,Br⟩);rintro Y w v hv;obtain⟨A,c,e1,e2,e3⟩:=e Y w v hv;refine⟨A,c,e1,e2,fun i hi=>?_⟩;have e4:=e3 i hi;obtain rfl |rfl |rfl |rfl:i=0\/i=1\/i=2\/i=3:=by omega
    ·dsimp only at e4;rw[h0]at e4;exact e4
    ·dsimp only at e4;rw[h1]at e4;exact e4
    ·dsimp only at e4;rw[h2]at e4;exact e4
    ·dsimp only at e4;rw[h3]at e4;exact e4
   ·cases h
end AI
namespace W
open Go AI M
namespace Ce
def E:=mE [] 9 [] [] []
def aE:=bd f161
theorem aT:Nk E aE:=nk
theorem start a:aF E f161 aE [D.s (sc (int i64 a))]=aB (decide (1<=a)) (some [D.s (sc (bool (decide (a<=70000))))]) (some [D.s (sc (bool false))]):=eJ aT
def sp(p:Int):Prop×List D:=(True,[.s (.sc (.bool (decide (1<=p)&&decide (p<=70000))))])
theorem spec:iU E f161 aE (pN .i64) sp:=by
 intro p h;refine(start p).trans ?_;unfold sp aB;cases (decide ((1:Int)<=p)) <;> rfl
def aI:dJ:=orc1 (pN .i64) sp
theorem ok:OK 161 aI:=(eB E aE aC func161).oS rfl spec
end Ce
namespace zU
def E:=mE [(161,Ce.aI),(67,wV.aI)] 20 [] [(4,[10,11,12])] []
def aE:=bd f117
theorem aT:Nk E aE:=nk
def L4(a:Nat)(b:Nat->Bool)(c:Nat->List Int)(d:Nat->Int)(e:Nat->Bool)(f:Nat->List Int)(g:Nat->Int) h j:=pZ E f117 aE 4 [(A.v (V.one (L.rows 6 a fun i=>[sc (bool (b i)),ints u64 (c i),sc (int i64 (d i)),sc (bool (e i)),ints u64 (f i),sc (int i64 (g i))])),none),bN h,bN j]
theorem start p (a:yN) (b:yN):aF E f117 aE [D.s (sc (int i64 p)),D.rows 6 2 fun i=>[sc (bool (t2 a b i).fst),ints u64 (t2 a b i).snd.fst,sc (int i64 (t2 a b i).snd.snd.fst),sc (bool (t2 a b i).snd.snd.snd.fst),ints u64 (t2 a b i).snd.snd.snd.snd.fst,sc (int i64 (t2 a b i).snd.snd.snd.snd.snd)]]=aM True (aB (!(decide (1<=p)&&decide (p<=70000))) (some [D.s (sc (int i64 1))]) (zU.L4 2 (fun i=>(t2 a b i).fst) (fun i=>(t2 a b i).snd.fst) (fun i=>(t2 a b i).snd.snd.fst) (fun i=>(t2 a b i).snd.snd.snd.fst) (fun i=>(t2 a b i).snd.snd.snd.snd.fst) (fun i=>(t2 a b i).snd.snd.snd.snd.snd) 2 0)):=eJ aT
theorem nS a b c d e f g h j:L4 a b c d e f g h j=aB (decide (j<h)) (if 0<=j/\j<(a:Int)then aM (fA (b j.toNat,c j.toNat,d j.toNat,e j.toNat,f j.toNat,g j.toNat)) (zU.L4 a (fun i=>b i) (fun i=>c i) (fun i=>d i) (fun i=>e i) (fun i=>f i) (fun i=>g i) h (i64.wrap (j+1)))else none) (some [D.s (sc (int i64 0))]):=lJ aT
def sp(p:Int)(a:yN×yN):Prop×List D:=(fA a.1/\fA a.2,[.s (.sc (.int .i64 (if 1<=p/\p<=70000 then 0 else 1)))])
theorem L(n:Nat)(f:Nat->yN)(hn:n<=1000)(hf:∀i,i<n->fA (f i)):∀d k:Nat,k+d=n->L4 n (fun i=>(f i).1) (fun i=>(f i).2.1) (fun i=>(f i).2.2.1) (fun i=>(f i).2.2.2.1) (fun i=>(f i).2.2.2.2.1) (fun i=>(f i).2.2.2.2.2) (n:Int) (k:Int)=some [D.s (.sc (.int .i64 0))]
 |0,k,h=>by rw[nS,aL]
 |d+1,k,h=>by
  have e:i64.wrap ((k:Int)+1)=((k+1:Nat):Int):=by rw[wrap_i64];omega
  rw[nS,aN,aQ,cFB,gP (hf k (by omega)),e];exact L n f hn hf d (k+1) (by omega)
theorem spec:fL E f117 aE (pN .i64) (bJE (.pair sB (.pair (sI .u64) (.pair (sN .i64) (.pair sB (.pair (sI .u64) (sN .i64)))))) (false,[],0,false,[],0)) sp:=by
 intro p a h;have hf:∀i,i<2->fA (t2 a.1 a.2 i):=fun i hi=>by
  obtain rfl |rfl:i=0\/i=1:=by omega
  ·exact h.1
  ·exact h.2
 refine(start p a.1 a.2).trans ((gP trivial).trans ?_);unfold sp
 by_cases hp:1<=p/\p<=70000
 ·rw[if_pos hp,decide_eq_true hp.1,decide_eq_true hp.2];exact L 2 (fun i=>t2 a.1 a.2 i) (by decide) hf 2 0 (by omega)
 ·rw[if_neg hp];have:(decide (1<=p)&&decide (p<=70000))=false:=by
   rw[cNA,decide_eq_false_iff_not,decide_eq_false_iff_not];omega
  rw[this];rfl
def aI:dJ:=orc2 (pN .i64) (bJE (.pair sB (.pair (sI .u64) (.pair (sN .i64) (.pair sB (.pair (sI .u64) (sN .i64)))))) (false,[],0,false,[],0)) sp
theorem ok:OK 117 aI:=(eB E aE (aA Ce.ok (aA wV.ok aC)) func117).lF rfl spec
end zU
namespace Ps
def E:=mE [(120,Ji.aI)] 6 [5] [] []
def aE:=bd f165
theorem aT:Nk E aE:=nk
theorem start a b c:aF E f165 aE [D.agg [sc (bool a),ints u64 b,sc (int i64 c)]]=aM (aU (a,b,c)/\aU (false,[],(0:Int))) (some [D.s (sc (int i64 (eR (dv (a,b,c)) (dv (false,[],Int.ofNat (nat_lit 0))))))]):=eJ aT
def sp(x:gW):Prop×List D:=(aU x,[.s (.sc (.int .i64 (eR (dv x) (0,0))))])
theorem bLM:aU (false,[],0):=⟨⟨M6.Lm,fun h=>Bool.noConfusion h,by simp⟩,by constructor <;> decide,fun _=>rfl,fun h=>(h rfl).elim⟩
theorem spec:iU E f165 aE kF sp:=by
 intro x h;exact(start x.1 x.2.1 x.2.2).trans (gP ⟨h,bLM⟩)
def aI:dJ:=orc1 kF sp
theorem ok:OK 165 aI:=(eB E aE (aA Ji.ok aC) func165).oS rfl spec
end Ps
namespace fY
def E:=mE [(67,wV.aI),(165,Ps.aI)] 18 [] [] []
def aE:=bd f159
theorem aT:Nk E aE:=nk
theorem start a b c d e f:aF E f159 aE [D.agg [sc (bool a),ints u64 b,sc (int i64 c),sc (bool d),ints u64 e,sc (int i64 f)]]=letI A:=sc (int i64 0);aM (fA (a,b,c,d,e,f)) (aM (aU (d,e,f)) (aB (decide (eR (dv (d,e,f)) ((0:Int),(0:Int))<0)) (some [D.s (sc (int i64 (-1:Int))),D.s A]) (aM (aU (a,b,c)) (aB (decide (0<eR (dv (a,b,c)) ((0:Int),(0:Int)))) (some [D.s (sc (int i64 1)),D.s A]) (some [D.s A,D.s A]))))):=eJ aT
def uG(a b:Int×Int):Int:=if eR b (0,0)<0 then -1 else if 0<eR a (0,0)then 1 else 0
def sp(s:yN):Prop×List D:=(fA s,[.s (.sc (.int .i64 (uG (dv (iR s)) (dv (iS s))))),.s (.sc (.int .i64 0))])
theorem spec:iU E f159 aE Ab sp:=by
 intro s h;have h:fA s:=h;have hL:aU (s.1,s.2.1,s.2.2.1):=h.1;have hH:aU (s.2.2.2.1,s.2.2.2.2.1,s.2.2.2.2.2):=h.2.1;refine(start s.1 s.2.1 s.2.2.1 s.2.2.2.1 s.2.2.2.2.1 s.2.2.2.2.2).trans ?_;unfold sp uG
 try dsimp only
 rw[gP h,gP hH];show aB (decide (eR (dv (iS s)) (0,0)<0)) _ _=_
 by_cases c1:eR (dv (iS s)) (0,0)<0
 ·rw[aN c1,if_pos c1]
 ·rw[aL c1,if_neg c1,gP hL];show aB (decide (0<eR (dv (iR s)) (0,0))) _ _=_
  by_cases c2:0<eR (dv (iR s)) (0,0)
  ·rw[aN c2,if_pos c2]
  ·rw[aL c2,if_neg c2]
def aI:dJ:=orc1 Ab sp
theorem ok:OK 159 aI:=(eB E aE (aA wV.ok (aA Ps.ok aC)) func159).oS rfl spec
end fY
namespace Qd
def E:=mE [(210,cT.aI)] 14 [11] [] []
def aE:=bd f166
theorem aT:Nk E aE:=nk
theorem start a b d e f g c:aF E f166 aE [D.agg [sc (bool a),ints u64 b,sc (int i64 d)],D.agg [sc (bool e),ints u64 f,sc (int i64 g)],D.s (sc (int i64 c))]=letI A:=cT.wJ false c (dv (a,b,d)) (dv (e,f,g));letI B:=bif iQ A.fst A.snd then aR A.fst A.snd else((0:Int),(0:Int));aM (aU (a,b,d)/\aU (e,f,g)/\(dv (e,f,g)).fst≠0/\b.length<=4096/\f.length<=4096/\1<=c/\c<=70000) (some [D.agg [sc (bool (isNeg B.fst)),ints u64 (M6.dg B.fst.natAbs),sc (int i64 B.snd)],D.s (sc (int i64 (bif iQ A.fst A.snd then(0:Int)else(5:Int))))]):=eJ aT
def sp(x y:gW)(p:Int):Prop×List D:=(aU x/\aU y/\(dv y).1≠0/\x.2.1.length<=4096/\y.2.1.length<=4096/\1<=p/\p<=70000,dE (iQ (cT.wJ false p (dv x) (dv y)).1 (cT.wJ false p (dv x) (dv y)).2) (aR (cT.wJ false p (dv x) (dv y)).1 (cT.wJ false p (dv x) (dv y)).2))
theorem spec:oO E f166 aE kF kF (pN .i64) sp:=by
 intro x y p h;refine(start x.1 x.2.1 x.2.2 y.1 y.2.1 y.2.2 p).trans ((gP h).trans ?_);rfl
def aI:dJ:=orc3 kF kF (pN .i64) sp
theorem ok:OK 166 aI:=(eB E aE (aA cT.ok aC) func166).xX rfl spec
end Qd
namespace aEK
def E:=mE [(210,cT.aI)] 14 [11] [] []
def aE:=bd f167
theorem aT:Nk E aE:=nk
theorem start a b d e f g c:aF E f167 aE [D.agg [sc (bool a),ints u64 b,sc (int i64 d)],D.agg [sc (bool e),ints u64 f,sc (int i64 g)],D.s (sc (int i64 c))]=letI A:=cT.wJ true c (dv (a,b,d)) (dv (e,f,g));letI B:=bif iQ A.fst A.snd then aR A.fst A.snd else((0:Int),(0:Int));aM (aU (a,b,d)/\aU (e,f,g)/\(dv (e,f,g)).fst≠0/\b.length<=4096/\f.length<=4096/\1<=c/\c<=70000) (some [D.agg [sc (bool (isNeg B.fst)),ints u64 (M6.dg B.fst.natAbs),sc (int i64 B.snd)],D.s (sc (int i64 (bif iQ A.fst A.snd then(0:Int)else(5:Int))))]):=eJ aT
def sp(x y:gW)(p:Int):Prop×List D:=(aU x/\aU y/\(dv y).1≠0/\x.2.1.length<=4096/\y.2.1.length<=4096/\1<=p/\p<=70000,dE (iQ (cT.wJ true p (dv x) (dv y)).1 (cT.wJ true p (dv x) (dv y)).2) (aR (cT.wJ true p (dv x) (dv y)).1 (cT.wJ true p (dv x) (dv y)).2))
theorem spec:oO E f167 aE kF kF (pN .i64) sp:=by
 intro x y p h;refine(start x.1 x.2.1 x.2.2 y.1 y.2.1 y.2.2 p).trans ((gP h).trans ?_);rfl
def aI:dJ:=orc3 kF kF (pN .i64) sp
theorem ok:OK 167 aI:=(eB E aE (aA cT.ok aC) func167).xX rfl spec
end aEK
namespace aAP
def E:=mE [] 23 [] [] []
def aE:=bd f164
theorem aT:Nk E aE:=nk
theorem start a c e b f g h d:aF E f164 aE [D.agg [sc (bool a),ints u64 c,sc (int i64 e)],D.s (sc (int i64 b)),D.agg [sc (bool f),ints u64 g,sc (int i64 h)],D.s (sc (int i64 d))]=letI B:=int i64 0;letI A:=some [D.agg [sc (bool false),sc (slice none 0 0),sc B,sc (bool false),sc (slice none 0 0),sc B],D.s (sc (int i64 (if d>b then d else b)))];aB (b !=0) A (aB (d !=0) A (some [D.agg [sc (bool a),ints u64 c,sc (int i64 e),sc (bool f),ints u64 g,sc (int i64 h)],D.s (sc B)])):=eJ aT
def sp(x:gW)(e:Int)(y:gW)(f:Int):Prop×List D:=(e=0/\f=0,[.agg [.sc (.bool x.1),.ints .u64 x.2.1,.sc (.int .i64 x.2.2),.sc (.bool y.1),.ints .u64 y.2.1,.sc (.int .i64 y.2.2)],.s (.sc (.int .i64 0))])
theorem spec:Rr E f164 aE kF (pN .i64) kF (pN .i64) sp:=by
 rintro x e y f ⟨rfl,rfl⟩;exact start x.1 x.2.1 x.2.2 0 y.1 y.2.1 y.2.2 0
def aI:dJ:=orc4 kF (pN .i64) kF (pN .i64) sp
theorem ok:OK 164 aI:=(eB E aE aC func164).aSJ rfl spec
end aAP
namespace jV
def E:=mE [(117,zU.aI),(159,fY.aI),(20,lD.aI),(165,Ps.aI),(166,Qd.aI),(167,aEK.aI),(164,aAP.aI)] 86 [21,83] [(11,[2,3,4,6]),(14,[2,3,4,6,11,12]),(16,[2,3,6,11,12])] [11,14,16]
def aE:=bd f119
theorem aT:Nk E aE:=nk
def aBK a b c d e f g h i j k l m n o p q:=lP E f119 aE 11 [bN a,dS 1 44 [dG b,gO c,cP d,dG e,gO f,cP g],dS 2 44 [dG h,gO i,cP j,dG k,gO l,cP m],dS 3 44 [dG n,sc (slice none 0 0),cP o,dG p,sc (slice none 0 0),cP q]]
def aWM a b c d e f g h i j k l m n o p q r s t u v w:=lP E f119 aE 14 [bN a,dS 1 44 [dG b,gO c,cP d,dG e,gO f,cP g],dS 2 44 [dG h,gO i,cP j,dG k,gO l,cP m],dS 3 44 [dG n,sc (slice none 0 0),cP o,dG p,sc (slice none 0 0),cP q],dS 4 29 [dG r,gO s,cP t],dS 5 29 [dG u,gO v,cP w]]
def aEG a b c d e f g h i j k l m n o p q:=lP E f119 aE 16 [bN a,dS 1 44 [dG b,gO c,cP d,dG e,gO f,cP g],dS 2 44 [dG h,sc (slice none 0 0),cP i,dG j,sc (slice none 0 0),cP k],dS 3 29 [dG l,gO m,cP n],dS 4 29 [dG o,gO p,cP q]]
theorem start a b d e f g h i j k l m c:aF E f119 aE [D.agg [sc (bool a),ints u64 b,sc (int i64 d),sc (bool e),ints u64 f,sc (int i64 g)],D.agg [sc (bool h),ints u64 i,sc (int i64 j),sc (bool k),ints u64 l,sc (int i64 m)],D.s (sc (int i64 c))]=letI I:=int i64 0;letI F:=bool false;letI C:=slice none 0 0;letI B:=(a,b,d,e,f,g);letI N:=dv (iR B);letI K:=dv (iS B);letI A:=(h,i,j,k,l,m);letI H:=dv (iS A);letI G:=dv (iR A);aM (fA B/\fA A) (aD (if 1<=c/\c<=70000 then(0:Int)else(1:Int)) fun n=>aB (n !=0) (some [D.agg [sc F,sc C,sc I,sc F,sc C,sc I],D.s (sc (int i64 n))]) (aM (fA A) (aD (fY.uG G H) fun o=>aB (o==0) (some [D.agg [sc F,sc C,sc I,sc F,sc C,sc I],D.s (sc (int i64 4))]) (aB (o==(-1:Int)) (aM (fA B) (aD (isNeg (-K.fst)) fun p=>aD (M6.dg (-K.fst).natAbs) fun q=>aD K.snd fun r=>aD (isNeg (-N.fst)) fun s=>aD (M6.dg (-N.fst).natAbs) fun t=>aD N.snd fun u=>aM (fA A) (aD (isNeg (-H.fst)) fun v=>aD (M6.dg (-H.fst).natAbs) fun w=>aD H.snd fun x=>aD (isNeg (-G.fst)) fun y=>aD (M6.dg (-G.fst).natAbs) fun z=>aD G.snd fun aa=>jV.aBK c p q r s t u v w x y z aa false 0 false 0))) (jV.aBK c a b d e f g h i j k l m false 0 false 0))))):=eJ aT
theorem Fj a b c d e f g h i j k l m n o p q:aBK a b c d e f g h i j k l m n o p q=aM (aU (b,c,d)) (aD (eR (dv (b,c,d)) ((0:Int),(0:Int))) fun r=>aB (decide (r<0)) (jV.aWM a b c d e f g h i j k l m n o p q h i j h i j) (jV.aWM a b c d e f g h i j k l m n o p q k l m h i j)):=cJ aT
theorem Wt a b c d e f g h i j k l m n o p q r s t u v w:aWM a b c d e f g h i j k l m n o p q r s t u v w=aM (aU (e,f,g)) (aD (eR (dv (e,f,g)) ((0:Int),(0:Int))) fun x=>aB (decide (x<0)) (jV.aEG a b c d e f g n o p q r s t k l m) (jV.aEG a b c d e f g n o p q r s t u v w)):=cJ aT
theorem Cs a b c d e f g h i j k l m n o p q:aEG a b c d e f g h i j k l m n o p q=letI B:=cT.wJ true a (dv (e,f,g)) (dv (o,p,q));letI F:=bif iQ B.fst B.snd then aR B.fst B.snd else((0:Int),(0:Int));letI A:=cT.wJ false a (dv (b,c,d)) (dv (l,m,n));letI C:=bif iQ A.fst A.snd then aR A.fst A.snd else((0:Int),(0:Int));aM (aU (b,c,d)/\aU (l,m,n)/\(dv (l,m,n)).fst≠0/\c.length<=4096/\m.length<=4096/\1<=a/\a<=70000) (aD (isNeg C.fst) fun r=>aD (M6.dg C.fst.natAbs) fun s=>aD C.snd fun t=>aD (bif iQ A.fst A.snd then(0:Int)else(5:Int)) fun u=>aM (aU (e,f,g)/\aU (o,p,q)/\(dv (o,p,q)).fst≠0/\f.length<=4096/\p.length<=4096/\1<=a/\a<=70000) (aD (isNeg F.fst) fun v=>aD (M6.dg F.fst.natAbs) fun w=>aD F.snd fun x=>aD (bif iQ B.fst B.snd then(0:Int)else(5:Int)) fun y=>aM (u=0/\y=0) (some [D.agg [sc (bool r),ints u64 s,sc (int i64 t),sc (bool v),ints u64 w,sc (int i64 x)],D.s (sc (int i64 0))]))):=cJ aT
def aKT(p:Int)(a u v:Int×Int):Int×Int:=cT.wJ false p a (bif decide (eR a (0,0)<0)then u else v)
def aKU(p:Int)(a u v:Int×Int):Int×Int:=cT.wJ true p a (bif decide (eR a (0,0)<0)then v else u)
def Nb(p:Int)(a b u v:Int×Int):Int×Int:=bif fY.uG u v==-1 then aKT p (lD.yC b) (lD.yC v) (lD.yC u)else aKT p a u v
def Nc(p:Int)(a b u v:Int×Int):Int×Int:=bif fY.uG u v==-1 then aKU p (lD.yC a) (lD.yC v) (lD.yC u)else aKU p b u v
def sp(s t:yN)(p:Int):Prop×List D:=(fA s/\fA t/\(1<=p/\p<=70000)/\fY.uG (dv (iR t)) (dv (iS t))≠0 /\
 (bl (dv (iR s)).1.natAbs<=262144/\bl (dv (iS s)).1.natAbs<=262144/\bl (dv (iR t)).1.natAbs<=262144/\bl (dv (iS t)).1.natAbs<=262144) /\
 iQ (Nb p (dv (iR s)) (dv (iS s)) (dv (iR t)) (dv (iS t))).1 (Nb p (dv (iR s)) (dv (iS s)) (dv (iR t)) (dv (iS t))).2=true/\iQ (Nc p (dv (iR s)) (dv (iS s)) (dv (iR t)) (dv (iS t))).1 (Nc p (dv (iR s)) (dv (iS s)) (dv (iR t)) (dv (iS t))).2=true,
 [wZ (aR (Nb p (dv (iR s)) (dv (iS s)) (dv (iR t)) (dv (iS t))).1 (Nb p (dv (iR s)) (dv (iS s)) (dv (iR t)) (dv (iS t))).2) (aR (Nc p (dv (iR s)) (dv (iS s)) (dv (iR t)) (dv (iS t))).1 (Nc p (dv (iR s)) (dv (iS s)) (dv (iR t)) (dv (iS t))).2),.s (.sc (.int .i64 0))])
theorem J{p:Int}(hp:1<=p/\p<=70000){x y u v:gW}(hx:aU x)(hy:aU y)(hu:aU u)(hv:aU v)(u0:(dv u).1≠0)(v0:(dv v).1≠0)(lx:x.2.1.length<=4096)(ly:y.2.1.length<=4096)(lu:u.2.1.length<=4096)(lv:v.2.1.length<=4096)
  (i1:iQ (aKT p (dv x) (dv u) (dv v)).1 (aKT p (dv x) (dv u) (dv v)).2=true) (i2:iQ (aKU p (dv y) (dv u) (dv v)).1 (aKU p (dv y) (dv u) (dv v)).2=true) :
  aBK p x.1 x.2.1 x.2.2 y.1 y.2.1 y.2.2 u.1 u.2.1 u.2.2 v.1 v.2.1 v.2.2 false 0 false 0=some [wZ (aR (aKT p (dv x) (dv u) (dv v)).1 (aKT p (dv x) (dv u) (dv v)).2) (aR (aKU p (dv y) (dv u) (dv v)).1 (aKU p (dv y) (dv u) (dv v)).2),.s (.sc (.int .i64 0))]:=by
 have fin:∀m n:gW,aU m->aU n->(dv m).1≠0->(dv n).1≠0->m.2.1.length<=4096->n.2.1.length<=4096->iQ (cT.wJ false p (dv x) (dv m)).1 (cT.wJ false p (dv x) (dv m)).2=true->iQ (cT.wJ true p (dv y) (dv n)).1 (cT.wJ true p (dv y) (dv n)).2=true ->
   aEG p x.1 x.2.1 x.2.2 y.1 y.2.1 y.2.2 false 0 false 0 m.1 m.2.1 m.2.2 n.1 n.2.1 n.2.2=some [wZ (aR (cT.wJ false p (dv x) (dv m)).1 (cT.wJ false p (dv x) (dv m)).2) (aR (cT.wJ true p (dv y) (dv n)).1 (cT.wJ true p (dv y) (dv n)).2),.s (.sc (.int .i64 0))]:=by
  intro m n hm hn m0 n0 lm ln j1 j2;have x1:(x.1,x.2.1,x.2.2)=x:=rfl;have x2:(y.1,y.2.1,y.2.2)=y:=rfl;have x3:(m.1,m.2.1,m.2.2)=m:=rfl;have x4:(n.1,n.2.1,n.2.2)=n:=rfl;rw[Cs];simp only[aG,x1,x2,x3,x4,j1,j2,cond_true];rw[gP ⟨hx,hm,m0,lx,lm,hp.1,hp.2⟩,gP ⟨hy,hn,n0,ly,ln,hp.1,hp.2⟩,gP ⟨trivial,trivial⟩];rfl
 unfold aKT aKU at *;rw[Fj,gP hx,aG]
 by_cases c1:eR (dv x) (0,0)<0
 ·rw[show dv (x.1,x.2.1,x.2.2)=dv x from rfl,aN c1,Wt,gP hy,aG,show dv (y.1,y.2.1,y.2.2)=dv y from rfl];rw[decide_eq_true c1,cond_true]at i1 ⊢
  by_cases c2:eR (dv y) (0,0)<0
  ·rw[aN c2];rw[decide_eq_true c2,cond_true]at i2 ⊢;exact fin u v hu hv u0 v0 lu lv i1 i2
  ·rw[aL c2];rw[decide_eq_false c2,cond_false]at i2 ⊢;exact fin u u hu hu u0 u0 lu lu i1 i2
 ·rw[show dv (x.1,x.2.1,x.2.2)=dv x from rfl,aL c1,Wt,gP hy,aG,show dv (y.1,y.2.1,y.2.2)=dv y from rfl];rw[decide_eq_false c1,cond_false]at i1 ⊢
  by_cases c2:eR (dv y) (0,0)<0
  ·rw[aN c2];rw[decide_eq_true c2,cond_true]at i2 ⊢;exact fin v v hv hv v0 v0 lv lv i1 i2
  ·rw[aL c2];rw[decide_eq_false c2,cond_false]at i2 ⊢;exact fin v u hv hu v0 u0 lv lu i1 i2
theorem cell{q:Int×Int}(h:kT q)(hb:bl q.1.natAbs<=262144):(isNeg q.1,M6.dg q.1.natAbs,q.2).2.1.length<=4096:=by
 have:=dV h;refine this.Bk ?_;rw[dY];exact hb
theorem spec:oO E f119 aE Ab Ab (pN .i64) sp:=by
 rintro s t p ⟨h1,h2,hp,hs,⟨l1,l2,l3,l4⟩,i1,i2⟩;refine(start s.1 s.2.1 s.2.2.1 s.2.2.2.1 s.2.2.2.2.1 s.2.2.2.2.2 t.1 t.2.1 t.2.2.1 t.2.2.2.1 t.2.2.2.2.1 t.2.2.2.2.2 p).trans ?_;rw[gP ⟨h1,h2⟩,aG,if_pos hp,gD rfl,gP h2,aG];unfold sp;have n1:(dv (iR t)).1≠0:=fun hz=>by
  have:=Gq.1 (Cw hz);have o:=mI.1 h2.2.2;unfold fY.uG at hs
  by_cases g:eR (dv (iS t)) (0,0)<0
  ·have:=Dk.1 g;grind
  ·rw[if_neg g,if_neg (by rw[Cw hz];omega)]at hs;exact hs rfl
 have n2:(dv (iS t)).1≠0:=fun hz=>by
  have:=Gq.1 (Cw hz);have o:=mI.1 h2.2.2;unfold fY.uG at hs;rw[if_neg (by rw[Cw hz];omega)]at hs
  by_cases g:0<eR (dv (iR t)) (0,0)
  ·have:=zL.1 g;grind
  ·rw[if_neg g]at hs;exact hs rfl
 show aB (fY.uG (dv (iR t)) (dv (iS t))==0) _ _=_;rw[bA hs];have p1:=h1.1.xF;have p2:=h1.2.1.xF;have p3:=h2.1.xF;have p4:=h2.2.1.xF;unfold Nb Nc at *
 by_cases c:fY.uG (dv (iR t)) (dv (iS t))=-1
 ·rw[show(fY.uG (dv (iR t)) (dv (iS t))==-1)=true from beq_iff_eq.2 c,cond_true]at i1 i2;show aB (fY.uG (dv (iR t)) (dv (iS t))==-1) _ _=_;rw[bI c,gP h1];simp only[aG];rw[gP h2];rw[show(fY.uG (dv (iR t)) (dv (iS t))==-1)=true from beq_iff_eq.2 c,cond_true,cond_true];have e:=J hp (dV p2.Ig) (dV p1.Ig) (dV p4.Ig) (dV p3.Ig);rw[dY,dY,dY,dY]at e;dsimp only at e;exact e (by omega) (by omega) (cell p2.Ig (by dsimp only;rw[cHY];exact l2)) (cell p1.Ig (by dsimp only;rw[cHY];exact l1)) (cell p4.Ig (by dsimp only;rw[cHY];exact l4)) (cell p3.Ig (by dsimp only;rw[cHY];exact l3)) i1 i2
 ·rw[show(fY.uG (dv (iR t)) (dv (iS t))==-1)=false from beq_eq_false_iff_ne.2 c,cond_false]at i1 i2;show aB (fY.uG (dv (iR t)) (dv (iS t))==-1) _ _=_;rw[bA c];rw[show(fY.uG (dv (iR t)) (dv (iS t))==-1)=false from beq_eq_false_iff_ne.2 c,cond_false,cond_false];exact J hp h1.1 h1.2.1 h2.1 h2.2.1 n1 n2 (h1.1.Bk l1) (h1.2.1.Bk l2) (h2.1.Bk l3) (h2.2.1.Bk l4) i1 i2
def aI:dJ:=orc3 Ab Ab (pN .i64) sp
theorem ok:OK 119 aI:=(eB E aE (aA zU.ok (aA fY.ok (aA lD.ok (aA Ps.ok (aA Qd.ok (aA aEK.ok (aA aAP.ok aC))))))) func119).xX rfl spec
end jV
namespace VTurned
def E:=mE [(20,lD.aI)] 29 [16] [(2,[3,4,6,7,11,12])] []
def aE:=bd f212
theorem aT:Nk E aE:=nk
def L2 a b c d e f g h i j k l m n o p q r s t u v:=pZ E f212 aE 2 [dS 0 44 [dG a,gO b,cP c,dG d,gO e,cP f],dS 1 44 [dG g,gO h,cP i,dG j,gO k,cP l],dS 2 44 [dG m,sc (slice none 0 0),cP n,dG o,sc (slice none 0 0),cP p],dS 3 44 [dG q,sc (slice none 0 0),cP r,dG s,sc (slice none 0 0),cP t],bN u,bN v]
theorem start a b d e f g h i j k l m c:aF E f212 aE [D.agg [sc (bool a),ints u64 b,sc (int i64 d),sc (bool e),ints u64 f,sc (int i64 g)],D.agg [sc (bool h),ints u64 i,sc (int i64 j),sc (bool k),ints u64 l,sc (int i64 m)],D.s (sc (int i64 c))]=VTurned.L2 a b d e f g h i j k l m false 0 false 0 false 0 false 0 c 0:=eJ aT
theorem mK a b c d e f g h i j k l m n o p q r s t u v:L2 a b c d e f g h i j k l m n o p q r s t u v=letI A:=(a,b,c,d,e,f);letI C:=dv (iR A);letI B:=dv (iS A);aB (decide (v<u)) (aM (fA A) (aD (isNeg (-B.fst)) fun w=>aD (M6.dg (-B.fst).natAbs) fun x=>aD B.snd fun y=>aD (isNeg (-C.fst)) fun z=>aD (M6.dg (-C.fst).natAbs) fun aa=>aD C.snd fun ab=>VTurned.L2 g h i j k l w x y z aa ab m n o p q r s t u (i64.wrap (v+1)))) (some [D.agg [sc (bool a),ints u64 b,sc (int i64 c),sc (bool d),ints u64 e,sc (int i64 f)],D.agg [sc (bool g),ints u64 h,sc (int i64 i),sc (bool j),ints u64 k,sc (int i64 l)],D.s (sc (int i64 0))]):=lJ aT
def trn(s c:(Int×Int)×(Int×Int)):Nat->((Int×Int)×(Int×Int))×((Int×Int)×(Int×Int))
 |0=>(s,c)
 |n+1=>trn c (lD.yC s.2,lD.yC s.1) n
def sp(s c:yN)(q:Int):Prop×List D:=(fA s/\fA c/\0<=q/\q<=3,[wZ (trn (dv (iR s),dv (iS s)) (dv (iR c),dv (iS c)) q.toNat).1.1 (trn (dv (iR s),dv (iS s)) (dv (iR c),dv (iS c)) q.toNat).1.2,wZ (trn (dv (iR s),dv (iS s)) (dv (iR c),dv (iS c)) q.toNat).2.1 (trn (dv (iR s),dv (iS s)) (dv (iR c),dv (iS c)) q.toNat).2.2,.s (.sc (.int .i64 0))])
theorem aNS{s:yN}(h:fA s):fA (nV (lD.yC (dv (iS s))) (lD.yC (dv (iR s)))):=by
 refine yW h.2.1.xF.Ig h.1.xF.Ig ?_;have:=mI.1 h.2.2;refine mI.2 ?_;unfold lD.yC;rw[pD,pD];grind
theorem L:∀(d k:Nat) (s c:yN),k+d<=1000->fA s->fA c->L2 s.1 s.2.1 s.2.2.1 s.2.2.2.1 s.2.2.2.2.1 s.2.2.2.2.2 c.1 c.2.1 c.2.2.1 c.2.2.2.1 c.2.2.2.2.1 c.2.2.2.2.2 false 0 false 0 false 0 false 0 ((k+d:Nat):Int) (k:Int)=some [wZ (trn (dv (iR s),dv (iS s)) (dv (iR c),dv (iS c)) d).1.1 (trn (dv (iR s),dv (iS s)) (dv (iR c),dv (iS c)) d).1.2,wZ (trn (dv (iR s),dv (iS s)) (dv (iR c),dv (iS c)) d).2.1 (trn (dv (iR s),dv (iS s)) (dv (iR c),dv (iS c)) d).2.2,.s (.sc (.int .i64 0))]
 |0,k,s,c,h,h1,h2=>by
  rw[mK,aL];unfold trn;dsimp only;rw[h1.wZ,h2.wZ]
 |d+1,k,s,c,h,h1,h2=>by
  have e:i64.wrap ((k:Int)+1)=((k+1:Nat):Int):=by rw[wrap_i64];omega
  rw[mK,aN,gP h1];simp only[aG,e];have r:=L d (k+1) c (nV (lD.yC (dv (iS s))) (lD.yC (dv (iR s)))) (by omega) h2 (aNS h1);rw[qE,qF,show k+1+d=k+(d+1) by omega]at r;exact r
theorem spec:oO E f212 aE Ab Ab (pN .i64) sp:=by
 rintro s c q ⟨h1,h2,q0,q1⟩;refine(start s.1 s.2.1 s.2.2.1 s.2.2.2.1 s.2.2.2.2.1 s.2.2.2.2.2 c.1 c.2.1 c.2.2.1 c.2.2.2.1 c.2.2.2.2.1 c.2.2.2.2.2 q).trans ?_;obtain⟨n,rfl⟩:=cGG q0;have:=L n 0 s c (by omega) h1 h2;rw[cBG]at this;exact this
def aI:dJ:=orc3 Ab Ab (pN .i64) sp
theorem ok:OK 212 aI:=(eB E aE (aA lD.ok aC) func212).xX rfl spec
end VTurned
end W
namespace M
open Go AI W
structure Bx(s:(Int×Int)×(Int×Int))(V W m:Rat):Prop where
 pl:kT s.1
 ph:kT s.2
 bl:bl s.1.1.natAbs<=100000
 bh:M.bl s.2.1.natAbs<=100000
 m0:0<=m
 lo:R.qz s.1+m<=V
 hi:V+m<=R.qz s.2
 wd:R.qz s.2-R.qz s.1<=W
theorem Bx.neg{s:(Int×Int)×(Int×Int)}{V W m:Rat}(h:Bx s V W m):Bx (lD.yC s.2,lD.yC s.1) (-V) W m:=by
 obtain⟨h1,h2,h3,h4,h5,h6,h7,h8⟩:=h;refine⟨h2.Ig,h1.Ig,?_,?_,h5,?_,?_,?_⟩
 ·show M.bl (-s.2.1).natAbs<=_;rw[cHY];exact h4
 ·show M.bl (-s.1.1).natAbs<=_;rw[cHY];exact h3
 ·show R.qz (-s.2.1,s.2.2)+m<=_;rw[pD];grind
 ·show _<=R.qz (-s.1.1,s.1.2);rw[pD];grind
 ·show R.qz (-s.1.1,s.1.2)-R.qz (-s.2.1,s.2.2)<=_;rw[pD,pD];grind
theorem Bx.Aw{s:(Int×Int)×(Int×Int)}{V W m:Rat}(h:Bx s V W m):fA (nV s.1 s.2):=yW h.pl h.ph (mI.2 (by have:=h.lo;have:=h.hi;have:=h.m0;grind))
theorem Bx.trn{s c:(Int×Int)×(Int×Int)}{S C Ws Wc m:Rat}(hs:Bx s S Ws m)(hc:Bx c C Wc m){k:Int} :
  Bx (VTurned.trn s c (k%4).toNat).1 (R.rs k S C) (if k%2=0 then Ws else Wc) m/\Bx (VTurned.trn s c (k%4).toNat).2 (R.rc k S C) (if k%2=0 then Wc else Ws) m:=by
 have h4:k%4=0\/k%4=1\/k%4=2\/k%4=3:=by omega
 unfold R.rs R.rc;rcases h4 with h |h |h |h
 ·have h2:k%2=0:=by omega
  simp[h,h2];exact⟨hs,hc⟩
 ·have h2:k%2=1:=by omega
  simp[h,h2];exact⟨hc,hs.neg⟩
 ·have h2:k%2=0:=by omega
  simp[h,h2];exact⟨hs.neg,hc.neg⟩
 ·have h2:k%2=1:=by omega
  simp[h,h2];have e:s=(lD.yC (lD.yC s.1),lD.yC (lD.yC s.2)):=by
   obtain⟨⟨a,b⟩,c,d⟩:=s;unfold lD.yC;dsimp only;rw[Int.neg_neg,Int.neg_neg]
  refine⟨hc.neg,?_⟩;have:=hs;rw[e]at this;exact this
theorem aVW(up:Bool){z:Int}{v:Rat}{k:Nat}(hk:1<=k)(h:(z:Rat)=v\/(z%2=1/\(z:Rat)-1<v/\v<(z:Rat)+1)) :
  (up=false->(lL.qU up z k:Rat)*((2^k:Nat):Rat)<=v/\v<=(lL.qU up z k:Rat)*((2^k:Nat):Rat)+((2^k:Nat):Rat))/\(up=true->v<=(lL.qU up z k:Rat)*((2^k:Nat):Rat)/\(lL.qU up z k:Rat)*((2^k:Nat):Rat)<=v+((2^k:Nat):Rat)):=by
 obtain⟨c1,c2⟩:=aHE up z k;have K0:(0:Rat)<((2^k:Nat):Rat):=by exact_mod_cast cEE (by decide)
 rcases h with h |⟨ho,h1,h2⟩
 ·rw[<-h];exact⟨fun hu=>⟨(c1 hu).1,cGL (c1 hu).2⟩,fun hu=>⟨(c2 hu).1,cGL (c2 hu).2⟩⟩
 ·
  have ev:(2:Int)∣((2^k:Nat):Int):=by
   obtain⟨j,rfl⟩:∃j,k=j+1:=⟨k-1,by omega⟩;rw[cGD];exact⟨((2^j:Nat):Int),by push_cast;omega⟩
  have fl:∀w:Int,w%2=1->w/((2^k:Nat):Int)*((2^k:Nat):Int)+1<=w/\w+1<=w/((2^k:Nat):Int)*((2^k:Nat):Int)+((2^k:Nat):Int):=by
   intro w hw;have e:=cKH w ((2^k:Nat):Int);have hp:(0:Int)<((2^k:Nat):Int):=by have:=cEE (n:=k) (show 0<2 by decide);omega
   have m0:=cKI w (show((2^k:Nat):Int)≠0 by omega);have m1:=cKJ w hp;have m2:w%((2^k:Nat):Int)%2=1:=by rw[Int.emod_emod_of_dvd w ev];exact hw
   rw[cJD]at e;generalize w/((2^k:Nat):Int)*((2^k:Nat):Int)=P at *;omega
  constructor
  ·rintro rfl;unfold lL.qU;rw[cond_false];obtain⟨f1,f2⟩:=fl z ho;have cAE:((z/((2^k:Nat):Int):Int):Rat)*((2^k:Nat):Rat)+1<=(z:Rat):=by exact_mod_cast f1
   have cAD:(z:Rat)+1<=((z/((2^k:Nat):Int):Int):Rat)*((2^k:Nat):Rat)+((2^k:Nat):Rat):=by exact_mod_cast f2
   generalize ((z/((2^k:Nat):Int):Int):Rat)*((2^k:Nat):Rat)=P at *;constructor <;> grind
  ·rintro rfl;unfold lL.qU;rw[cond_true];obtain⟨f1,f2⟩:=fl (-z) (by omega);have cAE:((-z/((2^k:Nat):Int):Int):Rat)*((2^k:Nat):Rat)+1<=-(z:Rat):=by exact_mod_cast f1
   have cAD:-(z:Rat)+1<=((-z/((2^k:Nat):Int):Int):Rat)*((2^k:Nat):Rat)+((2^k:Nat):Rat):=by exact_mod_cast f2
   rw[cOF];have e:-((-z/((2^k:Nat):Int):Int):Rat)*((2^k:Nat):Rat)=-(((-z/((2^k:Nat):Int):Int):Rat)*((2^k:Nat):Rat)):=by grind
   rw[e];generalize ((-z/((2^k:Nat):Int):Int):Rat)*((2^k:Nat):Rat)=P at *;constructor <;> grind
theorem aTO{a b s:Nat}(hb:0<b):∃v:Rat,v*(b:Rat)=2*((a:Rat)*((2^s:Nat):Rat))/\0<=v/\((cT.Yc a b s:Rat)=v\/(cT.Yc a b s%2=1/\(cT.Yc a b s:Rat)-1<v/\v<(cT.Yc a b s:Rat)+1)):=by
 have b0:(0:Rat)<(b:Rat):=by exact_mod_cast hb
 have hd:=cGK (a*2^s) b;have hm:=cDM (a*2^s) hb;have A:(b:Rat)*((a*2^s/b:Nat):Rat)+((a*2^s%b:Nat):Rat)=(a:Rat)*((2^s:Nat):Rat):=by exact_mod_cast hd
 have Mm:((a*2^s%b:Nat):Rat)<(b:Rat):=by exact_mod_cast hm
 have q0:(0:Rat)<=((a*2^s/b:Nat):Rat):=by exact_mod_cast cHH _
 have m0:(0:Rat)<=((a*2^s%b:Nat):Rat):=by exact_mod_cast cHH _
 refine⟨2*((a:Rat)*((2^s:Nat):Rat))/(b:Rat),by grind,?_,?_⟩
 ·refine R.cK b0 ?_;have:(b:Rat)*(2*((a:Rat)*((2^s:Nat):Rat))/(b:Rat))=2*((a:Rat)*((2^s:Nat):Rat)):=by grind
  rw[this,<-A];have:=R.aJ (cGL b0) q0;grind
 ·have e:(b:Rat)*(2*((a:Rat)*((2^s:Nat):Rat))/(b:Rat))=2*((b:Rat)*((a*2^s/b:Nat):Rat)+((a*2^s%b:Nat):Rat)):=by rw[A];grind
  generalize 2*((a:Rat)*((2^s:Nat):Rat))/(b:Rat)=v at *;unfold cT.Yc
  by_cases hz:a*2^s%b=0
  ·left;rw[if_pos hz,cCC,cID];rw[hz]at e;have z:((0:Nat):Rat)=0:=by norm_cast
   have two:((2:Nat):Rat)=2:=by norm_cast
   rw[z]at e;rw[two];have:(b:Rat)*v=(b:Rat)*(((a*2^s/b:Nat):Rat)*2):=by rw[e];grind
   exact(cPJ (R.cK b0 (by rw[this];exact cHS)) (R.cK b0 (by rw[this];exact cHS))).symm
  ·right;have m1:(1:Rat)<=((a*2^s%b:Nat):Rat):=by exact_mod_cast(show 1<=a*2^s%b by omega)
   rw[if_neg hz];have c:((a*2^s/b*2+1:Nat):Rat)=2*((a*2^s/b:Nat):Rat)+1:=by
    rw[cLQ,cID];have two:((2:Nat):Rat)=2:=by norm_cast
    have one:((1:Nat):Rat)=1:=by norm_cast
    rw[two,one];grind
   rw[c];refine⟨by omega,?_,?_⟩
   ·refine R.tA b0 ?_;rw[e];grind
   ·refine R.tA b0 ?_;rw[e];grind
end M
namespace W
open Go AI M
namespace Ff
def E:=mE [(161,Ce.aI),(67,wV.aI)] 20 [] [(4,[10,11,12])] []
def aE:=bd f117
theorem aT:Nk E aE:=nk
def L4(a:Nat)(b:Nat->Bool)(c:Nat->List Int)(d:Nat->Int)(e:Nat->Bool)(f:Nat->List Int)(g:Nat->Int) h j:=pZ E f117 aE 4 [(A.v (V.one (L.rows 6 a fun i=>[sc (bool (b i)),ints u64 (c i),sc (int i64 (d i)),sc (bool (e i)),ints u64 (f i),sc (int i64 (g i))])),none),bN h,bN j]
theorem start p (a:yN):aF E f117 aE [D.s (sc (int i64 p)),D.rows 6 1 fun i=>[sc (bool a.fst),ints u64 a.snd.fst,sc (int i64 a.snd.snd.fst),sc (bool a.snd.snd.snd.fst),ints u64 a.snd.snd.snd.snd.fst,sc (int i64 a.snd.snd.snd.snd.snd)]]=aM True (aB (!(decide (1<=p)&&decide (p<=70000))) (some [D.s (sc (int i64 1))]) (Ff.L4 1 (fun i=>a.fst) (fun i=>a.snd.fst) (fun i=>a.snd.snd.fst) (fun i=>a.snd.snd.snd.fst) (fun i=>a.snd.snd.snd.snd.fst) (fun i=>a.snd.snd.snd.snd.snd) 1 0)):=eJ aT
theorem nS a b c d e f g h j:L4 a b c d e f g h j=aB (decide (j<h)) (if 0<=j/\j<(a:Int)then aM (fA (b j.toNat,c j.toNat,d j.toNat,e j.toNat,f j.toNat,g j.toNat)) (Ff.L4 a (fun i=>b i) (fun i=>c i) (fun i=>d i) (fun i=>e i) (fun i=>f i) (fun i=>g i) h (i64.wrap (j+1)))else none) (some [D.s (sc (int i64 0))]):=lJ aT
def sp(p:Int)(a:yN):Prop×List D:=(fA a,[.s (.sc (.int .i64 (if 1<=p/\p<=70000 then 0 else 1)))])
theorem L(n:Nat)(f:Nat->yN)(hn:n<=1000)(hf:∀i,i<n->fA (f i)):∀d k:Nat,k+d=n->L4 n (fun i=>(f i).1) (fun i=>(f i).2.1) (fun i=>(f i).2.2.1) (fun i=>(f i).2.2.2.1) (fun i=>(f i).2.2.2.2.1) (fun i=>(f i).2.2.2.2.2) (n:Int) (k:Int)=some [D.s (.sc (.int .i64 0))]
 |0,k,h=>by rw[nS,aL]
 |d+1,k,h=>by
  have e:i64.wrap ((k:Int)+1)=((k+1:Nat):Int):=by rw[wrap_i64];omega
  rw[nS,aN,aQ,cFB,gP (hf k (by omega)),e];exact L n f hn hf d (k+1) (by omega)
theorem spec:fL E f117 aE (pN .i64) (bQS (.pair sB (.pair (sI .u64) (.pair (sN .i64) (.pair sB (.pair (sI .u64) (sN .i64)))))) (false,[],0,false,[],0)) sp:=by
 intro p a h;have hf:∀i,i<1->fA (a):=fun i hi=>h
 refine(start p a).trans ((gP trivial).trans ?_);unfold sp
 by_cases hp:1<=p/\p<=70000
 ·rw[if_pos hp,decide_eq_true hp.1,decide_eq_true hp.2];exact L 1 (fun _=>a) (by decide) hf 1 0 (by omega)
 ·rw[if_neg hp];have:(decide (1<=p)&&decide (p<=70000))=false:=by
   rw[cNA,decide_eq_false_iff_not,decide_eq_false_iff_not];omega
  rw[this];rfl
def aI:dJ:=orc2 (pN .i64) (bQS (.pair sB (.pair (sI .u64) (.pair (sN .i64) (.pair sB (.pair (sI .u64) (sN .i64)))))) (false,[],0,false,[],0)) sp
theorem ok:OK 117 aI:=(eB E aE (aA Ce.ok (aA wV.ok aC)) func117).lF rfl spec
end Ff
namespace aRK
def E:=mE [(203,Ct.aI),(56,kW.aI)] 24 [10] [] []
def aE:=bd f213
theorem aT:Nk E aE:=nk
theorem start a b c:aF E f213 aE [D.agg [sc (bool a),ints u64 b,sc (int i64 c)]]=letI B:=dv (a,b,c);aM (aU (a,b,c)) (aD (if B.fst=0 then(0:Int)else c+(↑(bl (M6.val b)):Int)-(1:Int)) fun d=>letI C:=i64.wrap ((0:Int)-d);letI A:=bif kW.Hv B C then kW.Qg B C else((0:Int),(0:Int));aM (aU (a,b,c)/\(-9223372036854775808:Int)<=i64.wrap ((0:Int)-d)/\i64.wrap ((0:Int)-d)<9223372036854775808) (aD (M6.dg A.fst.natAbs) fun e=>aD A.snd fun f=>some [D.agg [sc (bool false),ints u64 e,sc (int i64 f)],D.s (sc (int i64 d))])):=eJ aT
def sp(x:gW):Prop×List D:=(aU x/\(dv x).1≠0,[dD (((dv x).1.natAbs:Nat),1-(bl (dv x).1.natAbs:Nat)),.s (.sc (.int .i64 (bC (dv x))))])
theorem spec:iU E f213 aE kF sp:=by
 rintro x ⟨hx,h0⟩;have he:=hx.2.1;have ha:(dv x).1.natAbs=M6.val x.2.1:=jB (x.1,x.2.1);have hb:=hx.Fo.bl;dsimp only at hb;have hb0:=qV (n:=M6.val x.2.1) (by omega);refine(start x.1 x.2.1 x.2.2).trans ?_;have ht:x.2.2+(bl (M6.val x.2.1):Int)-1=bC (dv x):=by unfold bC;rw[ha];rfl
 have h2:(dv x).2=x.2.2:=rfl;have Qm:kW.Hv (dv x) (0-bC (dv x))=true:=by
  unfold kW.Hv;rw[decide_eq_false h0,cDF,decide_eq_true (by omega),decide_eq_true (by omega)];rfl
 have bWN:kW.Qg (dv x) (0-bC (dv x))=((dv x).1,1-((bl (dv x).1.natAbs:Nat):Int)):=by
  unfold kW.Qg;rw[if_neg h0];congr 1;unfold bC;omega
 have aIX:isNeg ((((dv x).1.natAbs:Nat):Int))=false:=iH.2 (by omega);simp only[aG];have bPL:¬((dv (x.1,x.2.1,x.2.2)).1=0):=h0;rw[gP hx,if_neg bPL,ht,wrap_i64 (n:=0-bC (dv x)),gP ⟨hx,by omega,by omega⟩,show dv (x.1,x.2.1,x.2.2)=dv x from rfl,Qm,cond_true,bWN];unfold sp dD
 try dsimp only
 rw[aIX,cGW]
def aI:dJ:=orc1 kF sp
theorem ok:OK 213 aI:=(eB E aE (aA Ct.ok (aA kW.ok aC)) func213).oS rfl spec
end aRK
namespace Hd
def E:=mE [(117,Ff.aI),(120,Ji.aI),(159,fY.aI),(59,Wv.aI),(213,aRK.aI)] 77 [19,41] [(15,[1,9,11])] [15]
def aE:=bd f174
theorem aT:Nk E aE:=nk
def aLK a b c d e f g:=lP E f174 aE 15 [bN a,dS 1 29 [dG b,gO c,cP d],dS 2 29 [dG e,gO f,cP g]]
theorem start a c d e f g b:aF E f174 aE [D.agg [sc (bool a),ints u64 c,sc (int i64 d),sc (bool e),ints u64 f,sc (int i64 g)],D.s (sc (int i64 b))]=letI G:=sc (bool false);letI F:=dv (e,f,g);letI C:=(a,c,d,e,f,g);letI B:=dv (a,c,d);letI A:=bif bS.lA F (-B.fst,B.snd)then bS.oN F (-B.fst,B.snd)else((0:Int),(0:Int));aM (fA C) (aD (if 1<=b/\b<=70000 then(0:Int)else(1:Int)) fun h=>aB (h !=0) (some [D.s G,D.s (sc (int i64 h))]) (aM (aU (a,c,d)/\aU (e,f,g)) (aD (eR B F) fun i=>aB (i==0) (some [D.s (sc (bool true)),D.s (sc (int i64 0))]) (aM (fA C) (aD (fY.uG (dv (iR C)) (dv (iS C))) fun j=>aB (j==0) (some [D.s G,D.s (sc (int i64 0))]) (aM (aU (e,f,g)/\aU (a,c,d)) (aD (isNeg A.fst) fun k=>aD (M6.dg A.fst.natAbs) fun l=>aD A.snd fun m=>aD (bif bS.lA F (-B.fst,B.snd)then(0:Int)else(5:Int)) fun n=>aB (n !=0) (some [D.s G,D.s (sc (int i64 n))]) (aB (decide (j<0)) (Hd.aLK b k l m e f g) (Hd.aLK b k l m a c d))))))))):=eJ aT
theorem Qb a b c d e f g:aLK a b c d e f g=letI B:=dv (e,f,g);letI F:=(B.fst.natAbs:Int);letI A:=dv (b,c,d);letI C:=(A.fst.natAbs:Int);aM (aU (b,c,d)/\A.fst≠0) (aD (isNeg C) fun h=>aD (M6.dg C.natAbs) fun i=>aD ((1:Int)-(↑(bl A.fst.natAbs):Int)) fun j=>aD (bC A) fun k=>aM (aU (e,f,g)/\B.fst≠0) (aD (isNeg F) fun l=>aD (M6.dg F.natAbs) fun m=>aD ((1:Int)-(↑(bl B.fst.natAbs):Int)) fun n=>aD (bC B) fun o=>aB (i64.wrap (k+a) !=o) (some [D.s (sc (bool (decide (i64.wrap (k+a)<o)))),D.s (sc (int i64 0))]) (aM (aU (h,i,j)/\aU (l,m,n)) (aD (eR (dv (h,i,j)) (dv (l,m,n))) fun p=>some [D.s (sc (bool (decide (p<=0)))),D.s (sc (int i64 0))])))):=cJ aT
def bDF(a b:Int×Int)(p:Int):Bool :=
 bif eR a b==0 then true else bif fY.uG a b==0 then false else
 bif (bC (bS.oN b (-a.1,a.2))+p) !=bC (bif decide (fY.uG a b<0)then b else a)then decide (bC (bS.oN b (-a.1,a.2))+p<bC (bif decide (fY.uG a b<0)then b else a))
 else decide (eR (aKS (bS.oN b (-a.1,a.2))) (aKS (bif decide (fY.uG a b<0)then b else a))<=0)
def sp(s:yN)(p:Int):Prop×List D:=(fA s/\(1<=p/\p<=70000)/\bS.lA (dv (iS s)) (-(dv (iR s)).1,(dv (iR s)).2)=true,[.s (.sc (.bool (bDF (dv (iR s)) (dv (iS s)) p))),.s (.sc (.int .i64 0))])
theorem J{p:Int}{w n:Int×Int}{x:gW}(hp:1<=p/\p<=70000)(hw:kT w)(hn:aU x)(he:dv x=n)(w0:w.1≠0)(n0:n.1≠0) :
  aLK p (isNeg w.1) (M6.dg w.1.natAbs) w.2 x.1 x.2.1 x.2.2=some [.s (.sc (.bool (bif (bC w+p) !=bC n then decide (bC w+p<bC n)else decide (eR (aKS w) (aKS n)<=0)))),.s (.sc (.int .i64 0))]:=by
 subst he;have c:=dY w;have cx:(x.1,x.2.1,x.2.2)=x:=rfl;have t1:=hw.top;have t2:=hn.xF.top;rw[Qb];simp only[aG,c,cx];rw[gP ⟨dV hw,w0⟩,gP ⟨hn,n0⟩,wrap_i64 (n:=bC w+p)]
 by_cases h:bC w+p=bC (dv x)
 ·rw[gD h];have d1:=dV (aNH hw w0);have d2:=dV (aNH hn.xF n0);have e1:=dY (aKS w);have e2:=dY (aKS (dv x));rw[show((bC w+p) !=bC (dv x))=false from by rw[h];exact bne_self_eq_false _,cond_false];unfold aKS at d1 d2 e1 e2 ⊢;dsimp only at d1 d2 e1 e2 ⊢;rw[gP ⟨d1,d2⟩,e1,e2]
 ·rw[nW h,show((bC w+p) !=bC (dv x))=true from bne_iff_ne.2 h,cond_true]
theorem spec:fL E f174 aE Ab (pN .i64) sp:=by
 rintro s p ⟨h1,hp,ao⟩;have hL:aU (s.1,s.2.1,s.2.2.1):=h1.1;have hH:aU (s.2.2.2.1,s.2.2.2.2.1,s.2.2.2.2.2):=h1.2.1;refine(start s.1 s.2.1 s.2.2.1 s.2.2.2.1 s.2.2.2.2.1 s.2.2.2.2.2 p).trans ?_;rw[gP h1,aG,if_pos hp,gD rfl,gP ⟨hL,hH⟩,aG];unfold sp bDF;dsimp only;unfold iR iS at *;generalize ha:dv (s.1,s.2.1,s.2.2.1)=a at *;generalize hb:dv (s.2.2.2.1,s.2.2.2.2.1,s.2.2.2.2.2)=b at *
 by_cases c:eR a b=0
 ·rw[bI c,show(eR a b==0)=true from beq_iff_eq.2 c,cond_true]
 ·rw[bA c,show(eR a b==0)=false from beq_eq_false_iff_ne.2 c,cond_false,gP h1,aG]
  by_cases d:fY.uG a b=0
  ·rw[bI d,show(fY.uG a b==0)=true from beq_iff_eq.2 d,cond_true]
  ·rw[bA d,show(fY.uG a b==0)=false from beq_eq_false_iff_ne.2 d,cond_false,gP ⟨hH,hL⟩,ao];simp only[aG,cond_true];rw[gD rfl];have pa:kT a:=ha▸hL.xF;have pb:kT b:=hb▸hH.xF;have pw:=Ug pb (by obtain⟨x1,x2,x3,x4⟩:=pa;exact⟨by dsimp only;rw[cHY];exact x1,x2,fun h=>x3 (by dsimp only at h;omega),fun h=>by dsimp only at h ⊢;have:=x4 (by omega);omega⟩) ao;have w0:=aMR c
   by_cases g:fY.uG a b<0
   ·have n0:b.1≠0:=fun hz=>by
     have:=Cw hz;unfold fY.uG at g;rw[aO]at g;split at g <;> omega
    rw[aN g,decide_eq_true g,cond_true];exact J hp pw hH hb w0 n0
   ·have n0:a.1≠0:=fun hz=>by
     have:=Cw hz;unfold fY.uG at g d;split at g
     ·omega
     ·rw[aO,aO]at d;exact d rfl
    rw[aL g,decide_eq_false g,cond_false];exact J hp pw hL ha w0 n0
def aI:dJ:=orc2 Ab (pN .i64) sp
theorem ok:OK 174 aI:=(eB E aE (aA Ff.ok (aA Ji.ok (aA fY.ok (aA Wv.ok (aA aRK.ok aC))))) func174).lF rfl spec
end Hd
end W
end Go.Proofs.YtplagoepbghhpaaGreatDoor
end
