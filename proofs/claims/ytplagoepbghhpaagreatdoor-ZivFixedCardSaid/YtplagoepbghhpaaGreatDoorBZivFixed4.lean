/- Contracts. -/
import Derived.WalkKit
import Derived.Test.YtplagoepbghhpaaGreatDoorBZivFixed3
set_option linter.unusedVariables false
set_option linter.unusedSimpArgs false
set_option exponentiation.threshold 10000000
noncomputable section
open Go.IntKind(i8 i16 i32 i64 u8 u16 u32 u64)
open Go.Proofs.Tryz
open Nat renaming le_trans->bVN,lt_of_le_of_lt->cBA,pow_add->bZS,pow_succ->bZQ,pow_pos->bXR,div_le_self->cFB,lt_of_lt_of_le->bVO,zero_le->cAS,mul_comm->bZP,zero_add->bUT,sub_le->cBH,mod_lt->bWZ,le_refl->bUR,pow_lt_pow_right->cCA,one_mul->bYV,pow_le_pow_right->bXS,ble->bUU,le_of_ble_eq_true->bWP,mul_lt_mul''->cCV,mul_assoc->bZT,mul_add->bZR,div_lt_of_lt_mul->cAJ,div_div_eq_div_mul->cAL,beq->bUS,eq_of_beq_eq_true->bVG,mul_le_mul->cFA,mul_le_mul_right->bWG,add_zero->bVP,add_mul->bVL,lt_succ_self->cIU,add_comm->cAQ,mul_lt_mul_of_pos_left->cIW,mul_lt_mul_of_pos_right->cGY,mod_add_div->cFF,mul_le_mul_left->bXF,div_add_mod->bZX
open Rat renaming le_of_lt->bZY,intCast_natCast->cFX,le_refl->cAZ,intCast_mul->cFW,intCast_neg->cHO,natCast_mul->cBJ,natCast_add->cEY,le_trans->bZW,mul_pos->cAI,intCast_sub->cIS,mul_assoc->cFV,mul_comm->cHL,intCast_add->cHP,le_antisymm->cIV
open Int renaming toNat_natCast->bYO,natAbs_natCast->cAH,eq_ofNat_of_zero_le->bZV,natAbs_neg->cBC,natAbs->cEO,natAbs_mul->cAE,mul_nonneg->cGQ,toNat->cIT,neg_mul->cEB,mul_comm->cCJ,natCast_mul->cAN,mul_ediv_add_emod->cDM,emod_nonneg->cDN,emod_lt_of_pos->cDO,mul_le_mul_of_nonneg_left->cIY,tmod_eq_emod_of_nonneg->cDG,mul_le_mul_of_nonneg_right->bXB,natCast_nonneg->cEF
open Bool renaming not_true->bWR,false_or->bWS,or_true->cAO,true_or->cAB,true_and->bXT,and_eq_true->bUX,not_false->cFY,and_eq_false_iff->cGG
open List renaming replicate->bWU,take->cDW,drop->cDV,take_of_length_le->cBT,drop_replicate->cIC,length_replicate->cHY,take_length->cBD,nil_append->bYU
open Option renaming bind_eq_some_iff->bWY
namespace Go.Proofs.YtplagoepbghhpaaGreatDoor
open Go.Value(int bool slice)
open AI.S(sc ints)
namespace W
open Go AI M
namespace PSum
def E:Env:={ ({ base with C:=qZ [(267,pJ.aJ)] (callsOf [(261,Ag.aJ)]),ioF:=Ni [(267,pJ.aJ)] })with nt:=25,own:=[24],keep:=fun k=>(tlook [] k).getD [],cut:=tlook [(3,[0,1])] }
def aE:=bd f269
theorem aX:Nk E aE:=nk
def J3 a b:=mT E f269 aE 3 [iK a,iK b]
theorem start a b:aH E f269 aE [D.s (ints u64 a),D.s (ints u64 b)]=aB (decide ((a.length:Int)<(b.length:Int))) (PSum.J3 b a) (PSum.J3 a b):=eJ aX
theorem iA a b:J3 a b=letI F:=(a.length:Int);letI G:=F+(1:Int);letI B:=i64.wrap G;letI A:=cDW B.toNat a ++ cDV (min a.length B.toNat) (bWU B.toNat (0:Int));letI C:=M6.pT A.length (M6.val A+M6.val b*1);if 0<=i64.wrap G/\i64.wrap G<=i64.wrap G/\i64.wrap G<=8796093022208 then aO (M6.cZ A/\(0:Nat)=(0:Nat)/\B.toNat=A.length/\M6.cZ b/\(0:Int)<=(0:Int)/\(0:Nat)+b.length<=A.length/\A.length<=1099511627776/\M6.val A+M6.val b*1<(18446744073709551616:Nat)^A.length) (aO (M6.cZ C/\C.length<=1099511627776) (some [D.s (ints u64 (M6.dg (M6.val C)))]))else none:=cJ aX
def sp(a b:List Int):Prop×List D:=(M6.cR a/\M6.cR b/\a.length<=549755813888/\b.length<=549755813888,[.s (.ints .u64 (M6.dg (M6.val a+M6.val b)))])
theorem aQW{a:List Int}{n:Nat}:cDW (a.length+n) a ++ cDV (min a.length (a.length+n)) (bWU (a.length+n) (0:Int))=a ++ bWU n 0:=by
 rw[cBT (by omega),cIC];congr 2;omega
theorem J{a b:List Int}(ha:M6.cR a)(hb:M6.cR b)(hl:a.length<=549755813888)(aSU:b.length<=a.length):J3 a b=some [.s (.ints .u64 (M6.dg (M6.val a+M6.val b)))]:=by
 have w:i64.wrap ((a.length:Int)+1)=((a.length+1:Nat):Int):=by rw[wrap_i64];omega
 have h1:=M6.dS ha.kU;have h2:=M6.dS hb.kU;have h3:=M6.qB aSU;have aPN:M6.val a+M6.val b<18446744073709551616^(a.length+1):=by rw[bZQ];omega
 have hv:M6.val (a ++ bWU 1 0)=M6.val a:=by rw[M6.jH,M6.jU];omega
 rw[iA,w,bYO,aQW,aW,hv,Nat.mul_one,List.length_append,cHY,
  gP ⟨M6.qL.2 ⟨ha.kU,M6.kY _⟩,rfl,rfl,hb.kU,by omega,by omega,by omega,aPN⟩,gP ⟨M6.lW,by rw[M6.iG aPN];omega⟩,M6.lV]
theorem spec:gU E f269 aE (pI .u64) (pI .u64) sp:=by
 rintro a b ⟨ha,hb,h1,h2⟩;refine(start a b).trans ?_
 by_cases hl:a.length<b.length
 ·rw[aQ,J hb ha h2 (by omega),cAQ];rfl
 ·rw[aL,J ha hb h1 (by omega)];rfl
def aJ:dO:=orc2 (pI .u64) (pI .u64) sp
theorem fnok:sZ prog E 269 f269 aE:=aFA rH mixed (lZ _ _ rfl rfl (mG pJ.ok xM) (aA Ag.ok aD) (nR)) func269 rfl rfl rfl
theorem ok:lA prog base.glob 269 aJ:=fnok.mV rfl spec
end PSum
namespace Hk
def E:Env:={ ({ base with n0:=1,io:=[0] })with nt:=47,own:=[],keep:=fun k=>(tlook [(7,[0,4,6]),(2,[0,1,4,8,9])] k).getD [],cut:=tlook [] }
def aE:=bd f270
theorem aX:Nk E aE:=nk
def L2(a:List Int)(b:Nat)(c:Nat) d f g h:=sJ E f270 aE 2 [(A.any,some { e:=(22:Nat),cont:=yF.ints u64 a }),(A.v (V.one (L.view 0 b c)),none),iK d,dG f,cK g,cK h]
def L7(a:List Int)(b:Nat)(c:Nat) d f:=sJ E f270 aE 7 [(A.any,some { e:=(22:Nat),cont:=yF.ints u64 a }),(A.v (V.one (L.view 0 b c)),none),dG d,cK f]
theorem start al ao an b:aH E f270 aE [D.io gH u64 al ao an,D.s (ints u64 b)]=Hk.L2 al ao an b 0 (b.length:Int) 0:=eJ aX
theorem lN a b c d e f g:L2 a b c d e f g=letI A:=b+g.toNat;aB (decide (g<f)) (if 0<=g/\g<(c:Int)then if 0<=g/\g<(d.length:Int)then aO (0<=a.getD A 0/\0<=d.getD g.toNat 0/\d.getD g.toNat 0<(18446744073709551616:Int)/\0<=e/\e<=1) (if 0<=g/\g<(c:Int)then Hk.L2 (a.set A ((a.getD A 0-d.getD g.toNat 0-e)%18446744073709551616)) b c d (if a.getD A 0<d.getD g.toNat 0+e then(1:Int)else(0:Int)) f (i64.wrap (g+1))else none)else none else none) (Hk.L7 a b c e (d.length:Int)):=lJ aX
theorem wX a b c d e:L7 a b c d e=letI A:=b+e.toNat;aB (decide (0<d)) (if 0<=e/\e<(c:Int)then aO (0<=a.getD A 0/\(0:Int)<=(0:Int)/\(0:Int)<(18446744073709551616:Int)/\0<=d/\d<=1) (if 0<=e/\e<(c:Int)then Hk.L7 (a.set A ((a.getD A 0-(0:Int)-d)%18446744073709551616)) b c (if a.getD A 0<(0:Int)+d then(1:Int)else(0:Int)) (i64.wrap (e+1))else none)else none) (some [D.io 22 u64 a 0 0]):=lJ aX
def sp(x:List Int×Nat×Nat)(b:List Int):Prop×List D:=(M6.cZ x.1/\x.2.1=0/\x.2.2=x.1.length/\M6.cZ b/\b.length<=x.1.length/\x.1.length<=1099511627776/\M6.val b<=M6.val x.1,
 [.io gH .u64 (M6.pT x.1.length (M6.val x.1-M6.val b)) 0 0])
theorem bKJ{V W N:Nat}(hN:N<=1099511627776)(hT:W<=V):∀(r j:Nat) (z:List Int) (c:Int),j+r=N+1->z.length=N->M6.cZ z->0<=c->c<=1->M6.val z+W=V+18446744073709551616^j*c.toNat ->
  L7 z 0 N c j=some [.io gH .u64 (M6.pT N (V-W)) 0 0]:=by
 intro r
 induction r with
 |zero =>
  intro j z c hj hz hd h0 h1 hv;have hc:c=0:=by
   have h2:=M6.qB (show N<=j by omega);have h3:=M6.dS hd;rw[hz]at h3;rcases Int.lt_or_le 0 c with h4 |h4
   ·have:c=1:=by omega
    subst this;simp at hv;omega
   ·omega
  subst hc;rw[wX,aL];simp at hv;rw[M6.oW hd hz (v:=V-W) (by omega)]
 |succ r ih =>
  intro j z c hj hz hd h0 h1 hv
  by_cases hc:c=0
  ·subst hc;rw[wX,aL];simp at hv;rw[M6.oW hd hz (v:=V-W) (by omega)]
  ·have aYL:c=1:=by omega
   subst aYL;have bRI:j<N:=by
    rcases Nat.lt_or_ge j N with h |h
    ·exact h
    ·have h2:=M6.qB h;have h3:=M6.dS hd;rw[hz]at h3;simp at hv;omega
   have g:=hd.get j;have w2:i64.wrap ((j:Int)+1)=((j+1:Nat):Int):=by rw[wrap_i64];omega
   rw[wX,aQ,aW,bUT,bYO,gP ⟨g.1,by omega,by omega,by omega,by omega⟩,aW,w2];refine ih (j+1) _ _ (by omega) (by simp[hz]) (M6.oF hd (by omega)) (by split <;> omega) (by split <;> omega) ?_;have hs:=M6.qR (a:=z) (j:=j) (by omega) ((z.getD j 0-0-1)%18446744073709551616);rw[bZQ,bZT];generalize z.getD j 0=x at *;generalize M6.val (z.set j _)=U at *;generalize 18446744073709551616^j=B at *;have e:((x-0-1)%18446744073709551616).toNat+1=x.toNat+18446744073709551616*(if x<0+1 then(1:Int)else 0).toNat:=by split <;> omega
   have e2:B*((x-0-1)%18446744073709551616).toNat+B=B*x.toNat+B*(18446744073709551616*(if x<0+1 then(1:Int)else 0).toNat):=by
    rw[<-bZR,<-e,bZR,Nat.mul_one]
   simp at hv;omega
theorem bKL{b:List Int}{V N:Nat}(hN:N<=1099511627776)(hb:M6.cZ b)(hk:b.length<=N)(hT:M6.val b<=V):∀(r i:Nat) (z:List Int) (c:Int),i+r=b.length->z.length=N->M6.cZ z->0<=c->c<=1 ->
  M6.val z+M6.val (b.take i)=V+18446744073709551616^i*c.toNat ->
  L2 z 0 N b c b.length i=some [.io gH .u64 (M6.pT N (V-M6.val b)) 0 0]:=by
 intro r
 induction r with
 |zero =>
  intro i z c hi hz hd h0 h1 hv;rw[lN,aL];have aVE:i=b.length:=by omega
  subst aVE;rw[cBD]at hv;exact bKJ hN hT (N+1-b.length) b.length z c (by omega) hz hd h0 h1 hv
 |succ r ih =>
  intro i z c hi hz hd h0 h1 hv;have g:=hd.get i;have g2:=hb.get i;have w2:i64.wrap ((i:Int)+1)=((i+1:Nat):Int):=by rw[wrap_i64];omega
  rw[lN,aQ,aW,aW,bUT,bYO,gP ⟨g.1,g2.1,g2.2,h0,h1⟩,aW,w2];refine ih (i+1) _ _ (by omega) (by simp[hz]) (M6.oF hd (by omega)) (by split <;> omega) (by split <;> omega) ?_;have hs:=M6.qR (a:=z) (j:=i) (by omega) ((z.getD i 0-b.getD i 0-c)%18446744073709551616);rw[M6.dP,bZQ,bZT];generalize z.getD i 0=x at *;generalize b.getD i 0=y at *;generalize M6.val (z.set i _)=W at *;generalize 18446744073709551616^i=B at *;generalize M6.val (b.take i)=U at *;have e:((x-y-c)%18446744073709551616).toNat+y.toNat+c.toNat=x.toNat+18446744073709551616*(if x<y+c then(1:Int)else 0).toNat:=by split <;> omega
  have e2:B*((x-y-c)%18446744073709551616).toNat+B*y.toNat+B*c.toNat=B*x.toNat+B*(18446744073709551616*(if x<y+c then(1:Int)else 0).toNat):=by
   rw[<-bZR,<-bZR,e,bZR]
  omega
theorem spec(x:List Int×Nat×Nat)(b:List Int)(h:(sp x b).1):aH E f270 aE [(Dl gH .u64).put x,(pI .u64).put b]=some (sp x b).2/\∃rs mZ,(sp x b).2=rs ++ [.io gH .u64 mZ 0 0]/\mZ.length=x.1.length:=by
 obtain⟨xl,xo,xn⟩:=x;obtain⟨hd,ho,hn,hb,aGO,hl,hT⟩:=h;simp only at hd ho hn hb aGO hl hT;subst ho;subst hn;refine⟨(start xl 0 xl.length b).trans ?_,[],_,rfl,M6.iG (by have:=M6.dS hd;simp only;omega)⟩;have:=bKL hl hb aGO hT b.length 0 xl 0 (by omega) rfl hd (by omega) (by omega) (by simp[M6.val]);exact this
def aJ:dO:=orc2 (Dl gH .u64) (pI .u64) sp
theorem fnok:mA prog E 270 f270 aE:=vV rH mixed (lY _ rfl aD (nR)) func270 rfl rfl rfl rfl rfl
theorem ok:pW prog base.glob 270 aJ:=fnok.mV rfl spec
end Hk
namespace Jc
def E:Env:={ ({ base with C:=qZ [(267,pJ.aJ),(270,Hk.aJ)] (callsOf [(261,Ag.aJ),(268,aWX.aJ),(269,PSum.aJ),(253,nD.prec)]),ioF:=Ni [(267,pJ.aJ),(270,Hk.aJ)],n0:=1,io:=[0] })with nt:=62,own:=[42],keep:=fun k=>(tlook [] k).getD [],cut:=tlook [] }
def aE:=bd f266
theorem aX:Nk E aE:=nk
theorem start al ao an b c:aH E f266 aE [D.io gH u64 al ao an,D.s (ints u64 b),D.s (ints u64 c)]=letI B:=i64.wrap ((b.length:Int)+(1:Int));letI H:=B.tdiv 2;letI F:=i64.wrap ((2:Int)*i64.wrap H);letI C:=i64.wrap H;aO (M6.cR b/\b.length<=1099511627776/\0<=i64.wrap H) (aC (M6.dg (M6.val b%(18446744073709551616:Nat)^C.toNat)) fun a=>aC (M6.dg (M6.val b/(18446744073709551616:Nat)^C.toNat)) fun d=>aO (M6.cR c/\c.length<=1099511627776/\0<=i64.wrap H) (aC (M6.dg (M6.val c%(18446744073709551616:Nat)^C.toNat)) fun e=>aC (M6.dg (M6.val c/(18446744073709551616:Nat)^C.toNat)) fun f=>aO (nD.can a e) (aC (M6.dg (M6.val a*M6.val e)) fun g=>letI A:=cDW ao al ++ (cDW an g ++ cDV (ao+min g.length an) al);aO (nD.can d f) (aC (M6.dg (M6.val d*M6.val f)) fun h=>aO (M6.cR a/\M6.cR d/\a.length<=549755813888/\d.length<=549755813888) (aC (M6.dg (M6.val a+M6.val d)) fun i=>aO (M6.cR e/\M6.cR f/\e.length<=549755813888/\f.length<=549755813888) (aC (M6.dg (M6.val e+M6.val f)) fun j=>aO (nD.can i j) (aC (M6.dg (M6.val i*M6.val j)) fun k=>aO (M6.cZ k/\(0:Nat)=(0:Nat)/\k.length=k.length/\M6.cZ g/\g.length<=k.length/\k.length<=1099511627776/\M6.val g<=M6.val k) (aC (M6.pT k.length (M6.val k-M6.val g)) fun l=>aO (M6.cZ l/\(0:Nat)=(0:Nat)/\k.length=l.length/\M6.cZ h/\h.length<=l.length/\l.length<=1099511627776/\M6.val h<=M6.val l) (aC (M6.pT l.length (M6.val l-M6.val h)) fun m=>letI G:=M6.dg (M6.val m);if u64=u64/\ao+an<=al.length then aO (M6.cZ m/\m.length<=1099511627776) (aO (M6.cZ A/\ao=0/\an=A.length/\M6.cZ G/\0<=i64.wrap H/\C.toNat+G.length<=A.length/\A.length<=1099511627776/\M6.val A+M6.val G*(18446744073709551616:Nat)^C.toNat<(18446744073709551616:Nat)^A.length) (aC (M6.pT A.length (M6.val A+M6.val G*(18446744073709551616:Nat)^C.toNat)) fun n=>aO (M6.cZ n/\ao=0/\an=n.length/\M6.cZ h/\0<=i64.wrap ((2:Int)*i64.wrap H)/\F.toNat+h.length<=n.length/\n.length<=1099511627776/\M6.val n+M6.val h*(18446744073709551616:Nat)^F.toNat<(18446744073709551616:Nat)^n.length) (aC (M6.pT n.length (M6.val n+M6.val h*(18446744073709551616:Nat)^F.toNat)) fun o=>some [D.io 22 u64 o 0 0])))else none))))))))):=eJ aX
def sp(x:List Int×Nat×Nat)(a b:List Int):Prop×List D:=(M6.cZ x.1/\x.2.1=0/\x.2.2=x.1.length/\M6.cR a/\M6.cR b/\x.1.length=a.length+b.length/\x.1.length<=274877906944/\M6.val x.1=0/\4<=b.length/\b.length<=a.length/\nD.less (a.length+b.length),
 [.io gH .u64 (M6.pT x.1.length (M6.val a*M6.val b)) 0 0])
theorem bGE(a0 a1 b0 b1 K:Nat):(a0+K*a1)*(b0+K*b1)=a0*b0+(a0*b1+a1*b0)*K+a1*b1*(K*K):=by grind
theorem bGD(a0 a1 b0 b1:Nat):(a0+a1)*(b0+b1)=a0*b0+a1*b1+(a0*b1+a1*b0):=by grind
theorem Ew{v n k:Nat}(h:v<18446744073709551616^n):v/18446744073709551616^k<18446744073709551616^(n-k):=by
 apply cAJ;rw[<-bZS];exact bVO h (M6.qB (by omega))
theorem aBT{v k N:Nat}(hk:k<=N)(h:v*18446744073709551616^k<18446744073709551616^N):v<18446744073709551616^(N-k):=by
 have e:18446744073709551616^N=18446744073709551616^(N-k)*18446744073709551616^k:=by rw[<-bZS];congr 1;omega
 rw[e]at h;exact Nat.lt_of_mul_lt_mul_right h
theorem spec(x:List Int×Nat×Nat)(a b:List Int)(h:(sp x a b).1):aH E f266 aE [(Dl gH .u64).put x,(pI .u64).put a,(pI .u64).put b]=some (sp x a b).2/\∃rs mZ,(sp x a b).2=rs ++ [.io gH .u64 mZ 0 0]/\mZ.length=x.1.length:=by
 obtain⟨xl,xo,xn⟩:=x;obtain⟨hd,ho,hn,ha,hb,hl,hN,hv,h4,aSU,hc⟩:=h;simp only at hd ho hn hl hN hv;subst ho;subst hn;have aKT:=M6.dS ha.kU;have bEW:=M6.dS hb.kU;have bCL:M6.val a*M6.val b<18446744073709551616^xl.length:=by rw[hl,bZS];exact cCV aKT bEW
 refine⟨(start xl 0 xl.length a b).trans ?_,[],_,rfl,M6.iG bCL⟩;obtain⟨k,hk⟩:∃k:Nat,k=(a.length+1)/2:=⟨_,rfl⟩;have w:i64.wrap ((i64.wrap ((a.length:Int)+1)).tdiv 2)=(k:Int):=by
  rw[wrap_i64 (n:=(a.length:Int)+1),Int.tdiv_eq_ediv_of_nonneg (by omega),wrap_i64];omega
 have w2:i64.wrap (2*(k:Int))=((2*k:Nat):Int):=by rw[wrap_i64];omega
 have aSJ:xl=bWU xl.length 0:=by
  have:=M6.oW hd rfl hv;rw[M6.aKX]at this;exact this
 rw[w,w2,gP ⟨ha,by omega,by omega⟩];simp only[aG,bYO];have a0l:=M6.dZ (bWZ (M6.val a) (bXR (n:=k) (by omega:0<18446744073709551616)));have b0l:=M6.dZ (bWZ (M6.val b) (bXR (n:=k) (by omega:0<18446744073709551616)));have a1l:=M6.dZ (Ew (k:=k) aKT);have b1l:=M6.dZ (Ew (k:=k) bEW);have hA:=cFF (M6.val a) (18446744073709551616^k);have hB:=cFF (M6.val b) (18446744073709551616^k);have ea0:M6.val a%18446744073709551616^k<18446744073709551616^k:=bWZ _ (cY);have eb0:M6.val b%18446744073709551616^k<18446744073709551616^k:=bWZ _ (cY);have ea1:M6.val a/18446744073709551616^k<18446744073709551616^k:=bVO (Ew aKT) (M6.qB (by omega));have eb1:M6.val b/18446744073709551616^k<18446744073709551616^k:=bVO (Ew bEW) (M6.qB (by omega));generalize M6.val a%18446744073709551616^k=a0 at *;generalize M6.val a/18446744073709551616^k=a1 at *;generalize M6.val b%18446744073709551616^k=b0 at *;generalize M6.val b/18446744073709551616^k=b1 at *;have s6:a0+a1<18446744073709551616^(k+1):=by rw[bZQ];omega
 have s7:b0+b1<18446744073709551616^(k+1):=by rw[bZQ];omega
 have s6l:=M6.dZ s6;have s7l:=M6.dZ s7;have aCI:=bGE a0 a1 b0 b1 (18446744073709551616^k);rw[hA,hB]at aCI;have hmid:=bGD a0 a1 b0 b1;have s8:(a0+a1)*(b0+b1)<18446744073709551616^(2*(k+1)):=by
  rw[Nat.two_mul,bZS];exact cCV s6 s7
 have s8l:=M6.dZ s8;have bTD:18446744073709551616^k*18446744073709551616^k=18446744073709551616^(2*k):=by rw[<-bZS,Nat.two_mul]
 rw[bTD]at aCI;have low:a0*b0<=(a0+a1)*(b0+b1):=by omega
 have bHO:=M6.zJ low;have bGA:a1*b1<=(a0+a1)*(b0+b1):=by omega
 have bHN:=M6.zJ bGA;rw[gP ⟨hb,by omega,by omega⟩,gP (hc _ _ (M6.aY _) (M6.aY _) (by omega)),gP (hc _ _ (M6.aY _) (M6.aY _) (by omega)),gP ⟨M6.aY _,M6.aY _,by omega,by omega⟩,gP ⟨M6.aY _,M6.aY _,by omega,by omega⟩];simp only[M6.bN];have f9:(a0+a1)*(b0+b1)-a0*b0<18446744073709551616^(M6.dg ((a0+a1)*(b0+b1))).length:=by
  have:=M6.wJ (n:=(a0+a1)*(b0+b1));omega
 have bTR:=M6.iG f9;rw[gP (hc _ _ (M6.aY _) (M6.aY _) (by omega)),gP ⟨M6.lG _,by trivial,by trivial,M6.lG _,bHO,by omega,low⟩,bTR,M6.lV,
  gP ⟨M6.lW,by trivial,by trivial,M6.lG _,bHN,by omega,by omega⟩]
 have bUA:(a0+a1)*(b0+b1)-a0*b0-a1*b1=a0*b1+a1*b0:=by omega
 rw[bUA];have f10:a0*b1+a1*b0<18446744073709551616^(M6.dg ((a0+a1)*(b0+b1))).length:=by
  have:=M6.wJ (n:=(a0+a1)*(b0+b1));omega
 have Yv:a0*b0<18446744073709551616^xl.length:=by omega
 have bME:=M6.dZ Yv;have bBX:cDW 0 xl ++ (cDW xl.length (M6.dg (a0*b0)) ++ cDV (0+min (M6.dg (a0*b0)).length xl.length) xl)=M6.pT xl.length (a0*b0):=by
  rw[List.take_zero,bYU,cBT bME,bUT,Nat.min_eq_left bME]
  conv=>lhs;rw[aSJ,cIC]
  rfl
 rw[bBX,if_pos ⟨by trivial,by omega⟩,gP ⟨M6.lW,by rw[M6.iG f10];omega⟩,M6.lV,M6.lV,M6.iG Yv];have bQU:(a0*b1+a1*b0)*18446744073709551616^k<18446744073709551616^xl.length:=by omega
 have bBD:=M6.dZ (aBT (by omega) bQU);have bAN:a0*b0+(a0*b1+a1*b0)*18446744073709551616^k<18446744073709551616^xl.length:=by omega
 rw[gP ⟨M6.lW,by trivial,by trivial,M6.lG _,by omega,by omega,by omega,bAN⟩,M6.iG bAN,M6.lV];have bRO:a1*b1*18446744073709551616^(2*k)<18446744073709551616^xl.length:=by omega
 have hhl:=M6.dZ (aBT (by omega) bRO);rw[gP ⟨M6.lW,by trivial,by trivial,M6.lG _,by omega,by omega,by omega,by rw[<-aCI];exact bCL⟩,<-aCI];rfl
def aJ:dO:=orc3 (Dl gH .u64) (pI .u64) (pI .u64) sp
theorem fnok:mA prog E 266 f266 aE:=vV rH mixed (lZ _ _ rfl rfl (mG pJ.ok (mG Hk.ok xM)) (aA Ag.ok (aA aWX.ok (aA PSum.ok (aA nD.aBR aD)))) (nR)) func266 rfl rfl rfl rfl rfl
theorem ok:pW prog base.glob 266 aJ:=fnok.yM rfl spec
end Jc
namespace Py
def E:Env:={ ({ base with C:=qZ [(264,Hl.aJ),(265,Gx.aJ),(266,Jc.aJ)] (callsOf []),ioF:=Ni [(264,Hl.aJ),(265,Gx.aJ),(266,Jc.aJ)],n0:=1,io:=[0] })with nt:=36,own:=[],keep:=fun k=>(tlook [] k).getD [],cut:=tlook [(3,[0,1,2])] }
def aE:=bd f260
theorem aX:Nk E aE:=nk
def J3(a:List Int)(b:Nat)(c:Nat) d f:=mT E f260 aE 3 [(A.any,some { e:=(22:Nat),cont:=yF.ints u64 a }),(A.v (V.one (L.view 0 b c)),none),iK d,iK f]
theorem start al ao an b c:aH E f260 aE [D.io gH u64 al ao an,D.s (ints u64 b),D.s (ints u64 c)]=aB (decide ((b.length:Int)<(c.length:Int))) (Py.J3 al ao an c b) (Py.J3 al ao an b c):=eJ aX
theorem iA a b c d e:J3 a b c d e=letI B:=d.length+e.length;letI A:=some [D.io 22 u64 (M6.pT a.length (M6.val d*M6.val e)) 0 0];aB (decide ((e.length:Int)<(40:Int))) (aO (M6.cZ a/\b=0/\c=a.length/\M6.cZ d/\M6.cZ e/\a.length=d.length+e.length/\a.length<=1099511627776/\M6.val a=0) A) (aB (decide (i64.wrap ((2:Int)*(e.length:Int))<=(d.length:Int))) (aO (M6.cZ a/\b=0/\c=a.length/\M6.cR d/\M6.cR e/\a.length=d.length+e.length/\a.length<=549755813888/\M6.val a=0/\0<e.length/\(2:Nat)*e.length<=d.length/\nD.less B) A) (aO (M6.cZ a/\b=0/\c=a.length/\M6.cR d/\M6.cR e/\a.length=d.length+e.length/\a.length<=274877906944/\M6.val a=0/\4<=e.length/\e.length<=d.length/\nD.less B) A)):=cJ aX
def sp(x:List Int×Nat×Nat)(a b:List Int):Prop×List D:=(M6.cZ x.1/\x.2.1=0/\x.2.2=x.1.length/\M6.cR a/\M6.cR b/\x.1.length=a.length+b.length/\x.1.length<=274877906944/\M6.val x.1=0/\nD.less (a.length+b.length),
 [.io gH .u64 (M6.pT x.1.length (M6.val a*M6.val b)) 0 0])
theorem J{z a b:List Int}(hd:M6.cZ z)(ha:M6.cR a)(hb:M6.cR b)(hl:z.length=a.length+b.length)(hN:z.length<=274877906944)(hv:M6.val z=0)(hc:nD.less (a.length+b.length))(aSU:b.length<=a.length) :
  J3 z 0 z.length a b=some [.io gH .u64 (M6.pT z.length (M6.val a*M6.val b)) 0 0]:=by
 have w:i64.wrap (2*(b.length:Int))=((2*b.length:Nat):Int):=by rw[wrap_i64];omega
 rw[iA,w]
 by_cases h1:b.length<40
 ·rw[aQ,gP ⟨hd,rfl,rfl,ha.kU,hb.kU,hl,by omega,hv⟩]
 ·rw[aL]
  by_cases h2:2*b.length<=a.length
  ·rw[aQ,gP ⟨hd,rfl,rfl,ha,hb,hl,by omega,hv,by omega,h2,hc⟩]
  ·rw[aL,gP ⟨hd,rfl,rfl,ha,hb,hl,by omega,hv,by omega,aSU,hc⟩]
theorem spec(x:List Int×Nat×Nat)(a b:List Int)(h:(sp x a b).1):aH E f260 aE [(Dl gH .u64).put x,(pI .u64).put a,(pI .u64).put b]=some (sp x a b).2/\∃rs mZ,(sp x a b).2=rs ++ [.io gH .u64 mZ 0 0]/\mZ.length=x.1.length:=by
 obtain⟨xl,xo,xn⟩:=x;obtain⟨hd,ho,hn,ha,hb,hl,hN,hv,hc⟩:=h;simp only at hd ho hn hl hN hv;subst ho;subst hn;refine⟨(start xl 0 xl.length a b).trans ?_,[],_,rfl,M6.iG ?_⟩
 ·by_cases jL:a.length<b.length
  ·rw[aQ,J hd hb ha (by omega) hN hv (by rw[cAQ];exact hc) (by omega),bZP];rfl
  ·rw[aL,J hd ha hb hl hN hv hc (by omega)];rfl
 ·show _<18446744073709551616^xl.length;rw[hl,bZS];exact cCV (M6.dS ha.kU) (M6.dS hb.kU)
def aJ:dO:=orc3 (Dl gH .u64) (pI .u64) (pI .u64) sp
theorem fnok:mA prog E 260 f260 aE:=vV rH mixed (lZ _ _ rfl rfl (mG Hl.ok (mG Gx.ok (mG Jc.ok xM))) aD (nR)) func260 rfl rfl rfl rfl rfl
theorem ok:pW prog base.glob 260 aJ:=fnok.yM rfl spec
end Py
namespace Gw
def E:Env:={ ({ base with n0:=1,io:=[0] })with nt:=22,own:=[],keep:=fun k=>(tlook [(2,[0,3])] k).getD [],cut:=tlook [] }
def aE:=bd f261
theorem aX:Nk E aE:=nk
def L2(a:List Int)(b:Nat)(c:Nat) d:=sJ E f261 aE 2 [(A.any,some { e:=(22:Nat),cont:=yF.ints u64 a }),(A.v (V.one (L.view 0 b c)),none),cK d]
theorem start al ao an:aH E f261 aE [D.io gH u64 al ao an]=Gw.L2 al ao an (an:Int):=eJ aX
theorem lN a b c d:L2 a b c d=aB (decide (0<d)) (if 0<=i64.wrap (d-1)/\i64.wrap (d-1)<(c:Int)then aB (a.getD (b+(i64.wrap (d-1)).toNat) 0==(0:Int)) (Gw.L2 a b c (i64.wrap (d-1))) (if(0:Int)<=(0:Int)/\0<=d/\d<=d/\d<=(c:Int)then some [D.back 0 (b+0) (d.toNat-0),D.io 22 u64 a 0 0]else none)else none) (if(0:Int)<=(0:Int)/\0<=d/\d<=d/\d<=(c:Int)then some [D.back 0 (b+0) (d.toNat-0),D.io 22 u64 a 0 0]else none):=lJ aX
def sp(x:List Int×Nat×Nat):Prop×List D:=(M6.cZ x.1/\x.2.1=0/\x.2.2=x.1.length/\x.1.length<=1099511627776,[.back 0 0 (M6.dg (M6.val x.1)).length,.io gH .u64 x.1 0 0])
theorem L{xs:List Int}(hd:M6.cZ xs)(hl:xs.length<=4398046511104):∀n:Nat,n<=xs.length->L2 xs 0 xs.length n=some [.back 0 0 (M6.dg (M6.val (xs.take n))).length,.io gH .u64 xs 0 0]
 |0,h=>by
  rw[lN,aL,aW];simp[M6.val,M6.cF]
 |n+1,h=>by
  rw[lN];have e:i64.wrap (((n+1:Nat):Int)-1)=(n:Int):=by rw[wrap_i64];omega
  rw[e,aQ,aW,bYO,bUT]
  by_cases hz:xs.getD n 0=0
  ·rw[cN hz,L hd hl n (by omega),M6.mK (by omega),hz];simp
  ·rw[bM hz,aW,bYO];have:M6.cR (xs.take (n+1)):=M6.Fo (hd.take _) fun d hg=>by
    rw[M6.getLast_take (by omega)]at hg;cases hg;exact hz
   have hlen:(xs.take (n+1)).length=n+1:=by rw[List.length_take];omega
   rw[<-this,hlen];rfl
theorem spec(x:List Int×Nat×Nat)(h:(sp x).1):aH E f261 aE [(Dl gH .u64).put x]=some (sp x).2/\∃rs mZ,(sp x).2=rs ++ [.io gH .u64 mZ 0 0]/\mZ.length=x.1.length:=by
 obtain⟨xl,xo,xn⟩:=x;obtain⟨hd,ho,hn,hl⟩:=h;simp only at hd ho hn hl;subst ho;subst hn;refine⟨(start xl 0 xl.length).trans ?_,[_],xl,rfl,rfl⟩;rw[L hd (by omega) xl.length (bUR _),cBD];rfl
def aJ:dO:=orc1 (Dl gH .u64) sp
theorem fnok:mA prog E 261 f261 aE:=vV rH mixed (lY _ rfl aD (nR)) func261 rfl rfl rfl rfl rfl
theorem ok:pW prog base.glob 261 aJ:=fnok.pU rfl spec
end Gw
namespace Ml
def E:Env:={ ({ base with C:=qZ [(260,Py.aJ),(261,Gw.aJ)] (callsOf []),ioF:=Ni [(260,Py.aJ),(261,Gw.aJ)] })with nt:=18,own:=[17],keep:=fun k=>(tlook [] k).getD [],cut:=tlook [] }
def aE:=bd f253
theorem aX:Nk E aE:=nk
theorem start a b:aH E f253 aE [D.s (ints u64 a),D.s (ints u64 b)]=letI F:=(a.length:Int);letI G:=F+(b.length:Int);letI C:=i64.wrap G;letI A:=bWU C.toNat (0:Int);letI B:=M6.pT A.length (M6.val a*M6.val b);if 0<=i64.wrap G/\i64.wrap G<=i64.wrap G/\i64.wrap G<=8796093022208 then aO (M6.cZ A/\(0:Nat)=(0:Nat)/\C.toNat=A.length/\M6.cR a/\M6.cR b/\A.length=a.length+b.length/\A.length<=274877906944/\M6.val A=0/\nD.less (a.length+b.length)) (aO (M6.cZ B/\(0:Nat)=(0:Nat)/\C.toNat=B.length/\B.length<=1099511627776) (some [D.own 22 u64 (cDW (M6.dg (M6.val B)).length B)]))else none:=eJ aX
theorem eval{a b:List Int}(ha:M6.cR a)(hb:M6.cR b)(hN:a.length+b.length<=274877906944)(hc:nD.less (a.length+b.length)):aH E f253 aE [(pI .u64).put a,(pI .u64).put b]=some [.own gH .u64 (M6.dg (M6.val a*M6.val b))]:=by
 refine(start a b).trans ?_;have w:i64.wrap ((a.length:Int)+(b.length:Int))=((a.length+b.length:Nat):Int):=by rw[wrap_i64];omega
 have bCL:M6.val a*M6.val b<18446744073709551616^(a.length+b.length):=by rw[bZS];exact cCV (M6.dS ha.kU) (M6.dS hb.kU)
 rw[w,aW];simp only[bYO,cHY];rw[gP ⟨M6.kY _,by trivial,by trivial,ha,hb,by trivial,hN,M6.jU _,hc⟩,gP ⟨M6.lW,by trivial,(M6.iG bCL).symm,by rw[M6.iG bCL];omega⟩,M6.lV,M6.aKY]
theorem fnok:sZ prog E 253 f253 aE:=aFA rH mixed (lZ _ _ rfl rfl (mG Py.ok (mG Gw.ok xM)) aD (nR)) func253 rfl rfl rfl
theorem all(n:Nat)(hn:n<=274877906944):nD.less (n+1):=by
 induction n with
 |zero =>
  intro a b ha hb hl;refine fn_contract fnok.ty fnok.calls fnok.mix fnok.fnc fnok.body fnok.nt fnok.io (by exact bWP rfl) (eval ha hb (by omega) fun c d _ _ h=>by omega)
 |succ n ih =>
  intro a b ha hb hl;have ih:=ih (by omega);refine fn_contract fnok.ty fnok.calls fnok.mix fnok.fnc fnok.body fnok.nt fnok.io (by exact bWP rfl) (eval ha hb (by omega) fun c d hc hd h=>ih c d hc hd (by omega))
def sp(a b:List Int):Prop×List D:=(M6.cR a/\M6.cR b/\a.length+b.length<=274877906944,[.own gH .u64 (M6.dg (M6.val a*M6.val b))])
theorem spec:gU E f253 aE (pI .u64) (pI .u64) sp:=by
 rintro a b ⟨ha,hb,hN⟩;exact eval ha hb hN fun c d hc hd h=>all (a.length+b.length) hN c d hc hd (by omega)
def aJ:dO:=orc2 (pI .u64) (pI .u64) sp
theorem ok:lA prog base.glob 253 aJ:=fnok.mV rfl spec
end Ml
namespace aMT
def E:=mE [(144,gM.aJ),(253,Ml.aJ),(252,nD.aJ)] 20 [17] [] []
def aE:=bd f233
theorem aX:Nk E aE:=nk
theorem start a b:aH E f233 aE [D.s (ints u64 a),D.s (ints u64 b)]=letI A:=some [D.s (sc (slice none 0 0)),D.s (sc (int i64 2))];aO (a.length<=1099511627776) (aB (!gM.oN a) A (aO (b.length<=1099511627776) (aB (!gM.oN b) A (aO (M6.cR a/\M6.cR b/\a.length+b.length<=274877906944) (aC (M6.dg (M6.val a*M6.val b)) fun c=>aO True (aC (bif nD.Jk c then c else []) fun d=>aC (bif nD.Jk c then(0:Int)else(5:Int)) fun e=>some [D.s (ints u64 d),D.s (sc (int i64 e))])))))):=eJ aX
def sp(a b:List Int):Prop×List D:=(M6.cR a/\M6.cR b/\a.length<=8192/\b.length<=8192,[.s (.ints .u64 (bif cP.mL (M6.val a*M6.val b)then M6.dg (M6.val a*M6.val b)else [])),.s (.sc (.int .i64 (bif cP.mL (M6.val a*M6.val b)then 0 else 5)))])
theorem spec:gU E f233 aE (pI .u64) (pI .u64) sp:=by
 rintro a b ⟨ha,hb,h1,h2⟩;refine(start a b).trans ?_;simp only[aG];rw[gP,gP,gM.nL ha h1,gM.nL hb h2,bWR,bF,bF,gP ⟨ha,hb,by omega⟩,gP trivial];rfl
def aJ:dO:=orc2 (pI .u64) (pI .u64) sp
theorem ok:OK 233 aJ:=(fA E aE (aA gM.ok (aA Ml.ok (aA nD.ok aD))) func233).mV rfl spec
end aMT
namespace aFY
def E:=mE [(96,fI.aJ),(233,aMT.aJ),(99,Ak.aJ)] 35 [32] [(3,[2,3,4])] [3]
def aE:=bd f200
theorem aX:Nk E aE:=nk
def J3 a b c d e:=mT E f200 aE 3 [dK 0 27 [cU a,fU b],dK 1 27 [cU c,fU d],dK 2 27 [cU e,sc (slice none 0 0)]]
theorem start a b c d:aH E f200 aE [D.agg [sc (bool a),ints u64 b],D.agg [sc (bool c),ints u64 d]]=letI A:=some [D.agg [sc (bool false),sc (slice none 0 0)],D.s (sc (int i64 2))];aO (b.length<=1099511627776) (aB (!fI.nP (a,b)) A (aO (d.length<=1099511627776) (aB (!fI.nP (c,d)) A (aFY.J3 a b c d false)))):=eJ aX
theorem iA a b c d e:J3 a b c d e=letI F:=M6.val b*M6.val d;letI B:=bif cP.mL F then(0:Int)else(5:Int);letI A:=bif cP.mL F then M6.dg F else [];letI C:=bif B==0 then zs (a !=c) (M6.val A)else(0:Int);aO (M6.cR b/\M6.cR d/\b.length<=8192/\d.length<=8192) (aO (M6.cR A/\A.length<=1099511627776) (some [D.agg [sc (bool (isNeg C)),ints u64 (M6.dg C.natAbs)],D.s (sc (int i64 B))])):=cJ aX
def sp(x y:Bool×List Int):Prop×List D:=(gI x/\gI y,wE (fit (wv x*wv y).natAbs) (wv x*wv y))
theorem spec:gU E f200 aE oD oD sp:=by
 rintro x y ⟨hx,hy⟩;refine(start x.1 x.2 y.1 y.2).trans ?_;have l1:=hx.len;have l2:=hy.len;have f1:=fI.kS hx;have f2:=fI.kS hy;have hs:wv x*wv y=zs (x.1 !=y.1) (M6.val x.2*M6.val y.2):=by
  unfold wv zs;cases x.1 <;> cases y.1 <;> simp[cEB,Int.mul_neg]
 rw[gP,f1,bWR,bF,gP,f2,bWR,bF,iA,gP ⟨hx.1,hy.1,l1,l2⟩,gP (Iv (fun h=>by rw[show cP.mL _=_ from Ba]at h;exact xN h)),Ia,show cP.mL _=_ from Ba];unfold sp
 try dsimp only
 rw[hs,lP]
def aJ:dO:=orc2 oD oD sp
theorem ok:OK 200 aJ:=(fA E aE (aA fI.ok (aA aMT.ok (aA Ak.ok aD))) func200).mV rfl spec
end aFY
namespace eF
def E:=mE [(45,lO.aJ),(200,aFY.aJ),(50,iX.aJ)] 38 [22,35] [(3,[2,3,4])] [3]
def aE:=bd f155
theorem aX:Nk E aE:=nk
def J3 a b c d e f g h:=mT E f155 aE 3 [dK 0 29 [cU a,fU b,cX c],dK 1 29 [cU d,fU e,cX f],dK 2 29 [cU g,sc (slice none 0 0),cX h]]
theorem start a b c d e f:aH E f155 aE [D.agg [sc (bool a),ints u64 b,sc (int i64 c)],D.agg [sc (bool d),ints u64 e,sc (int i64 f)]]=aO (aP (a,b,c)) (aO (aP (d,e,f)) (eF.J3 a b c d e f false 0)):=eJ aX
theorem iA a b c d e f g h:J3 a b c d e f g h=letI F:=wv (a,b)*wv (d,e);letI C:=i64.wrap (c+f);letI B:=bif fit F.natAbs then wv (a,b)*wv (d,e)else(0:Int);aO (gI (a,b)/\gI (d,e)) (aC (isNeg B) fun i=>aC (M6.dg B.natAbs) fun j=>letI A:=bif gT (wv (i,j)) C then aN (wv (i,j)) C else((0:Int),(0:Int));aC (bif fit F.natAbs then(0:Int)else(5:Int)) fun k=>aB (k !=0) (some [D.agg [sc (bool false),sc (slice none 0 0),sc (int i64 0)],D.s (sc (int i64 k))]) (aO (gI (i,j)/\(-9223372036854775808:Int)<=i64.wrap (c+f)/\i64.wrap (c+f)<9223372036854775808) (aC (isNeg A.fst) fun l=>aC (M6.dg A.fst.natAbs) fun m=>aC A.snd fun n=>aC (bif gT (wv (i,j)) C then(0:Int)else(5:Int)) fun o=>some [D.agg [sc (bool l),ints u64 m,sc (int i64 n)],D.s (sc (int i64 o))]))):=cJ aX
def lM(p q:Int×Int):Bool:=fit (p.1*q.1).natAbs&&gT (p.1*q.1) (p.2+q.2)
def gF(p q:Int×Int):Int×Int:=aN (p.1*q.1) (p.2+q.2)
def sp(x y:gB):Prop×List D:=(aP x/\aP y,dE (lM (dv x) (dv y)) (gF (dv x) (dv y)))
theorem spec:Oe E f155 aE iW iW sp:=by
 rintro x y ⟨hx,hy⟩;have ex:=hx.2.1;have ey:=hy.2.1;have s:=start x.1 x.2.1 x.2.2 y.1 y.2.1 y.2.2;have w:i64.wrap (x.2.2+y.2.2)=x.2.2+y.2.2:=wrap_i64;rw[gP hx,gP hy,iA]at s;simp only[aG]at s;have hz:wv (x.1,x.2.1)*wv (y.1,y.2.1)=(dv x).1*(dv y).1:=rfl;rw[gP ⟨hx.Db,hy.Db⟩,hz]at s;have h2:x.2.2+y.2.2=(dv x).2+(dv y).2:=rfl;unfold sp lM gF
 try dsimp only
 cases hf:fit ((dv x).1*(dv y).1).natAbs with
 |false =>
  rw[hf]at s;rw[Bool.false_and];refine⟨_,s,iX.sH _⟩
 |true =>
  rw[hf,cond_true,cond_true,gE rfl,w,gP ⟨fT (xN hf),by omega,by omega⟩,nA,h2]at s;rw[bXT];exact⟨_,s,iE.refl _⟩
def aJ:dO:=orc2 iW iW sp
theorem ok:OK 155 aJ:=(fA E aE (aA lO.ok (aA aFY.ok (aA iX.ok aD))) func155).aNH rfl spec
end eF
namespace Ap
def E:=mE [] 9 [] [] []
def aE:=bd f239
theorem aX:Nk E aE:=nk
theorem start a:aH E f239 aE [D.s (sc (int i64 a))]=aB (decide (1<=a)) (some [D.s (sc (bool (decide (a<=70000))))]) (some [D.s (sc (bool false))]):=eJ aX
def sp(p:Int):Prop×List D:=(True,[.s (.sc (.bool (decide (1<=p)&&decide (p<=70000))))])
theorem spec:jD E f239 aE (pN .i64) sp:=by
 intro p h;refine(start p).trans ?_;unfold sp aB;cases (decide ((1:Int)<=p)) <;> cases (decide (p<=(70000:Int))) <;> rfl
def aJ:dO:=orc1 (pN .i64) sp
theorem ok:OK 239 aJ:=(fA E aE aD func239).pU rfl spec
end Ap
namespace cB
def E:=mE [(239,Ap.aJ),(45,lO.aJ),(46,mB.aJ),(106,rU.aJ),(98,kJ.aJ),(151,Af.aJ),(95,oA.aJ),(100,uE.aJ),(240,cD.aJ)] 122 [119] [(9,[2,3,4,5,8]),(15,[2,3,4,5,8,10,13]),(16,[2,3,4,5,8,10,16])] [9,15,16]
def aE:=bd f210
theorem aX:Nk E aE:=nk
def J9 a b c d e f g h i j:=mT E f210 aE 9 [cK a,Nd b,dK 2 29 [cU c,fU d,cX e],dK 3 29 [cU f,fU g,cX h],dK 4 29 [cU i,sc (slice none 0 0),cX j]]
def aGX a b c d e f g h i j k l:=mT E f210 aE 15 [cK a,Nd b,dK 2 29 [cU c,fU d,cX e],dK 3 29 [cU f,fU g,cX h],dK 4 29 [cU i,sc (slice none 0 0),cX j],cK k,iK l]
def aRI a b c d e f g h i j k l m:=mT E f210 aE 16 [cK a,Nd b,dK 2 29 [cU c,fU d,cX e],dK 3 29 [cU f,fU g,cX h],dK 4 29 [cU i,sc (slice none 0 0),cX j],cK k,dK 6 27 [cU l,fU m]]
theorem start a b e f g h c d:aH E f210 aE [D.agg [sc (bool a),ints u64 b,sc (int i64 e)],D.agg [sc (bool f),ints u64 g,sc (int i64 h)],D.s (sc (int i64 c)),D.s (sc (bool d))]=letI F:=int i64 0;letI C:=bool false;letI B:=slice none 0 0;letI A:=some [D.agg [sc C,sc B,sc F],D.s (sc (int i64 5))];aO True (aC (decide (1<=c)&&decide (c<=70000)) fun i=>aB (!i) (some [D.agg [sc C,sc B,sc F],D.s (sc (int i64 1))]) (aO (aP (a,b,e)) (aO (aP (f,g,h)) (aO True (aC ((g.length:Int)==(0:Int)) fun j=>aB j (some [D.agg [sc C,sc B,sc F],D.s (sc (int i64 4))]) (aB (decide (4096<(b.length:Int))) A (aB (decide (4096<(g.length:Int))) A (cB.J9 c d a b e f g h false 0)))))))):=eJ aX
theorem Wx a b c d e f g h i j:J9 a b c d e f g h i j=letI A:=i64.wrap (i64.wrap (a+2)+(↑(bl (M6.val g)):Int))-(↑(bl (M6.val d)):Int);aO (M6.cZ g/\g.length<=1099511627776) (aO (M6.cZ d/\d.length<=1099511627776) (aO (M6.cR d/\d.length<=8192/\(0<=if i64.wrap A>(0:Int)then i64.wrap A else(0:Int))/\(if i64.wrap A>(0:Int)then i64.wrap A else(0:Int))<4611686018427387904) (aC (bif kJ.jK (M6.val d) (if i64.wrap A>(0:Int)then i64.wrap A else(0:Int)).toNat then M6.dg (M6.val d*(2:Nat)^(if i64.wrap A>(0:Int)then i64.wrap A else(0:Int)).toNat)else []) fun k=>aO (M6.cR k/\k.length<=8192/\M6.cR g/\1<=g.length/\g.length<=8192) (aC (M6.dg (M6.val k/M6.val g)) fun l=>aC (M6.dg (M6.val k%M6.val g)) fun m=>aO (M6.cR l/\l.length<=8192/\(0:Int)<=(1:Int)/\(1:Int)<(4611686018427387904:Int)) (aC (bif kJ.jK (M6.val l) 1 then M6.dg (M6.val l*2)else []) fun n=>letI B:=M6.val n+M6.val (M6.dg 1);aB (decide (0<(m.length:Int))) (aO ((0:Int)<=(1:Int)/\(1:Int)<(18446744073709551616:Int)) (aO (M6.cR n/\M6.cR (M6.dg 1)/\n.length<=8192/\(M6.dg 1).length<=8192) (aC (bif cP.mL B then M6.dg B else []) fun o=>cB.aGX a b c d e f g h i j (if i64.wrap A>(0:Int)then i64.wrap A else(0:Int)) o))) (cB.aGX a b c d e f g h i j (if i64.wrap A>(0:Int)then i64.wrap A else(0:Int)) n)))))):=cJ aX
theorem Ms a b c d e f g h i j k l:aGX a b c d e f g h i j k l=aB (c !=f) (cB.aRI a b c d e f g h i j k (decide (0<(l.length:Int))) l) (cB.aRI a b c d e f g h i j k false l):=cJ aX
theorem aAF a b c d e f g h i j k l m:aRI a b c d e f g h i j k l m=letI C:=i64.wrap (i64.wrap (e-h)-k)-1;letI A:=cD.nO b (wv (l,m)) (i64.wrap C) a;letI B:=bif gT A.fst A.snd then aN A.fst A.snd else((0:Int),(0:Int));aO (gI (l,m)/\((-4611686018427387904:Int)<=i64.wrap C/\i64.wrap C<4611686018427387904)/\1<=a/\a<=70000) (aC (isNeg B.fst) fun n=>aC (M6.dg B.fst.natAbs) fun o=>aC B.snd fun p=>aC (bif gT A.fst A.snd then(0:Int)else(5:Int)) fun q=>some [D.agg [sc (bool n),ints u64 o,sc (int i64 p)],D.s (sc (int i64 q))]):=cJ aX
def Br(p:Int)(a b:Nat):Nat:=(p+2+(bl b:Nat)-(bl a:Nat)).toNat
def Uf(a b s:Nat):Nat:=a*2^s/b*2+if a*2^s%b=0 then 0 else 1
def aZH(p:Int)(x y:Int×Int):Int×Int:=(zs (isNeg x.1 !=isNeg y.1) (Uf x.1.natAbs y.1.natAbs (Br p x.1.natAbs y.1.natAbs)),x.2-y.2-(Br p x.1.natAbs y.1.natAbs:Nat)-1)
def uJ(up:Bool)(p:Int)(x y:Int×Int):Int×Int:=cD.nO up (aZH p x y).1 (aZH p x y).2 p
def sp(x y:gB)(p:Int)(up:Bool):Prop×List D:=(aP x/\aP y/\(dv y).1≠0/\x.2.1.length<=4096/\y.2.1.length<=4096/\1<=p/\p<=70000,dE (gT (uJ up p (dv x) (dv y)).1 (uJ up p (dv x) (dv y)).2) (aN (uJ up p (dv x) (dv y)).1 (uJ up p (dv x) (dv y)).2))
theorem aNU(n:Bool)(q:Nat):wv (n&&decide (0<((M6.dg q).length:Int)),M6.dg q)=zs n q/\(bl q<=524288->gI (n&&decide (0<((M6.dg q).length:Int)),M6.dg q)):=by
 have hz:=M6.iO (n:=q)
 by_cases h:q=0
 ·rw[decide_eq_false (by have:=hz.2 h;omega),Bool.and_false,h];refine⟨?_,fun _=>⟨M6.aY _,fun hf=>absurd hf (by simp),by rw[M6.cF];simp⟩⟩;unfold wv zs;rw[M6.bN];cases n <;> rfl
 ·rw[decide_eq_true (by have:=fun hl=>h (hz.1 hl);omega),Bool.and_true];refine⟨?_,fun hb=>⟨M6.aY _,fun _=>by rw[M6.bN];exact h,fM (k:=8192) (by omega)⟩⟩;unfold wv;rw[M6.bN]
theorem uR{a s n:Nat}(h:a≠0->bl a+s<=n):bl (a*2^s)<=n:=by
 by_cases h0:a=0
 ·subst h0;rw[Nat.zero_mul];exact bVN (by decide) (cAS n)
 ·rw[bZP,xT h0];have:=h h0;omega
theorem spec:Of E f210 aE iW iW (pN .i64) pB sp:=by
 rintro x y p up ⟨hx,hy,h0,bQX,bHQ,zO,vQ⟩;have ex:=hx.2.1;have ey:=hy.2.1;refine(start x.1 x.2.1 x.2.2 y.1 y.2.1 y.2.2 p up).trans ?_;have hv0:M6.val y.2.1≠0:=fun h=>h0 (Qc.2 h)
 have aYC:y.2.1.length≠0:=fun h=>hv0 ((M6.dY hy.Hp).1 h)
 have bx:=xU hx.Hp.kU bQX;have bUH:=xU hy.Hp.kU bHQ
 have ax:(dv x).1.natAbs=M6.val x.2.1:=iF (x.1,x.2.1);have ay:(dv y).1.natAbs=M6.val y.2.1:=iF (y.1,y.2.1);have sx:isNeg (dv x).1=x.1:=hx.Db.cells.1;have sy:isNeg (dv y).1=y.1:=hy.Db.cells.1;have w1:i64.wrap (i64.wrap (i64.wrap (p+2)+(bl (M6.val y.2.1):Int))-(bl (M6.val x.2.1):Int))=p+2+(bl (M6.val y.2.1):Int)-(bl (M6.val x.2.1):Int):=by
  rw[wrap_i64 (n:=p+2),wrap_i64 (n:=p+2+(bl (M6.val y.2.1):Int)) (by omega) (by omega),wrap_i64]
 simp only[aG];rw[gP trivial,decide_eq_true zO,decide_eq_true vQ,bXT,bWR,bF,gP hx,gP hy,gP trivial,bM,aL,aL,Wx,w1];unfold sp uJ aZH
 try dsimp only
 rw[ax,ay,sx,sy];have hs:(if p+2+(bl (M6.val y.2.1):Int)-(bl (M6.val x.2.1):Int)>0 then p+2+(bl (M6.val y.2.1):Int)-(bl (M6.val x.2.1):Int)else 0)=((Br p (M6.val x.2.1) (M6.val y.2.1):Nat):Int):=by
  unfold Br;split <;> omega
 rw[hs];have bQE:M6.val x.2.1≠0->bl (M6.val x.2.1)+Br p (M6.val x.2.1) (M6.val y.2.1)<=332200:=fun _=>by unfold Br;omega
 have bGX:Br p (M6.val x.2.1) (M6.val y.2.1)<=332200:=by unfold Br;omega
 generalize Br p (M6.val x.2.1) (M6.val y.2.1)=s at *;have vU:=uR bQE;have hX:kJ.jK (M6.val x.2.1) s=true:=by rw[Al.Ie];exact decide_eq_true (by omega)
 have lX:=fM (n:=M6.val x.2.1*2^s) (k:=8192) (by omega);have Mz:bl (M6.val x.2.1*2^s/M6.val y.2.1)<=332200:=bVN (fX (cFB _ _)) vU;have lQ:=fM (n:=M6.val x.2.1*2^s/M6.val y.2.1) (k:=8192) (by omega);have hQ:∀q,bl q<=332200->kJ.jK q 1=true:=fun q hq=>by rw[Al.Ie];exact decide_eq_true (by have:=uR (a:=q) (s:=1) (n:=332201) (fun _=>by omega);omega)
 rw[gP ⟨hy.Hp.kU,by omega⟩,gP ⟨hx.Hp.kU,by omega⟩,gP ⟨hx.Hp,hx.len,by omega,by omega⟩,bYO];simp only[aG];rw[hX,cond_true,gP ⟨M6.aY _,lX,hy.Hp,by omega,hy.len⟩,M6.bN,gP ⟨M6.aY _,lQ,by omega,by omega⟩,M6.bN];have bQF:decide (0<(((M6.dg (M6.val x.2.1*2^s%M6.val y.2.1)).length:Nat):Int))=decide (M6.val x.2.1*2^s%M6.val y.2.1≠0):=by
  have:=M6.iO (n:=M6.val x.2.1*2^s%M6.val y.2.1)
  by_cases h:M6.val x.2.1*2^s%M6.val y.2.1=0
  ·rw[decide_eq_false (by have:=this.2 h;omega),decide_eq_false (by omega)]
  ·rw[decide_eq_true (by have:=fun hl=>h (this.1 hl);omega),decide_eq_true h]
 rw[bQF];have j16:∀(bFA:Bool) (q:Nat),bl q<=332202->wv (bFA,M6.dg q)=zs (x.1 !=y.1) q->gI (bFA,M6.dg q)->aRI p up x.1 x.2.1 x.2.2 y.1 y.2.1 y.2.2 false 0 s bFA (M6.dg q)=some (dE (gT (cD.nO up (zs (x.1 !=y.1) q) (x.2.2-y.2.2-(s:Int)-1) p).1 (cD.nO up (zs (x.1 !=y.1) q) (x.2.2-y.2.2-(s:Int)-1) p).2) (aN (cD.nO up (zs (x.1 !=y.1) q) (x.2.2-y.2.2-(s:Int)-1) p).1 (cD.nO up (zs (x.1 !=y.1) q) (x.2.2-y.2.2-(s:Int)-1) p).2)):=by
  intro bFA q hq hw Na;have w2:i64.wrap (i64.wrap (i64.wrap (x.2.2-y.2.2)-(s:Int))-1)=x.2.2-y.2.2-(s:Int)-1:=by
   rw[wrap_i64 (n:=x.2.2-y.2.2),wrap_i64 (n:=x.2.2-y.2.2-(s:Int)),wrap_i64]
  rw[aAF,w2,gP ⟨Na,⟨by omega,by omega⟩,zO,vQ⟩,hw];simp only[aG];rfl
 have j15:∀q,bl q<=332202->aGX p up x.1 x.2.1 x.2.2 y.1 y.2.1 y.2.2 false 0 s (M6.dg q)=some (dE (gT (cD.nO up (zs (x.1 !=y.1) q) (x.2.2-y.2.2-(s:Int)-1) p).1 (cD.nO up (zs (x.1 !=y.1) q) (x.2.2-y.2.2-(s:Int)-1) p).2) (aN (cD.nO up (zs (x.1 !=y.1) q) (x.2.2-y.2.2-(s:Int)-1) p).1 (cD.nO up (zs (x.1 !=y.1) q) (x.2.2-y.2.2-(s:Int)-1) p).2)):=by
  intro q hq;obtain⟨v1,v2⟩:=aNU (x.1 !=y.1) q;have v2:=v2 (by omega);rw[Ms];cases hn:x.1 !=y.1 with
  |true =>
   rw[hn]at v1 v2;rw[bT];have:=j16 _ q hq (by rw[hn];exact v1) v2;rw[hn]at this;exact this
  |false =>
   rw[hn]at v1 v2;rw[bF];have:=j16 _ q hq (by rw[hn];exact v1) v2;rw[hn]at this;exact this
 unfold Uf;generalize M6.val x.2.1*2^s/M6.val y.2.1=Q at *;have bSZ:bl (Q*2)<=332201:=uR (s:=1) (fun _=>by omega);have bPD:=fM (n:=Q*2) (k:=8192) (by omega);have bSY:bl (Q*2+1)<=332202:=by
  rw[dA]at bSZ ⊢;rw[bZQ];have:=bXR (n:=332201) (show 0<2 by omega);omega
 have one:=fM (n:=1) (k:=1) (dA.2 (by omega))
 by_cases hr:M6.val x.2.1*2^s%M6.val y.2.1=0
 ·rw[aL,if_pos hr,hQ _ Mz,cond_true,j15 _ (by omega)];rfl
 ·have bOU:cP.mL (Q*2+1)=true:=by rw[show cP.mL _=_ from Ba];exact decide_eq_true (by omega)
  rw[aQ,if_neg hr,hQ _ Mz,cond_true,gP ⟨by omega,by omega⟩,gP ⟨M6.aY _,M6.aY _,bPD,by omega⟩,M6.bN,M6.bN,bOU,cond_true,j15 _ bSY];rfl
def aJ:dO:=orc4 iW iW (pN .i64) pB sp
theorem ok:OK 210 aJ:=(fA E aE (aA Ap.ok (aA lO.ok (aA mB.ok (aA rU.ok (aA kJ.ok (aA Af.ok (aA oA.ok (aA uE.ok (aA cD.ok aD))))))))) func210).aNM rfl spec
end cB
end W
namespace M
open Go AI W
def shD(up:Bool)(p:Int×Int)(n:Int):Int×Int:=aN (cD.nO up p.1 p.2 n).1 (cD.nO up p.1 p.2 n).2
def wZ(up:Bool)(p:Int×Int)(n:Int):Bool:=gT (cD.nO up p.1 p.2 n).1 (cD.nO up p.1 p.2 n).2
theorem Lv{z:Int}{k:Nat}:((z/((2^k:Nat):Int):Int):Rat)*((2^k:Nat):Rat)<=(z:Rat)/\(z:Rat)<(((z/((2^k:Nat):Int):Int):Rat)+1)*((2^k:Nat):Rat):=by
 have hp:(0:Int)<((2^k:Nat):Int):=by have:=bXR (n:=k) (show 0<2 by omega);omega
 have h1:=Int.ediv_mul_le z (show((2^k:Nat):Int)≠0 by omega);have h2:=Int.lt_ediv_add_one_mul_self z hp;constructor
 ·have:(((z/((2^k:Nat):Int))*((2^k:Nat):Int):Int):Rat)<=(z:Rat):=Rat.intCast_le_intCast.2 h1;rwa [cFW,cFX]at this
 ·have:(z:Rat)<(((z/((2^k:Nat):Int)+1)*((2^k:Nat):Int):Int):Rat):=Rat.intCast_lt_intCast.2 h2;rwa [cFW,cFX,cHP]at this
theorem aCZ(up:Bool)(z:Int)(k:Nat):(up=false->(kD.oZ up z k:Rat)*((2^k:Nat):Rat)<=(z:Rat)/\(z:Rat)<(kD.oZ up z k:Rat)*((2^k:Nat):Rat)+((2^k:Nat):Rat))/\(up=true->(z:Rat)<=(kD.oZ up z k:Rat)*((2^k:Nat):Rat)/\(kD.oZ up z k:Rat)*((2^k:Nat):Rat)<(z:Rat)+((2^k:Nat):Rat)):=by
 constructor
 ·rintro rfl;obtain⟨h1,h2⟩:=Lv (z:=z) (k:=k);unfold kD.oZ;rw[cond_false];generalize ((z/((2^k:Nat):Int):Int):Rat)=q at *;constructor <;> grind
 ·rintro rfl;obtain⟨h1,h2⟩:=Lv (z:=-z) (k:=k);unfold kD.oZ;rw[cond_true,cHO];rw[cHO]at h1 h2;generalize ((-z/((2^k:Nat):Int):Int):Rat)=q at *;constructor <;> grind
theorem oG{p:Int×Int}(h:p.1≠0):R.pz (bA p)<=R.ab (R.qz p)/\R.ab (R.qz p)<R.pz (bA p+1):=by
 have hb:=pA (n:=p.1.natAbs) (by omega);have h1:2^(bl p.1.natAbs-1)<=p.1.natAbs:=qG.1 (by omega);have h2:=vD p.1.natAbs;have e:R.ab (R.qz p)=(p.1.natAbs:Rat)*R.pz p.2:=by
  unfold R.qz;rw[R.fJ,R.bG (bZY (R.dC p.2))];congr 1;unfold R.ab
  by_cases hz:0<=p.1
  ·rw[if_pos (by exact_mod_cast hz),<-cFX];congr 1;omega
  ·rw[if_neg (by intro hc;exact hz (by exact_mod_cast hc)),<-cFX,<-cHO];congr 1;omega
 have hp:=R.dC p.2;rw[e];unfold bA;constructor
 ·rw[show p.2+(bl p.1.natAbs:Int)-1=p.2+((bl p.1.natAbs-1:Nat):Int) by omega,R.dX];have Xj:((2^(bl p.1.natAbs-1):Nat):Rat)<=(p.1.natAbs:Rat):=by exact_mod_cast h1
  have:=R.aF (bZY hp) (show 0<=(p.1.natAbs:Rat)-((2^(bl p.1.natAbs-1):Nat):Rat) by grind);grind
 ·rw[show p.2+(bl p.1.natAbs:Int)-1+1=p.2+(bl p.1.natAbs:Int) by omega,R.dX];have aQC:(p.1.natAbs:Rat)<((2^bl p.1.natAbs:Nat):Rat):=by exact_mod_cast h2
  have:=cAI hp (show 0<((2^bl p.1.natAbs:Nat):Rat)-(p.1.natAbs:Rat) by grind);grind
theorem Fc(up:Bool)(p:Int×Int){n:Int}(Yt:1<=n):(up=false->R.qz (shD up p n)<=R.qz p/\R.qz p<=R.qz (shD up p n)+R.pz (1-n)*R.ab (R.qz p))/\(up=true->R.qz p<=R.qz (shD up p n)/\R.qz (shD up p n)<=R.qz p+R.pz (1-n)*R.ab (R.qz p)):=by
 have h0:0<=R.pz (1-n)*R.ab (R.qz p):=R.aF (bZY (R.dC _)) (R.aM _);unfold shD cD.nO;split
 ·have e:R.qz (aN p.1 p.2)=R.qz p:=oH p.1 p.2;dsimp only;rw[e];constructor <;> (intro _;constructor <;> grind)
 ·rename_i hn;obtain⟨k,hk⟩:=bZV (show 0<=(bl p.1.natAbs:Int)-n by omega);have aJY:p.1≠0:=by
   intro hz;rw[hz]at hn;have hb:bl (0:Int).natAbs=0:=rfl;rw[hb]at hn;omega
  obtain⟨c1,c2⟩:=aCZ up p.1 k;dsimp only;rw[hk,bYO,oH,R.dX];have qI:=R.dC p.2;have ht:=(oG aJY).1;have e2:R.pz p.2*((2^k:Nat):Rat)<=R.pz (1-n)*R.ab (R.qz p):=by
   have e3:R.pz p.2*((2^k:Nat):Rat)=R.pz (1-n)*R.pz (bA p):=by
    rw[<-R.dX,<-R.jI];congr 1;unfold bA;omega
   rw[e3];have:=R.aF (bZY (R.dC (1-n))) (show 0<=R.ab (R.qz p)-R.pz (bA p) by grind);grind
  have eq:R.qz p=(p.1:Rat)*R.pz p.2:=rfl;generalize R.pz (1-n)*R.ab (R.qz p)=X at *;rw[eq];generalize (kD.oZ up p.1 k:Rat)=c at *;generalize ((2^k:Nat):Rat)=K at *;constructor
  ·intro hu;obtain⟨d1,d2⟩:=c1 hu;have m1:=R.aF (bZY qI) (show 0<=(p.1:Rat)-c*K by grind);have m2:=R.aF (bZY qI) (show 0<=c*K+K-(p.1:Rat) by grind);constructor <;> grind
  ·intro hu;obtain⟨d1,d2⟩:=c2 hu;have m1:=R.aF (bZY qI) (show 0<=c*K-(p.1:Rat) by grind);have m2:=R.aF (bZY qI) (show 0<=(p.1:Rat)+K-c*K by grind);constructor <;> grind
theorem aMI(n:Nat):bl (2^n)=n+1:=by
 have h1:=dA (n:=2^n) (k:=n+1);have h2:=qG (n:=2^n) (k:=n);have:2^n<2^(n+1):=cCA (by omega) (by omega);have:=h1.2 this;have:=h2.2 (bUR _);omega
theorem vB(z e:Int):bl (aN z e).1.natAbs<=bl z.natAbs:=fX (Kj z e)
theorem Zk(up:Bool)(z:Int)(k n:Nat)(h:bl z.natAbs<=n+k):bl (kD.oZ up z k).natAbs<=n+1:=by
 have hz:=dA.1 h;rw[bZS]at hz;have hp:=bXR (n:=k) (show 0<2 by omega);have hn:=bXR (n:=n) (show 0<2 by omega);refine dA.2 ?_;rw[bZQ];have fl:∀w:Int,w.natAbs<2^n*2^k->(w/((2^k:Nat):Int)).natAbs<=2^n:=by
  intro w hw;have h1:=cDM w ((2^k:Nat):Int);have h2:=cDN w (show((2^k:Nat):Int)≠0 by omega);have h3:=cDO w (show(0:Int)<((2^k:Nat):Int) by omega);have aXW:(w.natAbs:Int)<((2^n:Nat):Int)*((2^k:Nat):Int):=by exact_mod_cast hw
  generalize w/((2^k:Nat):Int)=q at *;generalize ((2^k:Nat):Int)=K at *;generalize hN:2^n=N at *
  by_cases hq:0<=q
  ·have:q<(N:Int):=by
    refine Int.not_le.1 fun hc=>?_
    have:=cIY hc (show 0<=K by omega);rw[cCJ K (N:Int)]at this;omega
   omega
  ·have:-(N:Int)<=q:=by
    refine Int.not_lt.1 fun hc=>?_
    have:=cIY (show q<=-(N:Int)-1 by omega) (show 0<=K by omega);rw[Int.mul_sub,Int.mul_neg,Int.mul_one,cCJ K (N:Int)]at this;omega
   omega
 unfold kD.oZ;cases up with
 |false =>
  rw[cond_false];have:=fl z hz;omega
 |true =>
  rw[cond_true,cBC];have:=fl (-z) (by rw[cBC];exact hz);omega
def bFC(p:Int×Int):Prop:=jJ p/\p.2+(bl p.1.natAbs:Nat)<=1048000
theorem Oo{up:Bool}{p:Int×Int}{n:Int}(hp:bFC p)(hn:1<=n):wZ up p n=true/\jJ (shD up p n):=by
 obtain⟨⟨h1,h2,h3,h4⟩,h5⟩:=hp;unfold wZ shD cD.nO;split
 ·dsimp only;have hi:gT p.1 p.2=true:=by
   unfold gT
   by_cases hz:p.1=0
   ·rw[decide_eq_true hz,cAB]
   ·have ht:=yR (n:=p.1.natAbs) (by have:=h4 hz;omega);rw[ht,decide_eq_false hz,bWS,decide_eq_true (show -1048576<=p.2+((0:Nat):Int) by omega),decide_eq_true (show p.2+((0:Nat):Int)<=1048576 by omega)];rfl
  exact⟨hi,gJ hi h1⟩
 ·rename_i hk;dsimp only;have hc:=kD.aDA up p.1 ((bl p.1.natAbs:Int)-n).toNat;have bMM:=Zk up p.1 ((bl p.1.natAbs:Int)-n).toNat n.toNat (by omega);generalize kD.oZ up p.1 ((bl p.1.natAbs:Int)-n).toNat=c at *;have bSG:bl c.natAbs<=bl p.1.natAbs:=fX hc;have bIM:c≠0->tz c.natAbs<bl c.natAbs:=fun h=>Dd (by omega)
  have hi:gT c (p.2+((bl p.1.natAbs:Int)-n))=true:=by
   unfold gT
   by_cases hz:c=0
   ·rw[decide_eq_true hz,cAB]
   ·have:=bIM hz;rw[decide_eq_false hz,bWS,decide_eq_true (show -1048576<=p.2+((bl p.1.natAbs:Int)-n)+(tz c.natAbs:Int) by omega),decide_eq_true (show p.2+((bl p.1.natAbs:Int)-n)+(tz c.natAbs:Int)<=1048576 by omega)];rfl
  exact⟨hi,gJ hi (bVN bSG h1)⟩
end M
namespace M
open Go AI W
theorem Qw{p q:Int×Int}(hp:jJ p)(hq:jJ q)(h:bI.jW p q=true):jJ (bI.nC p q):=by
 unfold bI.nC;split
 ·exact hq
 ·split
  ·exact hp
  ·rename_i h1 h2;unfold bI.jW at h;rw[decide_eq_false h1,decide_eq_false h2,bWS,bWS,bUX,bUX,bUX]at h;exact gJ h.2.2.2 (of_decide_eq_true h.2.2.1)
theorem jJ.top{p:Int×Int}(h:jJ p):-1048577<=bA p/\bA p<=1572864:=by
 obtain⟨h1,h2,_⟩:=h;unfold bA;omega
def aGE(p:Int×Int):Int×Int:=((p.1.natAbs:Nat),1-(bl p.1.natAbs:Nat))
theorem aIP{p:Int×Int}(h:jJ p)(h0:p.1≠0):jJ (aGE p):=by
 obtain⟨h1,h2,h3,h4⟩:=h;have:=h4 h0;unfold aGE;refine⟨by dsimp only;rw[cAH];exact h1,by dsimp only;omega,fun h=>by dsimp only at h;omega,fun _=>by dsimp only;omega⟩
theorem Ea{p q:Int×Int}:eB p q=0↔R.qz p=R.qz q:=by
 obtain⟨h1,h2⟩:=Jb p q;have a:=R.Ue (p:=p) (q:=q) h1 h2;have b:=R.Ue (p:=q) (q:=p) h2 h1;unfold eB;rw[aQY];constructor
 ·intro h;exact cIV (a.2 (Int.le_of_eq h)) (b.2 (Int.le_of_eq h.symm))
 ·intro h;exact Int.le_antisymm (a.1 (by rw[h];exact cAZ)) (b.1 (by rw[h];exact cAZ))
theorem Bg{p q:Int×Int}:eB p q<0↔R.qz p<R.qz q:=by
 have h1:=kV (p:=p) (q:=q);have h3:=Ea (p:=p) (q:=q);constructor
 ·intro h;have:=h1.1 (by omega);refine Rat.not_le.1 fun hn=>?_
  have:=h3.2 (cIV this hn);omega
 ·intro h;have a:=h1.2 (bZY h);have b:eB p q≠0:=fun hn=>Rat.lt_irrefl ((h3.1 hn)▸h)
  omega
theorem aHZ{p q:Int×Int}(h:eB p q≠0):(bI.nC q (-p.1,p.2)).1≠0:=by
 intro h0;have h1:=Qv q (-p.1,p.2);rw[oU,R.oC h0]at h1;exact h (Ea.2 (by grind))
theorem Ar{p:Int×Int}(h:p.1=0):eB p (0,0)=0:=by
 rw[Ea,R.oC h,R.oC rfl]
theorem jJ.Fq{p:Int×Int}(h:jJ p):jJ (-p.1,p.2):=by
 obtain⟨x1,x2,x3,x4⟩:=h;exact⟨by dsimp only;rw[cBC];exact x1,x2,fun h=>x3 (by dsimp only at h;omega),fun h=>by dsimp only at h ⊢;have:=x4 (by omega);omega⟩
theorem aP.Fw{x:gB}(h:aP x)(hb:bl (dv x).1.natAbs<=262144):x.2.1.length<=4096:=by
 have e:M6.dg (dv x).1.natAbs=x.2.1:=h.Db.cells.2;rw[<-e];exact fM (k:=4096) (by omega)
def Km(p q:Int×Int):Int×Int:=bif decide (eB q p<0)then q else p
def Li(p q:Int×Int):Int×Int:=bif decide (0<eB q p)then q else p
theorem aUG(p q:Int×Int):Km p q=p\/Km p q=q:=by unfold Km;cases decide (eB q p<0);exact Or.inl rfl;exact Or.inr rfl
theorem aVW(p q:Int×Int):Li p q=p\/Li p q=q:=by unfold Li;cases decide (0<eB q p);exact Or.inl rfl;exact Or.inr rfl
theorem Yn(p q:Int×Int):R.qz (Km p q)<=R.qz p/\R.qz (Km p q)<=R.qz q:=by
 unfold Km
 by_cases h:eB q p<0
 ·rw[decide_eq_true h,cond_true];exact⟨bZY (Bg.1 h),cAZ⟩
 ·rw[decide_eq_false h,cond_false];exact⟨cAZ,Rat.not_lt.1 fun hn=>h (Bg.2 hn)⟩
theorem Zd(p q:Int×Int):R.qz p<=R.qz (Li p q)/\R.qz q<=R.qz (Li p q):=by
 unfold Li
 by_cases h:0<eB q p
 ·rw[decide_eq_true h,cond_true];exact⟨bZY (xQ.1 h),cAZ⟩
 ·rw[decide_eq_false h,cond_false];exact⟨cAZ,Rat.not_lt.1 fun hn=>h (xQ.2 hn)⟩
end M
namespace W
open Go AI M
namespace Gv
def E:=mE [(158,Hy.aJ)] 14 [10] [] []
def aE:=bd f120
theorem aX:Nk E aE:=nk
theorem start a b c d e f:aH E f120 aE [D.agg [sc (bool a),ints u64 b,sc (int i64 c)],D.agg [sc (bool d),ints u64 e,sc (int i64 f)]]=aO (aP (a,b,c)/\aP (d,e,f)) (some [D.s (sc (int i64 (lH (bI.mY (dv (a,b,c)) (dv (d,e,f))) (bI.mW (dv (a,b,c)) (dv (d,e,f))))))]):=eJ aX
def sp(x y:gB):Prop×List D:=(aP x/\aP y,[.s (.sc (.int .i64 (eB (dv x) (dv y))))])
theorem spec:gU E f120 aE iW iW sp:=by
 intro x y h;exact(start x.1 x.2.1 x.2.2 y.1 y.2.1 y.2.2).trans (gP h)
def aJ:dO:=orc2 iW iW sp
theorem ok:OK 120 aJ:=(fA E aE (aA Hy.ok aD) func120).mV rfl spec
end Gv
namespace uU
def E:=mE [(45,lO.aJ),(120,Gv.aJ)] 19 [] [] []
def aE:=bd f67
theorem aX:Nk E aE:=nk
theorem start a b c d e f:aH E f67 aE [D.agg [sc (bool a),ints u64 b,sc (int i64 c),sc (bool d),ints u64 e,sc (int i64 f)]]=aO (aP (a,b,c)) (aO (aP (d,e,f)) (aO (aP (a,b,c)/\aP (d,e,f)) (some [D.s (sc (bool (decide (eB (dv (a,b,c)) (dv (d,e,f))<=0))))]))):=eJ aX
def sp(s:wW):Prop×List D:=(eQ s,[.s (.sc (.bool true))])
theorem spec:jD E f67 aE yH sp:=by
 rintro s ⟨h1,h2,h3⟩;refine(start s.1 s.2.1 s.2.2.1 s.2.2.2.1 s.2.2.2.2.1 s.2.2.2.2.2).trans ((gP h1).trans ((gP h2).trans ((gP ⟨h1,h2⟩).trans ?_)));show some [D.s (.sc (.bool (decide (eB (dv (gW s)) (dv (gX s))<=0))))]=_;rw[decide_eq_true h3];rfl
def aJ:dO:=orc1 yH sp
theorem ok:OK 67 aJ:=(fA E aE (aA lO.ok (aA Gv.ok aD)) func67).pU rfl spec
end uU
namespace aMQ
def E:=mE [(97,Clone.aJ)] 10 [] [] []
def aE:=bd f171
theorem aX:Nk E aE:=nk
theorem start a b c:aH E f171 aE [D.agg [sc (bool a),ints u64 b,sc (int i64 c)]]=aO (b.length<=1099511627776) (some [D.agg [sc (bool a),ints u64 b,sc (int i64 c)]]):=eJ aX
def sp(x:gB):Prop×List D:=(x.2.1.length<=1099511627776,[.agg [.sc (.bool x.1),.ints .u64 x.2.1,.sc (.int .i64 x.2.2)]])
theorem spec:jD E f171 aE iW sp:=by
 intro x h;exact(start x.1 x.2.1 x.2.2).trans (gP h)
def aJ:dO:=orc1 iW sp
theorem ok:OK 171 aJ:=(fA E aE (aA Clone.ok aD) func171).pU rfl spec
end aMQ
namespace aAE
def E:=mE [(171,aMQ.aJ)] 10 [] [] []
def aE:=bd f123
theorem aX:Nk E aE:=nk
theorem start a b c d e f:aH E f123 aE [D.agg [sc (bool a),ints u64 b,sc (int i64 c),sc (bool d),ints u64 e,sc (int i64 f)]]=aO (b.length<=1099511627776) (aO (e.length<=1099511627776) (some [D.agg [sc (bool a),ints u64 b,sc (int i64 c),sc (bool d),ints u64 e,sc (int i64 f)]])):=eJ aX
def sp(s:wW):Prop×List D:=(s.2.1.length<=1099511627776/\s.2.2.2.2.1.length<=1099511627776,[.agg [.sc (.bool s.1),.ints .u64 s.2.1,.sc (.int .i64 s.2.2.1),.sc (.bool s.2.2.2.1),.ints .u64 s.2.2.2.2.1,.sc (.int .i64 s.2.2.2.2.2)]])
theorem spec:jD E f123 aE yH sp:=by
 intro s h;exact(start s.1 s.2.1 s.2.2.1 s.2.2.2.1 s.2.2.2.2.1 s.2.2.2.2.2).trans ((gP h.1).trans (gP h.2))
def aJ:dO:=orc1 yH sp
theorem ok:OK 123 aJ:=(fA E aE (aA aMQ.ok aD) func123).pU rfl spec
end aAE
namespace aMS
def E:=mE [(67,uU.aJ),(123,aAE.aJ)] 16 [] [] []
def aE:=bd f154
theorem aX:Nk E aE:=nk
theorem start a b c d e f:aH E f154 aE [D.agg [sc (bool a),ints u64 b,sc (int i64 c)],D.agg [sc (bool d),ints u64 e,sc (int i64 f)]]=aO (eQ (a,b,c,d,e,f)) (aO (b.length<=1099511627776/\e.length<=1099511627776) (some [D.agg [sc (bool a),ints u64 b,sc (int i64 c),sc (bool d),ints u64 e,sc (int i64 f)],D.s (sc (int i64 0))])):=eJ aX
def sp(x y:gB):Prop×List D:=(aP x/\aP y/\eB (dv x) (dv y)<=0,[.agg [.sc (.bool x.1),.ints .u64 x.2.1,.sc (.int .i64 x.2.2),.sc (.bool y.1),.ints .u64 y.2.1,.sc (.int .i64 y.2.2)],.s (.sc (.int .i64 0))])
theorem spec:gU E f154 aE iW iW sp:=by
 rintro x y ⟨h1,h2,h3⟩;have l1:=h1.len;have l2:=h2.len;exact(start x.1 x.2.1 x.2.2 y.1 y.2.1 y.2.2).trans ((gP ⟨h1,h2,h3⟩).trans (gP ⟨by omega,by omega⟩))
def aJ:dO:=orc2 iW iW sp
theorem ok:OK 154 aJ:=(fA E aE (aA uU.ok (aA aAE.ok aD)) func154).mV rfl spec
end aMS
namespace Ct
def E:=mE [(154,aMS.aJ)] 9 [6] [] []
def aE:=bd f113
theorem aX:Nk E aE:=nk
theorem start a b c:aH E f113 aE [D.agg [sc (bool a),ints u64 b,sc (int i64 c)]]=aO (aP (a,b,c)/\aP (a,b,c)/\eB (dv (a,b,c)) (dv (a,b,c))<=0) (some [D.agg [sc (bool a),ints u64 b,sc (int i64 c),sc (bool a),ints u64 b,sc (int i64 c)],D.s (sc (int i64 0))]):=eJ aX
def sp(x:gB):Prop×List D:=(aP x,[.agg [.sc (.bool x.1),.ints .u64 x.2.1,.sc (.int .i64 x.2.2),.sc (.bool x.1),.ints .u64 x.2.1,.sc (.int .i64 x.2.2)],.s (.sc (.int .i64 0))])
theorem spec:jD E f113 aE iW sp:=by
 intro x h;exact(start x.1 x.2.1 x.2.2).trans (gP ⟨h,h,Pp _⟩)
def aJ:dO:=orc1 iW sp
theorem ok:OK 113 aJ:=(fA E aE (aA aMS.ok aD) func113).pU rfl spec
end Ct
namespace aNF
def E:=mE [(51,aFX.aJ),(50,iX.aJ)] 12 [] [] []
def aE:=bd f14
theorem aX:Nk E aE:=nk
theorem start a:aH E f14 aE [D.s (sc (int i64 a))]=letI B:=(isNeg a,M6.dg a.natAbs);letI A:=bif gT (wv B) 0 then aN (wv B) 0 else((0:Int),(0:Int));aO ((-9223372036854775808:Int)<=a/\a<9223372036854775808) (aO (gI B/\(-9223372036854775808:Int)<=(0:Int)/\(0:Int)<(9223372036854775808:Int)) (some [D.agg [sc (bool (isNeg A.fst)),ints u64 (M6.dg A.fst.natAbs),sc (int i64 A.snd)]])):=eJ aX
def sp(n:Int):Prop×List D:=(-9223372036854775808<=n/\n<9223372036854775808,[dD (aN n 0)])
theorem aPK{n:Int}(h:bl n.natAbs<=524288):gT n 0=true:=by
 unfold gT
 by_cases hz:n=0
 ·rw[decide_eq_true hz,cAB]
 ·have:=Dd (n:=n.natAbs) (by omega);rw[decide_eq_true (show(-1048576<=0+(tz n.natAbs:Int)) by omega),decide_eq_true (show(0+(tz n.natAbs:Int)<=1048576) by omega),bXT,cAO]
theorem spec:jD E f14 aE (pN .i64) sp:=by
 rintro n ⟨h1,h2⟩;have hb:bl n.natAbs<=64:=dA.2 (by omega);refine(start n).trans ?_;rw[gP ⟨h1,h2⟩,gP ⟨fT (by omega),by omega,by omega⟩,nA,aPK (by omega)];rfl
def aJ:dO:=orc1 (pN .i64) sp
theorem ok:OK 14 aJ:=(fA E aE (aA aFX.ok (aA iX.ok aD)) func14).pU rfl spec
end aNF
namespace Mh
def E:=mE [(113,Ct.aJ),(14,aNF.aJ)] 12 [] [] []
def aE:=bd f202
theorem aX:Nk E aE:=nk
theorem start a:aH E f202 aE [D.s (sc (int i64 a))]=letI A:=aN a 0;letI C:=M6.dg A.fst.natAbs;letI B:=bool (isNeg A.fst);aO ((-9223372036854775808:Int)<=a/\a<9223372036854775808) (aO (aP (isNeg A.fst,M6.dg A.fst.natAbs,A.snd)) (some [D.agg [sc B,ints u64 C,sc (int i64 A.snd),sc B,ints u64 C,sc (int i64 A.snd)]])):=eJ aX
def sp(n:Int):Prop×List D:=(-1000000<=n/\n<=1000000,[uV (aN n 0) (aN n 0)])
theorem spec:jD E f202 aE (pN .i64) sp:=by
 rintro n ⟨h1,h2⟩;have hb:bl n.natAbs<=20:=dA.2 (by have:(2:Nat)^20=1048576:=rfl;omega);exact(start n).trans ((gP ⟨by omega,by omega⟩).trans (gP (dJ (gJ (gO (by decide) (by omega)) (by omega)))))
def aJ:dO:=orc1 (pN .i64) sp
theorem ok:OK 202 aJ:=(fA E aE (aA Ct.ok (aA aNF.ok aD)) func202).pU rfl spec
end Mh
namespace Ao
def E:=mE [(45,lO.aJ),(46,mB.aJ),(234,aND.aJ)] 13 [12] [] []
def aE:=bd f203
theorem aX:Nk E aE:=nk
theorem start a b c:aH E f203 aE [D.agg [sc (bool a),ints u64 b,sc (int i64 c)]]=aO (aP (a,b,c)) (aO True (aB ((b.length:Int)==(0:Int)) (some [D.s (sc (int i64 0)),D.s (sc (int i64 4))]) (aO (aP (a,b,c)) (some [D.s (sc (int i64 (c+(↑(bl (M6.val b)):Int)-(1:Int)))),D.s (sc (int i64 0))])))):=eJ aX
def sp(x:gB):Prop×List D:=(aP x,[.s (.sc (.int .i64 (if(dv x).1=0 then 0 else x.2.2+(bl (M6.val x.2.1):Nat)-1))),.s (.sc (.int .i64 (if(dv x).1=0 then 4 else 0)))])
theorem spec:jD E f203 aE iW sp:=by
 intro x h;have h:aP x:=h;refine(start x.1 x.2.1 x.2.2).trans ?_;have hz:=M6.dY h.Hp;have ha:=iF (x.1,x.2.1)
 try dsimp only at ha
 have hd:(dv x).1=wv (x.1,x.2.1):=rfl;unfold sp
 try dsimp only
 rw[gP h,gP trivial]
 by_cases h0:x.2.1.length=0
 ·have:(dv x).1=0:=by rw[hd];have:=hz.1 h0;omega
  rw[cN,if_pos this,if_pos this]
 ·have:(dv x).1≠0:=by rw[hd];have:=fun hv=>h0 (hz.2 hv);omega
  rw[bM,if_neg this,if_neg this,gP h]
def aJ:dO:=orc1 iW sp
theorem ok:OK 203 aJ:=(fA E aE (aA lO.ok (aA mB.ok (aA aND.ok aD))) func203).pU rfl spec
end Ao
end W
namespace W.Arctan
def rounds(k:Nat):Nat->Nat->Nat->Nat->Nat->Nat->Nat×Nat
 |0,_,p,m,_,n=>(p-m,n)
 |f+1,t,p,m,i,n=>if t=0 then(p-m,n)else if i%4=1 then rounds k f (t/k/k) (p+t/i) m (i+2) (n+1)else rounds k f (t/k/k) p (m+t/i) (i+2) (n+1)
theorem aDY{k Q:Nat}:∀(f t p m i n:Nat),t<2^Q->p<2^(Q+n+1)->(rounds k f t p m i n).1<2^(Q+n+f+1)/\(rounds k f t p m i n).2<=n+f:=by
 intro f
 induction f with
 |zero =>
  intro t p m i n ht hp;exact⟨cBA (cBH _ _) hp,by simp[rounds]⟩
 |succ f ih =>
  intro t p m i n ht hp;have aJX:2^(Q+n+1)<=2^(Q+n+(f+1)+1):=gN;have bAP:2^(Q+(n+1)+1)=2*2^(Q+n+1):=by rw[show Q+(n+1)+1=(Q+n+1)+1 from by omega,bZQ];omega
  have hd:t/i<2^(Q+n+1):=cBA (cFB _ _) (bVO ht (gN));have hk:t/k/k<2^Q:=cBA (cFB _ _) (cBA (cFB _ _) ht);unfold rounds;split
  ·refine⟨bVO (cBA (cBH _ _) hp) aJX,by simp⟩
  ·split
   ·have:=ih (t/k/k) (p+t/i) m (i+2) (n+1) hk (by rw[bAP];omega);rw[show Q+(n+1)+f+1=Q+n+(f+1)+1 from by omega]at this;exact⟨this.1,by omega⟩
   ·have:=ih (t/k/k) p (m+t/i) (i+2) (n+1) hk (by rw[bAP];omega);rw[show Q+(n+1)+f+1=Q+n+(f+1)+1 from by omega]at this;exact⟨this.1,by omega⟩
def atan(k q:Nat):Nat×Nat:=rounds k (q+2) (2^q/k) 0 0 1 0
theorem Ef(k q:Nat):(atan k q).1<2^(2*q+4)/\(atan k q).2<=q+2:=by
 have hb:2^q/k<2^(q+1):=cBA (cFB _ _) (cCA (by omega) (by omega));have:=aDY (k:=k) (Q:=q+1) (q+2) (2^q/k) 0 0 1 0 hb (cY);rw[show q+1+0+(q+2)+1=2*q+4 from by omega]at this;exact⟨this.1,by have:=this.2;unfold atan;omega⟩
end W.Arctan
namespace W
open Go AI M
namespace aNC
def E:=mE [(194,nF.aJ)] 32 [12,20,27] [] []
def aE:=bd f251
theorem aX:Nk E aE:=nk
theorem start a b:aH E f251 aE [D.s (ints u64 a),D.s (sc (int u64 b))]=letI A:=M6.dg (M6.val a/b.toNat);aB (decide (b<4294967296)) (aO (M6.cR a/\a.length<=8192/\0<u64.wrap (b*b)/\u64.wrap (b*b)<18446744073709551616) (some [D.s (ints u64 (M6.dg (M6.val a/(u64.wrap (b*b)).toNat)))])) (aO (M6.cR a/\a.length<=8192/\0<b/\b<18446744073709551616) (aO (M6.cR A/\A.length<=8192/\0<b/\b<18446744073709551616) (some [D.s (ints u64 (M6.dg (M6.val A/b.toNat)))]))):=eJ aX
def sp(a:List Int)(b:Int):Prop×List D:=(M6.cR a/\a.length<=8192/\2<=b/\b<4294967296,[.s (.ints .u64 (M6.dg (M6.val a/b.toNat/b.toNat)))])
theorem spec:gU E f251 aE (pI .u64) (pN .u64) sp:=by
 rintro a b ⟨hn,hl,h0,h1⟩;obtain⟨k,rfl⟩:=bZV (show 0<=b by omega);have hk:k*k<4294967296*4294967296:=Nat.mul_lt_mul_of_lt_of_le (by omega) (by omega) (by omega);have bRE:0<k*k:=Nat.mul_pos (by omega) (by omega);have e:u64.wrap ((k:Int)*(k:Int))=((k*k:Nat):Int):=by
  rw[<-cAN];exact wrap_u64
 refine(start a k).trans ?_;rw[aQ h1,e,bYO,gP ⟨hn,hl,by omega,by omega⟩];unfold sp;rw[bYO,cAL]
def aJ:dO:=orc2 (pI .u64) (pN .u64) sp
theorem ok:OK 251 aJ:=(fA E aE (aA nF.ok aD) func251).mV rfl spec
end aNC
namespace dV
def E:=mE [(98,kJ.aJ),(95,oA.aJ),(194,nF.aJ),(100,uE.aJ),(102,uD.aJ),(251,aNC.aJ)] 72 [67] [(6,[0,6,8,9,10,11])] []
def aE:=bd f230
theorem aX:Nk E aE:=nk
def L6 a b (c:Nat) (d:List Int) (e:Nat) (f:List Int) g h:=sJ E f230 aE 6 [dG a,iK b,Ce 2 c 22 d,Ce 3 e 22 f,dG g,dG h]
def bKK a b c (d:Nat) (e:List Int) f g:=sJ E f230 aE 6 [dG a,iK b,iK c,Ce 3 d 22 e,dG f,dG g]
def bUN a b (c:Nat) (d:List Int) e f g:=sJ E f230 aE 6 [dG a,iK b,Ce 2 c 22 d,iK e,dG f,dG g]
def bDK a b c d e f:=sJ E f230 aE 6 [dG a,iK b,iK c,iK d,dG e,dG f]
theorem start a b:aH E f230 aE [D.s (sc (int u64 a)),D.s (sc (int i64 b))]=letI B:=M6.dg 1;letI A:=bif kJ.jK (M6.val B) b.toNat then M6.dg (M6.val B*(2:Nat)^b.toNat)else [];aO ((0:Int)<=(1:Int)/\(1:Int)<(18446744073709551616:Int)) (aO (M6.cR B/\B.length<=8192/\0<=b/\b<4611686018427387904) (aO (M6.cR A/\A.length<=8192/\0<a/\a<18446744073709551616) (dV.L6 a (M6.dg (M6.val A/a.toNat)) 0 [] 0 [] 2 1))):=eJ aX
theorem aDP a b c d e f g h:L6 a b c d e f g h=letI C:=M6.dg (M6.val b/a.toNat/a.toNat);letI B:=M6.cR b/\b.length<=8192/\2<=a/\a<4294967296;letI A:=M6.dg (M6.val b/h.toNat);letI G:=M6.val f+M6.val A;letI F:=M6.val d+M6.val A;aB (decide (0<(b.length:Int))) (aO (M6.cR b/\b.length<=8192/\0<h/\h<18446744073709551616) (aB (h.tmod 4==(1:Int)) (aO (M6.cR d/\M6.cR A/\d.length<=8192/\A.length<=8192) (aO B (dV.bKK a C (bif cP.mL F then M6.dg F else []) e f (u64.wrap (g+3)) (u64.wrap (h+2))))) (aO (M6.cR f/\M6.cR A/\f.length<=8192/\A.length<=8192) (aO B (dV.bUN a C c d (bif cP.mL G then M6.dg G else []) (u64.wrap (g+3)) (u64.wrap (h+2))))))) (aO (M6.cR d/\M6.cR f/\d.length<=8192/\f.length<=8192) (some [D.s (ints u64 (M6.dg (M6.val d-M6.val f))),D.s (sc (int u64 g))])):=lJ aX
theorem aWY a b c d e f g:bKK a b c d e f g=letI C:=M6.dg (M6.val b/a.toNat/a.toNat);letI B:=M6.cR b/\b.length<=8192/\2<=a/\a<4294967296;letI A:=M6.dg (M6.val b/g.toNat);letI G:=M6.val e+M6.val A;letI F:=M6.val c+M6.val A;aB (decide (0<(b.length:Int))) (aO (M6.cR b/\b.length<=8192/\0<g/\g<18446744073709551616) (aB (g.tmod 4==(1:Int)) (aO (M6.cR c/\M6.cR A/\c.length<=8192/\A.length<=8192) (aO B (dV.bKK a C (bif cP.mL F then M6.dg F else []) d e (u64.wrap (f+3)) (u64.wrap (g+2))))) (aO (M6.cR e/\M6.cR A/\e.length<=8192/\A.length<=8192) (aO B (dV.bDK a C c (bif cP.mL G then M6.dg G else []) (u64.wrap (f+3)) (u64.wrap (g+2))))))) (aO (M6.cR c/\M6.cR e/\c.length<=8192/\e.length<=8192) (some [D.s (ints u64 (M6.dg (M6.val c-M6.val e))),D.s (sc (int u64 f))])):=lJ aX
theorem aMZ a b c d e f:bDK a b c d e f=letI C:=M6.dg (M6.val b/a.toNat/a.toNat);letI B:=M6.cR b/\b.length<=8192/\2<=a/\a<4294967296;letI A:=M6.dg (M6.val b/f.toNat);letI G:=M6.val d+M6.val A;letI F:=M6.val c+M6.val A;aB (decide (0<(b.length:Int))) (aO (M6.cR b/\b.length<=8192/\0<f/\f<18446744073709551616) (aB (f.tmod 4==(1:Int)) (aO (M6.cR c/\M6.cR A/\c.length<=8192/\A.length<=8192) (aO B (dV.bDK a C (bif cP.mL F then M6.dg F else []) d (u64.wrap (e+3)) (u64.wrap (f+2))))) (aO (M6.cR d/\M6.cR A/\d.length<=8192/\A.length<=8192) (aO B (dV.bDK a C c (bif cP.mL G then M6.dg G else []) (u64.wrap (e+3)) (u64.wrap (f+2))))))) (aO (M6.cR c/\M6.cR d/\c.length<=8192/\d.length<=8192) (some [D.s (ints u64 (M6.dg (M6.val c-M6.val d))),D.s (sc (int u64 e))])):=lJ aX
open Arctan in
theorem lF {n k:Nat} (h:n<2^k) (hk:k<=524288):(M6.dg n).length<=8192:=fM (k:=8192) (bVN (dA.2 h) (by omega))
theorem aSC{n k:Nat}(h:n<2^k)(hk:k<=524288):cP.mL n=true:=decide_eq_true (lF h hk)
theorem Ld{k Q:Nat}(hk:2<=k)(Xh:k<4294967296)(hQ:Q<=200000):∀(f t p m n:Nat),t<2^Q->t<4^f->f+n<=250000->p<2^(Q+n+1)->m<2^(Q+n+1) ->
  bDK k (M6.dg t) (M6.dg p) (M6.dg m) ((2+3*n:Nat):Int) ((2*n+1:Nat):Int)=some [D.s (.ints .u64 (M6.dg (Arctan.rounds k f t p m (2*n+1) n).1)),D.s (.sc (.int .u64 ((2+3*(Arctan.rounds k f t p m (2*n+1) n).2:Nat):Int)))]:=by
 intro f
 induction f with
 |zero =>
  intro t p m n bEU ht hf hp hm;have:t=0:=by simpa using ht
  subst this;rw[aMZ,M6.cF,aL (by simp),gP ⟨M6.aY _,M6.aY _,lF hp (by omega),lF hm (by omega)⟩,M6.bN,M6.bN];rfl
 |succ f ih =>
  intro t p m n bEU ht hf hp hm;rw[aMZ];unfold Arctan.rounds
  by_cases hz:t=0
  ·subst hz;rw[M6.cF,aL (by simp),gP ⟨M6.aY _,M6.aY _,lF hp (by omega),lF hm (by omega)⟩,M6.bN,M6.bN,if_pos rfl]
  ·have aYC:(M6.dg t).length≠0:=fun h=>hz (M6.iO.1 h)
   have et:(((2*n+1:Nat):Int)).toNat=2*n+1:=bYO _;have ek:((k:Int)).toNat=k:=bYO _;have em:(((2*n+1:Nat):Int)).tmod 4=(((2*n+1)%4:Nat):Int):=by rw[cDG (by omega)];omega
   have w1:u64.wrap (((2+3*n:Nat):Int)+3)=((2+3*(n+1):Nat):Int):=by rw[wrap_u64];omega
   have w2:u64.wrap (((2*n+1:Nat):Int)+2)=((2*(n+1)+1:Nat):Int):=by rw[wrap_u64];omega
   have bED:t/k/k<2^Q:=cBA (cFB _ _) (cBA (cFB _ _) bEU);have bLS:t/k/k<4^f:=by
    rw[cAL];apply cAJ;have:4<=k*k:=cFA hk hk;rw[bZQ 4 f,bZP (4^f)]at ht;exact bVO ht (bWG _ this)
   have aJX:2^(Q+(n+1)+1)=2*2^(Q+n+1):=by rw[show Q+(n+1)+1=(Q+n+1)+1 from by omega,bZQ];omega
   have hd:t/(2*n+1)<2^(Q+n+1):=cBA (cFB _ _) (bVO bEU (gN));have lt:=lF bEU (by omega);have ld:=lF hd (by omega);rw[aQ];simp only[et,ek,em,M6.bN,w1,w2];rw[gP ⟨M6.aY _,lt,by omega,by omega⟩,if_neg hz,show 2*n+1+2=2*(n+1)+1 by omega]
   by_cases hc:(2*n+1)%4=1
   ·have hs:p+t/(2*n+1)<2^(Q+(n+1)+1):=by rw[aJX];omega
    rw[cN,gP ⟨M6.aY _,M6.aY _,lF hp (by omega),ld⟩,gP ⟨M6.aY _,lt,by omega,by omega⟩,if_pos hc,aSC hs (by omega),cond_true];exact ih _ _ _ (n+1) bED bLS (by omega) hs (by rw[aJX];omega)
   ·have hs:m+t/(2*n+1)<2^(Q+(n+1)+1):=by rw[aJX];omega
    rw[bM,gP ⟨M6.aY _,M6.aY _,lF hm (by omega),ld⟩,gP ⟨M6.aY _,lt,by omega,by omega⟩,if_neg hc,aSC hs (by omega),cond_true];exact ih _ _ _ (n+1) bED bLS (by omega) (by rw[aJX];omega) hs
def sp(k q:Int):Prop×List D:=((2<=k/\k<4294967296)/\0<=q/\q<=150000,[.s (.ints .u64 (M6.dg (Arctan.atan k.toNat q.toNat).1)),.s (.sc (.int .u64 ((2+3*(Arctan.atan k.toNat q.toNat).2:Nat):Int)))])
theorem spec:gU E f230 aE (pN .u64) (pN .i64) sp:=by
 rintro k q ⟨⟨h1,h2⟩,h3,h4⟩;refine(start k q).trans ?_;unfold sp;obtain⟨k,rfl⟩:=bZV (show 0<=k by omega);obtain⟨q,rfl⟩:=bZV h3;have Mz:2^q<2^(q+1):=cCA (by omega) (by omega);have hb:2^q/k<2^(q+1):=cBA (cFB _ _) Mz;have so:kJ.jK 1 q=true:=by
  unfold kJ.jK;rw[show bl 1=1 from rfl,decide_eq_true (show 1+q<=524288 by omega),cAO]
 have l1:(M6.dg 1).length<=8192:=lF (k:=1) (by decide) (by decide);have nn:M6.cR ([]:List Int):=by rw[<-M6.cF];exact M6.aY 0
 have v0:M6.val ([]:List Int)=0:=rfl;simp only[M6.bN,bYO,so,cond_true,bYV];rw[gP ⟨by decide,by decide⟩,gP ⟨M6.aY _,l1,by omega,by omega⟩,gP ⟨M6.aY _,lF Mz (by omega),by omega,by omega⟩];unfold Arctan.atan;have bRU:2^q/k<4^(q+2):=bVO hb (by rw[show(4:Nat)=2^2 from rfl,<-Nat.pow_mul];exact gN);generalize 2^q/k=t at *;have e4:4^(q+2)=16*4^q:=by rw[bZS];omega
 rw[e4]at bRU;have kk:4<=k*k:=cFA (show 2<=k by omega) (show 2<=k by omega);have step:∀a X:Nat,a<4*X->a/k/k<X:=fun a X ha=>by
  rw[cAL];exact cAJ (bVO ha (bWG _ kk))
 have aLP:∀a:Nat,a/k/k<=a:=fun a=>bVN (cFB _ _) (cFB _ _)
 have ht:=lF hb (by omega);rw[aDP,show q+2=(q+1)+1 by omega];unfold Arctan.rounds
 by_cases z:t=0
 ·subst z;rw[M6.cF,aL (by simp),gP ⟨nn,nn,by decide,by decide⟩,if_pos rfl,v0];rfl
 ·have aYC:(M6.dg t).length≠0:=fun h=>z (M6.iO.1 h)
  rw[aQ,if_neg z,if_pos (by decide)];simp only[M6.bN,v0,bUT,Int.toNat_one,Nat.div_one,bYO];have vU:=cBA (aLP t) hb;have bRV:=step t (4*4^q) (by omega);have l2:=lF vU (by omega);rw[gP ⟨M6.aY _,ht,by decide,by decide⟩,cN (by decide),gP ⟨nn,M6.aY _,by decide,ht⟩,gP ⟨M6.aY _,ht,by omega,by omega⟩,aSC hb (by omega),cond_true,aWY,show u64.wrap (2+3)=5 from wrap_u64 (by decide) (by decide),show u64.wrap (1+2)=3 from wrap_u64 (by decide) (by decide)];unfold Arctan.rounds;generalize t/k/k=u at *
  by_cases z1:u=0
  ·subst z1;rw[M6.cF,aL (by simp),gP ⟨M6.aY _,nn,ht,by decide⟩,if_pos rfl,v0,M6.bN];rfl
  ·have Hf:(M6.dg u).length≠0:=fun h=>z1 (M6.iO.1 h)
   have bLQ:u/3<2^(q+1):=cBA (cFB _ _) vU;rw[aQ,if_neg z1,if_neg (by decide)];simp only[M6.bN,v0,bUT,bYO,show((3:Int)).toNat=3 from rfl];rw[gP ⟨M6.aY _,l2,by decide,by decide⟩,bM (by decide),gP ⟨nn,M6.aY _,by decide,lF bLQ (by omega)⟩,gP ⟨M6.aY _,l2,by omega,by omega⟩,aSC bLQ (by omega),cond_true,show u64.wrap (5+3)=8 from wrap_u64 (by decide) (by decide),show u64.wrap (3+2)=5 from wrap_u64 (by decide) (by decide)];have up:2^(q+1)<=2^(q+1+2+1):=gN;exact Ld (k:=k) (Q:=q+1) (by omega) (by omega) (by omega) q (u/k/k) t (u/3) 2 (cBA (aLP u) vU) (step u (4^q) bRV) (by omega) (by omega) (by omega)
def aJ:dO:=orc2 (pN .u64) (pN .i64) sp
theorem ok:OK 230 aJ:=(fA E aE (aA kJ.ok (aA oA.ok (aA nF.ok (aA uE.ok (aA uD.ok (aA aNC.ok aD)))))) func230).mV rfl spec
end dV
namespace THalvings
def E:=mE [] 13 [] [(2,[0,3])] []
def aE:=bd f235
theorem aX:Nk E aE:=nk
def L2 a b:=sJ E f235 aE 2 [cK a,cK b]
theorem start a:aH E f235 aE [D.s (sc (int i64 a))]=THalvings.L2 a 4:=eJ aX
theorem lN a b:L2 a b=aB (decide (i64.wrap (i64.wrap ((4:Int)*b)*b)<a)) (THalvings.L2 a (i64.wrap (b+1))) (some [D.s (sc (int i64 b))]):=lJ aX
def hlv(w:Int):Nat->Nat->Nat
 |0,h=>h
 |f+1,h=>if 4*(h:Int)*h<w then hlv w f (h+1)else h
def sp(w:Int):Prop×List D:=(w<=150000,[.s (.sc (.int .i64 (hlv w 200 4:Nat)))])
theorem L{w:Int}(hw:w<=150000):∀f h:Nat,h+f=204->L2 w h=some [.s (.sc (.int .i64 (hlv w f h:Nat)))]:=by
 intro f
 induction f with
 |zero =>
  intro h hh;obtain rfl:h=204:=by omega
  have e:i64.wrap (i64.wrap (4*((204:Nat):Int))*((204:Nat):Int))=166464:=by decide +kernel
  rw[lN,e,aL];rfl
 |succ f ih =>
  intro h hh;have hb:(h:Int)*h<=41616:=Int.ofNat_le.2 (cFA (show h<=204 by omega) (show h<=204 by omega));have hb0:(0:Int)<=(h:Int)*h:=cGQ (by omega) (by omega);have ea:4*(h:Int)*h=4*((h:Int)*h):=Int.mul_assoc _ _ _;have e:i64.wrap (i64.wrap (4*(h:Int))*(h:Int))=4*(h:Int)*h:=by rw[wrap_i64 (n:=4*(h:Int)),wrap_i64]
  have e2:i64.wrap ((h:Int)+1)=((h+1:Nat):Int):=by rw[wrap_i64];omega
  rw[lN,e,e2];unfold hlv
  by_cases c:4*(h:Int)*h<w
  ·rw[aQ c,if_pos c];exact ih (h+1) (by omega)
  ·rw[aL c,if_neg c]
theorem spec:jD E f235 aE (pN .i64) sp:=fun w h=>(start w).trans (L h 200 4 rfl)
def aJ:dO:=orc1 (pN .i64) sp
theorem ok:OK 235 aJ:=(fA E aE aD func235).pU rfl spec
end THalvings
namespace uT
def E:=mE [(48,Al.aJ),(192,iU.aJ)] 36 [] [] []
def aE:=bd f236
theorem aX:Nk E aE:=nk
theorem start a c d b:aH E f236 aE [D.agg [sc (bool a),ints u64 c,sc (int i64 d)],D.s (sc (int i64 b))]=letI A:=(false,c);aB (decide (0<=i64.wrap (d+b))) (aO (gI A/\0<=i64.wrap (d+b)/\i64.wrap (d+b)<4611686018427387904) (some [D.s (ints u64 (M6.dg (bif fit (M6.val c*(2:Nat)^(i64.wrap (d+b)).toNat)then wv A*(↑((2:Nat)^(i64.wrap (d+b)).toNat):Int)else(0:Int)).natAbs))])) (aO (gI A/\0<=i64.wrap ((0:Int)-i64.wrap (d+b))/\i64.wrap ((0:Int)-i64.wrap (d+b))<4611686018427387904) (some [D.s (ints u64 (M6.dg (wv A/(↑((2:Nat)^(i64.wrap ((0:Int)-i64.wrap (d+b))).toNat):Int)).natAbs))])):=eJ aX
def aNQ(p:Int×Int)(n:Int):Nat:=if 0<=p.2+n then p.1.natAbs*2^(p.2+n).toNat else p.1.natAbs/2^(-(p.2+n)).toNat
def sp(x:gB)(n:Int):Prop×List D:=(aP x/\-1099511627776<=n/\n<=1099511627776/\(0<=x.2.2+n->fit ((dv x).1.natAbs*2^(x.2.2+n).toNat)=true),[.s (.ints .u64 (M6.dg (aNQ (dv x) n)))])
theorem spec:gU E f236 aE iW (pN .i64) sp:=by
 rintro x n ⟨hx,h1,h2,hf⟩;have he:=hx.2.1;refine(start x.1 x.2.1 x.2.2 n).trans ?_;have w1:i64.wrap (x.2.2+n)=x.2.2+n:=wrap_i64;have ha:(dv x).1.natAbs=M6.val x.2.1:=iF (x.1,x.2.1);have ok:gI (false,x.2.1):=⟨hx.1.1,fun hf=>(by cases hf),hx.1.len⟩;have vx:wv (false,x.2.1)=(M6.val x.2.1:Int):=rfl;rw[w1,vx];unfold sp aNQ;dsimp only
 by_cases c:0<=x.2.2+n
 ·have aSP:=hf c;rw[ha]at aSP ⊢;rw[aQ c,gP ⟨ok,c,by omega⟩,aSP,cond_true,if_pos (show 0<=(dv x).2+n from c),<-cAN,cAH];rfl
 ·have w2:i64.wrap (0-(x.2.2+n))=-(x.2.2+n):=by rw[wrap_i64];omega
  rw[ha,w2,aL c,gP ⟨ok,by omega,by omega⟩,if_neg (show ¬0<=(dv x).2+n from c),<-Int.natCast_ediv,cAH];rfl
def aJ:dO:=orc2 iW (pN .i64) sp
theorem ok:OK 236 aJ:=(fA E aE (aA Al.ok (aA iU.ok aD)) func236).mV rfl spec
end uT
namespace Mg
def E:=mE [(233,aMT.aJ),(104,Er.aJ)] 22 [12,18] [] []
def aE:=bd f238
theorem aX:Nk E aE:=nk
theorem start a b c:aH E f238 aE [D.s (ints u64 a),D.s (ints u64 b),D.s (sc (int i64 c))]=letI B:=M6.val a*M6.val b;letI A:=bif cP.mL B then M6.dg B else [];aO (M6.cR a/\M6.cR b/\a.length<=8192/\b.length<=8192) (aO (M6.cR A/\A.length<=8192/\0<=c/\c<4611686018427387904) (some [D.s (ints u64 (M6.dg (M6.val A/(2:Nat)^c.toNat)))])):=eJ aX
def sp(a b:List Int)(n:Int):Prop×List D:=(M6.cR a/\M6.cR b/\a.length<=4096/\b.length<=4096/\0<=n/\n<4611686018427387904,[.s (.ints .u64 (M6.dg (M6.val a*M6.val b/2^n.toNat)))])
theorem spec:oP E f238 aE (pI .u64) (pI .u64) (pN .i64) sp:=by
 rintro a b n ⟨h1,h2,l1,l2,n1,n2⟩;have hl:(M6.dg (M6.val a*M6.val b)).length<=8192:=by
  refine M6.dZ (k:=8192) ?_;have va:=bVO (M6.dS h1.kU) (bXS (by decide) l1);have vb:=bVO (M6.dS h2.kU) (bXS (by decide) l2);rw[show(8192:Nat)=4096+4096 from rfl,bZS];generalize 18446744073709551616^4096=Q at *;exact cCV va vb
 have ok:cP.mL (M6.val a*M6.val b)=true:=decide_eq_true hl;refine(start a b n).trans ?_;rw[gP ⟨h1,h2,by omega,by omega⟩,ok];simp only[cond_true,M6.bN];exact gP ⟨M6.aY _,hl,n1,n2⟩
def aJ:dO:=orc3 (pI .u64) (pI .u64) (pN .i64) sp
theorem ok:OK 238 aJ:=(fA E aE (aA aMT.ok (aA Er.ok aD)) func238).yM rfl spec
end Mg
namespace TSums
def E:Env:={ ({ base with C:=callsOf [(98,kJ.aJ),(95,oA.aJ),(100,uE.aJ),(238,Mg.aJ),(194,nF.aJ),(102,uD.aJ)],wide:=some .u64 })with nt:=63,own:=[50,58],keep:=fun k=>(tlook [(4,[0,1,6,7,9])] k).getD [],cut:=tlook [] }
def aE:=bd f237
theorem aX:Nk E aE:=nk
def L4 a b c d e f g h:=sJ E f237 aE 4 [iK a,cK b,dK 2 298 [fU c,fU d,fU e,fU f],iK g,dG h]
theorem start a b:aH E f237 aE [D.s (ints u64 a),D.s (sc (int i64 b))]=letI A:=M6.dg 1;aO ((0:Int)<=(1:Int)/\(1:Int)<(18446744073709551616:Int)) (aO (M6.cR A/\A.length<=8192/\0<=b/\b<4611686018427387904) (aC (bif kJ.jK (M6.val A) b.toNat then M6.dg (M6.val A*(2:Nat)^b.toNat)else []) fun c=>TSums.L4 a b [] [] [] [] c 0)):=eJ aX
theorem vI a b c d e f g h:L4 a b c d e f g h=letI P:=M6.val f+M6.val g;letI O:=M6.val e+M6.val g;letI N:=M6.val d+M6.val g;letI K:=M6.val c+M6.val g;letI I:=decide (h.tmod 4=(3:Int));letI H:=decide (h.tmod 4=(2:Int));letI G:=decide (h.tmod 4=(1:Int));letI F:=decide (h.tmod 4=(0:Int));letI C:=u64.wrap (h+1);letI B:=M6.dg (M6.val g*M6.val a/(2:Nat)^b.toNat);letI A:=M6.cR g/\M6.cR a/\g.length<=4096/\a.length<=4096/\0<=b/\b<4611686018427387904;aB (decide (0<(g.length:Int))) (aB F (aO (M6.cR c/\M6.cR g/\c.length<=8192/\g.length<=8192) (aC (bif cP.mL K then M6.dg K else []) fun i=>aB F (aO A (aC B fun j=>aO (M6.cR j/\j.length<=8192/\0<u64.wrap (h+1)/\u64.wrap (h+1)<18446744073709551616) (aC (M6.dg (M6.val j/C.toNat)) fun k=>TSums.L4 a b i d e f k C))) (aB G (aO A (aC B fun l=>aO (M6.cR l/\l.length<=8192/\0<u64.wrap (h+1)/\u64.wrap (h+1)<18446744073709551616) (aC (M6.dg (M6.val l/C.toNat)) fun m=>TSums.L4 a b c i e f m C))) (aB H (aO A (aC B fun n=>aO (M6.cR n/\n.length<=8192/\0<u64.wrap (h+1)/\u64.wrap (h+1)<18446744073709551616) (aC (M6.dg (M6.val n/C.toNat)) fun o=>TSums.L4 a b c d i f o C))) (aB I (aO A (aC B fun p=>aO (M6.cR p/\p.length<=8192/\0<u64.wrap (h+1)/\u64.wrap (h+1)<18446744073709551616) (aC (M6.dg (M6.val p/C.toNat)) fun q=>TSums.L4 a b c d e i q C))) none))))) (aB G (aO (M6.cR d/\M6.cR g/\d.length<=8192/\g.length<=8192) (aC (bif cP.mL N then M6.dg N else []) fun r=>aB F (aO A (aC B fun s=>aO (M6.cR s/\s.length<=8192/\0<u64.wrap (h+1)/\u64.wrap (h+1)<18446744073709551616) (aC (M6.dg (M6.val s/C.toNat)) fun t=>TSums.L4 a b r d e f t C))) (aB G (aO A (aC B fun u=>aO (M6.cR u/\u.length<=8192/\0<u64.wrap (h+1)/\u64.wrap (h+1)<18446744073709551616) (aC (M6.dg (M6.val u/C.toNat)) fun v=>TSums.L4 a b c r e f v C))) (aB H (aO A (aC B fun w=>aO (M6.cR w/\w.length<=8192/\0<u64.wrap (h+1)/\u64.wrap (h+1)<18446744073709551616) (aC (M6.dg (M6.val w/C.toNat)) fun x=>TSums.L4 a b c d r f x C))) (aB I (aO A (aC B fun y=>aO (M6.cR y/\y.length<=8192/\0<u64.wrap (h+1)/\u64.wrap (h+1)<18446744073709551616) (aC (M6.dg (M6.val y/C.toNat)) fun z=>TSums.L4 a b c d e r z C))) none))))) (aB H (aO (M6.cR e/\M6.cR g/\e.length<=8192/\g.length<=8192) (aC (bif cP.mL O then M6.dg O else []) fun aa=>aB F (aO A (aC B fun ab=>aO (M6.cR ab/\ab.length<=8192/\0<u64.wrap (h+1)/\u64.wrap (h+1)<18446744073709551616) (aC (M6.dg (M6.val ab/C.toNat)) fun ac=>TSums.L4 a b aa d e f ac C))) (aB G (aO A (aC B fun ad=>aO (M6.cR ad/\ad.length<=8192/\0<u64.wrap (h+1)/\u64.wrap (h+1)<18446744073709551616) (aC (M6.dg (M6.val ad/C.toNat)) fun ae=>TSums.L4 a b c aa e f ae C))) (aB H (aO A (aC B fun af=>aO (M6.cR af/\af.length<=8192/\0<u64.wrap (h+1)/\u64.wrap (h+1)<18446744073709551616) (aC (M6.dg (M6.val af/C.toNat)) fun ag=>TSums.L4 a b c d aa f ag C))) (aB I (aO A (aC B fun ah=>aO (M6.cR ah/\ah.length<=8192/\0<u64.wrap (h+1)/\u64.wrap (h+1)<18446744073709551616) (aC (M6.dg (M6.val ah/C.toNat)) fun ai=>TSums.L4 a b c d e aa ai C))) none))))) (aB I (aO (M6.cR f/\M6.cR g/\f.length<=8192/\g.length<=8192) (aC (bif cP.mL P then M6.dg P else []) fun aj=>aB F (aO A (aC B fun ak=>aO (M6.cR ak/\ak.length<=8192/\0<u64.wrap (h+1)/\u64.wrap (h+1)<18446744073709551616) (aC (M6.dg (M6.val ak/C.toNat)) fun al=>TSums.L4 a b aj d e f al C))) (aB G (aO A (aC B fun am=>aO (M6.cR am/\am.length<=8192/\0<u64.wrap (h+1)/\u64.wrap (h+1)<18446744073709551616) (aC (M6.dg (M6.val am/C.toNat)) fun an=>TSums.L4 a b c aj e f an C))) (aB H (aO A (aC B fun ao=>aO (M6.cR ao/\ao.length<=8192/\0<u64.wrap (h+1)/\u64.wrap (h+1)<18446744073709551616) (aC (M6.dg (M6.val ao/C.toNat)) fun ap=>TSums.L4 a b c d aj f ap C))) (aB I (aO A (aC B fun aq=>aO (M6.cR aq/\aq.length<=8192/\0<u64.wrap (h+1)/\u64.wrap (h+1)<18446744073709551616) (aC (M6.dg (M6.val aq/C.toNat)) fun ar=>TSums.L4 a b c d e aj ar C))) none))))) none)))) (aO (M6.cR c/\M6.cR e/\c.length<=8192/\e.length<=8192) (aC (M6.dg (M6.val c-M6.val e)) fun au=>aO (M6.cR d/\M6.cR f/\d.length<=8192/\f.length<=8192) (aC (M6.dg (M6.val d-M6.val f)) fun av=>some [D.s (ints u64 av),D.s (ints u64 au)]))):=lJ aX
def tay(u W:Nat):Nat->Nat->Nat->Nat->Nat->Nat->Nat×Nat×Nat×Nat
 |0,_,a,b,c,d=>(a,b,c,d)
 |f+1,k,a,b,c,d=>if R.sq u W k=0 then(a,b,c,d)else
  if k%4=0 then tay u W f (k+1) (a+R.sq u W k) b c d else if k%4=1 then tay u W f (k+1) a (b+R.sq u W k) c d
  else if k%4=2 then tay u W f (k+1) a b (c+R.sq u W k) d else tay u W f (k+1) a b c (d+R.sq u W k)
theorem Jp{u W:Nat}(h:u<=W):∀k,R.sq u W k<=W
 |0=>bUR _
 |k+1=>bVN (R.Jo h k) (Jp h k)
theorem L{w:Nat}{a0:List Int}(hn:M6.cR a0)(hl:a0.length<=4096)(hu:M6.val a0<=2^w)(hw:w<=150000):∀(f k a b c d:Nat),k+f<=200000->R.sq (M6.val a0) (2^w) (k+f)=0 ->
  a<=k*2^w->b<=k*2^w->c<=k*2^w->d<=k*2^w ->
  L4 a0 w (M6.dg a) (M6.dg b) (M6.dg c) (M6.dg d) (M6.dg (R.sq (M6.val a0) (2^w) k)) k=some [.s (.ints .u64 (M6.dg ((tay (M6.val a0) (2^w) f k a b c d).2.1-(tay (M6.val a0) (2^w) f k a b c d).2.2.2))),.s (.ints .u64 (M6.dg ((tay (M6.val a0) (2^w) f k a b c d).1-(tay (M6.val a0) (2^w) f k a b c d).2.2.1)))]:=by
 intro f
 induction f with
 |zero =>
  intro k a b c d hk h0 ha hb hc hd;have pw:k*2^w<2^(w+18):=by
   rw[bZS,bZP];exact cIW (by omega) (bXR (by decide))
  rw[bVP]at h0;rw[vI,h0,M6.cF,aL (by simp)];simp only[aG];rw[gP ⟨M6.aY _,M6.aY _,dV.lF (cBA ha pw) (by omega),dV.lF (cBA hc pw) (by omega)⟩,gP ⟨M6.aY _,M6.aY _,dV.lF (cBA hb pw) (by omega),dV.lF (cBA hd pw) (by omega)⟩];simp only[M6.bN];rfl
 |succ f ih =>
  intro k a b c d hk h0 ha hb hc hd;have pw:∀j,j<=200000->j*2^w<2^(w+18):=fun j hj=>by
   rw[bZS,bZP];exact cIW (by omega) (bXR (by decide))
  have hs:(k+1)*2^w=k*2^w+2^w:=by rw[bVL,bYV]
  have ht:=Jp hu k;have lt:(M6.dg (R.sq (M6.val a0) (2^w) k)).length<=4096:=fM (k:=4096) (bVN (dA.2 (cBA ht (cCA (by decide) (cIU w)))) (by omega));rw[vI];unfold tay
  by_cases hz:R.sq (M6.val a0) (2^w) k=0
  ·rw[hz,M6.cF,aL (by simp),if_pos rfl];simp only[aG];rw[gP ⟨M6.aY _,M6.aY _,dV.lF (cBA ha (pw k (by omega))) (by omega),dV.lF (cBA hc (pw k (by omega))) (by omega)⟩,gP ⟨M6.aY _,M6.aY _,dV.lF (cBA hb (pw k (by omega))) (by omega),dV.lF (cBA hd (pw k (by omega))) (by omega)⟩];simp only[M6.bN]
  ·have aYC:(M6.dg (R.sq (M6.val a0) (2^w) k)).length≠0:=fun h=>hz (M6.iO.1 h)
   have em:(k:Int).tmod 4=((k%4:Nat):Int):=by rw[cDG (by omega)];omega
   have w1:u64.wrap ((k:Int)+1)=((k+1:Nat):Int):=by rw[wrap_u64];omega
   have ew:(w:Int).toNat=w:=bYO _;have ek:(((k+1:Nat)):Int).toNat=k+1:=bYO _;have es:R.sq (M6.val a0) (2^w) k*M6.val a0/2^w/(k+1)=R.sq (M6.val a0) (2^w) (k+1):=rfl;have bPA:(M6.dg (R.sq (M6.val a0) (2^w) k*M6.val a0/2^w)).length<=8192:=by
    have:R.sq (M6.val a0) (2^w) k*M6.val a0/2^w<=R.sq (M6.val a0) (2^w) k:=Nat.div_le_of_le_mul (by rw[bZP (2^w)];exact bXF _ hu);exact dV.lF (cBA (bVN this ht) (cCA (by decide) (cIU w))) (by omega)
   rw[aQ];simp only[aG,em,w1,ew,ek,M6.bN,es];rw[if_neg hz];have aVC:k+1+f=k+(f+1):=by omega
   have Qo:∀x,x<=k*2^w->x+R.sq (M6.val a0) (2^w) k<=(k+1)*2^w/\cP.mL (x+R.sq (M6.val a0) (2^w) k)=true/\(M6.dg x).length<=8192:=fun x hx=>by
    have h1:x+R.sq (M6.val a0) (2^w) k<=(k+1)*2^w:=by omega
    exact⟨h1,dV.aSC (cBA h1 (pw (k+1) (by omega))) (by omega),dV.lF (cBA hx (pw k (by omega))) (by omega)⟩
   have up:∀x,x<=k*2^w->x<=(k+1)*2^w:=fun x hx=>by omega
   have g1:M6.cR (M6.dg (R.sq (M6.val a0) (2^w) k))/\M6.cR a0/\(M6.dg (R.sq (M6.val a0) (2^w) k)).length<=4096/\a0.length<=4096/\(0:Int)<=w/\(w:Int)<4611686018427387904:=⟨M6.aY _,hn,lt,hl,by omega,by omega⟩;have g2:M6.cR (M6.dg (R.sq (M6.val a0) (2^w) k*M6.val a0/2^w))/\(M6.dg (R.sq (M6.val a0) (2^w) k*M6.val a0/2^w)).length<=8192/\(0:Int)<((k+1:Nat):Int)/\((k+1:Nat):Int)<18446744073709551616:=⟨M6.aY _,bPA,by omega,by omega⟩;have h4:k%4<4:=bWZ _ (by decide)
   by_cases c0:k%4=0
   ·obtain⟨x1,x2,x3⟩:=Qo a ha;rw[aQ,gP ⟨M6.aY _,M6.aY _,x3,by omega⟩,aQ,x2,cond_true,gP g1,gP g2,if_pos c0];exact ih (k+1) _ _ _ _ (by omega) (by rw[aVC];exact h0) x1 (up b hb) (up c hc) (up d hd)
   ·rw[aL,if_neg c0]
    by_cases c1:k%4=1
    ·obtain⟨x1,x2,x3⟩:=Qo b hb;rw[aQ,gP ⟨M6.aY _,M6.aY _,x3,by omega⟩,aL,aQ,x2,cond_true,gP g1,gP g2,if_pos c1];exact ih (k+1) _ _ _ _ (by omega) (by rw[aVC];exact h0) (up a ha) x1 (up c hc) (up d hd)
    ·rw[aL,if_neg c1]
     by_cases c2:k%4=2
     ·obtain⟨x1,x2,x3⟩:=Qo c hc;rw[aQ,gP ⟨M6.aY _,M6.aY _,x3,by omega⟩,aL,aL,aQ,x2,cond_true,gP g1,gP g2,if_pos c2];exact ih (k+1) _ _ _ _ (by omega) (by rw[aVC];exact h0) (up a ha) (up b hb) x1 (up d hd)
     ·obtain⟨x1,x2,x3⟩:=Qo d hd;rw[aL,aQ,gP ⟨M6.aY _,M6.aY _,x3,by omega⟩,aL,aL,aL,aQ,x2,cond_true,gP g1,gP g2,if_neg c2];exact ih (k+1) _ _ _ _ (by omega) (by rw[aVC];exact h0) (up a ha) (up b hb) (up c hc) x1
def aDV(u w:Nat):Nat:=(tay u (2^w) (w+1) 0 0 0 0 0).2.1-(tay u (2^w) (w+1) 0 0 0 0 0).2.2.2
def aDW(u w:Nat):Nat:=(tay u (2^w) (w+1) 0 0 0 0 0).1-(tay u (2^w) (w+1) 0 0 0 0 0).2.2.1
def sp(a:List Int)(w:Int):Prop×List D:=(M6.cR a/\0<=w/\w<=150000/\2*M6.val a<=2^w.toNat,[.s (.ints .u64 (M6.dg (aDV (M6.val a) w.toNat))),.s (.ints .u64 (M6.dg (aDW (M6.val a) w.toNat)))])
theorem spec:gU E f237 aE (pI .u64) (pN .i64) sp:=by
 rintro a w ⟨hn,w0,w1,hu⟩;refine(start a w).trans ?_;obtain⟨w,rfl⟩:=bZV w0;rw[bYO]at hu;have hl:a.length<=4096:=by
  have e:M6.dg (M6.val a)=a:=by first |exact hn |exact Eq.symm hn
  rw[<-e];exact fM (k:=4096) (bVN (dA.2 (show M6.val a<2^(w+1) by rw[bZQ];have:0<2^w:=bXR (by decide);omega)) (by omega))
 have so:kJ.jK 1 w=true:=by
  unfold kJ.jK;rw[show bl 1=1 from rfl,decide_eq_true (show 1+w<=524288 by omega),cAO]
 have l1:(M6.dg 1).length<=8192:=dV.lF (k:=1) (by decide) (by decide);unfold sp;simp only[M6.bN,bYO,so,cond_true,bYV,aG];rw[gP ⟨by decide,by decide⟩,gP ⟨M6.aY _,l1,by omega,by omega⟩,<-M6.cF];exact L hn hl (by omega) (by omega) (w+1) 0 0 0 0 0 (by omega) (by rw[bUT];exact R.aAW hu) (by omega) (by omega) (by omega) (by omega)
def aJ:dO:=orc2 (pI .u64) (pN .i64) sp
theorem ok:OK 237 aJ:=(fA E aE (aA kJ.ok (aA oA.ok (aA uE.ok (aA Mg.ok (aA nF.ok (aA uD.ok aD)))))) func237).mV rfl spec
end TSums
namespace aR
def E:=mE [(203,Ao.aJ),(235,THalvings.aJ),(236,uT.aJ),(237,TSums.aJ),(98,kJ.aJ),(95,oA.aJ),(238,Mg.aJ),(102,uD.aJ)] 91 [41,56,59,74,84] [(10,[4,5,7,10,12,50,51])] []
def aE:=bd f205
theorem aX:Nk E aE:=nk
def Gy a b c d e f g:=sJ E f205 aE 10 [iK a,iK b,cK c,cK d,iK e,cK f,cK g]
theorem start a c d b:aH E f205 aE [D.agg [sc (bool a),ints u64 c,sc (int i64 d)],D.s (sc (int i64 b))]=letI H:=dv (a,c,d);letI G:=M6.dg 1;aO (aP (a,c,d)) (aC (if H.fst=0 then(0:Int)else d+(↑(bl (M6.val c)):Int)-(1:Int)) fun e=>aO (i64.wrap (i64.wrap (b+80)-if 0<e then(0:Int)else e)<=150000) (aC (↑(THalvings.hlv (i64.wrap (i64.wrap (b+80)-if 0<e then(0:Int)else e)) 200 4):Int) fun f=>letI B:=i64.wrap (i64.wrap (b+80)-match BinOp.lss with |BinOp.gtr=>if(0:Int)>e then(0:Int)else e |x=>if 0<e then(0:Int)else e)+i64.wrap ((2:Int)*f);letI A:=i64.wrap (i64.wrap (b+80)-if 0<e then(0:Int)else e)+i64.wrap ((2:Int)*f);letI F:=i64.wrap A+f;letI C:=i64.wrap F;aO (aP (a,c,d)/\(-1099511627776:Int)<=i64.wrap A/\i64.wrap A<=1099511627776/\(0<=(a,c,d).snd.snd+i64.wrap B->fit (H.fst.natAbs*(2:Nat)^((a,c,d).snd.snd+i64.wrap B).toNat)=true)) (aC (M6.dg (uT.aNQ H (i64.wrap A))) fun g=>aO (M6.cR g/\0<=i64.wrap F/\i64.wrap F<=150000/\(2:Nat)*M6.val g<=(2:Nat)^C.toNat) (aC (M6.dg (TSums.aDV (M6.val g) C.toNat)) fun h=>aC (M6.dg (TSums.aDW (M6.val g) C.toNat)) fun i=>aO ((0:Int)<=(1:Int)/\(1:Int)<(18446744073709551616:Int)) (aO (M6.cR G/\G.length<=8192/\0<=i64.wrap F/\i64.wrap F<4611686018427387904) (aC (bif kJ.jK (M6.val G) C.toNat then M6.dg (M6.val G*(2:Nat)^C.toNat)else []) fun j=>aR.Gy h i C f j f 0)))))):=eJ aX
theorem qQ a b c d e f g:Gy a b c d e f g=letI B:=M6.dg 1;letI A:=i64.wrap ((2:Int)*d)+22;aB (decide (g<f)) (aO (M6.cR a/\M6.cR b/\a.length<=4096/\b.length<=4096/\0<=c/\c<4611686018427387904) (aC (M6.dg (M6.val a*M6.val b/(2:Nat)^c.toNat)) fun h=>aO (M6.cR h/\h.length<=8192/\(0:Int)<=(1:Int)/\(1:Int)<(4611686018427387904:Int)) (aC (bif kJ.jK (M6.val h) 1 then M6.dg (M6.val h*2)else []) fun i=>aO (M6.cR a/\M6.cR a/\a.length<=4096/\a.length<=4096/\0<=c/\c<4611686018427387904) (aC (M6.dg (M6.val a*M6.val a/(2:Nat)^c.toNat)) fun j=>aO (M6.cR j/\j.length<=8192/\(0:Int)<=(1:Int)/\(1:Int)<(4611686018427387904:Int)) (aC (bif kJ.jK (M6.val j) 1 then M6.dg (M6.val j*2)else []) fun k=>aO (M6.cR e/\M6.cR k/\e.length<=8192/\k.length<=8192) (aC (M6.dg (M6.val e-M6.val k)) fun l=>aR.Gy i l c d e f (i64.wrap (g+1)))))))) (aO ((0:Int)<=(1:Int)/\(1:Int)<(18446744073709551616:Int)) (aO (M6.cR B/\B.length<=8192/\0<=i64.wrap A/\i64.wrap A<4611686018427387904) (aC (bif kJ.jK (M6.val B) (i64.wrap A).toNat then M6.dg (M6.val B*(2:Nat)^(i64.wrap A).toNat)else []) fun m=>some [D.s (ints u64 a),D.s (ints u64 b),D.s (ints u64 m),D.s (sc (int i64 c))]))):=lJ aX
def iP(x:Int×Int):Int:=if x.1=0 then 0 else x.2+(bl x.1.natAbs:Nat)-1
def w0(x:Int×Int)(p:Int):Int:=p+80-if 0<iP x then 0 else iP x
def hv(x:Int×Int)(p:Int):Nat:=THalvings.hlv (w0 x p) 200 4
def w1(x:Int×Int)(p:Int):Int:=w0 x p+2*(hv x p:Nat)
def w2(x:Int×Int)(p:Int):Int:=w1 x p+(hv x p:Nat)
def bU(x:Int×Int)(p:Int):Nat:=uT.aNQ x (w1 x p)
def Bv(x:Int×Int)(p:Int):Nat×Nat:=R.Gf (2^(w2 x p).toNat) (hv x p) (TSums.aDV (bU x p) (w2 x p).toNat) (TSums.aDW (bU x p) (w2 x p).toNat)
def sp(x:gB)(p:Int):Prop×List D:=(aP x/\(1<=p/\p<=70000)/\(-70000<=iP (dv x)/\iP (dv x)<=100)/\bU (dv x) p<=2^(w1 (dv x) p).toNat,
 [.s (.ints .u64 (M6.dg (Bv (dv x) p).1)),.s (.ints .u64 (M6.dg (Bv (dv x) p).2)),.s (.ints .u64 (M6.dg (2^(2*hv (dv x) p+22)))),.s (.sc (.int .i64 (w2 (dv x) p)))])
theorem Yu(w:Int):∀f h,THalvings.hlv w f h<=h+f/\h<=THalvings.hlv w f h
 |0,h=>⟨bUR _,bUR _⟩
 |f+1,h=>by
  unfold THalvings.hlv;have:=Yu w f (h+1);split <;> omega
theorem aHT{u W:Nat}(hu:u<=W):∀f k a b c d,a<=k*W->b<=k*W->c<=k*W->d<=k*W ->
  (TSums.tay u W f k a b c d).1<=(k+f)*W/\(TSums.tay u W f k a b c d).2.1<=(k+f)*W
 |0,k,a,b,c,d,ha,hb,_,_=>⟨ha,hb⟩
 |f+1,k,a,b,c,d,ha,hb,hc,hd=>by
  have hs:=TSums.Jp hu k;have e:(k+1)*W=k*W+W:=by rw[bVL,bYV]
  have e2:k*W<=(k+(f+1))*W:=bWG _ (by omega);have e3:k+1+f=k+(f+1):=by omega
  have r:=fun a b c d h1 h2 h3 h4=>e3▸aHT hu f (k+1) a b c d h1 h2 h3 h4
  unfold TSums.tay;split
  ·exact⟨bVN ha e2,bVN hb e2⟩
  ·split
   ·exact r _ _ _ _ (by omega) (by omega) (by omega) (by omega)
   ·split
    ·exact r _ _ _ _ (by omega) (by omega) (by omega) (by omega)
    ·split
     ·exact r _ _ _ _ (by omega) (by omega) (by omega) (by omega)
     ·exact r _ _ _ _ (by omega) (by omega) (by omega) (by omega)
theorem L{w:Nat}(hw:w<=150000)(x3:Nat)(h3:x3<=1000):∀(d k s c:Nat),k+d=x3->s<2^(w+20*(k+1))->c<2^(w+18)->k+d<=210 ->
  Gy (M6.dg s) (M6.dg c) w x3 (M6.dg (2^w)) x3 k=some [.s (.ints .u64 (M6.dg (R.Gf (2^w) d s c).1)),.s (.ints .u64 (M6.dg (R.Gf (2^w) d s c).2)),.s (.ints .u64 (M6.dg (2^(2*x3+22)))),.s (.sc (.int .i64 w))]
 |0,k,s,c,hk,hs,hc,hb=>by
  have e1:i64.wrap (2*(x3:Int))=2*(x3:Int):=wrap_i64;have e2:i64.wrap (2*(x3:Int)+22)=((2*x3+22:Nat):Int):=by rw[wrap_i64];omega
  have so:kJ.jK 1 (2*x3+22)=true:=by
   unfold kJ.jK;rw[show bl 1=1 from rfl,decide_eq_true (show 1+(2*x3+22)<=524288 by omega),cAO]
  have l1:(M6.dg 1).length<=8192:=dV.lF (k:=1) (by decide) (by decide);rw[qQ,aL,e1,e2];simp only[aG,M6.bN,bYO,so,cond_true,bYV];rw[gP ⟨by decide,by decide⟩,gP ⟨M6.aY _,l1,by omega,by omega⟩];rfl
 |d+1,k,s,c,hk,hs,hc,hb=>by
  have e:i64.wrap ((k:Int)+1)=((k+1:Nat):Int):=by rw[wrap_i64];omega
  have ls:(M6.dg s).length<=4096:=fM (k:=4096) (bVN (dA.2 hs) (by omega));have lc:(M6.dg c).length<=4096:=fM (k:=4096) (bVN (dA.2 hc) (by omega));have W0:0<2^w:=bXR (by decide);have b1:s*c/2^w<2^(w+20*(k+1)+18):=by
   apply cAJ;have:2^w*2^(w+20*(k+1)+18)=2^(w+20*(k+1))*2^(w+18):=by rw[<-bZS,<-bZS];congr 1;omega
   rw[this];exact cCV hs hc
  have b2:s*s/2^w<2^(w+40*(k+1)):=by
   apply cAJ;have:2^w*2^(w+40*(k+1))=2^(w+20*(k+1))*2^(w+20*(k+1)):=by rw[<-bZS,<-bZS];congr 1;omega
   rw[this];exact cCV hs hs
  have so:∀n,bl n<=500000->kJ.jK n 1=true:=fun n hn=>by
   unfold kJ.jK;rw[decide_eq_true (show bl n+1<=524288 by omega),cAO]
  have f1:=so _ (bVN (dA.2 b1) (by omega));have f2:=so _ (bVN (dA.2 b2) (by omega));have b3:s*s/2^w*2<2^(w+40*(k+1)+1):=by rw[bZQ];omega
  have b4:s*c/2^w*2<2^(w+20*(k+1+1)):=by
   have:2^(w+20*(k+1)+18)*2<=2^(w+20*(k+1+1)):=by rw[<-bZQ];exact bXS (by decide) (by omega)
   omega
  have b5:2^w-s*s/2^w*2<2^(w+18):=cBA (cBH _ _) (cCA (by decide) (by omega));rw[qQ,aQ];simp only[aG,M6.bN,bYO,f1,f2,cond_true,e];rw[gP ⟨M6.aY _,M6.aY _,ls,lc,by omega,by omega⟩,gP ⟨M6.aY _,dV.lF b1 (by omega),by decide,by decide⟩,gP ⟨M6.aY _,M6.aY _,ls,ls,by omega,by omega⟩,gP ⟨M6.aY _,dV.lF b2 (by omega),by decide,by decide⟩,
   gP ⟨M6.aY _,M6.aY _,dV.lF (cCA (by decide) (cIU w)) (by omega),dV.lF b3 (by omega)⟩]
  have r:=L hw x3 h3 d (k+1) (s*c/2^w*2) (2^w-s*s/2^w*2) (by omega) b4 b5 (by omega);rw[R.Pl,bZP 2 (s*c/2^w),bZP 2 (s*s/2^w)];exact r
theorem spec:gU E f205 aE iW (pN .i64) sp:=by
 rintro x p ⟨hx,⟨p0,p1⟩,⟨t0,t1⟩,hu⟩;refine(start x.1 x.2.1 x.2.2 p).trans ?_;have he:=hx.2.1;have ha:(dv x).1.natAbs=M6.val x.2.1:=iF (x.1,x.2.1);have hT:(if(dv (x.1,x.2.1,x.2.2)).1=0 then 0 else x.2.2+(bl (M6.val x.2.1):Int)-1)=iP (dv x):=by rw[<-ha];rfl
 have aYN:w0 (dv x) p=p+80-if 0<iP (dv x)then 0 else iP (dv x):=rfl
 have r0:1<=w0 (dv x) p/\w0 (dv x) p<=140080:=by rw[aYN];split <;> omega
 have e1:i64.wrap (p+80)=p+80:=wrap_i64;have e2:i64.wrap (p+80-if 0<iP (dv x)then 0 else iP (dv x))=w0 (dv x) p:=by rw[<-aYN];exact wrap_i64
 have hh:=Yu (w0 (dv x) p) 200 4;have hv0:THalvings.hlv (w0 (dv x) p) 200 4=hv (dv x) p:=rfl;rw[hv0]at hh;have bCI:w1 (dv x) p=w0 (dv x) p+2*((hv (dv x) p:Nat):Int):=rfl;have bER:w2 (dv x) p=w1 (dv x) p+((hv (dv x) p:Nat):Int):=rfl;have e3:i64.wrap (2*((hv (dv x) p:Nat):Int))=2*((hv (dv x) p:Nat):Int):=wrap_i64;have e4:i64.wrap (w0 (dv x) p+2*((hv (dv x) p:Nat):Int))=w1 (dv x) p:=by rw[bCI];exact wrap_i64
 have e5:i64.wrap (w1 (dv x) p+((hv (dv x) p:Nat):Int))=w2 (dv x) p:=by rw[bER];exact wrap_i64
 have hU:uT.aNQ (dv x) (w1 (dv x) p)=bU (dv x) p:=rfl;have aUN:(x.1,x.2.1,x.2.2)=x:=rfl;simp only[hT,aG,e1,e2,hv0,e3,e4,e5,aUN,M6.bN,hU];obtain⟨w,hw⟩:=bZV (show 0<=w2 (dv x) p by omega);have bST:2*bU (dv x) p<=2^w:=by
  have:2^(w1 (dv x) p).toNat*2<=2^w:=by rw[<-bZQ];exact bXS (by decide) (by omega)
  omega
 have so:kJ.jK 1 w=true:=by
  unfold kJ.jK;rw[show bl 1=1 from rfl,decide_eq_true (show 1+w<=524288 by omega),cAO]
 have l1:(M6.dg 1).length<=8192:=dV.lF (k:=1) (by decide) (by decide);have aKG:0<=x.2.2+w1 (dv x) p->fit ((dv x).1.natAbs*2^(x.2.2+w1 (dv x) p).toNat)=true:=fun hc=>by
  have:bU (dv x) p=(dv x).1.natAbs*2^(x.2.2+w1 (dv x) p).toNat:=by
   rw[<-hU];unfold uT.aNQ;exact if_pos hc
  rw[<-this];exact decide_eq_true (bVN (dA.2 (cBA hu (cCA (by decide) (cIU _)))) (by omega))
 unfold sp Bv;dsimp only;have hwb:w<=141000:=by omega
 rw[hw];rw[bYO,so,cond_true,bYV];rw[gP hx,gP,gP ⟨hx,by omega,by omega,aKG⟩,gP ⟨M6.aY _,by omega,by omega,bST⟩,gP ⟨by decide,by decide⟩,gP ⟨M6.aY _,l1,by omega,by omega⟩];obtain⟨g1,g2⟩:=aHT (u:=bU (dv x) p) (W:=2^w) (by omega) (w+1) 0 0 0 0 0 (by omega) (by omega) (by omega) (by omega);have pw:(0+(w+1))*2^w<2^(w+18):=by
  rw[bZS,bZP];exact cIW (by omega) (bXR (by decide))
 have hs:TSums.aDV (bU (dv x) p) w<2^(w+18):=cBA (bVN (cBH _ _) g2) pw;have hc:TSums.aDW (bU (dv x) p) w<2^(w+18):=cBA (bVN (cBH _ _) g1) pw;exact L (by omega) (hv (dv x) p) (by omega) (hv (dv x) p) 0 _ _ (by omega) (bVO hs (bXS (by decide) (by omega))) hc (by omega)
def aJ:dO:=orc2 iW (pN .i64) sp
theorem ok:OK 205 aJ:=(fA E aE (aA Ao.ok (aA THalvings.ok (aA uT.ok (aA TSums.ok (aA kJ.ok (aA oA.ok (aA Mg.ok (aA uD.ok aD)))))))) func205).mV rfl spec
end aR
namespace Xa
def E:=mE [(239,Ap.aJ),(45,lO.aJ),(240,cD.aJ)] 25 [22] [] []
def aE:=bd f209
theorem aX:Nk E aE:=nk
theorem start a d e b c:aH E f209 aE [D.agg [sc (bool a),ints u64 d,sc (int i64 e)],D.s (sc (int i64 b)),D.s (sc (bool c))]=letI A:=cD.nO c (wv (a,d)) e b;letI B:=bif gT A.fst A.snd then aN A.fst A.snd else((0:Int),(0:Int));aO True (aC (decide (1<=b)&&decide (b<=70000)) fun f=>aB (!f) (some [D.agg [sc (bool false),sc (slice none 0 0),sc (int i64 0)],D.s (sc (int i64 1))]) (aO (aP (a,d,e)) (aO (gI (a,d)/\((-4611686018427387904:Int)<=e/\e<4611686018427387904)/\1<=b/\b<=70000) (aC (isNeg B.fst) fun g=>aC (M6.dg B.fst.natAbs) fun h=>aC B.snd fun i=>aC (bif gT A.fst A.snd then(0:Int)else(5:Int)) fun j=>some [D.agg [sc (bool g),ints u64 h,sc (int i64 i)],D.s (sc (int i64 j))])))):=eJ aX
def sp(x:gB)(p:Int)(up:Bool):Prop×List D:=(aP x/\1<=p/\p<=70000,dE (gT (cD.nO up (dv x).1 (dv x).2 p).1 (cD.nO up (dv x).1 (dv x).2 p).2) (aN (cD.nO up (dv x).1 (dv x).2 p).1 (cD.nO up (dv x).1 (dv x).2 p).2))
theorem spec:oP E f209 aE iW (pN .i64) pB sp:=by
 rintro x p up ⟨hx,h1,h2⟩;have he:=hx.2.1;refine(start x.1 x.2.1 x.2.2 p up).trans ?_;simp only[aG];rw[gP trivial,decide_eq_true h1,decide_eq_true h2,bXT,bWR,bF,gP hx,gP ⟨hx.Db,⟨by omega,by omega⟩,h1,h2⟩];rfl
def aJ:dO:=orc3 iW (pN .i64) pB sp
theorem ok:OK 209 aJ:=(fA E aE (aA Ap.ok (aA lO.ok (aA cD.ok aD))) func209).yM rfl spec
end Xa
namespace Mu
def E:=mE [(209,Xa.aJ)] 11 [8] [] []
def aE:=bd f162
theorem aX:Nk E aE:=nk
theorem start a c d b:aH E f162 aE [D.agg [sc (bool a),ints u64 c,sc (int i64 d)],D.s (sc (int i64 b))]=letI A:=cD.nO false (dv (a,c,d)).fst (dv (a,c,d)).snd b;letI B:=bif gT A.fst A.snd then aN A.fst A.snd else((0:Int),(0:Int));aO (aP (a,c,d)/\1<=b/\b<=70000) (some [D.agg [sc (bool (isNeg B.fst)),ints u64 (M6.dg B.fst.natAbs),sc (int i64 B.snd)],D.s (sc (int i64 (bif gT A.fst A.snd then(0:Int)else(5:Int))))]):=eJ aX
def sp(x:gB)(p:Int):Prop×List D:=(aP x/\1<=p/\p<=70000,dE (gT (cD.nO false (dv x).1 (dv x).2 p).1 (cD.nO false (dv x).1 (dv x).2 p).2) (aN (cD.nO false (dv x).1 (dv x).2 p).1 (cD.nO false (dv x).1 (dv x).2 p).2))
theorem spec:gU E f162 aE iW (pN .i64) sp:=by
 intro x p h;refine(start x.1 x.2.1 x.2.2 p).trans ((gP h).trans ?_);rfl
def aJ:dO:=orc2 iW (pN .i64) sp
theorem ok:OK 162 aJ:=(fA E aE (aA Xa.ok aD) func162).mV rfl spec
end Mu
namespace aXO
def E:=mE [(209,Xa.aJ)] 11 [8] [] []
def aE:=bd f163
theorem aX:Nk E aE:=nk
theorem start a c d b:aH E f163 aE [D.agg [sc (bool a),ints u64 c,sc (int i64 d)],D.s (sc (int i64 b))]=letI A:=cD.nO true (dv (a,c,d)).fst (dv (a,c,d)).snd b;letI B:=bif gT A.fst A.snd then aN A.fst A.snd else((0:Int),(0:Int));aO (aP (a,c,d)/\1<=b/\b<=70000) (some [D.agg [sc (bool (isNeg B.fst)),ints u64 (M6.dg B.fst.natAbs),sc (int i64 B.snd)],D.s (sc (int i64 (bif gT A.fst A.snd then(0:Int)else(5:Int))))]):=eJ aX
def sp(x:gB)(p:Int):Prop×List D:=(aP x/\1<=p/\p<=70000,dE (gT (cD.nO true (dv x).1 (dv x).2 p).1 (cD.nO true (dv x).1 (dv x).2 p).2) (aN (cD.nO true (dv x).1 (dv x).2 p).1 (cD.nO true (dv x).1 (dv x).2 p).2))
theorem spec:gU E f163 aE iW (pN .i64) sp:=by
 intro x p h;refine(start x.1 x.2.1 x.2.2 p).trans ((gP h).trans ?_);rfl
def aJ:dO:=orc2 iW (pN .i64) sp
theorem ok:OK 163 aJ:=(fA E aE (aA Xa.ok aD) func163).mV rfl spec
end aXO
namespace bD
def E:=mE [(102,uD.aJ),(100,uE.aJ),(50,iX.aJ),(162,Mu.aJ),(163,aXO.aJ),(158,Hy.aJ),(14,aNF.aJ)] 71 [] [] []
def aE:=bd f206
theorem aX:Nk E aE:=nk
theorem start a b c d:aH E f206 aE [D.s (ints u64 a),D.s (ints u64 b),D.s (sc (int i64 c)),D.s (sc (int i64 d))]=letI P:=M6.val a+M6.val b;letI N:=aN 1 0;letI O:=M6.dg N.fst.natAbs;letI K:=M6.cR a/\M6.cR b/\a.length<=8192/\b.length<=8192;letI I:=i64.wrap ((0:Int)-c);aO K (aC (M6.dg (M6.val a-M6.val b)) fun e=>letI C:=bif gT (wv (false,e)) I then aN (wv (false,e)) I else((0:Int),(0:Int));aO K (aC (bif cP.mL P then M6.dg P else []) fun f=>letI F:=bif gT (wv (false,f)) I then aN (wv (false,f)) I else((0:Int),(0:Int));aO (gI (false,e)/\(-9223372036854775808:Int)<=i64.wrap ((0:Int)-c)/\i64.wrap ((0:Int)-c)<9223372036854775808) (aC (isNeg C.fst) fun g=>aC (M6.dg C.fst.natAbs) fun h=>aC C.snd fun i=>letI A:=cD.nO false (dv (g,h,i)).fst (dv (g,h,i)).snd d;letI G:=bif gT A.fst A.snd then aN A.fst A.snd else((0:Int),(0:Int));aO (gI (false,f)/\(-9223372036854775808:Int)<=i64.wrap ((0:Int)-c)/\i64.wrap ((0:Int)-c)<9223372036854775808) (aC (isNeg F.fst) fun j=>aC (M6.dg F.fst.natAbs) fun k=>aC F.snd fun l=>letI B:=cD.nO true (dv (j,k,l)).fst (dv (j,k,l)).snd d;letI H:=bif gT B.fst B.snd then aN B.fst B.snd else((0:Int),(0:Int));aO (aP (g,h,i)/\1<=d/\d<=70000) (aC (isNeg G.fst) fun m=>aC (M6.dg G.fst.natAbs) fun n=>aC G.snd fun o=>aO (aP (j,k,l)/\1<=d/\d<=70000) (aC (isNeg H.fst) fun p=>aC (M6.dg H.fst.natAbs) fun q=>aC H.snd fun r=>aO ((-9223372036854775808:Int)<=(1:Int)/\(1:Int)<(9223372036854775808:Int)) (aC (isNeg N.fst) fun s=>aC O fun t=>aC N.snd fun u=>aO (aP (p,q,r)/\aP (s,t,u)) (aC (lH (bI.mY (dv (p,q,r)) (dv (s,t,u))) (bI.mW (dv (p,q,r)) (dv (s,t,u)))) fun v=>aB (decide (0<v)) (aO ((-9223372036854775808:Int)<=(1:Int)/\(1:Int)<(9223372036854775808:Int)) (aC (isNeg N.fst) fun w=>aC O fun x=>aC N.snd fun y=>some [D.agg [sc (bool m),ints u64 n,sc (int i64 o),sc (bool w),ints u64 x,sc (int i64 y)]])) (some [D.agg [sc (bool m),ints u64 n,sc (int i64 o),sc (bool p),ints u64 q,sc (int i64 r)]]))))))))):=eJ aX
def Hv(a f:Nat)(w:Int):Int×Int:=aN ((a-f:Nat):Int) (-w)
def Ca(a f:Nat)(w:Int):Int×Int:=aN ((a+f:Nat):Int) (-w)
def xS(p:Int×Int):Int×Int:=bif decide (0<eB p (1,0))then(1,0)else p
def sp(a f:List Int)(w q:Int):Prop×List D:=(M6.cR a/\M6.cR f/\bl (M6.val a)<=500000/\bl (M6.val f)<=500000/\(0<=w/\w<=500000)/\(1<=q/\q<=70000)/\wZ false (Hv (M6.val a) (M6.val f) w) q=true/\wZ true (Ca (M6.val a) (M6.val f) w) q=true/\jJ (shD true (Ca (M6.val a) (M6.val f) w) q),
 [uV (shD false (Hv (M6.val a) (M6.val f) w) q) (xS (shD true (Ca (M6.val a) (M6.val f) w) q))])
theorem spec:Of E f206 aE (pI .u64) (pI .u64) (pN .i64) (pN .i64) sp:=by
 rintro a f w q ⟨ha,hf,ba,bf,⟨w0,w1⟩,⟨q0,q1⟩,i1,i2,pu⟩;refine(start a f w q).trans ?_;have la:a.length<=8192:=by
  have e:M6.dg (M6.val a)=a:=by first |exact ha |exact Eq.symm ha
  rw[<-e];exact fM (k:=8192) (by omega)
 have lf:f.length<=8192:=by
  have e:M6.dg (M6.val f)=f:=by first |exact hf |exact Eq.symm hf
  rw[<-e];exact fM (k:=8192) (by omega)
 have vN:∀n:Nat,wv (false,M6.dg n)=(n:Int):=fun n=>by show(M6.val (M6.dg n):Int)=n;rw[M6.bN]
 have wN:∀n:Nat,bl n<=524288->gI (false,M6.dg n):=fun n hn=>by
  have:=fT (z:=(n:Int)) (by rw[cAH];exact hn);rw[iM.2 (by omega),cAH]at this;exact this
 have bs:bl (M6.val a-M6.val f)<=500000:=bVN (fX (cBH _ _)) ba;have bt:bl (M6.val a+M6.val f)<=500001:=by
  have h1:=dA.1 ba;have h2:=dA.1 bf;refine dA.2 ?_;rw[bZQ 2 500000];generalize 2^500000=Q at *;omega
 have ok:cP.mL (M6.val a+M6.val f)=true:=decide_eq_true (fM (k:=8192) (by omega));have ew:i64.wrap (0-w)=-w:=by rw[wrap_i64];omega
 have j1:gT ((M6.val a-M6.val f:Nat):Int) (-w)=true:=gO (by omega) (by rw[cAH];omega);have j2:gT ((M6.val a+M6.val f:Nat):Int) (-w)=true:=gO (by omega) (by rw[cAH];omega);have p1:jJ (Hv (M6.val a) (M6.val f) w):=gJ j1 (by rw[cAH];omega);have p2:jJ (Ca (M6.val a) (M6.val f) w):=gJ j2 (by rw[cAH];omega);have c1:=dT (Hv (M6.val a) (M6.val f) w);have c2:=dT (Ca (M6.val a) (M6.val f) w);have n1:aN 1 0=(1,0):=by decide +kernel
 have pn:jJ (1,0):=⟨by decide +kernel,⟨by decide,by decide⟩,fun h=>absurd h (by decide),fun _=>by decide⟩;have d1:=dJ pn;have v1:=dT ((1,0):Int×Int);rw[gP ⟨ha,hf,la,lf⟩,aG,gP ⟨ha,hf,la,lf⟩];simp only[aG,ok,cond_true,vN,ew,j1,j2,n1];rw[gP ⟨wN _ (by omega),by omega,by omega⟩,gP ⟨wN _ (by omega),by omega,by omega⟩];have eL:aN ((M6.val a-M6.val f:Nat):Int) (-w)=Hv (M6.val a) (M6.val f) w:=rfl;have eH:aN ((M6.val a+M6.val f:Nat):Int) (-w)=Ca (M6.val a) (M6.val f) w:=rfl;unfold sp xS;dsimp only;rw[eL,eH];generalize Hv (M6.val a) (M6.val f) w=L at *;generalize Ca (M6.val a) (M6.val f) w=H at *;have bGI:gT (cD.nO false L.1 L.2 q).1 (cD.nO false L.1 L.2 q).2=true:=i1;have bGH:gT (cD.nO true H.1 H.2 q).1 (cD.nO true H.1 H.2 q).2=true:=i2;have cu:=dT (shD true H q);have du:=dJ pu;have eU:aN (cD.nO true H.1 H.2 q).1 (cD.nO true H.1 H.2 q).2=shD true H q:=rfl;have eD:aN (cD.nO false L.1 L.2 q).1 (cD.nO false L.1 L.2 q).2=shD false L q:=rfl;simp only[c1,c2,bGI,bGH,cond_true,eU,eD,cu,v1];rw[gP ⟨dJ p1,q0,q1⟩,gP ⟨dJ p2,q0,q1⟩,gP ⟨by decide,by decide⟩,gP ⟨du,d1⟩];show aB (decide (0<eB (shD true H q) (1,0))) _ _=_
 by_cases g:0<eB (shD true H q) (1,0)
 ·rw[aQ g,decide_eq_true g,cond_true,gP ⟨by decide,by decide⟩];rfl
 ·rw[aL g,decide_eq_false g,cond_false];rfl
def aJ:dO:=orc4 (pI .u64) (pI .u64) (pN .i64) (pN .i64) sp
theorem ok:OK 206 aJ:=(fA E aE (aA uD.ok (aA uE.ok (aA iX.ok (aA Mu.ok (aA aXO.ok (aA Hy.ok (aA aNF.ok aD))))))) func206).aNM rfl spec
end bD
namespace bC
def E:=mE [(202,Mh.aJ),(203,Ao.aJ),(50,iX.aJ),(51,aFX.aJ),(59,Tc.aJ),(14,aNF.aJ),(205,aR.aJ),(206,bD.aJ)] 63 [] [] []
def aE:=bd f160
theorem aX:Nk E aE:=nk
theorem start a c d b:aH E f160 aE [D.agg [sc (bool a),ints u64 c,sc (int i64 d)],D.s (sc (int i64 b))]=letI Q:=wv (isNeg 1,M6.dg (cEO 1));letI N:=i64.wrap (b+32);letI I:=i64.wrap ((0:Int)-b)-3;letI H:=dv (a,c,d);letI G:=aN 1 0;letI T:=isNeg G.fst;letI K:=M6.dg G.fst.natAbs;letI A:=bif gT Q (i64.wrap I)then aN Q (i64.wrap I)else((0:Int),(0:Int));aB ((c.length:Int)==(0:Int)) (aO ((-1000000:Int)<=(1:Int)/\(1:Int)<=(1000000:Int)) (aC T fun e=>aC K fun f=>aC G.snd fun g=>aC T fun h=>aC K fun i=>aC G.snd fun j=>some [D.agg [sc (bool e),ints u64 f,sc (int i64 g),sc (bool h),ints u64 i,sc (int i64 j)]])) (aO (aP (a,c,d)) (aC (if H.fst=0 then(0:Int)else d+(↑(bl (M6.val c)):Int)-(1:Int)) fun k=>aB (decide (i64.wrap (i64.wrap ((2:Int)*k)+8)<i64.wrap ((0:Int)-b))) (aO ((-9223372036854775808:Int)<=(1:Int)/\(1:Int)<(9223372036854775808:Int)) (aO (gI (isNeg 1,M6.dg 1)/\(-9223372036854775808:Int)<=i64.wrap I/\i64.wrap I<9223372036854775808) (aC (isNeg A.fst) fun l=>aC (M6.dg A.fst.natAbs) fun m=>aC A.snd fun n=>letI U:=dv (l,m,n);aO ((-9223372036854775808:Int)<=(1:Int)/\(1:Int)<(9223372036854775808:Int)) (aC T fun o=>aC K fun p=>aC G.snd fun q=>letI B:=bif bI.jW (dv (o,p,q)) (-U.fst,U.snd)then bI.nC (dv (o,p,q)) (-U.fst,U.snd)else((0:Int),(0:Int));aO (aP (o,p,q)/\aP (l,m,n)) (aC (isNeg B.fst) fun r=>aC (M6.dg B.fst.natAbs) fun s=>aC B.snd fun t=>aO ((-9223372036854775808:Int)<=(1:Int)/\(1:Int)<(9223372036854775808:Int)) (aC T fun u=>aC K fun v=>aC G.snd fun w=>some [D.agg [sc (bool r),ints u64 s,sc (int i64 t),sc (bool u),ints u64 v,sc (int i64 w)]])))))) (aO (aP (a,c,d)/\(1<=b/\b<=70000)/\((-70000:Int)<=aR.iP H/\aR.iP H<=100)/\aR.bU H b<=(2:Nat)^(aR.w1 H b).toNat) (aC (M6.dg (aR.Bv H b).snd) fun x=>aC (M6.dg ((2:Nat)^((2:Nat)*aR.hv H b+22))) fun y=>aC (aR.w2 H b) fun z=>letI P:=bD.Ca (M6.val x) (M6.val y) z;letI O:=bD.Hv (M6.val x) (M6.val y) z;letI F:=M.shD false O N;letI C:=M.shD true P N;letI W:=bD.xS C;aO (M6.cR x/\M6.cR y/\bl (M6.val x)<=500000/\bl (M6.val y)<=500000/\(0<=z/\z<=500000)/\(1<=i64.wrap (b+32)/\i64.wrap (b+32)<=70000)/\wZ false O N=true/\wZ true P N=true/\jJ C) (aC (isNeg F.fst) fun aa=>aC (M6.dg F.fst.natAbs) fun ab=>aC F.snd fun ac=>aC (isNeg W.fst) fun ad=>aC (M6.dg W.fst.natAbs) fun ae=>aC W.snd fun af=>some [D.agg [sc (bool aa),ints u64 ab,sc (int i64 ac),sc (bool ad),ints u64 ae,sc (int i64 af)]]))))):=eJ aX
def rN(x:Int×Int)(p:Int):Int×Int:=if x.1=0 then(1,0)else if 2*aR.iP x+8 < -p then bI.nC (1,0) (-1,-p-3)else shD false (bD.Hv (aR.Bv x p).2 (2^(2*aR.hv x p+22)) (aR.w2 x p)) (p+32)
def qN(x:Int×Int)(p:Int):Int×Int:=if x.1=0 then(1,0)else if 2*aR.iP x+8 < -p then(1,0)else bD.xS (shD true (bD.Ca (aR.Bv x p).2 (2^(2*aR.hv x p+22)) (aR.w2 x p)) (p+32))
def Sg(x:Int×Int)(p:Int):Prop:=(-70000<=aR.iP x/\aR.iP x<=100)/\aR.bU x p<=2^(aR.w1 x p).toNat
def aMM(a f:Nat)(w q:Int):Prop:=bl a<=500000/\bl f<=500000/\(0<=w/\w<=500000)/\wZ false (bD.Hv a f w) q=true/\wZ true (bD.Ca a f w) q=true/\jJ (shD true (bD.Ca a f w) q)
def aFM(x:gB)(p:Int):Prop:=aP x/\(1<=p/\p<=67100)/\((dv x).1≠0->-600000<=aR.iP (dv x)/\(2*aR.iP (dv x)+8 < -p->bI.jW (1,0) (-1,-p-3)=true) /\
 (¬2*aR.iP (dv x)+8 < -p->Sg (dv x) p/\aMM (aR.Bv (dv x) p).2 (2^(2*aR.hv (dv x) p+22)) (aR.w2 (dv x) p) (p+32)))
def sp(x:gB)(p:Int):Prop×List D:=(aFM x p,
 [uV (rN (dv x) p) (qN (dv x) p)])
theorem spec:gU E f160 aE iW (pN .i64) sp:=by
 rintro x p ⟨hx,⟨p0,p1⟩,h⟩;refine(start x.1 x.2.1 x.2.2 p).trans ?_;have hz:=M6.dY hx.Hp;have hl:=hx.len;have he:=hx.2.1;have ha:(dv x).1.natAbs=M6.val x.2.1:=iF (x.1,x.2.1);have aUN:(x.1,x.2.1,x.2.2)=x:=rfl;have n1:aN 1 0=(1,0):=by decide +kernel
 have v1:wv (isNeg 1,M6.dg (cEO 1))=1:=nA 1;have hT:(if(dv x).1=0 then 0 else x.2.2+(bl (M6.val x.2.1):Int)-1)=aR.iP (dv x):=by rw[<-ha];rfl
 have k1:gI (isNeg 1,M6.dg 1):=fT (z:=1) (by decide +kernel);have pn:jJ (1,0):=⟨by decide +kernel,⟨by decide,by decide⟩,fun h=>absurd h (by decide),fun _=>by decide⟩;unfold sp rN qN;dsimp only
 by_cases c0:(dv x).1=0
 ·rw[cN (by have:=hz.2 (by omega);omega),gP ⟨by decide,by decide⟩,if_pos c0,if_pos c0];simp only[aG,n1];rfl
 ·obtain⟨t0,hA,hB⟩:=h c0;have tt:=hx.uZ.top;have l0:x.2.1.length≠0:=fun hc=>c0 (by have:=hz.1 hc;omega)
  simp only[aUN,hT,aG,n1,v1];rw[bM,if_neg c0,if_neg c0];have tU:aR.iP (dv x)<=1572864:=by unfold aR.iP;rw[if_neg c0];exact tt.2
  have w1:i64.wrap (i64.wrap (2*aR.iP (dv x))+8)=2*aR.iP (dv x)+8:=by rw[wrap_i64 (n:=2*aR.iP (dv x)),wrap_i64]
  have w2:i64.wrap (0-p)=-p:=by rw[wrap_i64];omega
  have w3:i64.wrap (-p-3)=-p-3:=wrap_i64;have w4:i64.wrap (p+32)=p+32:=wrap_i64;simp only[w1,w2,w3,w4];rw[gP hx]
  by_cases c1:2*aR.iP (dv x)+8 < -p
  ·have b1:bl (cEO 1)=1:=rfl;have i1:gT 1 (-p-3)=true:=gO (by omega) (by rw[b1];omega);have m1:aN 1 (-p-3)=(1,-p-3):=by
    unfold aN;rw[if_neg (by decide),show tz (cEO 1)=0 from by decide +kernel];simp
   have pg:jJ (1,-p-3):=m1▸gJ i1 (by decide +kernel);have d1:=dJ pn;have d2:=dJ pg;have e1:=dT ((1,0):Int×Int);have e2:=dT ((1,-p-3):Int×Int);rw[aQ c1,if_pos c1,if_pos c1];simp only[i1,m1,cond_true,e1,e2,hA c1];rw[gP ⟨by decide,by decide⟩,gP ⟨k1,by omega,by omega⟩,gP ⟨by decide,by decide⟩,gP ⟨d1,d2⟩,gP ⟨by decide,by decide⟩];rfl
  ·obtain⟨⟨b1,b2⟩,a1,a2,a3,a4,a5,a6⟩:=hB c1;rw[aL c1,if_neg c1,if_neg c1];simp only[M6.bN];rw[gP ⟨hx,⟨by omega,by omega⟩,b1,b2⟩,gP ⟨M6.aY _,M6.aY _,a1,a2,a3,⟨by omega,by omega⟩,a4,a5,a6⟩];rfl
def aJ:dO:=orc2 iW (pN .i64) sp
theorem ok:OK 160 aJ:=(fA E aE (aA Mh.ok (aA Ao.ok (aA iX.ok (aA aFX.ok (aA Tc.ok (aA aNF.ok (aA aR.ok (aA bD.ok aD)))))))) func160).mV rfl spec
end bC
namespace jY
def E:=mE [(67,uU.aJ),(68,aNG.aJ)] 27 [] [] []
def aE:=bd f20
theorem aX:Nk E aE:=nk
theorem start a b c d e f:aH E f20 aE [D.agg [sc (bool a),ints u64 b,sc (int i64 c),sc (bool d),ints u64 e,sc (int i64 f)]]=letI B:=dv (a,b,c);letI A:=dv (d,e,f);aO (eQ (a,b,c,d,e,f)) (aO (aP (d,e,f)) (aC (isNeg (-A.fst)) fun g=>aC (M6.dg (-A.fst).natAbs) fun h=>aC A.snd fun i=>aO (aP (a,b,c)) (aC (isNeg (-B.fst)) fun j=>aC (M6.dg (-B.fst).natAbs) fun k=>aC B.snd fun l=>some [D.agg [sc (bool g),ints u64 h,sc (int i64 i),sc (bool j),ints u64 k,sc (int i64 l)],D.s (sc (int i64 0))]))):=eJ aX
def wI(p:Int×Int):Int×Int:=(-p.1,p.2)
def sp(s:wW):Prop×List D:=(eQ s,[uV (wI (dv (gX s))) (wI (dv (gW s))),.s (.sc (.int .i64 0))])
theorem spec:jD E f20 aE yH sp:=by
 intro s h;have h:eQ s:=h;have hL:aP (s.1,s.2.1,s.2.2.1):=h.1;have hH:aP (s.2.2.2.1,s.2.2.2.2.1,s.2.2.2.2.2):=h.2.1;refine(start s.1 s.2.1 s.2.2.1 s.2.2.2.1 s.2.2.2.2.1 s.2.2.2.2.2).trans ?_;simp only[aG];rw[gP h,gP hH]
 (try simp only[aG])
 rw[gP hL];rfl
def aJ:dO:=orc1 yH sp
theorem ok:OK 20 aJ:=(fA E aE (aA uU.ok (aA aNG.ok aD)) func20).pU rfl spec
end jY
namespace Gu
def E:=mE [(20,jY.aJ)] 12 [] [] []
def aE:=bd f204
theorem aX:Nk E aE:=nk
theorem start a c d e f g b:aH E f204 aE [D.agg [sc (bool a),ints u64 c,sc (int i64 d),sc (bool e),ints u64 f,sc (int i64 g)],D.s (sc (bool b))]=letI A:=(a,c,d,e,f,g);letI C:=dv (gW A);letI B:=dv (gX A);aB b (aO (eQ A) (some [D.agg [sc (bool (isNeg (-B.fst))),ints u64 (M6.dg (-B.fst).natAbs),sc (int i64 B.snd),sc (bool (isNeg (-C.fst))),ints u64 (M6.dg (-C.fst).natAbs),sc (int i64 C.snd)]])) (some [D.agg [sc (bool a),ints u64 c,sc (int i64 d),sc (bool e),ints u64 f,sc (int i64 g)]]):=eJ aX
def sp(s:wW)(b:Bool):Prop×List D:=(eQ s,[uV (bif b then jY.wI (dv (gX s))else dv (gW s)) (bif b then jY.wI (dv (gW s))else dv (gX s))])
theorem spec:gU E f204 aE yH pB sp:=by
 intro s b h;have h:eQ s:=id h;refine(start s.1 s.2.1 s.2.2.1 s.2.2.2.1 s.2.2.2.2.1 s.2.2.2.2.2 b).trans ?_;unfold sp;cases b with
 |true =>
  show aO _ _=_;have h':eQ (s.1,s.2.1,s.2.2.1,s.2.2.2.1,s.2.2.2.2.1,s.2.2.2.2.2):=h;rw[gP h'];rfl
 |false =>
  dsimp only[cond_false];rw[h.uV]
def aJ:dO:=orc2 yH pB sp
theorem ok:OK 204 aJ:=(fA E aE (aA jY.ok aD) func204).mV rfl spec
end Gu
namespace fH
def E:=mE [(202,Mh.aJ),(203,Ao.aJ),(163,aXO.aJ),(162,Mu.aJ),(50,iX.aJ),(51,aFX.aJ),(59,Tc.aJ),(204,Gu.aJ),(205,aR.aJ),(206,bD.aJ)] 92 [] [] []
def aE:=bd f157
theorem aX:Nk E aE:=nk
theorem start a c d b:aH E f157 aE [D.agg [sc (bool a),ints u64 c,sc (int i64 d)],D.s (sc (int i64 b))]=letI F1:=wv (isNeg 1,M6.dg (cEO 1));letI B1:=aN 0 0;letI I1:=M6.dg B1.fst.natAbs;letI A1:=dv (false,c,d);letI X:=aP (false,c,d)/\1<=i64.wrap (b+32)/\i64.wrap (b+32)<=70000;letI W:=dv (a,c,d);letI U:=i64.wrap (b+32);letI B:=cD.nO true A1.fst A1.snd U;letI O:=bif gT B.fst B.snd then aN B.fst B.snd else((0:Int),(0:Int));letI A:=cD.nO false A1.fst A1.snd U;letI P:=bif gT A.fst A.snd then aN A.fst A.snd else((0:Int),(0:Int));aB ((c.length:Int)==(0:Int)) (aO ((-1000000:Int)<=(0:Int)/\(0:Int)<=(1000000:Int)) (aC (isNeg B1.fst) fun e=>aC I1 fun f=>aC B1.snd fun g=>aC (isNeg B1.fst) fun h=>aC I1 fun i=>aC B1.snd fun j=>some [D.agg [sc (bool e),ints u64 f,sc (int i64 g),sc (bool h),ints u64 i,sc (int i64 j)]])) (aO (aP (a,c,d)) (aC (if W.fst=0 then(0:Int)else d+(↑(bl (M6.val c)):Int)-(1:Int)) fun k=>letI Y:=i64.wrap (k-b)-3;letI C:=bif gT F1 (i64.wrap Y)then aN F1 (i64.wrap Y)else((0:Int),(0:Int));aB (decide (i64.wrap (i64.wrap ((2:Int)*k)+8)<i64.wrap ((0:Int)-b))) (aO X (aC (isNeg O.fst) fun l=>aC (M6.dg O.fst.natAbs) fun m=>aC O.snd fun n=>aO X (aC (isNeg P.fst) fun o=>aC (M6.dg P.fst.natAbs) fun p=>aC P.snd fun q=>aO ((-9223372036854775808:Int)<=(1:Int)/\(1:Int)<(9223372036854775808:Int)) (aO (gI (isNeg 1,M6.dg 1)/\(-9223372036854775808:Int)<=i64.wrap Y/\i64.wrap Y<9223372036854775808) (aC (isNeg C.fst) fun r=>aC (M6.dg C.fst.natAbs) fun s=>aC C.snd fun t=>letI G1:=dv (r,s,t);letI F:=bif bI.jW (dv (o,p,q)) (-G1.fst,G1.snd)then bI.nC (dv (o,p,q)) (-G1.fst,G1.snd)else((0:Int),(0:Int));aO (aP (o,p,q)/\aP (r,s,t)) (aC (isNeg F.fst) fun u=>aC (M6.dg F.fst.natAbs) fun v=>aC F.snd fun w=>letI Z:=(u,v,w,l,m,n);letI K:=bif a then jY.wI (dv (gW Z))else dv (gX Z);letI I:=bif a then jY.wI (dv (gX Z))else dv (gW Z);aO (eQ Z) (aC (isNeg I.fst) fun x=>aC (M6.dg I.fst.natAbs) fun y=>aC I.snd fun z=>aC (isNeg K.fst) fun aa=>aC (M6.dg K.fst.natAbs) fun ab=>aC K.snd fun ac=>some [D.agg [sc (bool x),ints u64 y,sc (int i64 z),sc (bool aa),ints u64 ab,sc (int i64 ac)]]))))))) (aO (aP (a,c,d)/\(1<=b/\b<=70000)/\((-70000:Int)<=aR.iP W/\aR.iP W<=100)/\aR.bU W b<=(2:Nat)^(aR.w1 W b).toNat) (aC (M6.dg (aR.Bv W b).fst) fun ad=>letI K1:=M6.val ad;aC (M6.dg ((2:Nat)^((2:Nat)*aR.hv W b+22))) fun ae=>letI N1:=M6.val ae;aC (aR.w2 W b) fun af=>letI D1:=bD.Ca K1 N1 af;letI C1:=bD.Hv K1 N1 af;letI N:=M.shD false C1 U;letI G:=M.shD true D1 U;letI H1:=bD.xS G;aO (M6.cR ad/\M6.cR ae/\bl K1<=500000/\bl N1<=500000/\(0<=af/\af<=500000)/\(1<=i64.wrap (b+32)/\i64.wrap (b+32)<=70000)/\wZ false C1 U=true/\wZ true D1 U=true/\jJ G) (aC (isNeg N.fst) fun ag=>aC (M6.dg N.fst.natAbs) fun ah=>aC N.snd fun ai=>aC (isNeg H1.fst) fun aj=>aC (M6.dg H1.fst.natAbs) fun ak=>aC H1.snd fun al=>letI H:=(ag,ah,ai,aj,ak,al);letI T:=bif a then jY.wI (dv (gW H))else dv (gX H);letI Q:=bif a then jY.wI (dv (gX H))else dv (gW H);aO (eQ H) (aC (isNeg Q.fst) fun am=>aC (M6.dg Q.fst.natAbs) fun an=>aC Q.snd fun ao=>aC (isNeg T.fst) fun ap=>aC (M6.dg T.fst.natAbs) fun aq=>aC T.snd fun ar=>some [D.agg [sc (bool am),ints u64 an,sc (int i64 ao),sc (bool ap),ints u64 aq,sc (int i64 ar)]])))))):=eJ aX
def tN(x:Int×Int)(p:Int):Int×Int:=if 2*aR.iP x+8 < -p then bI.nC (shD false ((x.1.natAbs:Int),x.2) (p+32)) (-1,aR.iP x-p-3)else shD false (bD.Hv (aR.Bv x p).1 (2^(2*aR.hv x p+22)) (aR.w2 x p)) (p+32)
def sE(x:Int×Int)(p:Int):Int×Int:=if 2*aR.iP x+8 < -p then shD true ((x.1.natAbs:Int),x.2) (p+32)else bD.xS (shD true (bD.Ca (aR.Bv x p).1 (2^(2*aR.hv x p+22)) (aR.w2 x p)) (p+32))
def Js(x:Int×Int)(p:Int):Int×Int:=if x.1=0 then(0,0)else bif isNeg x.1 then jY.wI (sE x p)else tN x p
def Jt(x:Int×Int)(p:Int):Int×Int:=if x.1=0 then(0,0)else bif isNeg x.1 then jY.wI (tN x p)else sE x p
def aOG(x:gB)(p:Int):Prop:=aP x/\(1<=p/\p<=67100)/\((dv x).1≠0->-600000<=aR.iP (dv x)/\jJ (tN (dv x) p)/\jJ (sE (dv x) p)/\eB (tN (dv x) p) (sE (dv x) p)<=0 /\
 (2*aR.iP (dv x)+8 < -p->wZ true ((((dv x).1.natAbs:Nat):Int),(dv x).2) (p+32)=true/\wZ false ((((dv x).1.natAbs:Nat):Int),(dv x).2) (p+32)=true/\jJ (shD false ((((dv x).1.natAbs:Nat):Int),(dv x).2) (p+32))/\bI.jW (shD false ((((dv x).1.natAbs:Nat):Int),(dv x).2) (p+32)) (-1,aR.iP (dv x)-p-3)=true) /\
 (¬2*aR.iP (dv x)+8 < -p->bC.Sg (dv x) p/\bC.aMM (aR.Bv (dv x) p).1 (2^(2*aR.hv (dv x) p+22)) (aR.w2 (dv x) p) (p+32)))
def sp(x:gB)(p:Int):Prop×List D:=(aOG x p,
 [uV (Js (dv x) p) (Jt (dv x) p)])
theorem spec:gU E f157 aE iW (pN .i64) sp:=by
 rintro x p ⟨hx,⟨p0,p1⟩,h⟩;refine(start x.1 x.2.1 x.2.2 p).trans ?_;have hz:=M6.dY hx.Hp;have he:=hx.2.1;have ha:(dv x).1.natAbs=M6.val x.2.1:=iF (x.1,x.2.1);have aUN:(x.1,x.2.1,x.2.2)=x:=rfl;have n0:aN 0 0=(0,0):=fC 0;have hT:(if(dv x).1=0 then 0 else x.2.2+(bl (M6.val x.2.1):Int)-1)=aR.iP (dv x):=by rw[<-ha];rfl
 have hN:isNeg (dv x).1=x.1:=hx.Db.cells.1;have v1:wv (isNeg 1,M6.dg (cEO 1))=1:=nA 1;have k1:gI (isNeg 1,M6.dg 1):=fT (z:=1) (by decide +kernel);unfold sp Js Jt;dsimp only
 by_cases c0:(dv x).1=0
 ·rw[cN (by have:=hz.2 (by omega);omega),gP ⟨by decide,by decide⟩,if_pos c0,if_pos c0];simp only[aG,n0];rfl
 ·obtain⟨t0,q1,q2,q3,hA,hB⟩:=h c0;have tt:=hx.uZ.top;have l0:x.2.1.length≠0:=fun hc=>c0 (by have:=hz.1 hc;omega)
  have tU:aR.iP (dv x)<=1572864:=by unfold aR.iP;rw[if_neg c0];exact tt.2
  simp only[aUN,hT,aG,v1];rw[bM,if_neg c0,if_neg c0];have w1:i64.wrap (i64.wrap (2*aR.iP (dv x))+8)=2*aR.iP (dv x)+8:=by rw[wrap_i64 (n:=2*aR.iP (dv x)),wrap_i64]
  have w2:i64.wrap (0-p)=-p:=by rw[wrap_i64];omega
  have w3:i64.wrap (i64.wrap (aR.iP (dv x)-p)-3)=aR.iP (dv x)-p-3:=by rw[wrap_i64 (n:=aR.iP (dv x)-p),wrap_i64]
  have w4:i64.wrap (p+32)=p+32:=wrap_i64;simp only[w1,w2,w3,w4];rw[gP hx];have sk:eQ (mM (tN (dv x) p) (sE (dv x) p)):=xF q1 q2 q3;have eL:=oL (tN (dv x) p) (sE (dv x) p);have eH:=oM (tN (dv x) p) (sE (dv x) p);rw[hN];unfold mM at sk eL eH
  by_cases c1:2*aR.iP (dv x)+8 < -p
  ·obtain⟨s1,s2,s3,s4⟩:=hA c1;have ok:aP (false,x.2.1,x.2.2):=⟨⟨hx.1.1,fun hf=>(by cases hf),hx.1.len⟩,hx.2⟩;have vx:dv (false,x.2.1,x.2.2)=((((dv x).1.natAbs:Nat):Int),(dv x).2):=by rw[ha];rfl
   have b1:bl (cEO 1)=1:=rfl;have i1:gT 1 (aR.iP (dv x)-p-3)=true:=gO (by omega) (by rw[b1];omega);have m1:aN 1 (aR.iP (dv x)-p-3)=(1,aR.iP (dv x)-p-3):=by
    unfold aN;rw[if_neg (by decide),show tz (cEO 1)=0 from by decide +kernel];simp
   have pg:jJ (1,aR.iP (dv x)-p-3):=m1▸gJ i1 (by decide +kernel);have e2:=dT ((1,aR.iP (dv x)-p-3):Int×Int);have d2:=dJ pg;have d3:=dJ s3;have e3:=dT (shD false ((((dv x).1.natAbs:Nat):Int),(dv x).2) (p+32));have bOL:gT (cD.nO true (((dv x).1.natAbs:Nat):Int) (dv x).2 (p+32)).1 (cD.nO true (((dv x).1.natAbs:Nat):Int) (dv x).2 (p+32)).2=true:=s1;have bOK:gT (cD.nO false (((dv x).1.natAbs:Nat):Int) (dv x).2 (p+32)).1 (cD.nO false (((dv x).1.natAbs:Nat):Int) (dv x).2 (p+32)).2=true:=s2;have u1:aN (cD.nO true (((dv x).1.natAbs:Nat):Int) (dv x).2 (p+32)).1 (cD.nO true (((dv x).1.natAbs:Nat):Int) (dv x).2 (p+32)).2=shD true ((((dv x).1.natAbs:Nat):Int),(dv x).2) (p+32):=rfl;have u2:aN (cD.nO false (((dv x).1.natAbs:Nat):Int) (dv x).2 (p+32)).1 (cD.nO false (((dv x).1.natAbs:Nat):Int) (dv x).2 (p+32)).2=shD false ((((dv x).1.natAbs:Nat):Int),(dv x).2) (p+32):=rfl;have dL:tN (dv x) p=bI.nC (shD false ((((dv x).1.natAbs:Nat):Int),(dv x).2) (p+32)) (-1,aR.iP (dv x)-p-3):=if_pos c1;have dH:sE (dv x) p=shD true ((((dv x).1.natAbs:Nat):Int),(dv x).2) (p+32):=if_pos c1;rw[aQ c1];simp only[vx,bOL,bOK,u1,u2,i1,m1,cond_true,e2,e3,s4];rw[gP ⟨ok,by omega,by omega⟩,gP ⟨ok,by omega,by omega⟩,gP ⟨by decide,by decide⟩,gP ⟨k1,by omega,by omega⟩,gP ⟨d3,d2⟩,<-dL,<-dH,gP sk,eL,eH];rfl
  ·obtain⟨⟨b1,b2⟩,a1,a2,a3,a4,a5,a6⟩:=hB c1;have dL:tN (dv x) p=shD false (bD.Hv (aR.Bv (dv x) p).1 (2^(2*aR.hv (dv x) p+22)) (aR.w2 (dv x) p)) (p+32):=if_neg c1;have dH:sE (dv x) p=bD.xS (shD true (bD.Ca (aR.Bv (dv x) p).1 (2^(2*aR.hv (dv x) p+22)) (aR.w2 (dv x) p)) (p+32)):=if_neg c1;rw[aL c1];simp only[M6.bN];rw[gP ⟨hx,⟨by omega,by omega⟩,b1,b2⟩,gP ⟨M6.aY _,M6.aY _,a1,a2,a3,⟨by omega,by omega⟩,a4,a5,a6⟩,<-dL,<-dH,gP sk,eL,eH];rfl
def aJ:dO:=orc2 iW (pN .i64) sp
theorem ok:OK 157 aJ:=(fA E aE (aA Mh.ok (aA Ao.ok (aA aXO.ok (aA Mu.ok (aA iX.ok (aA aFX.ok (aA Tc.ok (aA Gu.ok (aA aR.ok (aA bD.ok aD)))))))))) func157).mV rfl spec
end fH
end W
namespace R
def Pf(F D X p q p' q':Nat):Bool :=
 bUU 9007199254740992 q'&&((bUS (p*q') (p'*q+1)||bUS (p'*q) (p*q'+1)) &&
 ((bUU (p*(F+1)+D) (q*X)&&bUU (q'*X) (p'*F))||(bUU (q*X+D) (p*F)&&bUU (p'*(F+1)) (q'*X))))
def aYQ(F D X:Nat)(f:Nat):Nat->Nat->Nat->Nat->Nat->Nat->Bool:=Nat.rec (motive:=fun _=>Nat->Nat->Nat->Nat->Nat->Nat->Bool) (fun _ _ _ _ _ _=>false)
 (fun _ ih a b p q p' q'=>cond (bUU 9007199254740992 q') (Pf F D X p q p' q') (gG (a/b) fun t=>gG (a-t*b) fun r=>gG (t*p'+p) fun p2=>gG (t*q'+q) fun q2=>ih b r p' q' p2 q2)) f
def aQL(F D:Nat)(n:Nat):Nat->Bool:=Nat.rec (motive:=fun _=>Nat->Bool) (fun _=>true) (fun _ ih X=>aYQ F D X 80 X F 0 1 1 0&&gG (2*X) fun X'=>ih X') n
def bDA(w n:Nat):Bool :=
 Prod.rec (motive:=fun _=>Bool) (fun t5 s5=>Prod.rec (motive:=fun _=>Bool) (fun t239 lS =>
  bUU (4*lS) (16*s5)&&(bUS t5 0&&(bUS t239 0 &&
  gG ((16*s5-4*lS)/2^64) fun F=>gG (2^(w-64-62)) fun D=>gG (2^(w-64-53)) fun X =>
  bUS (((16*s5-4*lS)+2^40)/2^64) F&&(bUS (((16*s5-4*lS)-2^40)/2^64) F&&aQL F D n X))))
  (Xn 239 w 10 10)) (Xn 5 w 20 20)
theorem bPC{L L' s m k p q p' q' P X:Rat}(hL:L=q*X-p*P)(bEV:L'=q'*X-p'*P)(hs:s*s=1)(aKJ:p*q'-p'*q=s):m*X-k*P=s*(k*q'-m*p')*L+s*(m*p-k*q)*L':=by
 subst hL;subst bEV;have e1:s*(k*q'-m*p')*(q*X-p*P)+s*(m*p-k*q)*(q'*X-p'*P)=s*(p*q'-p'*q)*(m*X-k*P):=by grind
 rw[e1,aKJ,hs];grind
theorem Uj{a b:Bool}(h:(a||b)=true):a=true\/b=true:=by simpa using h
theorem uM{a:Int}(h:0<a):(1:Rat)<=(a:Rat):=by exact_mod_cast h
theorem aQD {F D X p q p' q' : Nat} (h : Pf F D X p q p' q' = true) {P : Rat} (h1 : (F : Rat) ≤ P) (h2 : P ≤ (F : Rat) + 1) {m k : Int} (hm : 0 < m) (aUY : m < 9007199254740992) : (D : Rat) ≤ ab ((m : Rat) * (X : Rat) - (k : Rat) * P) := by
  unfold Pf at h
  obtain ⟨c1, h⟩ := fD h
  obtain ⟨c2, c3⟩ := fD h
  have c1 := bWP c1
  obtain ⟨s, hs, aKJ⟩ : ∃ s : Int, s * s = 1 ∧ (p : Int) * q' - p' * q = s := by
    rcases Uj c2 with h | h
    · have := bVG h
      exact ⟨1, rfl, by have : (p : Int) * q' = p' * q + 1 := by exact_mod_cast this
                        omega⟩
    · have := bVG h
      exact ⟨-1, rfl, by have : (p' : Int) * q = p * q' + 1 := by exact_mod_cast this
                         omega⟩
  obtain ⟨a, ha⟩ : ∃ a : Int, a = s * (k * q' - m * p') := ⟨_, rfl⟩
  obtain ⟨b, hb⟩ : ∃ b : Int, b = s * (m * p - k * q) := ⟨_, rfl⟩
  have hmab : m = a * q + b * q' := by
    have : a * q + b * q' = s * (p * q' - p' * q) * m := by rw [ha, hb]; grind
    rw [this, aKJ, hs]; omega
  obtain ⟨L, hL⟩ : ∃ L : Rat, L = (q : Rat) * X - (p : Rat) * P := ⟨_, rfl⟩
  obtain ⟨L', bEV⟩ : ∃ L' : Rat, L' = (q' : Rat) * X - (p' : Rat) * P := ⟨_, rfl⟩
  have bLU : (s : Rat) * (s : Rat) = 1 := by exact_mod_cast hs
  have aEV : (p : Rat) * q' - p' * q = (s : Rat) := by
    have := congrArg (Int.cast : Int → Rat) aKJ
    rw [cIS, cFW, cFW, cFX, cFX, cFX, cFX] at this
    exact this
  have aUZ := bPC (m := (m : Rat)) (k := (k : Rat)) hL bEV bLU aEV
  have bNJ : (s : Rat) * ((k : Rat) * q' - m * p') = (a : Rat) := by
    rw [ha]; push_cast; rfl
  have bNI : (s : Rat) * ((m : Rat) * p - k * q) = (b : Rat) := by
    rw [hb]; push_cast; rfl
  rw [bNJ, bNI] at aUZ
  rw [aUZ]
  have aXZ : (0 : Int) ≤ q := by omega
  have hq'0 : (9007199254740992 : Int) ≤ q' := by omega
  have aJY : (0 : Rat) ≤ (p : Rat) := by exact_mod_cast cAS p
  have bAU : (0 : Rat) ≤ (p' : Rat) := by exact_mod_cast cAS p'
  have aXY : ((D : Rat) ≤ L ∧ L' ≤ 0) ∨ ((D : Rat) ≤ -L ∧ 0 ≤ L') := by
    rcases Uj c3 with h | h
    · obtain ⟨d1, d2⟩ := fD h
      have d1 : ((p * (F + 1) + D : Nat) : Rat) ≤ ((q * X : Nat) : Rat) := by exact_mod_cast bWP d1
      have d2 : ((q' * X : Nat) : Rat) ≤ ((p' * F : Nat) : Rat) := by exact_mod_cast bWP d2
      push_cast at d1 d2
      have := aF aJY (show 0 ≤ (F : Rat) + 1 - P by grind)
      have := aF bAU (show 0 ≤ P - (F : Rat) by grind)
      left
      constructor <;> grind
    · obtain ⟨d1, d2⟩ := fD h
      have d1 : ((q * X + D : Nat) : Rat) ≤ ((p * F : Nat) : Rat) := by exact_mod_cast bWP d1
      have d2 : ((p' * (F + 1) : Nat) : Rat) ≤ ((q' * X : Nat) : Rat) := by exact_mod_cast bWP d2
      push_cast at d1 d2
      have := aF aJY (show 0 ≤ P - (F : Rat) by grind)
      have := aF bAU (show 0 ≤ (F : Rat) + 1 - P by grind)
      right
      constructor <;> grind
  have hD0 : (0 : Rat) ≤ (D : Rat) := by exact_mod_cast cAS D
  clear aUZ bNJ bNI aEV bLU hL bEV ha hb aKJ hs c2 c3
  rcases Int.lt_trichotomy b 0 with hb | hb | hb
  · have aQA : 0 < a := by
      refine Int.not_le.1 fun hn => ?_
      have := cGQ (show 0 ≤ -a by omega) aXZ
      have := cGQ (show 0 ≤ -b by omega) (show (0 : Int) ≤ q' by omega)
      rw [cEB] at *
      omega
    have r1 := uM aQA
    have r2 := uM (show 0 < -b by omega)
    have r2 : (1 : Rat) ≤ -(b : Rat) := by rw [← cHO]; exact r2
    rcases aXY with ⟨g1, g2⟩ | ⟨g1, g2⟩
    · have := aF (show 0 ≤ (a : Rat) - 1 by grind) (show 0 ≤ L by grind)
      have := aF (show 0 ≤ -(b : Rat) by grind) (show 0 ≤ -L' by grind)
      have := Bs ((a : Rat) * L + (b : Rat) * L')
      grind
    · have := aF (show 0 ≤ (a : Rat) - 1 by grind) (show 0 ≤ -L by grind)
      have := aF (show 0 ≤ -(b : Rat) by grind) (show 0 ≤ L' by grind)
      have := nI ((a : Rat) * L + (b : Rat) * L')
      grind
  · subst hb
    have aQA : 0 < a := by
      refine Int.not_le.1 fun hn => ?_
      have := cGQ (show 0 ≤ -a by omega) aXZ
      rw [cEB] at *
      omega
    have r1 := uM aQA
    have z : ((0 : Int) : Rat) = 0 := by norm_cast
    rw [z]
    rcases aXY with ⟨g1, g2⟩ | ⟨g1, g2⟩
    · have := aF (show 0 ≤ (a : Rat) - 1 by grind) (show 0 ≤ L by grind)
      have := Bs ((a : Rat) * L + 0 * L')
      grind
    · have := aF (show 0 ≤ (a : Rat) - 1 by grind) (show 0 ≤ -L by grind)
      have := nI ((a : Rat) * L + 0 * L')
      grind
  · have aQA : a < 0 := by
      refine Int.not_le.1 fun hn => ?_
      have := cGQ hn aXZ
      have := bXB (show 1 ≤ b by omega) (show (0 : Int) ≤ q' by omega)
      omega
    have r1 := uM (show 0 < -a by omega)
    have r1 : (1 : Rat) ≤ -(a : Rat) := by rw [← cHO]; exact r1
    have r2 := uM hb
    rcases aXY with ⟨g1, g2⟩ | ⟨g1, g2⟩
    · have := aF (show 0 ≤ -(a : Rat) - 1 by grind) (show 0 ≤ L by grind)
      have := aF (show 0 ≤ (b : Rat) by grind) (show 0 ≤ -L' by grind)
      have := nI ((a : Rat) * L + (b : Rat) * L')
      grind
    · have := aF (show 0 ≤ -(a : Rat) - 1 by grind) (show 0 ≤ -L by grind)
      have := aF (show 0 ≤ (b : Rat) by grind) (show 0 ≤ L' by grind)
      have := Bs ((a : Rat) * L + (b : Rat) * L')
      grind
theorem aWC{F D X:Nat}:∀(f a b p q p' q':Nat),aYQ F D X f a b p q p' q'=true->∃p q p' q',Pf F D X p q p' q'=true:=by
 intro f
 induction f with
 |zero=>intro a b p q p' q' h;exact absurd h (by simp[aYQ])
 |succ f ih =>
  intro a b p q p' q' h;have e:aYQ F D X (f+1) a b p q p' q'=cond (bUU 9007199254740992 q') (Pf F D X p q p' q') (gG (a/b) fun t=>gG (a-t*b) fun r=>gG (t*p'+p) fun p2=>gG (t*q'+q) fun q2=>aYQ F D X f b r p' q' p2 q2):=rfl;rw[e]at h;cases hc:bUU 9007199254740992 q' with
  |true=>rw[hc]at h;exact⟨_,_,_,_,h⟩
  |false =>
   rw[hc,cond_false,eR,eR,eR,eR]at h;exact ih _ _ _ _ _ _ h
theorem aQK{F D:Nat}:∀(n X:Nat),aQL F D n X=true->∀i,i<n->∃p q p' q',Pf F D (2^i*X) p q p' q'=true:=by
 intro n
 induction n with
 |zero=>intro X _ i hi;omega
 |succ n ih =>
  intro X h i hi;have e:aQL F D (n+1) X=(aYQ F D X 80 X F 0 1 1 0&&gG (2*X) fun X'=>aQL F D n X'):=rfl;rw[e,eR]at h;obtain⟨h1,h2⟩:=fD h;cases i with
  |zero =>
   rw[Nat.pow_zero,bYV];exact aWC _ _ _ _ _ _ _ h1
  |succ i =>
   have:=ih _ h2 i (by omega);rw[bZQ,bZT];exact this
theorem bKA:bDA 1464 1030=true:=by kernel_rfl
theorem aPG{s5 lS:Nat}{W a b:Rat}(hle:4*lS<=16*s5)(h5:ab ((s5:Rat)-W*We 5)<=a)(Rp:ab ((lS:Rat)-W*We 239)<=b):ab (((16*s5-4*lS:Nat):Rat)-W*pi)<=16*a+4*b:=by
 have hc:((16*s5-4*lS:Nat):Rat)+4*(lS:Rat)=16*(s5:Rat):=by exact_mod_cast(show 16*s5-4*lS+4*lS=16*s5 by omega)
 unfold pi;rw[bW]at *;grind
theorem Yl{m k:Int}{i:Nat}(hi:i<1030)(hm:0<m)(aUY:m<9007199254740992):1/4611686018427387904<=ab ((m:Rat)*((2^i:Nat):Rat)/9007199254740992-(k:Rat)*pi):=by
 have h:=bKA;unfold bDA at h;have h5:=Gr (n:=5) (by omega) 1464 20 20 (by omega);have Rp:=Gr (n:=239) (by omega) 1464 10 10 (by omega);generalize hw:(1464:Nat)=w at *;generalize Xn 5 w 20 20=A at *;generalize Xn 239 w 10 10=B at *;obtain⟨t5,s5⟩:=A;obtain⟨t239,lS⟩:=B;dsimp only at *;obtain⟨bNW,h⟩:=fD h;obtain⟨z5,h⟩:=fD h;obtain⟨aTF,h⟩:=fD h;rw[eR,eR,eR]at h;obtain⟨q1,h⟩:=fD h;obtain⟨q2,h⟩:=fD h;have q1:=bVG q1;have q2:=bVG q2;have h5:=h5 (bVG z5);have Rp:=Rp (bVG aTF);obtain⟨p,q,p',q',hg⟩:=aQK _ _ h i hi;have aKR:ab (((16*s5-4*lS:Nat):Rat)-((2^w:Nat):Rat)*pi)<=524288:=by
  have:=aPG (bWP bNW) h5 Rp;refine bZW this ?_;have n1:((2*(20*20):Nat):Rat)=800:=by norm_cast
  have n2:((2*(10*10):Nat):Rat)=200:=by norm_cast
  rw[n1,n2];grind
 generalize 16*s5-4*lS=P at *;have aLO:=tD w (by omega);have lo:((P/2^64:Nat):Rat)<=((2^(w-64):Nat):Rat)*pi:=by
  have:2^64*(P/2^64)<=P-2^40:=by
   have:=Nat.mul_div_le (P-2^40) (2^64);rwa [q2]at this
  have hz:P/2^64=0\/2^64*(P/2^64)+2^40<=P:=by omega
  rcases hz with hz |h2
  ·rw[hz];have h3:(0:Rat)<=((2^(w-64):Nat):Rat):=by exact_mod_cast cAS _
   have:=aF h3 (bZY (show 0<pi from by have:=gL.1;grind));have z:((0:Nat):Rat)=0:=by norm_cast
   rw[z];exact this
  ·have h3:((2^64:Nat):Rat)*((P/2^64:Nat):Rat)+((2^40:Nat):Rat)<=(P:Rat):=by exact_mod_cast h2
   rw[aLO,cBJ,bW]at aKR;have n1:((2^64:Nat):Rat)=18446744073709551616:=by norm_cast
   have n2:((2^40:Nat):Rat)=1099511627776:=by norm_cast
   rw[n1]at aKR h3;rw[n2]at h3;refine bS (q:=18446744073709551616) (by grind) ?_;generalize ((2^(w-64):Nat):Rat)=W at *;grind
 have aCJ:((2^(w-64):Nat):Rat)*pi<=((P/2^64:Nat):Rat)+1:=by
  have:P+2^40<2^64*(P/2^64+1):=by
   have:=Nat.lt_mul_div_succ (P+2^40) (show 0<2^64 by omega);rwa [q1]at this
  have h3:(P:Rat)+((2^40:Nat):Rat)<((2^64:Nat):Rat)*(((P/2^64:Nat):Rat)+1):=by exact_mod_cast this
  rw[aLO,cBJ,bW]at aKR;have n1:((2^64:Nat):Rat)=18446744073709551616:=by norm_cast
  have n2:((2^40:Nat):Rat)=1099511627776:=by norm_cast
  rw[n1]at aKR h3;rw[n2]at h3;refine bS (q:=18446744073709551616) (by grind) ?_;generalize ((2^(w-64):Nat):Rat)=W at *;grind
 have bMH:=aQD hg lo aCJ (k:=k) hm aUY;have eD:((2^(w-64):Nat):Rat)=((2^(w-64-62):Nat):Rat)*4611686018427387904:=by
  have:2^(w-64)=2^(w-64-62)*2^62:=by rw[<-bZS];congr 1;omega
  rw[this,cBJ];congr 1
 have eX:((2^(w-64):Nat):Rat)=((2^(w-64-53):Nat):Rat)*9007199254740992:=by
  have:2^(w-64)=2^(w-64-53)*2^53:=by rw[<-bZS];congr 1;omega
  rw[this,cBJ];congr 1
 have aKP:(0:Rat)<((2^(w-64):Nat):Rat):=by exact_mod_cast cY
 have hWp2:(0:Rat)<((2^(w-64-62):Nat):Rat):=by exact_mod_cast cY
 have e:(m:Rat)*((2^i*2^(w-64-53):Nat):Rat)-(k:Rat)*(((2^(w-64):Nat):Rat)*pi)=((2^(w-64):Nat):Rat)*((m:Rat)*((2^i:Nat):Rat)/9007199254740992-(k:Rat)*pi):=by
  rw[cBJ,eX];grind
 rw[e,fJ,bG (bZY aKP)]at bMH;refine bS aKP ?_;rw[eD]at bMH ⊢;grind
end R
namespace R
def bDJ(x:Rat):Prop:=∃m e:Int,0<m/\m<9007199254740992/\-53<=e/\e<=971/\(x=(m:Rat)*pz e\/x=-((m:Rat)*pz e))
theorem Us{x:Rat}(h:bDJ x){j:Nat}(hj:j=1\/j=2)(k:Int):1/4611686018427387904<=ab (((2^j:Nat):Rat)*x-(k:Rat)*pi):=by
 obtain⟨m,e,m0,m1,e0,e1,hx⟩:=h;obtain⟨i,hi⟩:=bZV (show 0<=e+53+(j:Int) by omega);have ep:((2^j:Nat):Rat)*((m:Rat)*pz e)=(m:Rat)*((2^i:Nat):Rat)/9007199254740992:=by
  have h1:pz (e+53+(j:Int))=((2^i:Nat):Rat):=by rw[hi,lT]
  rw[dX,jI]at h1;have h2:pz 53=9007199254740992:=by rw[show(53:Int)=((53:Nat):Int)from rfl,lT];norm_cast
  rw[h2]at h1;rw[<-h1];grind
 rcases hx with rfl |rfl
 ·have:=Yl (i:=i) (k:=k) (by omega) m0 m1;rw[ep];exact this
 ·have:=Yl (i:=i) (k:=-k) (by omega) m0 m1;rw[<-ep,cHO]at this;have e2:ab (((2^j:Nat):Rat)*-((m:Rat)*pz e)-(k:Rat)*pi)=ab (((2^j:Nat):Rat)*((m:Rat)*pz e) - -(k:Rat)*pi):=by rw[<-iI];congr 1;grind
  rw[e2];exact this
def rT(x:Rat)(k:Int):Prop:=ab (x-(k:Rat)*(pi/2))<=pi/4+1/36893488147419103232
def Fit(x:Rat):Prop:=bDJ x\/ab x<=3/4
theorem aBD{x:Rat}(h:ab x<=3/4){k:Int}(hk:rT x k):k=0:=by
 obtain⟨p1,p2⟩:=gL;unfold rT at hk;rw[bW]at hk h;refine Classical.byContradiction fun zP=>?_
 by_cases c:1<=k
 ·have c1:(1:Rat)<=(k:Rat):=by exact_mod_cast c
  have:=aF (show 0<=(k:Rat)-1 by grind) (show 0<=pi by grind);grind
 ·have c1:(k:Rat)<=-1:=by
   have:(k:Rat)<=((-1:Int):Rat):=Rat.intCast_le_intCast.2 (by omega);rwa [show((-1:Int):Rat)=-1 by norm_cast]at this
  have:=aF (show 0<=-1-(k:Rat) by grind) (show 0<=pi by grind);grind
theorem aAM{x:Rat}(h:Fit x){k l:Int}(hk:rT x k)(hl:rT x l):¬k<l:=by
 intro jL;rcases h with h |h
 ·obtain⟨p1,p2⟩:=gL;unfold rT at hk hl;rw[bW]at hk hl
  by_cases e:l=k+1
  ·subst e;have c1:((k+1:Int):Rat)=(k:Rat)+1:=by norm_cast
   rw[c1]at hl;have n:=Us h (j:=2) (Or.inr rfl) (2*k+1);have c2:((2*k+1:Int):Rat)=2*(k:Rat)+1:=by norm_cast
   have c3:((2^2:Nat):Rat)=4:=by norm_cast
   rw[c2,c3]at n;have:ab (4*x-(2*(k:Rat)+1)*pi)<=1/9223372036854775808:=by rw[bW];constructor <;> grind
   grind
  ·have c1:(k:Rat)+2<=(l:Rat):=by
    have:((k+2:Int):Rat)<=(l:Rat):=by exact_mod_cast(show k+2<=l by omega)
    rwa [show((k+2:Int):Rat)=(k:Rat)+2 by norm_cast]at this
   have:=aF (show 0<=(l:Rat)-(k:Rat)-2 by grind) (show 0<=pi by grind);grind
 ·have:=aBD h hk;have:=aBD h hl;omega
theorem aTH{x:Rat}(h:Fit x){k l:Int}(hk:rT x k)(hl:rT x l):k=l:=by
 have:=aAM h hk hl;have:=aAM h hl hk;omega
theorem aTU{x:Rat}(h:bDJ x)(k:Int):1/9223372036854775808<=ab (x-(k:Rat)*(pi/2)):=by
 have n:=Us h (j:=1) (Or.inl rfl) k;have c3:((2^1:Nat):Rat)=2:=by norm_cast
 have e:((2^1:Nat):Rat)*x-(k:Rat)*pi=2*(x-(k:Rat)*(pi/2)):=by rw[c3];grind
 rw[e,fJ,bG (show(0:Rat)<=2 by grind)]at n;grind
theorem qU{x:Rat}{k:Int}(h:rT x k):ab (x-(k:Rat)*(pi/2))<=79/100:=by
 obtain⟨p1,p2⟩:=gL;unfold rT at h;grind
theorem aLX(r:Rat):cs (ab r)=cs r:=by
 unfold ab;split
 ·rfl
 ·rw[Zm]
theorem aIF{r:Rat}(h:ab r<=1):sn (ab r)=ab (sn r):=by
 by_cases h0:0<=r
 ·rw[bG h0]at *;rw[bG (Jr h0 h)]
 ·have e:ab r=-r:=by unfold ab;rw[if_neg h0]
  rw[e]at h;rw[e,<-iI (sn r),<-Fa,bG (Jr (by grind) h)]
theorem Vu{r:Rat}(h:ab r<=4/5):17/25<=cs r/\cs r<=1:=by
 have h0:=aM r;obtain⟨c1,c2⟩:=Lr h0 (by grind);have m:=bR h0 h h0 h;have m2:=aF h0 h0;have m3:=aF m2 (show 0<=6-ab r*ab r by grind);rw[aLX]at c1 c2;generalize ab r=a at *;constructor <;> grind
theorem aBB{r:Rat}(h0:0<=r)(h:r<=4/5):4/5*r<=sn r/\sn r<=r:=by
 have h1:r<=1:=by grind
 refine⟨?_,aBA h0 h1⟩;have c1:=(wF h0 h1).1;have m:=bR h0 h h0 h;have m3:=aF h0 (show 0<=16/25-r*r by grind);grind
theorem aRY{a b:Int}(h:a<b):pz a<pz b:=by
 have h1:=bV (show a+1<=b by omega);have h2:=dC a;rw[kF]at h1;grind
theorem aEB{a b:Int}:pz a<=pz b↔a<=b:=by
 constructor
 ·intro h;refine Int.not_lt.1 fun hn=>?_
  have:=aRY hn;grind
 ·exact bV
theorem wG{a b:Int}:pz a<pz b↔a<b:=by
 constructor
 ·intro h;refine Int.not_le.1 fun hn=>?_
  have:=bV hn;grind
 ·exact aRY
theorem aIO:pz 1=2:=by rw[show(1:Int)=0+1 by rfl,kF,fQ];grind
theorem qA(a:Int):pz (a-1)*2=pz a:=by
 have:=kF (a-1);rw[show a-1+1=a by omega]at this;grind
theorem fG(a:Int){n:Nat}{c:Rat}(hc:((2^n:Nat):Rat)=c):pz (a-(n:Int))*c=pz a:=by
 have:=dX (a-(n:Int)) n;rw[show a-(n:Int)+(n:Int)=a by omega,hc]at this;exact this.symm
end R
namespace R
open W.TSums
theorem Jn{f:Nat->Rat}:∀{n:Nat},(∀k,k<n->f k=0)->sum f n=0
 |0,_=>rfl
 |n+1,h=>by rw[dM,Jn fun k hk=>h k (by omega),h n (by omega)];grind
theorem Ok(g:Nat->Rat)(k f:Nat):sum (fun i=>g (k+i)) (f+1)=g k+sum (fun i=>g (k+1+i)) f:=by
 rw[cAQ f 1,kM];have e:(fun i=>g (k+(1+i)))=fun i=>g (k+1+i):=funext fun i=>by rw[Nat.add_assoc]
 rw[e,dM];have z:sum (fun i=>g (k+i)) 0=0:=rfl;rw[z,bVP];grind
def gC(u W i:Nat):Rat:=cc i*(sq u W i:Rat)
def gS(u W i:Nat):Rat:=ss i*(sq u W i:Rat)
theorem Dg{u W:Nat}(hu:u<=W):∀f k a b c d,c<=a->d<=b->(k%4=1\/k%4=2->c+sq u W k<=a)->(k%4=2\/k%4=3->d+sq u W k<=b) ->
  (tay u W f k a b c d).2.2.1<=(tay u W f k a b c d).1/\(tay u W f k a b c d).2.2.2<=(tay u W f k a b c d).2.1 /\
  ((tay u W f k a b c d).1:Rat)-((tay u W f k a b c d).2.2.1:Rat)=(a:Rat)-(c:Rat)+sum (fun i=>gC u W (k+i)) f /\
  ((tay u W f k a b c d).2.1:Rat)-((tay u W f k a b c d).2.2.2:Rat)=(b:Rat)-(d:Rat)+sum (fun i=>gS u W (k+i)) f
 |0,k,a,b,c,d,h1,h2,_,_=>by
  have z1:sum (fun i=>gC u W (k+i)) 0=0:=rfl;have z2:sum (fun i=>gS u W (k+i)) 0=0:=rfl;refine⟨h1,h2,?_,?_⟩
  ·show(a:Rat)-(c:Rat)=_;rw[z1];grind
  ·show(b:Rat)-(d:Rat)=_;rw[z2];grind
 |f+1,k,a,b,c,d,h1,h2,h3,h4=>by
  have hs:=Jo hu k;have hm:k%4<4:=bWZ _ (by decide);unfold tay
  by_cases hz:sq u W k=0
  ·have za:=Tt hz;rw[if_pos hz];have z1:sum (fun i=>gC u W (k+i)) (f+1)=0:=Jn fun i _=>by unfold gC;rw[za];simp
   have z2:sum (fun i=>gS u W (k+i)) (f+1)=0:=Jn fun i _=>by unfold gS;rw[za];simp
   rw[z1,z2];refine⟨h1,h2,?_,?_⟩
   ·show(a:Rat)-(c:Rat)=_;grind
   ·show(b:Rat)-(d:Rat)=_;grind
  ·rw[if_neg hz,Ok (gC u W) k f,Ok (gS u W) k f];have e4:(k+1)%4=(k%4+1)%4:=by omega
   by_cases c0:k%4=0
   ·rw[if_pos c0];obtain⟨r1,r2,r3,r4⟩:=Dg hu f (k+1) (a+sq u W k) b c d (by omega) h2 (fun _=>by omega) (fun h=>by omega);refine⟨r1,r2,?_,?_⟩
    ·rw[r3,cEY];have:gC u W k=(sq u W k:Rat):=by unfold gC cc;rw[if_pos c0];grind
     rw[this];grind
    ·rw[r4];have:gS u W k=0:=by unfold gS ss;rw[aU,aU];grind
     rw[this];grind
   ·rw[if_neg c0]
    by_cases c1:k%4=1
    ·rw[if_pos c1];obtain⟨r1,r2,r3,r4⟩:=Dg hu f (k+1) a (b+sq u W k) c d h1 (by omega) (fun _=>by have:=h3 (Or.inl c1);omega) (fun _=>by omega);refine⟨r1,r2,?_,?_⟩
     ·rw[r3];have:gC u W k=0:=by unfold gC cc;rw[if_neg c0,aU];grind
      rw[this];grind
     ·rw[r4,cEY];have:gS u W k=(sq u W k:Rat):=by unfold gS ss;rw[if_pos c1];grind
      rw[this];grind
    ·rw[if_neg c1]
     by_cases c2:k%4=2
     ·rw[if_pos c2];have g1:=h3 (Or.inr c2);have g2:=h4 (Or.inl c2);obtain⟨r1,r2,r3,r4⟩:=Dg hu f (k+1) a b (c+sq u W k) d (by omega) h2 (fun h=>by omega) (fun _=>by omega);refine⟨r1,r2,?_,?_⟩
      ·rw[r3,cEY];have:gC u W k=-(sq u W k:Rat):=by unfold gC cc;rw[if_neg c0,if_pos c2];grind
       rw[this];grind
      ·rw[r4];have:gS u W k=0:=by unfold gS ss;rw[if_neg c1,aU];grind
       rw[this];grind
     ·rw[if_neg c2];have g2:=h4 (Or.inr (by omega));obtain⟨r1,r2,r3,r4⟩:=Dg hu f (k+1) a b c (d+sq u W k) h1 (by omega) (fun h=>by omega) (fun h=>by omega);refine⟨r1,r2,?_,?_⟩
      ·rw[r3];have:gC u W k=0:=by unfold gC cc;rw[if_neg c0,if_neg c2];grind
       rw[this];grind
      ·rw[r4,cEY];have:gS u W k=-(sq u W k:Rat):=by unfold gS ss;rw[if_neg c1,aW];grind
       rw[this];grind
theorem Gh{x y:Nat}(h:y<=x):((x-y:Nat):Rat)=(x:Rat)-(y:Rat):=by
 have:((x-y:Nat):Rat)+(y:Rat)=(x:Rat):=by exact_mod_cast(show x-y+y=x by omega)
 grind
theorem aHY{u w:Nat}(hu:u<=2^w):(aDV u w:Rat)=sum (fun k=>ss k*(sq u (2^w) k:Rat)) (w+1)/\(aDW u w:Rat)=sum (fun k=>cc k*(sq u (2^w) k:Rat)) (w+1):=by
 obtain⟨r1,r2,r3,r4⟩:=Dg hu (w+1) 0 0 0 0 0 (bUR _) (bUR _) (fun h=>by omega) (fun h=>by omega);unfold aDV aDW;rw[Gh r1,Gh r2,r3,r4];have z:((0:Nat):Rat)=0:=by norm_cast
 have e1:sum (fun i=>gC u (2^w) (0+i)) (w+1)=sum (fun k=>cc k*(sq u (2^w) k:Rat)) (w+1):=jX fun k _=>by rw[bUT];rfl
 have e2:sum (fun i=>gS u (2^w) (0+i)) (w+1)=sum (fun k=>ss k*(sq u (2^w) k:Rat)) (w+1):=jX fun k _=>by rw[bUT];rfl
 rw[e1,e2,z];constructor <;> grind
end R
namespace M
open Go AI W
theorem Pw(p:Int×Int):R.ab (R.qz p)=(p.1.natAbs:Rat)*R.pz p.2:=by
 unfold R.qz;rw[R.fJ,R.bG (bZY (R.dC p.2))];congr 1;unfold R.ab
 by_cases hz:0<=p.1
 ·rw[if_pos (by exact_mod_cast hz),<-cFX];congr 1;omega
 ·rw[if_neg (by intro hc;exact hz (by exact_mod_cast hc)),<-cFX,<-cHO];congr 1;omega
theorem Vb(w:Int)(hw:65<=w):∀f h:Nat,4<=h->(h=4\/16*(h:Int)-16<w)->THalvings.hlv w f h=4\/16*(THalvings.hlv w f h:Int)-16<w
 |0,h,_,hh=>hh
 |f+1,h,h4,hh=>by
  unfold THalvings.hlv;split
  ·rename_i hc;refine Vb w hw f (h+1) (by omega) (Or.inr ?_);have:4*(h:Int)*h>=4*4*h:=by
    have:=bXB (show(4*4:Int)<=4*h by omega) (show(0:Int)<=h by omega);omega
   omega
  ·exact hh
theorem Ee{x:Int×Int}{p:Int}(h0:x.1≠0)(h1:bA x<=0)(ht:-1200<=bA x)(hp:1<=p/\p<=67100) :
  aR.iP x=bA x/\aR.w0 x p=p+80-bA x/\4<=aR.hv x p/\aR.hv x p<=204/\(aR.hv x p:Int)+50<=p+80-bA x/\aR.w1 x p=p+80-bA x+2*(aR.hv x p:Nat)/\aR.w2 x p=p+80-bA x+3*(aR.hv x p:Nat):=by
 have e1:aR.iP x=bA x:=by unfold aR.iP bA;rw[if_neg h0]
 have e2:aR.w0 x p=p+80-bA x:=by
  unfold aR.w0;rw[e1];split <;> omega
 obtain⟨h3,h4⟩:=aR.Yu (aR.w0 x p) 200 4;have h5:=Vb (aR.w0 x p) (by omega) 200 4 (by omega) (Or.inl rfl);have eh:THalvings.hlv (aR.w0 x p) 200 4=aR.hv x p:=rfl;rw[eh]at h3 h4 h5;refine⟨e1,e2,h4,h3,?_,?_,?_⟩
 ·omega
 ·unfold aR.w1;omega
 ·unfold aR.w2 aR.w1;omega
theorem aQH(x:Int×Int)(n:Int):(uT.aNQ x n:Rat)<=R.pz n*R.ab (R.qz x)/\R.pz n*R.ab (R.qz x)<(uT.aNQ x n:Rat)+1:=by
 rw[Pw];have e:R.pz n*((x.1.natAbs:Rat)*R.pz x.2)=(x.1.natAbs:Rat)*R.pz (x.2+n):=by rw[R.jI];grind
 rw[e];unfold uT.aNQ;split
 ·rename_i h;obtain⟨k,hk⟩:=bZV h;rw[hk,R.lT,bYO,cBJ];constructor <;> grind
 ·rename_i h;obtain⟨k,hk⟩:=bZV (show 0<=-(x.2+n) by omega);have hp:0<2^k:=bXR (by decide);obtain⟨d1,d2⟩:=R.xK x.1.natAbs hp;rw[hk,bYO,show x.2+n=-(k:Int) by omega,R.xG];have h2:=R.Rl k;have h3:=R.vR k;have m1:=R.aF (bZY h3) (show 0<=(x.1.natAbs:Rat)-((2^k:Nat):Rat)*((x.1.natAbs/2^k:Nat):Rat) by grind);have m2:=cAI h3 (show 0<((2^k:Nat):Rat)*((x.1.natAbs/2^k:Nat):Rat)+((2^k:Nat):Rat)-(x.1.natAbs:Rat) by grind);generalize ((x.1.natAbs/2^k:Nat):Rat)=q at *;generalize ((2^k:Nat):Rat)=K at *;generalize (x.1.natAbs:Rat)=m at *;generalize R.hf k=g at *;have e1:g*(K*q)=q:=by rw[<-cFV,h2];grind
  constructor <;> grind
theorem Wa{x:Int×Int}{p:Int}(h0:x.1≠0)(hT:R.ab (R.qz x)<=1)(h1:bA x<=0)(ht:-1200<=bA x)(hp:1<=p/\p<=67100) :
  aR.bU x p<=2^(aR.w1 x p).toNat /\
  R.ab (((aR.Bv x p).1:Rat)-R.pz (aR.w2 x p)*R.sn (R.ab (R.qz x)))<=R.pz (2*(aR.hv x p:Nat)+18) /\
  R.ab (((aR.Bv x p).2:Rat)-R.pz (aR.w2 x p)*R.cs (R.ab (R.qz x)))<=R.pz (2*(aR.hv x p:Nat)+18):=by
 obtain⟨e1,e2,h4,h5,h6,bJT,bJS⟩:=Ee h0 h1 ht hp;obtain⟨u1,u2⟩:=aQH x (aR.w1 x p);have hT0:=R.aM (R.qz x);unfold aR.Bv;have eU:uT.aNQ x (aR.w1 x p)=aR.bU x p:=rfl;rw[eU]at u1 u2;generalize aR.bU x p=u at *;generalize aR.hv x p=h at *;generalize R.ab (R.qz x)=T at *;obtain⟨n,hn⟩:=bZV (show 0<=aR.w1 x p by omega);have aPQ:aR.w2 x p=((n+h:Nat):Int):=by omega
 rw[hn,R.lT]at u1 u2;rw[hn,aPQ,R.lT,bYO,bYO];have hu:u<=2^n:=by
  have hW:(0:Rat)<=((2^n:Nat):Rat):=by exact_mod_cast cAS _
  have:=R.aF hW (show 0<=1-T by grind);have:(u:Rat)<=((2^n:Nat):Rat):=by grind
  exact_mod_cast this
 have Uy:u<=2^(n+h):=bVN hu (bXS (by decide) (by omega));obtain⟨s1,s2⟩:=R.aHY Uy;have r:=R.aDK hT0 hT u1 u2 (h:=h) (by omega) (by omega) (by omega) s1 s2;have b:((4^h*(2*(n+h)+10):Nat):Rat)<=R.pz (2*(h:Nat)+18):=by
  rw[show 2*(h:Int)+18=((2*h+18:Nat):Int) by omega,R.lT];have:4^h*(2*(n+h)+10)<=2^(2*h+18):=by
   rw[bZS,<-R.Ll];exact bXF _ (by have:(2:Nat)^18=262144:=rfl;omega)
  exact_mod_cast this
 exact⟨hu,bZW r.1 b,bZW r.2 b⟩
end M
namespace M
open Go AI W
theorem yZ(up:Bool)(p:Int×Int)(n:Nat):bl (shD up p n).1.natAbs<=n+1:=by
 unfold shD cD.nO;refine bVN (vB _ _) ?_;split
 ·dsimp only;omega
 ·rename_i h;dsimp only;exact Zk up p.1 _ n (by omega)
theorem Ew{p:Int×Int}{E:Int}(h0:p.1≠0)(h:R.ab (R.qz p)<R.pz E):bA p<E:=by
 have:=(oG h0).1;refine R.wG.1 ?_;grind
theorem Cg{p:Int×Int}{E:Int}(h0:p.1≠0)(h:R.pz E<=R.ab (R.qz p)):E<=bA p:=by
 have:=(oG h0).2;have:R.pz E<R.pz (bA p+1):=by grind
 have:=R.wG.1 this;omega
theorem Df{p:Int×Int}{E:Int}(h0:p.1≠0)(h:R.ab (R.qz p)<=R.pz E):bA p<=E:=by
 have:=(oG h0).1;refine R.aEB.1 ?_;grind
theorem aRW{p:Int×Int}(h:p.1≠0):R.qz p≠0:=by
 intro hz;have h1:=(oG h).1;have h2:=R.dC (bA p);rw[hz,R.bG (by grind)]at h1;grind
theorem Hd{p:Int×Int}(h:R.qz p≠0):p.1≠0:=fun hz=>h (R.oC hz)
theorem kA{p:Int×Int}:0<R.qz p↔0<p.1:=by
 have h:=R.dC p.2;unfold R.qz;constructor
 ·intro hp;refine Int.not_le.1 fun hn=>?_
  have c:(p.1:Rat)<=0:=by exact_mod_cast hn
  have:=R.aF (show 0<=-(p.1:Rat) by grind) (bZY h);grind
 ·intro hp;have c:(0:Rat)<(p.1:Rat):=by exact_mod_cast hp
  exact cAI c h
theorem Jz{p:Int×Int}:R.qz p<0↔p.1<0:=by
 have h:=kA (p:=(-p.1,p.2));rw[oU]at h;constructor
 ·intro hp;have:=h.1 (by grind);dsimp only at this;omega
 ·intro hp;have:=h.2 (by dsimp only;omega);grind
theorem Zy{p q:Int×Int}{E:Int}{n:Nat}(hp:jJ p)(hq:jJ q)(h1:E<=p.2)(h2:E<=q.2)(v1:R.ab (R.qz p)<=R.pz (E+n))(v2:R.ab (R.qz q)<=R.pz (E+n))(hn:n<=500000)(hE:-1048576<=E)(hE2:E+n<=1048000):bI.jW p q=true:=by
 unfold bI.jW
 by_cases z1:p.1=0
 ·rw[decide_eq_true z1,cAB]
 by_cases z2:q.1=0
 ·rw[decide_eq_true z2,cAB,cAO]
 rw[decide_eq_false z1,decide_eq_false z2,bWS,bWS];obtain⟨m1,m2⟩:=Jb p q;have hm:E<=bI.gQ p q:=by unfold bI.gQ;split <;> omega
 have aUY:bI.gQ p q<=1048576/\-1048576<=bI.gQ p q:=by have:=hp.2.1;have:=hq.2.1;unfold bI.gQ;split <;> omega
 have qX:R.qz (bI.mY p q,bI.gQ p q)=R.qz p:=by
  unfold bI.mY R.qz;dsimp only;have e1:R.pz p.2=R.pz (bI.gQ p q)*((2^(p.2-bI.gQ p q).toNat:Nat):Rat):=by rw[<-R.dX];congr 1;omega
  rw[e1,cFW,cFX];grind
 have qY:R.qz (bI.mW p q,bI.gQ p q)=R.qz q:=by
  unfold bI.mW R.qz;dsimp only;have e1:R.pz q.2=R.pz (bI.gQ p q)*((2^(q.2-bI.gQ p q).toNat:Nat):Rat):=by rw[<-R.dX];congr 1;omega
  rw[e1,cFW,cFX];grind
 have qS:R.qz (bI.mY p q+bI.mW p q,bI.gQ p q)=R.qz p+R.qz q:=by
  rw[<-qX,<-qY];unfold R.qz;dsimp only;rw[cHP];grind
 have vS:R.ab (R.qz (bI.mY p q+bI.mW p q,bI.gQ p q))<=R.pz (E+n+1):=by
  rw[qS,R.kF];have:=R.Sn (R.qz p) (R.qz q);grind
 rw[<-qX]at v1;rw[<-qY]at v2;generalize bI.mY p q=X at *;generalize bI.mW p q=Y at *;generalize bI.gQ p q=m at *;have bits:∀(z:Int) (F:Int),R.ab (R.qz (z,m))<=R.pz F->bl z.natAbs=0\/m+(bl z.natAbs:Nat)<=F+1:=by
  intro z F hv
  by_cases hz:z=0
  ·left;rw[hz];rfl
  ·right;have:=Df (p:=(z,m)) hz hv;unfold bA at this;dsimp only at this;omega
 have b1:=bits X _ v1;have b2:=bits Y _ v2;have b3:=bits (X+Y) _ vS;have f:∀z:Int,bl z.natAbs<=524288->fit z.natAbs=true:=fun z h=>decide_eq_true h
 rw[f X (by omega),f Y (by omega),f (X+Y) (by omega),gO (by omega) (by omega)];rfl
theorem xI{p:Int×Int}(h:jJ p):jJ ((p.1.natAbs:Int),p.2):=by
 obtain⟨h1,h2,h3,h4⟩:=h;exact⟨by dsimp only;rw[cAH];exact h1,h2,fun hz=>h3 (by dsimp only at hz;omega),fun hz=>by dsimp only at hz ⊢;have:=h4 (by omega);omega⟩
theorem Cj(p:Int×Int):R.qz ((p.1.natAbs:Int),p.2)=R.ab (R.qz p):=by
 rw[Pw];unfold R.qz;dsimp only;rw[cFX]
theorem aNZ(p:Int×Int):bA ((p.1.natAbs:Int),p.2)=bA p:=by
 unfold bA;dsimp only;rw[cAH]
theorem oT:R.qz (1,0)=1:=by
 unfold R.qz;dsimp only;rw[R.fQ];have:((1:Int):Rat)=1:=by norm_cast
 rw[this];grind
theorem Ax:jJ (1,0):=⟨by decide +kernel,⟨by decide,by decide⟩,fun h=>absurd h (by decide),fun _=>by decide⟩
theorem aLG{a f:Nat}{w q:Int}{V E:Rat}(hq:1<=q)(hE:R.ab ((a:Rat)-R.pz w*V)<=E)(hf:E<=(f:Rat))(hfa:(f:Rat)+E<=R.pz w*V)(hV:0<=V) :
  f<=a/\R.qz (shD false (bD.Hv a f w) q)<=V-R.pz (-w)*f+R.pz (-w)*E/\V-R.pz (-w)*f-R.pz (-w)*E-R.pz (1-q)*V<=R.qz (shD false (bD.Hv a f w) q) /\
  V+R.pz (-w)*f-R.pz (-w)*E<=R.qz (shD true (bD.Ca a f w) q)/\R.qz (shD true (bD.Ca a f w) q)<=V+R.pz (-w)*f+R.pz (-w)*E+R.pz (1-q)*(2*V):=by
 rw[R.bW]at hE;have bBU:f<=a:=by
  have:(f:Rat)<=(a:Rat):=by grind
  exact_mod_cast this
 refine⟨bBU,?_⟩;have g:=R.dC (-w);have gi:=R.Yg w;have n1:=(Fc false (bD.Hv a f w) hq).1 rfl;have n2:=(Fc true (bD.Ca a f w) hq).2 rfl;have q1:R.qz (bD.Hv a f w)=((a:Rat)-(f:Rat))*R.pz (-w):=by
  unfold bD.Hv;rw[oH,cFX,R.Gh bBU]
 have q2:R.qz (bD.Ca a f w)=((a:Rat)+(f:Rat))*R.pz (-w):=by
  unfold bD.Ca;rw[oH,cFX,cEY]
 rw[q1]at n1;rw[q2]at n2;have a0:(0:Rat)<=(a:Rat)-(f:Rat):=by grind
 have f0:(0:Rat)<=(f:Rat):=by exact_mod_cast cAS f
 rw[R.bG (R.aF a0 (bZY g))]at n1;rw[R.bG (R.aF (show(0:Rat)<=(a:Rat)+(f:Rat) by grind) (bZY g))]at n2;have eV:R.pz (-w)*(R.pz w*V)=V:=by rw[<-cFV,cHL (R.pz (-w)),gi];grind
 have m1:=R.aF (bZY g) (show 0<=E-((a:Rat)-R.pz w*V) by grind);have m2:=R.aF (bZY g) (show 0<=E+((a:Rat)-R.pz w*V) by grind);have m3:=R.aF (bZY g) (show 0<=R.pz w*V-((f:Rat)+E) by grind);have m4:=R.aF (bZY g) (show 0<=(f:Rat)-E by grind);have e0:R.pz w*V=R.pz w*V:=rfl;generalize R.pz w*V=U at *;generalize R.pz (-w)=G at *;have h0:=R.dC (1-q);generalize R.pz (1-q)=H at *;have k1:=R.aF (bZY h0) (show 0<=V-((a:Rat)-(f:Rat))*G by grind);have k2:=R.aF (bZY h0) (show 0<=2*V-((a:Rat)+(f:Rat))*G by grind);refine⟨?_,?_,?_,?_⟩ <;> grind
theorem aDI(p:Int×Int):R.qz (bD.xS p)<=1/\R.qz (bD.xS p)<=R.qz p/\(R.qz (bD.xS p)=R.qz p\/R.qz (bD.xS p)=1)/\(∀v,v<=R.qz p->v<=1->v<=R.qz (bD.xS p)):=by
 unfold bD.xS
 by_cases h:0<eB p (1,0)
 ·rw[decide_eq_true h,cond_true,oT];have:=xQ.1 h;rw[oT]at this;exact⟨cAZ,bZY this,Or.inr rfl,fun v _ h=>h⟩
 ·rw[decide_eq_false h,cond_false];have:R.qz p<=1:=by rw[<-oT];exact Rat.not_lt.1 fun hn=>h (xQ.2 hn)
  exact⟨this,cAZ,Or.inl rfl,fun v h _=>h⟩
theorem aBS{p:Int×Int}(h:jJ p):jJ (bD.xS p):=by
 unfold bD.xS;cases decide (0<eB p (1,0))
 ·exact h
 ·exact Ax
theorem aMG{p:Int×Int}{n:Nat}(hn:1<=n)(h:bl p.1.natAbs<=n):bl (bD.xS p).1.natAbs<=n:=by
 unfold bD.xS;cases decide (0<eB p (1,0))
 ·exact h
 ·exact hn
theorem bDE{x:Int×Int}{p:Int}{V:Rat}{a:Nat}(h0:x.1≠0)(h1:bA x<=0)(ht:-1200<=bA x)(hp:1<=p/\p<=67100)(hV:R.pz (bA x-1)<=V)(bMS:V<=1)
  (ha:R.ab ((a:Rat)-R.pz (aR.w2 x p)*V)<=R.pz (2*(aR.hv x p:Nat)+18)) :
  bC.aMM a (2^(2*aR.hv x p+22)) (aR.w2 x p) (p+32) /\
  jJ (shD false (bD.Hv a (2^(2*aR.hv x p+22)) (aR.w2 x p)) (p+32)) /\
  R.qz (shD false (bD.Hv a (2^(2*aR.hv x p+22)) (aR.w2 x p)) (p+32))<=V-R.pz (bA x-p-270) /\
  V-R.pz (bA x-p-61)-R.pz (-p-31)*V<=R.qz (shD false (bD.Hv a (2^(2*aR.hv x p+22)) (aR.w2 x p)) (p+32)) /\
  V+R.pz (bA x-p-270)<=R.qz (shD true (bD.Ca a (2^(2*aR.hv x p+22)) (aR.w2 x p)) (p+32)) /\
  R.qz (shD true (bD.Ca a (2^(2*aR.hv x p+22)) (aR.w2 x p)) (p+32))<=V+R.pz (bA x-p-61)+R.pz (-p-31)*(2*V):=by
 obtain⟨e1,e2,h4,h5,h6,bJT,bJS⟩:=Ee h0 h1 ht hp;generalize aR.hv x p=h at *;generalize aR.w2 x p=w at *;have tp:=R.dC (bA x-1);have V0:0<=V:=by grind
 have fE:((2^(2*h+22):Nat):Rat)=R.pz (2*(h:Nat)+22):=by rw[show 2*(h:Int)+22=((2*h+22:Nat):Int) by omega,R.lT]
 have l1:R.pz (2*(h:Nat)+18)<=R.pz (2*(h:Nat)+22):=R.bV (by omega);have l2:R.pz (2*(h:Nat)+22)+R.pz (2*(h:Nat)+18)<=R.pz w*V:=by
  have b1:R.pz (2*(h:Nat)+23)<=R.pz w*R.pz (bA x-1):=by rw[<-R.jI];exact R.bV (by omega)
  have b2:R.pz (2*(h:Nat)+23)=2*R.pz (2*(h:Nat)+22):=by rw[<-R.kF];congr 1
  have b3:=R.aF (bZY (R.dC w)) (show 0<=V-R.pz (bA x-1) by grind);grind
 have r:=aLG (a:=a) (f:=2^(2*h+22)) (w:=w) (q:=p+32) (V:=V) (E:=R.pz (2*(h:Nat)+18)) (by omega) ha (by rw[fE];exact l1) (by rw[fE];exact l2) V0;obtain⟨r0,r1,r2,r3,r4⟩:=r;rw[fE,<-R.jI,<-R.jI]at r1 r2 r3 r4;rw[show(1:Int)-(p+32)=-p-31 by omega]at r2 r4;have d1:R.pz (-w+(2*(h:Nat)+18))=R.pz (-w+(2*(h:Nat)+22))/16:=by
  have:=R.fG (-w+(2*(h:Nat)+22)) (n:=4) (c:=16) (by norm_cast);rw[show -w+(2*(h:Int)+22)-((4:Nat):Int)=-w+(2*(h:Nat)+18) by omega]at this;grind
 have d2:R.pz (bA x-p-270)<=R.pz (-w+(2*(h:Nat)+22))/16:=by rw[<-d1];exact R.bV (by omega)
 have d3:R.pz (-w+(2*(h:Nat)+22))*2<=R.pz (bA x-p-61):=by
  rw[cHL,<-R.kF];exact R.bV (by omega)
 rw[d1]at r1 r2 r3 r4;have dp:=R.dC (-w+(2*(h:Nat)+22));have ba:bl a<=70000:=by
  have:(a:Rat)<=R.pz (w+1):=by
   rw[R.bW]at ha;rw[R.kF];have b3:=R.aF (bZY (R.dC w)) (show 0<=1-V by grind);have:R.pz (2*(h:Nat)+18)<=R.pz w:=R.bV (by omega);grind
  obtain⟨n,hn⟩:=bZV (show 0<=w+1 by omega);rw[hn,R.lT]at this;have:a<=2^n:=by exact_mod_cast this
  refine bVN (fX this) ?_;rw[aMI];omega
 have bf:bl (2^(2*h+22))<=500:=by rw[aMI];omega
 have bs:bl (a-2^(2*h+22))<=70000:=bVN (fX (cBH _ _)) ba;have bt:bl (a+2^(2*h+22))<=70001:=bVN (Bh _ _) (by omega);have j1:gT ((a-2^(2*h+22):Nat):Int) (-w)=true:=gO (by omega) (by rw[cAH];omega);have j2:gT ((a+2^(2*h+22):Nat):Int) (-w)=true:=gO (by omega) (by rw[cAH];omega);have p1:jJ (bD.Hv a (2^(2*h+22)) w):=gJ j1 (by rw[cAH];omega);have p2:jJ (bD.Ca a (2^(2*h+22)) w):=gJ j2 (by rw[cAH];omega);have aSE:∀{z:Nat},bl z<=70001->jJ (aN (z:Int) (-w))->bFC (aN (z:Int) (-w)):=by
  intro z hz hP;refine⟨hP,?_⟩;have hb:=vB (z:Int) (-w);rw[cAH]at hb
  by_cases z0:(z:Int)=0
  ·rw[z0,fC];show(0:Int)+((bl (0:Int).natAbs:Nat):Int)<=1048000;decide +kernel
  ·have h2:=(lE (e:=-w) z0).2;have h3:=Dd (n:=z) (by omega);rw[cAH]at h2;omega
 obtain⟨s1,s2⟩:=Oo (up:=false) (n:=p+32) (aSE (by omega) p1) (by omega);obtain⟨s3,s4⟩:=Oo (up:=true) (n:=p+32) (aSE bt p2) (by omega);refine⟨⟨by omega,by omega,⟨by omega,by omega⟩,s1,s3,s4⟩,s2,?_,?_,?_,?_⟩ <;> grind
end M
namespace M
open Go AI W
theorem aTP(up:Bool)(p:Int×Int){n:Int}(hn:bA p+1-n<=0):bA p+1-n<=(shD up p n).2:=by
 have key:∀z e:Int,bA p+1-n<=e->bA p+1-n<=(aN z e).2:=by
  intro z e he
  by_cases hz:z=0
  ·rw[hz,fC];exact hn
  ·have:=qT (e:=e) hz;omega
 unfold shD cD.nO;unfold bA at *;split
 ·exact key _ _ (by omega)
 ·exact key _ _ (by omega)
theorem Ih{up:Bool}{p:Int×Int}{n:Int}(h:(shD up p n).1≠0):bA p+1-n<=(shD up p n).2:=by
 have key:∀z e:Int,(aN z e).1≠0->bA p+1-n<=e->bA p+1-n<=(aN z e).2:=by
  intro z e h0 he;have:=qT (e:=e) (fun hz=>h0 (dW.2 hz));omega
 unfold shD at *;refine key _ _ h ?_;unfold cD.nO bA at *;split <;> (dsimp only;omega)
theorem aDN{p q:Int×Int}{E:Int}(h1:E<=p.2)(h2:E<=q.2)(h0:E<=0):E<=(bI.nC p q).2:=by
 have hm:E<=bI.gQ p q:=by unfold bI.gQ;split <;> omega
 unfold bI.nC;split
 ·exact h2
 ·split
  ·exact h1
  ·by_cases hz:bI.mY p q+bI.mW p q=0
   ·rw[hz,fC];exact h0
   ·have:=qT (e:=bI.gQ p q) hz;omega
theorem aMK{p:Int×Int}{E F:Int}(h1:E<=p.2)(h2:R.ab (R.qz p)<=R.pz F):(bl p.1.natAbs:Int)<=F+1-E\/bl p.1.natAbs=0:=by
 by_cases h0:p.1=0
 ·right;rw[h0];rfl
 ·left;have:=Df h0 h2;unfold bA at this;omega
theorem Ik(k:Int):R.qz (-1,k)=-R.pz k:=by
 unfold R.qz;dsimp only;have:((-1:Int):Rat)=-1:=by norm_cast
 rw[this];grind
theorem Ug{k:Int}(h:-1048576<=k/\k<=1048576):jJ (-1,k):=⟨by show bl (-1:Int).natAbs<=524288;decide +kernel,h,fun h=>absurd (show(-1:Int)=0 from h) (by decide),fun _=>by show(-1:Int)%2=1;decide⟩
theorem aAO{x:Int×Int}(h0:x.1≠0)(hT:R.ab (R.qz x)<=4/5):bA x<=-1:=by
 have:R.ab (R.qz x)<R.pz 0:=by rw[R.fQ];grind
 have:=Ew h0 this;omega
structure aYR(x:Int×Int)(p:Int):Prop where
 pl:jJ (fH.tN x p)
 ph:jJ (fH.sE x p)
 bl:bl (fH.tN x p).1.natAbs<=80000
 bh:M.bl (fH.sE x p).1.natAbs<=80000
 lo:R.qz (fH.tN x p)<=R.sn (R.ab (R.qz x))-R.pz (bA x-p-270)
 hi:R.sn (R.ab (R.qz x))<=R.qz (fH.sE x p)
 wd:R.qz (fH.sE x p)-R.qz (fH.tN x p)<=R.pz (-p-1)*R.ab (R.qz x)
 one:R.qz (fH.sE x p)<=1
 mh:¬2*bA x+8 < -p->R.sn (R.ab (R.qz x))+R.pz (bA x-p-270)<=R.qz (fH.sE x p)
 pos:0<R.qz (fH.tN x p)
 bFU:2*bA x+8 < -p->wZ true ((x.1.natAbs:Int),x.2) (p+32)=true/\wZ false ((x.1.natAbs:Int),x.2) (p+32)=true/\jJ (shD false ((x.1.natAbs:Int),x.2) (p+32))/\bI.jW (shD false ((x.1.natAbs:Int),x.2) (p+32)) (-1,bA x-p-3)=true
 okB:¬2*bA x+8 < -p->bC.Sg x p/\bC.aMM (aR.Bv x p).1 (2^(2*aR.hv x p+22)) (aR.w2 x p) (p+32)
theorem aRX{p:Int}(hp:1<=p):R.pz (-p-1)<=1/4:=by
 have h:=R.bV (show -p-1<=-2 by omega);have h2:=R.xG 2;rw[show -((2:Nat):Int)=-2 by rfl]at h2;rw[h2]at h;have h3:R.hf 2=1/4:=by simp[R.hf];grind
 grind
theorem Ty{x:Int×Int}{p:Int}(hx:jJ x)(h0:x.1≠0)(hT:R.ab (R.qz x)<=4/5)(ht:-1200<=bA x)(hp:1<=p/\p<=67100):aYR x p:=by
 have h1:=aAO h0 hT;obtain⟨e1,e2,h4,h5,h6,bJT,bJS⟩:=Ee h0 (by omega) ht hp;obtain⟨t1,t2⟩:=oG h0;have tp:=R.dC (bA x);have T0:0<R.ab (R.qz x):=by grind
 obtain⟨v1,v2⟩:=R.aBB (bZY T0) hT;obtain⟨z,hz⟩:∃z,z=R.pz (-p-31):=⟨_,rfl⟩;have z0:=R.dC (-p-31);have q1:R.pz (-p-1)=1073741824*z:=by
  have:=R.fG (-p-1) (n:=30) (c:=1073741824) (by norm_cast);rw[show -p-1-((30:Nat):Int)=-p-31 by omega,<-hz]at this;grind
 have q2:R.pz (bA x-p-61)=z*R.pz (bA x)/1073741824:=by
  have:=R.fG (-p-31+bA x) (n:=30) (c:=1073741824) (by norm_cast);rw[show -p-31+bA x-((30:Nat):Int)=bA x-p-61 by omega,R.jI,<-hz]at this;grind
 have q3:R.pz (bA x-p-3)=268435456*(z*R.pz (bA x)):=by
  have:=R.fG (bA x-p-3) (n:=28) (c:=268435456) (by norm_cast);rw[show bA x-p-3-((28:Nat):Int)=-p-31+bA x by omega,R.jI,<-hz]at this;grind
 have sm:=aRX hp.1;rw[q1]at sm;rw[<-hz]at z0;have zt:=R.aF (bZY z0) (show 0<=R.ab (R.qz x)-R.pz (bA x) by grind);have zT:=R.aF (bZY T0) (show 0<=1/4-1073741824*z by grind);have aPH:R.pz (bA x-p-270)<=R.pz (bA x-p-61):=R.bV (by omega);have p270:=R.dC (bA x-p-270)
 by_cases c:2*bA x+8 < -p
 ·have dL:fH.tN x p=bI.nC (shD false ((x.1.natAbs:Int),x.2) (p+32)) (-1,bA x-p-3):=by unfold fH.tN;rw[e1,if_pos c]
  have dH:fH.sE x p=shD true ((x.1.natAbs:Int),x.2) (p+32):=by unfold fH.sE;rw[e1,if_pos c]
  have pX:=xI hx;have vX:=Cj x;have tX:=aNZ x;have n1:=(Fc false ((x.1.natAbs:Int),x.2) (n:=p+32) (by omega)).1 rfl;have n2:=(Fc true ((x.1.natAbs:Int),x.2) (n:=p+32) (by omega)).2 rfl;rw[vX,show(1:Int)-(p+32)=-p-31 by omega,<-hz,R.bG (bZY T0)]at n1 n2;have aSE:bFC ((x.1.natAbs:Int),x.2):=⟨pX,by unfold bA at tX h1;dsimp only at *;omega⟩;obtain⟨s1,s2⟩:=Oo (up:=false) (n:=p+32) aSE (by omega);obtain⟨s3,s4⟩:=Oo (up:=true) (n:=p+32) aSE (by omega);have x1:=aTP false ((x.1.natAbs:Int),x.2) (n:=p+32) (by rw[tX];omega);have x2:=yZ true ((x.1.natAbs:Int),x.2) (p+32).toNat;rw[tX]at x1;rw[show(((p+32).toNat:Nat):Int)=p+32 by omega]at x2;have pm:=Ug (k:=bA x-p-3) (by omega);have T1:R.ab (R.qz x)<=R.pz (bA x+1):=bZY t2;have L0:0<=R.qz (shD false ((x.1.natAbs:Int),x.2) (p+32)):=by grind
  have bDF:bI.jW (shD false ((x.1.natAbs:Int),x.2) (p+32)) (-1,bA x-p-3)=true:=by
   refine Zy (E:=bA x-p-40) (n:=(p+41).toNat) s2 pm (by omega) (by dsimp only;omega) ?_ ?_ (by omega) (by omega) (by omega)
   ·rw[show bA x-p-40+(((p+41).toNat:Nat):Int)=bA x+1 by omega,R.bG L0];grind
   ·rw[Ik,R.iI,R.bG (bZY (R.dC _))];exact R.bV (by omega)
  have pl:=Qw s2 pm bDF;have xl:=aDN (p:=shD false ((x.1.natAbs:Int),x.2) (p+32)) (q:=(-1,bA x-p-3)) (E:=bA x-p-40) (by omega) (by dsimp only;omega) (by omega);have ql:=Qv (shD false ((x.1.natAbs:Int),x.2) (p+32)) (-1,bA x-p-3);rw[Ik,q3]at ql;rw[<-dL]at pl xl ql;rw[<-dH]at s4 x2 n2;have cube:R.ab (R.qz x)-z*R.pz (bA x)*268435456/16<=R.sn (R.ab (R.qz x)):=by
   have s:=(R.wF (bZY T0) (show R.ab (R.qz x)<=1 by grind)).1;have a1:R.ab (R.qz x)*R.ab (R.qz x)<=R.pz (bA x+1)*R.pz (bA x+1):=R.bR (bZY T0) T1 (bZY T0) T1;rw[<-R.jI]at a1;have a2:R.pz (bA x+1+(bA x+1))<=R.pz (-p-7):=R.bV (by omega);have a3:R.pz (-p-7)=16777216*z:=by
    have:=R.fG (-p-7) (n:=24) (c:=16777216) (by norm_cast);rw[show -p-7-((24:Nat):Int)=-p-31 by omega,<-hz]at this;grind
   have a4:=R.aF (show 0<=16777216*z-R.ab (R.qz x)*R.ab (R.qz x) by grind) (bZY T0);rw[R.kF]at T1;have a5:=R.aF (bZY z0) (show 0<=2*R.pz (bA x)-R.ab (R.qz x) by grind);generalize R.ab (R.qz x)=T at *;grind
  have bNV:=cAI z0 tp;refine⟨pl,s4,?_,by omega,?_,?_,?_,?_,fun h=>absurd c h,?_,fun _=>⟨s3,s1,s2,bDF⟩,fun h=>absurd c h⟩
  ·have v:R.ab (R.qz (fH.tN x p))<=R.pz (bA x+1):=by
    rw[R.bG (by grind)];grind
   have:=aMK xl v;omega
  ·rw[q2]at aPH;grind
  ·grind
  ·rw[q1];grind
  ·grind
  ·grind
 ·have dL:fH.tN x p=shD false (bD.Hv (aR.Bv x p).1 (2^(2*aR.hv x p+22)) (aR.w2 x p)) (p+32):=by unfold fH.tN;rw[e1,if_neg c]
  have dH:fH.sE x p=bD.xS (shD true (bD.Ca (aR.Bv x p).1 (2^(2*aR.hv x p+22)) (aR.w2 x p)) (p+32)):=by unfold fH.sE;rw[e1,if_neg c]
  obtain⟨b1,b2,b3⟩:=Wa h0 (by grind) (by omega) ht hp;have hV:R.pz (bA x-1)<=R.sn (R.ab (R.qz x)):=by
   have:=R.qA (bA x);grind
  obtain⟨a1,a2,a3,a4,a5,a6⟩:=bDE h0 (by omega) ht hp hV (by grind) b2;have a7:=a1.2.2.2.2.2;have c1:=yZ false (bD.Hv (aR.Bv x p).1 (2^(2*aR.hv x p+22)) (aR.w2 x p)) (p+32).toNat;have c2:=yZ true (bD.Ca (aR.Bv x p).1 (2^(2*aR.hv x p+22)) (aR.w2 x p)) (p+32).toNat;rw[show(((p+32).toNat:Nat):Int)=p+32 by omega]at c1 c2;obtain⟨k1,k2,k3,k4⟩:=aDI (shD true (bD.Ca (aR.Bv x p).1 (2^(2*aR.hv x p+22)) (aR.w2 x p)) (p+32));have c3:=aMG (n:=80000) (by omega) (show bl (shD true (bD.Ca (aR.Bv x p).1 (2^(2*aR.hv x p+22)) (aR.w2 x p)) (p+32)).1.natAbs<=80000 by omega);have c4:=aBS a7;rw[<-dL]at a2 a3 a4 c1;rw[<-dH]at k1 k2 k3 k4 c3 c4;generalize shD true (bD.Ca (aR.Bv x p).1 (2^(2*aR.hv x p+22)) (aR.w2 x p)) (p+32)=hi at *;rw[<-hz]at a4 a6;have zV:=R.aF (bZY z0) (show 0<=R.ab (R.qz x)-R.sn (R.ab (R.qz x)) by grind);have hm:R.sn (R.ab (R.qz x))+R.pz (bA x-p-270)<=R.qz (fH.sE x p):=by
   refine k4 _ a5 ?_;rw[q2]at aPH;grind
  refine⟨a2,c4,by omega,c3,a3,by grind,?_,k1,fun _=>hm,?_,fun h=>absurd h c,fun _=>⟨⟨⟨by omega,by omega⟩,b1⟩,a1⟩⟩
  ·rw[q1];rw[q2]at a4 a6;grind
  ·rw[q2]at a4;grind
structure bFF(x:Int×Int)(p:Int):Prop where
 pl:jJ (bC.rN x p)
 ph:jJ (bC.qN x p)
 bl:bl (bC.rN x p).1.natAbs<=80000
 bh:M.bl (bC.qN x p).1.natAbs<=80000
 lo:R.qz (bC.rN x p)<=R.cs (R.ab (R.qz x))
 hi:R.cs (R.ab (R.qz x))<=R.qz (bC.qN x p)
 wd:R.qz (bC.qN x p)-R.qz (bC.rN x p)<=R.pz (-p-1)
 one:R.qz (bC.qN x p)<=1
 ml:x.1≠0->R.qz (bC.rN x p)<=R.cs (R.ab (R.qz x))-R.pz (bA x-p-270)
 mh:x.1≠0->¬2*bA x+8 < -p->R.cs (R.ab (R.qz x))+R.pz (bA x-p-270)<=R.qz (bC.qN x p)
 bFU:x.1≠0->2*bA x+8 < -p->bI.jW (1,0) (-1,-p-3)=true
 okB:x.1≠0->¬2*bA x+8 < -p->bC.Sg x p/\bC.aMM (aR.Bv x p).2 (2^(2*aR.hv x p+22)) (aR.w2 x p) (p+32)
theorem Lt{x:Int×Int}{p:Int}(hT:R.ab (R.qz x)<=4/5)(ht:x.1≠0->-1200<=bA x)(hp:1<=p/\p<=67100):bFF x p:=by
 obtain⟨z,hz⟩:∃z,z=R.pz (-p-31):=⟨_,rfl⟩;have z0:=R.dC (-p-31);have q1:R.pz (-p-1)=1073741824*z:=by
  have:=R.fG (-p-1) (n:=30) (c:=1073741824) (by norm_cast);rw[show -p-1-((30:Nat):Int)=-p-31 by omega,<-hz]at this;grind
 have sm:=aRX hp.1;rw[q1]at sm;rw[<-hz]at z0
 by_cases h0:x.1=0
 ·have dL:bC.rN x p=(1,0):=by unfold bC.rN;rw[if_pos h0]
  have dH:bC.qN x p=(1,0):=by unfold bC.qN;rw[if_pos h0]
  have c1:R.cs (R.ab (R.qz x))=1:=by rw[R.oC h0,R.bG (cAZ),R.aDC]
  refine⟨by rw[dL];exact Ax,by rw[dH];exact Ax,by rw[dL];decide +kernel,by rw[dH];decide +kernel,by rw[dL,oT,c1];exact cAZ,by rw[dH,oT,c1];exact cAZ,?_,by rw[dH,oT];exact cAZ,fun h=>absurd h0 h,fun h=>absurd h0 h,fun h=>absurd h0 h,fun h=>absurd h0 h⟩;rw[dL,dH,q1];grind
 ·have ht:=ht h0;have h1:=aAO h0 hT;obtain⟨e1,e2,h4,h5,h6,bJT,bJS⟩:=Ee h0 (by omega) ht hp;obtain⟨t1,t2⟩:=oG h0;have tp:=R.dC (bA x);have T0:0<R.ab (R.qz x):=by grind
  obtain⟨v1,v2⟩:=R.Vu (r:=R.ab (R.qz x)) (by rw[R.bG (bZY T0)];exact hT);have T1:R.ab (R.qz x)<=R.pz (bA x+1):=bZY t2;have pt:R.pz (bA x)<=1/2:=by
   have:=R.bV (show bA x+1<=0 by omega);rw[R.kF,R.fQ]at this;grind
  have q2:R.pz (bA x-p-61)=z*R.pz (bA x)/1073741824:=by
   have:=R.fG (-p-31+bA x) (n:=30) (c:=1073741824) (by norm_cast);rw[show -p-31+bA x-((30:Nat):Int)=bA x-p-61 by omega,R.jI,<-hz]at this;grind
  have zt:=R.aF (bZY z0) (show 0<=1/2-R.pz (bA x) by grind);have bNV:=cAI z0 tp;have aPH:R.pz (bA x-p-270)<=R.pz (bA x-p-61):=R.bV (by omega);rw[q2]at aPH;have cs2:=R.Lr (bZY T0) (show R.ab (R.qz x)<=1 by grind)
  by_cases c:2*bA x+8 < -p
  ·have dL:bC.rN x p=bI.nC (1,0) (-1,-p-3):=by unfold bC.rN;rw[e1,if_neg h0,if_pos c]
   have dH:bC.qN x p=(1,0):=by unfold bC.qN;rw[e1,if_neg h0,if_pos c]
   have pm:=Ug (k:=-p-3) (by omega);have o1:R.ab (R.qz (1,0))<=R.pz 0:=by rw[oT,R.fQ,R.bG (by grind)];exact cAZ
   have bDF:bI.jW (1,0) (-1,-p-3)=true:=by
    refine Zy (E:=-p-3) (n:=(p+3).toNat) Ax pm (by dsimp only;omega) (by dsimp only;omega) ?_ ?_ (by omega) (by omega) (by omega)
    ·rw[show -p-3+(((p+3).toNat:Nat):Int)=0 by omega];exact o1
    ·rw[Ik,R.iI,R.bG (bZY (R.dC _))];exact R.bV (by omega)
   have pl:=Qw Ax pm bDF;have xl:=aDN (p:=(1,0)) (q:=(-1,-p-3)) (E:=-p-3) (by dsimp only;omega) (by dsimp only;omega) (by omega);have ql:=Qv (1,0) (-1,-p-3);have q3:R.pz (-p-3)=268435456*z:=by
    have:=R.fG (-p-3) (n:=28) (c:=268435456) (by norm_cast);rw[show -p-3-((28:Nat):Int)=-p-31 by omega,<-hz]at this;grind
   rw[Ik,oT,q3]at ql;rw[<-dL]at pl xl ql;have lo:R.qz (bC.rN x p)<=R.cs (R.ab (R.qz x))-R.pz (bA x-p-270):=by
    have a1:R.ab (R.qz x)*R.ab (R.qz x)<=R.pz (bA x+1)*R.pz (bA x+1):=R.bR (bZY T0) T1 (bZY T0) T1;rw[<-R.jI]at a1;have a2:R.pz (bA x+1+(bA x+1))<=R.pz (-p-7):=R.bV (by omega);have a3:R.pz (-p-7)=16777216*z:=by
     have:=R.fG (-p-7) (n:=24) (c:=16777216) (by norm_cast);rw[show -p-7-((24:Nat):Int)=-p-31 by omega,<-hz]at this;grind
    grind
   refine⟨pl,by rw[dH];exact Ax,?_,by rw[dH];decide +kernel,?_,by rw[dH,oT];exact v2,?_,by rw[dH,oT];exact cAZ,fun _=>lo,fun _ h=>absurd c h,fun _ _=>bDF,fun _ h=>absurd c h⟩
   ·have v:R.ab (R.qz (bC.rN x p))<=R.pz 0:=by
     rw[R.fQ,R.bG (by grind)];grind
    have:=aMK xl v;omega
   ·have:=R.dC (bA x-p-270);grind
   ·rw[dH,oT,q1];grind
  ·have dL:bC.rN x p=shD false (bD.Hv (aR.Bv x p).2 (2^(2*aR.hv x p+22)) (aR.w2 x p)) (p+32):=by unfold bC.rN;rw[e1,if_neg h0,if_neg c]
   have dH:bC.qN x p=bD.xS (shD true (bD.Ca (aR.Bv x p).2 (2^(2*aR.hv x p+22)) (aR.w2 x p)) (p+32)):=by unfold bC.qN;rw[e1,if_neg h0,if_neg c]
   obtain⟨b1,b2,b3⟩:=Wa h0 (by grind) (by omega) ht hp;have hV:R.pz (bA x-1)<=R.cs (R.ab (R.qz x)):=by
    have:=R.qA (bA x);grind
   obtain⟨a1,a2,a3,a4,a5,a6⟩:=bDE h0 (by omega) ht hp hV v2 b3;have a7:=a1.2.2.2.2.2;have c1:=yZ false (bD.Hv (aR.Bv x p).2 (2^(2*aR.hv x p+22)) (aR.w2 x p)) (p+32).toNat;have c2:=yZ true (bD.Ca (aR.Bv x p).2 (2^(2*aR.hv x p+22)) (aR.w2 x p)) (p+32).toNat;rw[show(((p+32).toNat:Nat):Int)=p+32 by omega]at c1 c2;obtain⟨k1,k2,k3,k4⟩:=aDI (shD true (bD.Ca (aR.Bv x p).2 (2^(2*aR.hv x p+22)) (aR.w2 x p)) (p+32));have c3:=aMG (n:=80000) (by omega) (show bl (shD true (bD.Ca (aR.Bv x p).2 (2^(2*aR.hv x p+22)) (aR.w2 x p)) (p+32)).1.natAbs<=80000 by omega);have c4:=aBS a7;rw[<-dL]at a2 a3 a4 c1;rw[<-dH]at k1 k2 k3 k4 c3 c4;generalize shD true (bD.Ca (aR.Bv x p).2 (2^(2*aR.hv x p+22)) (aR.w2 x p)) (p+32)=hi at *;rw[<-hz]at a4 a6;have zV:=R.aF (bZY z0) (show 0<=1-R.cs (R.ab (R.qz x)) by grind);have m9:=R.dC (bA x-p-270);have room:R.cs (R.ab (R.qz x))+R.pz (bA x-p-270)<=1:=by
    have a1:R.pz (bA x)*R.pz (bA x)<=R.ab (R.qz x)*R.ab (R.qz x):=R.bR (bZY tp) t1 (bZY tp) t1;rw[<-R.jI]at a1;have a2:R.pz (-p-9)<=R.pz (bA x+bA x):=R.bV (by omega);have a3:R.pz (-p-9)=4194304*z:=by
     have:=R.fG (-p-9) (n:=22) (c:=4194304) (by norm_cast);rw[show -p-9-((22:Nat):Int)=-p-31 by omega,<-hz]at this;grind
    have a5:=R.bR (bZY T0) hT (bZY T0) hT;have a6:=R.aF (show 0<=R.ab (R.qz x)*R.ab (R.qz x) by grind) (show 0<=16/25-R.ab (R.qz x)*R.ab (R.qz x) by grind);generalize R.ab (R.qz x)=T at *;grind
   have hm:R.cs (R.ab (R.qz x))+R.pz (bA x-p-270)<=R.qz (bC.qN x p):=k4 _ a5 room;rw[q2]at a4 a6;refine⟨a2,c4,by omega,c3,by grind,by grind,?_,k1,fun _=>a3,fun _ _=>hm,fun _ h=>absurd h c,fun _ _=>⟨⟨⟨by omega,by omega⟩,b1⟩,a1⟩⟩;rw[q1];grind
end M
namespace W
open Go AI M
namespace Tf
def E:=mE [(12,bP.aJ)] 8 [5] [] []
def aE:=bd f241
theorem aX:Nk E aE:=nk
theorem start a:aH E f241 aE [D.s (sc (int u64 a))]=letI A:=bif cS.fO 64 a&&cA.jB 64 a then aN (bP.nB 64 a) (bP.nH 64 a)else((0:Int),(0:Int));aO (((64:Int)=(32:Int)\/(64:Int)=(64:Int))/\0<=a/\a<18446744073709551616) (some [D.agg [sc (bool (isNeg A.fst)),ints u64 (M6.dg A.fst.natAbs),sc (int i64 A.snd)],D.s (sc (int i64 (bif cS.fO 64 a then bif cA.jB 64 a then(0:Int)else(6:Int)else(2:Int))))]):=eJ aX
def sp(b:Int):Prop×List D:=(0<=b/\b<18446744073709551616,[dD (bif cS.fO 64 b&&cA.jB 64 b then aN (bP.nB 64 b) (bP.nH 64 b)else(0,0)),.s (.sc (.int .i64 (bif cS.fO 64 b then(bif cA.jB 64 b then 0 else 6)else 2)))])
theorem spec:jD E f241 aE (pN .u64) sp:=fun b h=>(start b).trans (gP ⟨Or.inr rfl,h.1,h.2⟩)
def aJ:dO:=orc1 (pN .u64) sp
theorem ok:OK 241 aJ:=(fA E aE (aA bP.ok aD) func241).pU rfl spec
end Tf
namespace Cz
def E:=mE [(51,aFX.aJ)] 5 [] [] []
def aE:=bd f244
theorem aX:Nk E aE:=nk
theorem start a:aH E f244 aE [D.s (sc (int i64 a))]=aO ((-9223372036854775808:Int)<=a/\a<9223372036854775808) (some [D.agg [sc (bool (isNeg a)),ints u64 (M6.dg a.natAbs)]]):=eJ aX
def sp(a:Int):Prop×List D:=(-9223372036854775808<=a/\a<9223372036854775808,[wD a])
theorem spec:jD E f244 aE (pN .i64) sp:=fun a h=>(start a).trans (gP h)
def aJ:dO:=orc1 (pN .i64) sp
theorem ok:OK 244 aJ:=(fA E aE (aA aFX.ok aD) func244).pU rfl spec
end Cz
namespace tA
def E:=mE [(244,Cz.aJ),(50,iX.aJ),(158,Hy.aJ)] 22 [] [] []
def aE:=bd f242
theorem aX:Nk E aE:=nk
theorem start a b c:aH E f242 aE [D.agg [sc (bool a),ints u64 b,sc (int i64 c)]]=letI F:=(false,b,c);letI C:=wv (isNeg 3,M6.dg (cEO 3));letI A:=bif gT C (-2:Int)then aN C (-2:Int)else((0:Int),(0:Int));letI B:=(isNeg A.fst,M6.dg A.fst.natAbs,A.snd);aO ((-9223372036854775808:Int)<=(3:Int)/\(3:Int)<(9223372036854775808:Int)) (aO (gI (isNeg 3,M6.dg 3)/\(-9223372036854775808:Int)<=(-2:Int)/\(-2:Int)<(9223372036854775808:Int)) (aO (aP F/\aP B) (some [D.s (sc (bool (decide (lH (bI.mY (dv F) (dv B)) (bI.mW (dv F) (dv B))<=0))))]))):=eJ aX
def aNJ(p:Int×Int):Bool:=decide (eB ((p.1.natAbs:Int),p.2) (3,-2)<=0)
def sp(x:gB):Prop×List D:=(aP x,[.s (.sc (.bool (aNJ (dv x))))])
theorem spec:jD E f242 aE iW sp:=by
 intro x h;have hx:aP x:=h;refine(start x.1 x.2.1 x.2.2).trans ?_;have e3:wv (isNeg 3,M6.dg (cEO 3))=3:=nA 3;have i3:gT 3 (-2)=true:=by decide +kernel
 have n3:aN 3 (-2)=(3,-2):=by decide +kernel
 have p3:jJ (3,-2):=by
  have:=gJ (z:=3) (e:=-2) i3 (by decide +kernel);rw[n3]at this;exact this
 have d3:=dJ p3;have v3:=dT (3,-2);dsimp only at d3 v3;have ok:aP (false,x.2.1,x.2.2):=⟨⟨hx.1.1,fun hf=>(by cases hf),hx.1.len⟩,hx.2⟩;have vx:dv (false,x.2.1,x.2.2)=((((dv x).1.natAbs:Nat):Int),(dv x).2):=by
  rw[show(dv x).1.natAbs=M6.val x.2.1 from iF (x.1,x.2.1)];rfl
 rw[gP ⟨by decide,by decide⟩,gP ⟨fT (z:=3) (by decide +kernel),by decide,by decide⟩];simp only[e3,i3,n3,cond_true];rw[gP ⟨ok,d3⟩,v3,vx];rfl
def aJ:dO:=orc1 iW sp
theorem ok:OK 242 aJ:=(fA E aE (aA Cz.ok (aA iX.ok (aA Hy.ok aD))) func242).pU rfl spec
end tA
end W
namespace R
open W.Arctan
theorem Ci{k w:Nat}(hk:2<=k):∀f j p m,2^w/k^(2*j+1)<4^f->m<=p->(j%2=1->m+iC k w j<=p) ->
  ∃N J,rounds k f (2^w/k^(2*j+1)) p m (2*j+1) j=(N,J)/\J<=j+f/\(N:Rat)=(p:Rat)-(m:Rat)+(sum (fun i=>sg i*(iC k w i:Rat)) J-sum (fun i=>sg i*(iC k w i:Rat)) j)/\iC k w J=0
 |0,j,p,m,h,hm,_=>by
  have h0:2^w/k^(2*j+1)=0:=by simpa using h
  refine⟨p-m,j,rfl,bUR _,?_,by unfold iC;rw[h0,Nat.zero_div]⟩;have:((p-m:Nat):Rat)=(p:Rat)-(m:Rat):=by
   have e:p-m+m=p:=by omega
   have e2:((p-m:Nat):Rat)+(m:Rat)=(p:Rat):=by exact_mod_cast e
   grind
  rw[this];grind
 |f+1,j,p,m,h,hm,ho=>by
  by_cases h0:2^w/k^(2*j+1)=0
  ·refine⟨p-m,j,by unfold rounds;rw[if_pos h0],by omega,?_,by unfold iC;rw[h0,Nat.zero_div]⟩;have:((p-m:Nat):Rat)=(p:Rat)-(m:Rat):=by
    have e:p-m+m=p:=by omega
    have e2:((p-m:Nat):Rat)+(m:Rat)=(p:Rat):=by exact_mod_cast e
    grind
   rw[this];grind
  ·have e1:2^w/k^(2*j+1)/k/k=2^w/k^(2*(j+1)+1):=by
    rw[cAL,cAL,show 2*(j+1)+1=2*j+1+1+1 by omega,bZQ k (2*j+1+1),bZQ k (2*j+1),bZT]
   have e2:2^w/k^(2*(j+1)+1)<4^f:=by
    rw[<-e1,cAL];apply cAJ;have:4<=k*k:=cFA hk hk;rw[bZQ 4 f,bZP (4^f)]at h;exact bVO h (bWG _ this)
   have e3:iC k w (j+1)<=iC k w j:=by
    unfold iC;rw[<-e1];refine bVN (Nat.div_le_div_left (by omega) (by omega)) (Nat.div_le_div_right ?_);exact bVN (cFB _ _) (cFB _ _)
   have es:sum (fun i=>sg i*(iC k w i:Rat)) (j+1)=sum (fun i=>sg i*(iC k w i:Rat)) j+sg j*(iC k w j:Rat):=dM _ _;have ea:2^w/k^(2*j+1)/(2*j+1)=iC k w j:=rfl;unfold rounds;rw[if_neg h0,e1,ea,show 2*j+1+2=2*(j+1)+1 by omega]
   by_cases hc:(2*j+1)%4=1
   ·rw[if_pos hc];obtain⟨N,J,r1,r2,r3,r4⟩:=Ci hk f (j+1) (p+iC k w j) m e2 (by omega) (fun _=>by omega);refine⟨N,J,r1,by omega,?_,r4⟩;have:sg j=1:=by unfold sg;rw[aW]
    rw[es,this]at r3;rw[cEY]at r3;grind
   ·rw[if_neg hc];have hj:=ho (by omega);obtain⟨N,J,r1,r2,r3,r4⟩:=Ci hk f (j+1) p (m+iC k w j) e2 (by omega) (fun h=>by omega);refine⟨N,J,r1,by omega,?_,r4⟩;have:sg j=-1:=by unfold sg;rw[aU]
    rw[es,this]at r3;rw[cEY]at r3;grind
theorem Wf{k:Nat}(hk:2<=k){w:Nat}(hw:w<=1000000):(atan k w).2<=w+2/\ab (((atan k w).1:Rat)-((2^w:Nat):Rat)*We k)<=((atan k w).2:Rat)+2:=by
 have h:2^w/k^(2*0+1)<4^(w+2):=by
  rw[Ll];exact cBA (cFB _ _) (cCA (by omega) (by omega))
 obtain⟨N,J,r1,r2,r3,r4⟩:=Ci (w:=w) hk (w+2) 0 0 0 h (bUR _) (fun h=>by omega);have e:atan k w=(N,J):=by
  unfold atan;rw[<-r1];simp
 rw[e];have hJ:J<=1048576:=by omega
 have:=aDM hk w hJ r4;refine⟨by dsimp only;omega,?_⟩;dsimp only;have e0:sum (fun i=>sg i*(iC k w i:Rat)) 0=0:=rfl;rw[e0]at r3;have e1:(N:Rat)=sum (fun i=>sg i*(iC k w i:Rat)) J:=by
  have z:((0:Nat):Rat)=0:=by norm_cast
  rw[z]at r3;grind
 rw[e1];exact this
end R
namespace W
open Go AI M
namespace Ai
def E:=mE [(144,gM.aJ),(145,cP.aJ),(250,Mn.aJ)] 55 [52] [(6,[0,1,6,7,20,21])] []
def aE:=bd f231
theorem aX:Nk E aE:=nk
def L6 a b (c:Nat) (d:List Int) e f g:=sJ E f231 aE 6 [iK a,dG b,Ce 2 c 22 d,dG e,cK f,cK g]
theorem start a b:aH E f231 aE [D.s (ints u64 a),D.s (sc (int u64 b))]=letI A:=(a.length:Int);letI B:=A+(1:Int);aO (a.length<=1099511627776) (aB (!gM.oN a) (some [D.s (sc (slice none 0 0)),D.s (sc (int i64 2))]) (if 0<=i64.wrap B/\i64.wrap B<=i64.wrap B/\i64.wrap B<=8796093022208 then Ai.L6 a b (i64.wrap B).toNat (bWU (i64.wrap B).toNat (0:Int)) 0 A 0 else none)):=eJ aX
theorem aDP a b c d e f g:L6 a b c d e f g=letI C:=a.getD g.toNat 0*b%18446744073709551616+e+0;letI B:=(a.length:Int);letI A:=d.set B.toNat e;aB (decide (g<f)) (if 0<=g/\g<B then aO (0<=a.getD g.toNat 0/\a.getD g.toNat 0<(18446744073709551616:Int)/\0<=b/\b<18446744073709551616) (aO (0<=a.getD g.toNat 0*b%18446744073709551616/\0<=e/\(0:Int)<=(0:Int)/\(0:Int)<=(1:Int)) (if 0<=g/\g<(c:Int)then Ai.L6 a b c (d.set g.toNat (C%18446744073709551616)) (u64.wrap (a.getD g.toNat 0*b/18446744073709551616+C/18446744073709551616)) f (i64.wrap (g+1))else none))else none) (if 0<=B/\B<(c:Int)then aO (M6.cZ A/\A.length<=1099511627776) (some [D.s (ints u64 (bif cP.mL (M6.val A)then M6.dg (M6.val A)else [])),D.s (sc (int i64 (bif cP.mL (M6.val A)then(0:Int)else(5:Int))))])else none):=lJ aX
theorem L{a:List Int}{b:Nat}(ha:M6.cZ a)(hl:a.length<=8192)(hb:b<18446744073709551616):∀(k i:Nat) (pre:List Int) (c:Nat),i+k=a.length->pre.length=i->M6.cZ pre->c<18446744073709551616 ->
  M6.val pre+18446744073709551616^i*c=M6.val (a.take i)*b ->
  L6 a b (a.length+1) (pre ++ bWU (k+1) 0) c a.length i=some [D.s (.ints .u64 (bif cP.mL (M6.val a*b)then M6.dg (M6.val a*b)else [])),D.s (.sc (.int .i64 (bif cP.mL (M6.val a*b)then 0 else 5)))]:=by
 intro k
 induction k with
 |zero =>
  intro i pre c hi hp hd hc hv;rw[M6.dR (by omega)]at hv;have hs:(pre ++ bWU (0+1) 0).set a.length (c:Int)=pre ++ [(c:Int)]:=by
   have:=zA (pre:=pre) (i:=a.length) (k:=0) (by omega) (c:Int);simpa using this
  have hval:M6.val (pre ++ [(c:Int)])=M6.val a*b:=by
   rw[M6.nU,hp,bYO];exact hv
  have bII:M6.cZ (pre ++ [(c:Int)]):=M6.nZ hd ⟨cEF _,by omega⟩;rw[aDP,aL,if_pos ⟨by omega,by omega⟩,bYO,hs,gP ⟨bII,by simp;omega⟩,hval]
 |succ k ih =>
  intro i pre c hi hp hd hc hv;have g:=ha.get i;obtain⟨x,hx⟩:=bZV g.1;have aSJ:x<18446744073709551616:=by omega
  have bLI:x*b<=18446744073709551615*18446744073709551615:=cFA (by omega) (by omega);have e1:((x:Int)*(b:Int))=((x*b:Nat):Int):=by rw[cAN]
  have sQ:M6.val (pre ++ [(((x*b%18446744073709551616+c)%18446744073709551616:Nat):Int)])+18446744073709551616^(i+1)*(x*b/18446744073709551616+(x*b%18446744073709551616+c)/18446744073709551616)=M6.val (a.take (i+1))*b:=by
   rw[M6.nU,hp,M6.dP,hx,bYO,bYO,bVL,<-hv,bZQ,bZT (18446744073709551616^i) x b,bZT (18446744073709551616^i) 18446744073709551616];have e:(x*b%18446744073709551616+c)%18446744073709551616+18446744073709551616*(x*b/18446744073709551616+(x*b%18446744073709551616+c)/18446744073709551616)=x*b+c:=by omega
   have e2:=congrArg (18446744073709551616^i*·) e;simp only[bZR]at e2 ⊢;omega
  have bMM:x*b/18446744073709551616+(x*b%18446744073709551616+c)/18446744073709551616<18446744073709551616:=by omega
  have w1:u64.wrap ((x:Int)*(b:Int)/18446744073709551616+((x:Int)*(b:Int)%18446744073709551616+(c:Int)+0)/18446744073709551616)=((x*b/18446744073709551616+(x*b%18446744073709551616+c)/18446744073709551616:Nat):Int):=by
   rw[e1,wrap_u64];omega
  have w2:((x:Int)*(b:Int)%18446744073709551616+(c:Int)+0)%18446744073709551616=(((x*b%18446744073709551616+c)%18446744073709551616:Nat):Int):=by rw[e1];omega
  rw[aDP,aQ,if_pos ⟨by omega,by omega⟩,bYO,hx,gP ⟨by omega,by omega,by omega,by omega⟩,gP ⟨by rw[e1];omega,by omega,by omega,by omega⟩,if_pos ⟨by omega,by omega⟩,zA hp,w1,w2,wrap_i64 (n:=(i:Int)+1),show(i:Int)+1=((i+1:Nat):Int)from rfl];exact ih (i+1) _ _ (by omega) (by simp[hp]) (M6.nZ hd ⟨cEF _,by omega⟩) bMM sQ
def sp(a:List Int)(b:Int):Prop×List D:=(M6.cR a/\a.length<=8192/\0<=b/\b<18446744073709551616,[.s (.ints .u64 (bif cP.mL (M6.val a*b.toNat)then M6.dg (M6.val a*b.toNat)else [])),.s (.sc (.int .i64 (bif cP.mL (M6.val a*b.toNat)then 0 else 5)))])
theorem spec:gU E f231 aE (pI .u64) (pN .u64) sp:=by
 rintro a b ⟨ha,hl,h0,h1⟩;obtain⟨n,rfl⟩:=bZV h0;refine(start a n).trans ?_;have w:i64.wrap ((a.length:Int)+1)=((a.length+1:Nat):Int):=by rw[wrap_i64];rfl
 have:=L (b:=n) ha.kU hl (by omega) a.length 0 [] 0 (by omega) rfl M6.oX (by omega) (by simp[M6.val]);rw[gP,gM.nL ha hl,bWR,bF,w,if_pos ⟨by omega,by omega,by omega⟩,bYO];rw[bYU]at this;exact this
def aJ:dO:=orc2 (pI .u64) (pN .u64) sp
theorem ok:OK 231 aJ:=(fA E aE (aA gM.ok (aA cP.ok (aA Mn.ok aD))) func231).mV rfl spec
end Ai
namespace Ta
def E:=mE [(102,uD.aJ),(100,uE.aJ),(95,oA.aJ)] 26 [14,21] [] []
def aE:=bd f232
theorem aX:Nk E aE:=nk
theorem start a b:aH E f232 aE [D.s (ints u64 a),D.s (sc (int u64 b))]=letI B:=M6.dg b.toNat;letI C:=M6.val a+M6.val B;letI A:=M6.cR a/\M6.cR B/\a.length<=8192/\B.length<=8192;aO (0<=b/\b<18446744073709551616) (aO A (aO (0<=b/\b<18446744073709551616) (aO A (some [D.s (ints u64 (M6.dg (M6.val a-M6.val B))),D.s (ints u64 (bif cP.mL C then M6.dg C else []))])))):=eJ aX
theorem aUB{v n:Nat}(hv:v<18446744073709551616^8000)(hn:n<18446744073709551616):cP.mL (v+n)=true:=by
 unfold cP.mL;refine decide_eq_true (bVN (M6.dZ (k:=8001) ?_) (by decide));rw[bZQ];have h1:1<=18446744073709551616^8000:=bXR (by decide);generalize 18446744073709551616^8000=X at *;omega
def sp(a:List Int)(b:Int):Prop×List D:=(M6.cR a/\a.length<=8000/\0<=b/\b<18446744073709551616,[.s (.ints .u64 (M6.dg (M6.val a-b.toNat))),.s (.ints .u64 (M6.dg (M6.val a+b.toNat)))])
theorem spec:gU E f232 aE (pI .u64) (pN .u64) sp:=by
 rintro a b ⟨hn,hl,h0,h1⟩;have hb:b.toNat<18446744073709551616:=by omega
 have lb:(M6.dg b.toNat).length<=1:=M6.dZ (k:=1) (by rw[Nat.pow_one];exact hb);refine(start a b).trans ?_;have lv:=M6.dS hn.kU;have ok:cP.mL (M6.val a+b.toNat)=true:=aUB (bVO lv (bXS (by decide) hl)) hb;rw[gP ⟨h0,h1⟩,gP ⟨hn,M6.aY _,by omega,by omega⟩,gP ⟨h0,h1⟩,gP ⟨hn,M6.aY _,by omega,by omega⟩,M6.bN,ok];rfl
def aJ:dO:=orc2 (pI .u64) (pN .u64) sp
theorem ok:OK 232 aJ:=(fA E aE (aA uD.ok (aA uE.ok (aA oA.ok aD))) func232).mV rfl spec
end Ta
namespace lD
def E:=mE [(230,dV.aJ),(231,Ai.aJ),(102,uD.aJ),(232,Ta.aJ)] 45 [42] [] []
def aE:=bd f198
theorem aX:Nk E aE:=nk
theorem start a:aH E f198 aE [D.s (sc (int i64 a))]=letI K:=Arctan.atan (cIT 5) a.toNat;letI I:=Arctan.atan (cIT 239) a.toNat;letI F:=M6.dg K.fst;letI G:=bif cP.mL (M6.val F*16)then M6.dg (M6.val F*16)else [];letI C:=M6.dg I.fst;letI H:=bif cP.mL (M6.val C*4)then M6.dg (M6.val C*4)else [];letI B:=u64.wrap ((16:Int)*(↑((2:Nat)+(3:Nat)*K.snd):Int))+u64.wrap ((4:Int)*(↑((2:Nat)+(3:Nat)*I.snd):Int));letI A:=M6.dg (M6.val G-M6.val H);aO (((2:Int)<=(5:Int)/\(5:Int)<(4294967296:Int))/\0<=a/\a<=150000) (aO (((2:Int)<=(239:Int)/\(239:Int)<(4294967296:Int))/\0<=a/\a<=150000) (aO (M6.cR F/\F.length<=8192/\(0:Int)<=(16:Int)/\(16:Int)<(18446744073709551616:Int)) (aO (M6.cR C/\C.length<=8192/\(0:Int)<=(4:Int)/\(4:Int)<(18446744073709551616:Int)) (aO (M6.cR G/\M6.cR H/\G.length<=8192/\H.length<=8192) (aO (M6.cR A/\A.length<=8000/\0<=u64.wrap B/\u64.wrap B<18446744073709551616) (some [D.s (ints u64 (M6.dg (M6.val A-(u64.wrap B).toNat))),D.s (ints u64 (M6.dg (M6.val A+(u64.wrap B).toNat)))])))))):=eJ aX
def mX(w:Nat):Nat:=(Arctan.atan 5 w).1*16-(Arctan.atan 239 w).1*4
def mO(w:Nat):Nat:=16*(2+3*(Arctan.atan 5 w).2)+4*(2+3*(Arctan.atan 239 w).2)
theorem aSH(w:Nat):mO w<=60*w+160:=by
 have h1:=(Arctan.Ef 5 w).2;have h2:=(Arctan.Ef 239 w).2;unfold mO;omega
def sp(w:Int):Prop×List D:=(0<=w/\w<=150000,[.s (.ints .u64 (M6.dg (mX w.toNat-mO w.toNat))),.s (.ints .u64 (M6.dg (mX w.toNat+mO w.toNat)))])
theorem spec:jD E f198 aE (pN .i64) sp:=by
 rintro w ⟨h0,h1⟩;refine(start w).trans ?_;obtain⟨q,rfl⟩:=bZV h0;have a1:=Arctan.Ef 5 q;have a2:=Arctan.Ef 239 q;have hO:=aSH q;unfold sp;have k1:cIT 5=5:=rfl;have k2:cIT 239=239:=rfl;simp only[bYO,k1,k2,M6.bN];have eO:u64.wrap (u64.wrap (16*((2+3*(Arctan.atan 5 q).2:Nat):Int))+u64.wrap (4*((2+3*(Arctan.atan 239 q).2:Nat):Int)))=((mO q:Nat):Int):=by
  rw[wrap_u64 (n:=16*_),wrap_u64 (n:=4*_),wrap_u64];unfold mO;omega
 rw[eO];have hX:mX q<=(Arctan.atan 5 q).1*16:=cBH _ _;unfold mX at hX ⊢;generalize (Arctan.atan 5 q).1=a at *;generalize (Arctan.atan 239 q).1=b at *;have hp:2^(2*q+4+4)=16*2^(2*q+4):=by rw[bZS];omega
 have b1:a*16<2^(2*q+4+4):=by rw[hp];omega
 have b2:b*4<2^(2*q+4+4):=by rw[hp];omega
 have b3:a*16-b*4<2^(2*q+4+4):=by omega
 have l3:(M6.dg (a*16-b*4)).length<=8000:=fM (k:=8000) (bVN (dA.2 b3) (by omega));rw[gP ⟨⟨by decide,by decide⟩,by omega,by omega⟩,gP ⟨⟨by decide,by decide⟩,by omega,by omega⟩,gP ⟨M6.aY _,dV.lF a1.1 (by omega),by decide,by decide⟩,gP ⟨M6.aY _,dV.lF a2.1 (by omega),by decide,by decide⟩,
  dV.aSC b1 (by omega),dV.aSC b2 (by omega),cond_true,cond_true]
 simp only[M6.bN,bYO];rw[gP ⟨M6.aY _,M6.aY _,dV.lF b1 (by omega),dV.lF b2 (by omega)⟩,gP ⟨M6.aY _,l3,by omega,by omega⟩]
open R in
theorem num {w:Nat} (bNF:40<=w) (hw:w<=1000000):R.ab ((mX w:Rat)-((2^w:Nat):Rat)*R.pi)<=(mO w:Rat):=by
 obtain⟨j1,e1⟩:=R.Wf (k:=5) (by decide) hw;obtain⟨j2,e2⟩:=R.Wf (k:=239) (by decide) hw;have hp:=R.gL.1;have hW:(1099511627776:Rat)<=((2^w:Nat):Rat):=by
  have:2^40<=2^w:=bXS (by decide) bNF;exact_mod_cast this
 have hO:(mO w:Rat)=16*(2+3*((Arctan.atan 5 w).2:Rat))+4*(2+3*((Arctan.atan 239 w).2:Rat)):=by
  unfold mO
  push_cast
  rfl
 have hJ1:((Arctan.atan 5 w).2:Rat)<=1000002:=by exact_mod_cast bVN j1 (by omega)
 have hJ2:((Arctan.atan 239 w).2:Rat)<=1000002:=by exact_mod_cast bVN j2 (by omega)
 have Yt:(0:Rat)<=((Arctan.atan 5 w).2:Rat):=by exact_mod_cast cAS _
 have aPQ:(0:Rat)<=((Arctan.atan 239 w).2:Rat):=by exact_mod_cast cAS _
 rw[hO];clear hO;have h3:0<=R.pi-3:=by grind
 have hm:=R.aF (bZW (by decide:(0:Rat)<=1099511627776) hW) h3;have bAS:((2^w:Nat):Rat)*R.pi=16*(((2^w:Nat):Rat)*R.We 5)-4*(((2^w:Nat):Rat)*R.We 239):=by
  rw[show R.pi=16*R.We 5-4*R.We 239 from rfl];grind
 have bQV:3*((2^w:Nat):Rat)<=((2^w:Nat):Rat)*R.pi:=by grind
 rw[R.bW]at e1 e2 ⊢;have bSO:(mX w:Rat)=((mX w:Nat):Rat):=rfl;unfold mX;generalize ((2^w:Nat):Rat)*R.pi=WP at *;generalize ((2^w:Nat):Rat)*R.We 5=W5 at *;generalize ((2^w:Nat):Rat)*R.We 239=W2 at *;generalize ((2^w:Nat):Rat)=W at *;clear hm h3 hp bSO;generalize ((Arctan.atan 5 w).2:Rat)=J1 at *;generalize ((Arctan.atan 239 w).2:Rat)=J2 at *;generalize (Arctan.atan 5 w).1=a at *;generalize (Arctan.atan 239 w).1=b at *;have hle:b*4<=a*16:=by
  have:(b:Rat)*4<=(a:Rat)*16:=by
   obtain⟨e3,e4⟩:=e1;obtain⟨e5,e6⟩:=e2;grind
  exact_mod_cast this
 have hX:((a*16-b*4:Nat):Rat)=(a:Rat)*16-(b:Rat)*4:=by
  have e:(a*16-b*4)+b*4=a*16:=by omega
  have e':((a*16-b*4:Nat):Rat)+(b:Rat)*4=(a:Rat)*16:=by exact_mod_cast e
  grind
 rw[hX];obtain⟨e3,e4⟩:=e1;obtain⟨e5,e6⟩:=e2;constructor <;> grind
def aJ:dO:=orc1 (pN .i64) sp
theorem ok:OK 198 aJ:=(fA E aE (aA dV.ok (aA Ai.ok (aA uD.ok (aA Ta.ok aD)))) func198).pU rfl spec
end lD
namespace rW
def E:=mE [(198,lD.aJ),(104,Er.aJ),(101,Aj.aJ)] 39 [19,25] [(5,[0,4]),(3,[0])] [3]
def aE:=bd f152
theorem aX:Nk E aE:=nk
def J3 a:=mT E f152 aE 3 [cK a]
def L5 a b:=sJ E f152 aE 5 [cK a,cK b]
theorem start a:aH E f152 aE [D.s (sc (int i64 a))]=letI A:=some [D.s (sc (slice none 0 0)),D.s (sc (int i64 1))];aB (decide (a<1)) A (aB (decide (70000<a)) A (rW.J3 a)):=eJ aX
theorem iA a:J3 a=rW.L5 a 48:=cJ aX
theorem aDQ a b:L5 a b=letI G:=i64.wrap (a+b);letI B:=M6.dg (lD.mX G.toNat+lD.mO G.toNat);letI F:=M6.dg (M6.val B/(2:Nat)^b.toNat);letI A:=M6.dg (lD.mX G.toNat-lD.mO G.toNat);letI C:=M6.dg (M6.val A/(2:Nat)^b.toNat);aO (0<=i64.wrap (a+b)/\i64.wrap (a+b)<=150000) (aO (M6.cR A/\A.length<=8192/\0<=b/\b<4611686018427387904) (aO (M6.cR B/\B.length<=8192/\0<=b/\b<4611686018427387904) (aO (M6.cZ C/\M6.cZ F/\C.length<=1099511627776/\F.length<=1099511627776) (aB (lB (M6.val C) (M6.val F)==0) (some [D.s (ints u64 C),D.s (sc (int i64 0))]) (rW.L5 a (i64.wrap (b*2))))))):=lJ aX
def sp(p:Int):Prop×List D:=(1<=p/\p<=70000,[.s (.ints .u64 (M6.dg (R.pF p.toNat))),.s (.sc (.int .i64 0))])
theorem aZV(w:Nat):lD.mX w<2^(2*w+8):=by
 have a1:=Arctan.Ef 5 w;have hp:2^(2*w+8)=16*2^(2*w+4):=by rw[show 2*w+8=2*w+4+4 by omega,bZS];omega
 have:lD.mX w<=(Arctan.atan 5 w).1*16:=cBH _ _;omega
theorem spec:jD E f152 aE (pN .i64) sp:=by
 rintro p ⟨h0,h1⟩;refine(start p).trans ?_;obtain⟨q,rfl⟩:=bZV (show 0<=p by omega);have hX:=lD.num (w:=q+48) (by omega) (by omega);have hO:=lD.aSH (q+48);have lX:=aZV (q+48);have bTJ:2*lD.mO (q+48)<=2^(48-24):=by
  have:2^(48-24)=16777216:=by decide
  omega
 obtain⟨o1,o2,o3⟩:=R.aZL (q:=q) (g:=48) (by omega) (by omega) bTJ hX;have ew:i64.wrap ((q:Int)+48)=((q+48:Nat):Int):=by rw[wrap_i64];omega
 unfold sp;rw[aL,aL,iA,aDQ,ew,bYO,bYO];have hp:2^(2*(q+48)+9)=2*2^(2*(q+48)+8):=by rw[bZQ];omega
 have bNF:2^40<=2^(2*(q+48)+8):=gN;have l1:=dV.lF (n:=lD.mX (q+48)-lD.mO (q+48)) (k:=2*(q+48)+8) (by omega) (by omega);have l2:=dV.lF (n:=lD.mX (q+48)+lD.mO (q+48)) (k:=2*(q+48)+9) (by omega) (by omega);rw[gP ⟨by omega,by omega⟩,gP ⟨M6.aY _,l1,by decide,by decide⟩,gP ⟨M6.aY _,l2,by decide,by decide⟩];simp only[M6.bN,show cIT 48=48 from rfl,o2,o3];have l3:(M6.dg (R.pF q)).length<=8192:=by
  rw[<-o2];exact dV.lF (k:=2*(q+48)+8) (cBA (cFB _ _) (by omega)) (by omega)
 rw[gP ⟨M6.lG _,M6.lG _,by omega,by omega⟩,cN (by unfold lB;simp)]
def aJ:dO:=orc1 (pN .i64) sp
theorem ok:OK 152 aJ:=(fA E aE (aA lD.ok (aA Er.ok (aA Aj.ok aD))) func152).pU rfl spec
end rW
namespace tB
def E:=mE [(48,Al.aJ),(192,iU.aJ)] 37 [] [] []
def aE:=bd f254
theorem aX:Nk E aE:=nk
theorem start a c d b:aH E f254 aE [D.agg [sc (bool a),ints u64 c,sc (int i64 d)],D.s (sc (int i64 b))]=letI C:=i64.wrap ((0:Int)-d)-b;letI B:=wv (a,c)/(↑((2:Nat)^(i64.wrap C).toNat):Int);letI A:=bif fit (M6.val c*(2:Nat)^(i64.wrap (d+b)).toNat)then wv (a,c)*(↑((2:Nat)^(i64.wrap (d+b)).toNat):Int)else(0:Int);aB (decide (0<=i64.wrap (d+b))) (aO (gI (a,c)/\0<=i64.wrap (d+b)/\i64.wrap (d+b)<4611686018427387904) (some [D.agg [sc (bool (isNeg A)),ints u64 (M6.dg A.natAbs)]])) (aO (gI (a,c)/\0<=i64.wrap C/\i64.wrap C<4611686018427387904) (some [D.agg [sc (bool (isNeg B)),ints u64 (M6.dg B.natAbs)]])):=eJ aX
def aKU(p:Int×Int)(n:Int):Int:=if 0<=p.2+n then p.1*((2^(p.2+n).toNat:Nat):Int)else p.1/((2^(-p.2-n).toNat:Nat):Int)
def sp(x:gB)(n:Int):Prop×List D:=(aP x/\-1099511627776<=n/\n<=1099511627776/\(0<=x.2.2+n->fit ((dv x).1.natAbs*2^(x.2.2+n).toNat)=true),[wD (aKU (dv x) n)])
theorem spec:gU E f254 aE iW (pN .i64) sp:=by
 rintro x n ⟨hx,h1,h2,hf⟩;have he:=hx.2.1;refine(start x.1 x.2.1 x.2.2 n).trans ?_;have w1:i64.wrap (x.2.2+n)=x.2.2+n:=wrap_i64;have w2:i64.wrap (i64.wrap (0-x.2.2)-n)=-x.2.2-n:=by rw[wrap_i64 (n:=0-x.2.2),wrap_i64];omega
 have ha:(dv x).1.natAbs=M6.val x.2.1:=iF (x.1,x.2.1);unfold sp aKU
 by_cases c:0<=x.2.2+n
 ·have aSP:=hf c;rw[ha]at aSP;rw[w1,aQ c,gP ⟨hx.Db,c,by omega⟩,aSP,cond_true];dsimp only;rw[if_pos (show 0<=(dv x).2+n from c)];rfl
 ·rw[w1,w2,aL c,gP ⟨hx.Db,by omega,by omega⟩];dsimp only;rw[if_neg (show ¬0<=(dv x).2+n from c)];rfl
def aJ:dO:=orc2 iW (pN .i64) sp
theorem ok:OK 254 aJ:=(fA E aE (aA Al.ok (aA iU.ok aD)) func254).mV rfl spec
end tB
namespace sV
def E:=mE [(96,fI.aJ),(151,Af.aJ),(102,uD.aJ),(101,Aj.aJ),(190,Ww.aJ)] 66 [31,43,63] [(3,[0,4,5,6])] [3]
def aE:=bd f262
theorem aX:Nk E aE:=nk
def J3 a b c d e f:=mT E f262 aE 3 [cK a,dK 1 27 [cU b,fU c],dK 2 27 [cU d,fU e],dK 3 27 [cU f,sc (slice none 0 0)]]
theorem start a b c d e:aH E f262 aE [D.s (sc (int i64 a)),D.agg [sc (bool b),ints u64 c],D.agg [sc (bool d),ints u64 e]]=letI A:=some [D.agg [sc (bool false),sc (slice none 0 0)],D.s (sc (int i64 2))];aO (c.length<=1099511627776) (aC (fI.nP (b,c)) fun f=>aB (!f) A (aO (e.length<=1099511627776) (aC (fI.nP (d,e)) fun g=>aB (!g) A (sV.J3 a b c d e false)))):=eJ aX
theorem iA a b c d e f:J3 a b c d e f=aB ((e.length:Int)==(0:Int)) (some [D.agg [sc (bool false),sc (slice none 0 0)],D.s (sc (int i64 4))]) (aO (M6.cR c/\c.length<=8192/\M6.cR e/\1<=e.length/\e.length<=8192) (aC (M6.dg (M6.val c/M6.val e)) fun g=>aC (M6.dg (M6.val c%M6.val e)) fun h=>aO (M6.cR e/\M6.cR h/\e.length<=8192/\h.length<=8192) (aC (M6.dg (M6.val e-M6.val h)) fun i=>letI A:=M6.val g+bif mU.mS a (b !=d) (decide (M6.val g%2=(1:Nat))) (decide (0<(h.length:Int))) (lB (M6.val h) (M6.val i))then(1:Nat)else(0:Nat);letI B:=bif fit A then zs (b !=d) A else(0:Int);aC (if M6.val e<M6.val h then(3:Int)else(0:Int)) fun j=>aB (j !=0) (some [D.agg [sc (bool false),sc (slice none 0 0)],D.s (sc (int i64 j))]) (aO (M6.cZ h/\M6.cZ i/\h.length<=1099511627776/\i.length<=1099511627776) (aO (M6.cR g/\g.length<=8192) (aC (isNeg B) fun k=>aC (M6.dg B.natAbs) fun l=>aC (bif fit A then(0:Int)else(5:Int)) fun m=>some [D.agg [sc (bool k),ints u64 l],D.s (sc (int i64 m))])))))):=cJ aX
def uQ(w:Int)(neg:Bool)(u v:Nat):Nat:=u/v+bif mU.mS w neg (decide (u/v%2=1)) (decide (u%v≠0)) (lB (u%v) (v-u%v))then 1 else 0
def sp(w:Int)(x y:Bool×List Int):Prop×List D:=(gI x/\gI y/\wv y≠0,wE (fit (uQ w (x.1 !=y.1) (M6.val x.2) (M6.val y.2))) (zs (x.1 !=y.1) (uQ w (x.1 !=y.1) (M6.val x.2) (M6.val y.2))))
theorem spec:oP E f262 aE (pN .i64) oD oD sp:=by
 rintro w x y ⟨hx,hy,h0⟩;refine(start w x.1 x.2 y.1 y.2).trans ?_;have l1:=hx.len;have l2:=hy.len;have f1:=fI.kS hx;have f2:=fI.kS hy;have hv0:M6.val y.2≠0:=fun h=>h0 (Qc.2 h)
 have aYC:y.2.length≠0:=fun h=>hv0 ((M6.dY hy.1).1 h)
 have hm:=bWZ (M6.val x.2) (show 0<M6.val y.2 by omega);have b1:=hx.bl;have b2:=hy.bl;have q1:=fM (n:=M6.val x.2/M6.val y.2) (k:=8192) (bVN (fX (cFB _ _)) b1);have q2:=fM (n:=M6.val x.2%M6.val y.2) (k:=8192) (bVN (fX (Nat.le_of_lt hm)) b2);have q3:=fM (n:=M6.val y.2-M6.val x.2%M6.val y.2) (k:=8192) (bVN (fX (cBH _ _)) b2);have hd:decide (0<(((M6.dg (M6.val x.2%M6.val y.2)).length:Nat):Int))=decide (M6.val x.2%M6.val y.2≠0):=by
  have:=M6.iO (n:=M6.val x.2%M6.val y.2)
  by_cases h:M6.val x.2%M6.val y.2=0
  ·rw[decide_eq_false (by have:=this.2 h;omega),decide_eq_false (by omega)]
  ·rw[decide_eq_true (by have:=fun hl=>h (this.1 hl);omega),decide_eq_true h]
 simp only[aG];rw[gP,f1,bWR,bF,gP,f2,bWR,bF,iA];simp only[aG];rw[bM,gP ⟨hx.1,l1,hy.1,by omega,l2⟩,gP ⟨hy.1,M6.aY _,l2,by omega⟩,M6.bN,aU,gE rfl,gP ⟨M6.lG _,M6.lG _,by omega,by omega⟩,gP ⟨M6.aY _,by omega⟩,hd];simp only[M6.bN];rfl
def aJ:dO:=orc3 (pN .i64) oD oD sp
theorem ok:OK 262 aJ:=(fA E aE (aA fI.ok (aA Af.ok (aA uD.ok (aA Aj.ok (aA Ww.ok aD))))) func262).yM rfl spec
end sV
namespace Mo
def E:=mE [(262,sV.aJ)] 11 [8] [] []
def aE:=bd f255
theorem aX:Nk E aE:=nk
theorem start a b c d:aH E f255 aE [D.agg [sc (bool a),ints u64 b],D.agg [sc (bool c),ints u64 d]]=letI A:=sV.uQ 2 (a !=c) (M6.val b) (M6.val d);letI B:=bif fit A then zs (a !=c) A else(0:Int);aO (gI (a,b)/\gI (c,d)/\wv (c,d)≠0) (some [D.agg [sc (bool (isNeg B)),ints u64 (M6.dg B.natAbs)],D.s (sc (int i64 (bif fit A then(0:Int)else(5:Int))))]):=eJ aX
def sp(x y:Bool×List Int):Prop×List D:=(gI x/\gI y/\wv y≠0/\fit (sV.uQ 2 false (M6.val x.2) (M6.val y.2))=true,[wD (zs (x.1 !=y.1) (sV.uQ 2 false (M6.val x.2) (M6.val y.2))),.s (.sc (.int .i64 0))])
theorem spec:gU E f255 aE oD oD sp:=by
 rintro x y ⟨hx,hy,h0,hf⟩;refine(start x.1 x.2 y.1 y.2).trans ((gP ⟨hx,hy,h0⟩).trans ?_);have e:sV.uQ 2 (x.1 !=y.1) (M6.val x.2) (M6.val y.2)=sV.uQ 2 false (M6.val x.2) (M6.val y.2):=rfl;unfold sp
 try dsimp only
 rw[e,hf];rfl
def aJ:dO:=orc2 oD oD sp
theorem ok:OK 255 aJ:=(fA E aE (aA sV.ok aD) func255).mV rfl spec
end Mo
namespace aFW
def E:=mE [(96,fI.aJ),(105,Cy.aJ),(49,Es.aJ)] 25 [22] [(3,[2,3,4])] [3]
def aE:=bd f256
theorem aX:Nk E aE:=nk
def J3 a b c d e:=mT E f256 aE 3 [dK 0 27 [cU a,fU b],dK 1 27 [cU c,fU d],dK 2 27 [cU e,sc (slice none 0 0)]]
theorem start a b c d:aH E f256 aE [D.agg [sc (bool a),ints u64 b],D.agg [sc (bool c),ints u64 d]]=letI A:=some [D.agg [sc (bool false),sc (slice none 0 0)],D.s (sc (int i64 2))];aO (b.length<=1099511627776) (aB (!fI.nP (a,b)) A (aO (d.length<=1099511627776) (aB (!fI.nP (c,d)) A (aFW.J3 a b c d false)))):=eJ aX
theorem iA a b c d e:J3 a b c d e=letI C:=zs (!c) (M6.val d);letI A:=(isNeg C,M6.dg C.natAbs);letI B:=bif fit (wv (a,b)+wv A).natAbs then wv (a,b)+wv A else(0:Int);aO (M6.cR d/\d.length<=1099511627776) (aO (gI (a,b)/\gI A) (some [D.agg [sc (bool (isNeg B)),ints u64 (M6.dg B.natAbs)],D.s (sc (int i64 (bif fit (wv (a,b)+wv A).natAbs then(0:Int)else(5:Int))))])):=cJ aX
def sp(x y:Bool×List Int):Prop×List D:=(gI x/\gI y,wE (fit (wv x-wv y).natAbs) (wv x-wv y))
theorem spec:gU E f256 aE oD oD sp:=by
 rintro x y ⟨hx,hy⟩;refine(start x.1 x.2 y.1 y.2).trans ?_;have l1:=hx.len;have l2:=hy.len;have f1:=fI.kS hx;have f2:=fI.kS hy;have e1:zs (!y.1) (M6.val y.2)=-(wv y):=by unfold wv zs;cases y.1 <;> simp
 have b2:bl (-(wv y)).natAbs<=524288:=by rw[cBC,iF];exact hy.bl
 rw[gP,f1,bWR,bF,gP,f2,bWR,bF,iA,gP ⟨hy.1,by omega⟩,e1,gP ⟨hx,fT b2⟩,nA];rfl
def aJ:dO:=orc2 oD oD sp
theorem ok:OK 256 aJ:=(fA E aE (aA fI.ok (aA Cy.ok (aA Es.ok aD))) func256).mV rfl spec
end aFW
namespace aAJ
def E:=mE [(256,aFW.aJ),(192,iU.aJ)] 22 [] [] []
def aE:=bd f257
theorem aX:Nk E aE:=nk
theorem start a b d e c:aH E f257 aE [D.agg [sc (bool a),ints u64 b],D.agg [sc (bool d),ints u64 e],D.s (sc (int i64 c))]=letI A:=bif fit (wv (a,b)-wv (d,e)).natAbs then wv (a,b)-wv (d,e)else(0:Int);letI C:=(isNeg A,M6.dg A.natAbs);letI B:=wv C/(↑((2:Nat)^c.toNat):Int);aO (gI (a,b)/\gI (d,e)) (aO (gI C/\0<=c/\c<4611686018427387904) (some [D.agg [sc (bool (isNeg B)),ints u64 (M6.dg B.natAbs)]])):=eJ aX
def sp(x y:Bool×List Int)(n:Int):Prop×List D:=(gI x/\gI y/\fit (wv x-wv y).natAbs=true/\0<=n/\n<4611686018427387904,[wD ((wv x-wv y)/((2^n.toNat:Nat):Int))])
theorem spec:oP E f257 aE oD oD (pN .i64) sp:=by
 rintro x y n ⟨h1,h2,h3,h4,h5⟩;have bJN:fit (wv (x.1,x.2)-wv (y.1,y.2)).natAbs=true:=h3;refine(start x.1 x.2 y.1 y.2 n).trans ?_;rw[gP ⟨h1,h2⟩];simp only[bJN,cond_true,nA];exact gP ⟨fT (xN h3),h4,h5⟩
def aJ:dO:=orc3 oD oD (pN .i64) sp
theorem ok:OK 257 aJ:=(fA E aE (aA aFW.ok (aA iU.ok aD)) func257).yM rfl spec
end aAJ
namespace aGA
def E:=mE [(96,fI.aJ),(101,Aj.aJ)] 43 [37,42] [(3,[2,3])] [3]
def aE:=bd f263
theorem aX:Nk E aE:=nk
def J3 a b c d:=mT E f263 aE 3 [dK 0 27 [cU a,fU b],dK 1 27 [cU c,fU d]]
theorem start a b c d:aH E f263 aE [D.agg [sc (bool a),ints u64 b],D.agg [sc (bool c),ints u64 d]]=letI A:=some [D.s (sc (int i64 0)),D.s (sc (int i64 2))];aO (b.length<=1099511627776) (aB (!fI.nP (a,b)) A (aO (d.length<=1099511627776) (aB (!fI.nP (c,d)) A (aGA.J3 a b c d)))):=eJ aX
theorem iA a b c d:J3 a b c d=letI C:=sc (int i64 0);letI A:=aB a (aO (M6.cZ d/\M6.cZ b/\d.length<=1099511627776/\b.length<=1099511627776) (some [D.s (sc (int i64 (lB (M6.val d) (M6.val b)))),D.s C])) (aO (M6.cZ b/\M6.cZ d/\b.length<=1099511627776/\d.length<=1099511627776) (some [D.s (sc (int i64 (lB (M6.val b) (M6.val d)))),D.s C]));letI B:=aB (!a) (aB c (some [D.s (sc (int i64 1)),D.s C]) A) A;aB a (aB (!c) (some [D.s (sc (int i64 (-1:Int))),D.s C]) B) B:=cJ aX
def lH(a b:Int):Int:=if a<b then -1 else if b<a then 1 else 0
def sp(x y:Bool×List Int):Prop×List D:=(gI x/\gI y,[.s (.sc (.int .i64 (lH (wv x) (wv y)))),.s (.sc (.int .i64 0))])
theorem spec:gU E f263 aE oD oD sp:=by
 rintro x y ⟨hx,hy⟩;refine(start x.1 x.2 y.1 y.2).trans ?_;have l1:=hx.len;have l2:=hy.len;have f1:=fI.kS hx;have f2:=fI.kS hy;have d1:=hx.1.kU;have d2:=hy.1.kU;have z1:=hx.2.1;have z2:=hy.2.1;rw[gP,f1,bWR,bF,gP,f2,bWR,bF,iA];unfold sp lH wv zs;obtain⟨p,a⟩:=x;obtain⟨q,b⟩:=y
 try dsimp only at *
 have g1:M6.cZ b/\M6.cZ a/\b.length<=1099511627776/\a.length<=1099511627776:=⟨d2,d1,by omega,by omega⟩;have g2:M6.cZ a/\M6.cZ b/\a.length<=1099511627776/\b.length<=1099511627776:=⟨d1,d2,by omega,by omega⟩;simp only[gP g1,gP g2];cases p with
 |true =>
  have:=z1 rfl;cases q with
  |true =>
   simp only[aB,bWR,cond_true,cond_false];have e:∀z:Int,z=(if -(M6.val a:Int) < -(M6.val b:Int)then -1 else if -(M6.val b:Int) < -(M6.val a:Int)then 1 else 0)->some [D.s (.sc (.int .i64 z)),D.s (.sc (.int .i64 0))]=some [D.s (.sc (.int .i64 (if -(M6.val a:Int) < -(M6.val b:Int)then -1 else if -(M6.val b:Int) < -(M6.val a:Int)then 1 else 0))),D.s (.sc (.int .i64 0))]:=fun z h=>by rw[h]
   refine e _ ?_;unfold lB
   (repeat' split) <;> omega
  |false =>
   simp only[aB,cFY,cond_true,cond_false];rw[aW]
 |false =>
  cases q with
  |true =>
   have:=z2 rfl;simp only[aB,cFY,cond_true,cond_false];rw[aU,aW]
  |false =>
   simp only[aB,cFY,cond_true,cond_false];have e:∀z:Int,z=(if(M6.val a:Int)<(M6.val b:Int)then -1 else if(M6.val b:Int)<(M6.val a:Int)then 1 else 0)->some [D.s (.sc (.int .i64 z)),D.s (.sc (.int .i64 0))]=some [D.s (.sc (.int .i64 (if(M6.val a:Int)<(M6.val b:Int)then -1 else if(M6.val b:Int)<(M6.val a:Int)then 1 else 0))),D.s (.sc (.int .i64 0))]:=fun z h=>by rw[h]
   refine e _ ?_;unfold lB
   (repeat' split) <;> omega
def aJ:dO:=orc2 oD oD sp
theorem ok:OK 263 aJ:=(fA E aE (aA fI.ok (aA Aj.ok aD)) func263).mV rfl spec
end aGA
namespace pO
def E:=mE [(48,Al.aJ),(49,Es.aJ),(263,aGA.aJ)] 39 [] [] []
def aE:=bd f258
theorem aX:Nk E aE:=nk
theorem start a b c d e f:aH E f258 aE [D.agg [sc (bool a),ints u64 b],D.agg [sc (bool c),ints u64 d],D.agg [sc (bool e),ints u64 f]]=letI B:=bif fit (M6.val d*4)then wv (c,d)*4 else(0:Int);aO (gI (c,d)/\(0:Int)<=(2:Int)/\(2:Int)<(4611686018427387904:Int)) (aC (isNeg B) fun g=>aC (M6.dg B.natAbs) fun h=>letI A:=bif fit (wv (false,b)+wv (g,h)).natAbs then wv (false,b)+wv (g,h)else(0:Int);aO (gI (false,b)/\gI (g,h)) (aC (isNeg A) fun i=>aC (M6.dg A.natAbs) fun j=>letI C:=bif fit (M6.val j*2)then wv (i,j)*2 else(0:Int);aO (gI (i,j)/\(0:Int)<=(1:Int)/\(1:Int)<(4611686018427387904:Int)) (aC (isNeg C) fun k=>aC (M6.dg C.natAbs) fun l=>aO (gI (k,l)/\gI (e,f)) (aC (aGA.lH (wv (k,l)) (wv (e,f))) fun m=>some [D.s (sc (bool (decide (m<0))))])))):=eJ aX
theorem aRC{n k:Nat}(h:bl n<=k):bl (n*4)<=k+2:=dA.2 (by rw[bZS];exact cGY (dA.1 h) (by decide))
theorem Ja{n k:Nat}(h:bl n<=k):bl (n*2)<=k+1:=dA.2 (by rw[bZQ];exact cGY (dA.1 h) (by decide))
theorem Gm{a b:Int}{n k:Nat}(ha:bl a.natAbs<=k)(hb:bl b.natAbs<=k)(hn:n=(a+b).natAbs):bl n<=k+1:=dA.2 (by
 have h1:=dA.1 ha;have h2:=dA.1 hb;rw[bZQ];generalize 2^k=Q at *;omega)
def aME(r off pi:Int):Bool:=decide (aGA.lH (((r.natAbs:Int)+off*4)*2) pi<0)
def sp(x y z:Bool×List Int):Prop×List D:=(gI x/\gI y/\gI z/\0<=wv y/\bl (wv x).natAbs<=524000/\bl (wv y).natAbs<=524000,[.s (.sc (.bool (aME (wv x) (wv y) (wv z))))])
theorem spec:oP E f258 aE oD oD oD sp:=by
 rintro x y z ⟨h1,h2,h3,h0,b1,b2⟩;refine(start x.1 x.2 y.1 y.2 z.1 z.2).trans ?_;have ex:(x.1,x.2)=x:=rfl;have ey:(y.1,y.2)=y:=rfl;have ez:(z.1,z.2)=z:=rfl;have vy:(wv y).natAbs=M6.val y.2:=iF y;have vx:(wv x).natAbs=M6.val x.2:=iF x;have wx:wv (false,x.2)=(((wv x).natAbs:Nat):Int):=by rw[vx];rfl
 have bOT:gI (false,x.2):=⟨h1.1,fun hf=>(by cases hf),h1.len⟩;have c1:bl (wv y*4).natAbs<=524002:=by
  rw[cAE];exact aRC b2
 have f1:fit (M6.val y.2*4)=true:=decide_eq_true (by
  rw[cAE,vy]at c1;exact bVN c1 (by decide))
 rw[gP ⟨h2,by decide,by decide⟩];simp only[aG,ex,ey,ez,f1,cond_true];have pU:gI (isNeg (wv y*4),M6.dg (wv y*4).natAbs):=fT (bVN c1 (by decide));have c2:bl ((((wv x).natAbs:Nat):Int)+wv y*4).natAbs<=524003:=Gm (k:=524002) (by rw[cAH];exact bVN b1 (by decide)) c1 rfl;have f2:fit ((((wv x).natAbs:Nat):Int)+wv y*4).natAbs=true:=decide_eq_true (bVN c2 (by decide));rw[gP ⟨bOT,pU⟩];simp only[wx,nA,f2,cond_true,M6.bN];have mV:gI (isNeg ((((wv x).natAbs:Nat):Int)+wv y*4),M6.dg ((((wv x).natAbs:Nat):Int)+wv y*4).natAbs):=fT (bVN c2 (by decide));have c3:bl (((((wv x).natAbs:Nat):Int)+wv y*4).natAbs*2)<=524004:=Ja c2;have f3:fit (((((wv x).natAbs:Nat):Int)+wv y*4).natAbs*2)=true:=decide_eq_true (bVN c3 (by decide));rw[gP ⟨mV,by decide,by decide⟩,f3,cond_true,gP ⟨fT (by rw[cAE];exact bVN c3 (by decide)),h3⟩];rfl
def aJ:dO:=orc3 oD oD oD sp
theorem ok:OK 258 aJ:=(fA E aE (aA Al.ok (aA Es.ok (aA aGA.ok aD))) func258).yM rfl spec
end pO
namespace bQ
def E:=mE [(106,rU.aJ),(152,rW.aJ),(254,tB.aJ),(48,Al.aJ),(255,Mo.aJ),(200,aFY.aJ),(256,aFW.aJ),(49,Es.aJ),(244,Cz.aJ),(257,aAJ.aJ),(258,pO.aJ)] 90 [89] [] []
def aE:=bd f243
theorem aX:Nk E aE:=nk
theorem start a c d b:aH E f243 aE [D.agg [sc (bool a),ints u64 c,sc (int i64 d)],D.s (sc (int i64 b))]=letI U:=(isNeg 3,M6.dg 3);letI C:=d+(↑(bl (M6.val c)):Int);letI B:=i64.wrap (b+match BinOp.gtr with |BinOp.gtr=>if(0:Int)>i64.wrap C then(0:Int)else i64.wrap C |x=>if 0<i64.wrap C then(0:Int)else i64.wrap C)+8;letI A:=i64.wrap (b+if(0:Int)>i64.wrap C then(0:Int)else i64.wrap C)+8;letI P:=tB.aKU (dv (a,c,d)) (i64.wrap A);letI I:=i64.wrap (i64.wrap A-b)+1;letI Q:=(↑((2:Nat)^(i64.wrap I).toNat):Int);aO (M6.cZ c/\c.length<=1099511627776) (aO (1<=i64.wrap A/\i64.wrap A<=70000) (aC (M6.dg (R.pF (i64.wrap A).toNat)) fun e=>letI O:=(false,e);aO (aP (a,c,d)/\(-1099511627776:Int)<=i64.wrap A/\i64.wrap A<=1099511627776/\(0<=(a,c,d).snd.snd+i64.wrap B->fit ((dv (a,c,d)).fst.natAbs*(2:Nat)^((a,c,d).snd.snd+i64.wrap B).toNat)=true)) (aC (isNeg P) fun f=>aC (M6.dg P.natAbs) fun g=>letI N:=bif fit (M6.val g*2)then wv (f,g)*2 else(0:Int);aO (gI (f,g)/\(0:Int)<=(1:Int)/\(1:Int)<(4611686018427387904:Int)) (aC (isNeg N) fun h=>aC (M6.dg N.natAbs) fun i=>letI G:=sV.uQ 2 false (M6.val i) (M6.val e);aO (gI (h,i)/\gI O/\wv O≠0/\fit G=true) (aC (isNeg (zs (h !=false) G)) fun j=>aC (M6.dg (zs (h !=false) G).natAbs) fun k=>letI H:=bif fit (wv (j,k)*wv O).natAbs then wv (j,k)*wv O else(0:Int);letI F:=bif fit (wv (false,k)+wv U).natAbs then wv (false,k)+wv U else(0:Int);aO (gI (j,k)/\gI O) (aC (isNeg H) fun l=>aC (M6.dg H.natAbs) fun m=>letI K:=bif fit (wv (h,i)-wv (l,m)).natAbs then wv (h,i)-wv (l,m)else(0:Int);aO (gI (h,i)/\gI (l,m)) (aC (isNeg K) fun n=>aC (M6.dg K.natAbs) fun o=>aO ((-9223372036854775808:Int)<=(3:Int)/\(3:Int)<(9223372036854775808:Int)) (aO (gI (false,k)/\gI U) (aC (isNeg F) fun p=>aC (M6.dg F.natAbs) fun q=>letI T:=wv (n,o)-wv (p,q);aO (gI (n,o)/\gI (p,q)/\fit T.natAbs=true/\0<=i64.wrap I/\i64.wrap I<4611686018427387904) (aC (isNeg (T/Q)) fun r=>aC (M6.dg (T/Q).natAbs) fun s=>aO (gI (n,o)/\gI (p,q)/\gI O/\0<=wv (p,q)/\bl (wv (n,o)).natAbs<=524000/\bl (wv (p,q)).natAbs<=524000) (aC (pO.aME (wv (n,o)) (wv (p,q)) (wv O)) fun t=>some [D.agg [sc (bool j),ints u64 k],D.agg [sc (bool r),ints u64 s],D.s (sc (bool t))]))))))))))):=eJ aX
def oS(p:Int×Int):Int:=if 0>p.2+(bl p.1.natAbs:Nat)then 0 else p.2+(bl p.1.natAbs:Nat)
def rG(p:Int×Int)(w:Int):Int:=w+oS p+8
def rF(p:Int×Int)(w:Int):Nat:=R.pF (rG p w).toNat
def rX(p:Int×Int)(w:Int):Int:=tB.aKU p (rG p w)*2
def nK(X:Int)(f:Nat):Int:=zs (isNeg X) (sV.uQ 2 false X.natAbs f)
def rK(p:Int×Int)(w:Int):Int:=nK (rX p w) (rF p w)
def rR(p:Int×Int)(w:Int):Int:=rX p w-rK p w*(rF p w:Nat)
def rO(p:Int×Int)(w:Int):Int:=((rK p w).natAbs:Nat)+3
def rM(p:Int×Int)(w:Int):Int:=(rR p w-rO p w)/((2^(rG p w-w+1).toNat:Nat):Int)
def sp(x:gB)(w:Int):Prop×List D:=(aP x/\bl (dv x).1.natAbs<=64/\(-1200<=(dv x).2/\(dv x).2<=1200)/\1<=w/\w<=66600,[wD (rK (dv x) w),wD (rM (dv x) w),.s (.sc (.bool (pO.aME (rR (dv x) w) (rO (dv x) w) (rF (dv x) w:Nat))))])
theorem Iz{n k m:Nat}(h:bl n<=m):bl (n*2^k)<=m+k:=dA.2 (by rw[bZS];exact cGY (dA.1 h) (bXR (by decide)))
theorem aQR(X f:Nat):sV.uQ 2 false X f<=X/f+1:=by
 unfold sV.uQ;cases mU.mS 2 false (decide (X/f%2=1)) (decide (X%f≠0)) (lB (X%f) (f-X%f)) <;> simp
theorem aRS{X:Int}{f B:Nat}(hX:bl X.natAbs<=B)(hf:bl f<=B)(hB:2<=B) :
  bl (sV.uQ 2 false X.natAbs f)<=B+1/\bl (nK X f*(f:Int)).natAbs<=B+1/\bl (X-nK X f*(f:Int)).natAbs<=B+2/\bl (((nK X f).natAbs:Int)+3).natAbs<=B+2/\bl (X-nK X f*(f:Int)-(((nK X f).natAbs:Int)+3)).natAbs<=B+3:=by
 have h1:=dA.1 hX;have h2:=dA.1 hf;have h3:=aQR X.natAbs f;have h4:X.natAbs/f*f<=X.natAbs:=Nat.div_mul_le_self _ _;have h5:X.natAbs/f<=X.natAbs:=cFB _ _;have h6:sV.uQ 2 false X.natAbs f*f<=X.natAbs+f:=bVN (bWG f h3) (by rw[bVL,bYV];omega);have ek:(nK X f).natAbs=sV.uQ 2 false X.natAbs f:=lP _ _;have h7:(nK X f*(f:Int)).natAbs<=X.natAbs+f:=by rw[cAE,ek,cAH];exact h6
 have e4:4<=2^B:=bVN (show 4<=2^2 by decide) (bXS (by decide) hB);have p1:2^(B+1)=2*2^B:=by rw[bZQ];omega
 have p2:2^(B+2)=4*2^B:=by rw[bZS];omega
 have p3:2^(B+3)=8*2^B:=by rw[bZS];omega
 generalize nK X f*(f:Int)=kf at *;rw[ek];generalize sV.uQ 2 false X.natAbs f=d at *;generalize 2^B=Q at *;refine⟨dA.2 ?_,dA.2 ?_,dA.2 ?_,dA.2 ?_,dA.2 ?_⟩
 ·rw[p1];omega
 ·rw[p1];omega
 ·rw[p2];omega
 ·rw[p2];omega
 ·rw[p3];omega
theorem Qx{g:Nat}(hg:g<=136000):bl (R.pF g)<=g+2/\R.pF g≠0:=by
 obtain⟨h1,h2⟩:=R.zD hg;obtain⟨q1,q2⟩:=R.gL;have hW:(1:Rat)<=((2^g:Nat):Rat):=by exact_mod_cast bXR (by decide)
 constructor
 ·refine dA.2 ?_;rw[bZS];have:(R.pF g:Rat)<((2^g:Nat):Rat)*4:=by
   have:=R.aF (bZW (by decide:(0:Rat)<=1) hW) (show 0<=3142/1000-R.pi by grind);generalize ((2^g:Nat):Rat)=W at *;grind
  exact_mod_cast this
 ·intro h0;rw[h0]at h2;have z:((0:Nat):Rat)=0:=by norm_cast
  rw[z]at h2;have:=R.aF (bZW (by decide:(0:Rat)<=1) hW) (show 0<=R.pi-3 by grind);generalize ((2^g:Nat):Rat)=W at *;grind
theorem aBO{p:Int×Int}{w:Int}(hz:bl p.1.natAbs<=64)(e1:-1200<=p.2)(e2:p.2<=1200)(w1:1<=w)(w2:w<=66600):bl (rM p w).natAbs<=80004/\bl (rK p w).natAbs<=80002:=by
 have t0:0<=oS p/\oS p<=1264:=by unfold oS;split <;> omega
 have g1:1<=rG p w/\rG p w<=70000:=by unfold rG;omega
 have bCP:bl (tB.aKU p (rG p w)).natAbs<=80000:=by
  unfold tB.aKU;split
  ·rw[cAE,cAH];exact bVN (Iz hz) (by omega)
  ·exact bVN (fX (uA (bXR (by decide)))) (by omega)
 have Xs:bl (rX p w).natAbs<=80001:=by
  unfold rX;rw[cAE];exact pO.Ja bCP
 obtain⟨Fs,F0⟩:=Qx (g:=(rG p w).toNat) (by omega);have hF:R.pF (rG p w).toNat=rF p w:=rfl;rw[hF]at Fs F0;obtain⟨s1,s2,s3,s4,s5⟩:=aRS (X:=rX p w) (f:=rF p w) (B:=80001) Xs (by omega) (by decide);refine⟨bVN (fX (uA (bXR (by decide)))) s5,?_⟩;show bl (zs _ _).natAbs<=_;rw[lP];exact s1
theorem spec:gU E f243 aE iW (pN .i64) sp:=by
 rintro x w ⟨hx,hz,⟨e1,e2⟩,w1,w2⟩;refine(start x.1 x.2.1 x.2.2 w).trans ?_;have ha:(dv x).1.natAbs=M6.val x.2.1:=iF (x.1,x.2.1);have aGK:x.2.2=(dv x).2:=rfl;have aUN:(x.1,x.2.1,x.2.2)=x:=rfl;have len:=hx.len;unfold sp;dsimp only;simp only[aUN,aGK,<-ha];have hT:oS (dv x)=if 0>(dv x).2+(bl (dv x).1.natAbs:Nat)then 0 else(dv x).2+(bl (dv x).1.natAbs:Nat):=rfl
 have wt:i64.wrap ((dv x).2+((bl (dv x).1.natAbs:Nat):Int))=(dv x).2+((bl (dv x).1.natAbs:Nat):Int):=wrap_i64;have t0:0<=oS (dv x)/\oS (dv x)<=1264:=by rw[hT];split <;> omega
 have t1:(dv x).2+(bl (dv x).1.natAbs:Nat)<=oS (dv x):=by rw[hT];split <;> omega
 have hG:rG (dv x) w=w+oS (dv x)+8:=rfl;have wg:i64.wrap (i64.wrap (w+oS (dv x))+8)=rG (dv x) w:=by rw[wrap_i64 (n:=w+oS (dv x)),wrap_i64,hG]
 have wl:i64.wrap (i64.wrap (rG (dv x) w-w)+1)=rG (dv x) w-w+1:=by rw[wrap_i64 (n:=rG (dv x) w-w),wrap_i64]
 simp only[wt,<-hT,wg,wl,aG];have g1:1<=rG (dv x) w/\rG (dv x) w<=70000:=by omega
 have bCP:bl (tB.aKU (dv x) (rG (dv x) w)).natAbs<=80000:=by
  unfold tB.aKU;split
  ·rw[cAE,cAH];exact bVN (Iz hz) (by omega)
  ·exact bVN (fX (uA (bXR (by decide)))) (by omega)
 have Xs:bl (rX (dv x) w).natAbs<=80001:=by
  unfold rX;rw[cAE];exact pO.Ja bCP
 obtain⟨Fs,F0⟩:=Qx (g:=(rG (dv x) w).toNat) (by omega);have hF:R.pF (rG (dv x) w).toNat=rF (dv x) w:=rfl;rw[hF]at Fs F0;obtain⟨s1,s2,s3,s4,s5⟩:=aRS (X:=rX (dv x) w) (f:=rF (dv x) w) (B:=80001) Xs (by omega) (by decide);have aKG:(0:Int)<=x.2.2+rG (dv x) w->fit ((dv x).1.natAbs*2^(x.2.2+rG (dv x) w).toNat)=true:=fun _=>decide_eq_true (bVN (Iz hz) (by omega))
 rw[gP ⟨hx.Hp.kU,by omega⟩,gP g1,gP ⟨hx,by omega,by omega,aKG⟩];have aUM:(x.1,x.2.1,(dv x).2)=x:=rfl;have f1:fit ((tB.aKU (dv x) (rG (dv x) w)).natAbs*2)=true:=decide_eq_true (bVN (pO.Ja bCP) (by decide));have eX:tB.aKU (dv x) (rG (dv x) w)*2=rX (dv x) w:=rfl;have eK:zs (isNeg (rX (dv x) w)) (sV.uQ 2 false (rX (dv x) w).natAbs (rF (dv x) w))=rK (dv x) w:=rfl;have vN:∀n:Nat,wv (false,M6.dg n)=(n:Int):=fun n=>by show(M6.val (M6.dg n):Int)=n;rw[M6.bN]
 have wN:∀n:Nat,bl n<=524288->gI (false,M6.dg n):=fun n hn=>by
  have:=fT (z:=(n:Int)) (by rw[cAH];exact hn);rw[iM.2 (by omega),cAH]at this;exact this
 have v3:wv (isNeg 3,M6.dg 3)=3:=nA 3;have k3:gI (isNeg 3,M6.dg 3):=fT (z:=3) (by decide +kernel);have kK:(rK (dv x) w).natAbs=sV.uQ 2 false (rX (dv x) w).natAbs (rF (dv x) w):=lP _ _;rw[show nK (rX (dv x) w) (rF (dv x) w)=rK (dv x) w from rfl]at s2 s3 s4 s5;have f2:fit (rK (dv x) w*(rF (dv x) w:Nat)).natAbs=true:=decide_eq_true (bVN s2 (by decide));have f3:fit (rX (dv x) w-rK (dv x) w*(rF (dv x) w:Nat)).natAbs=true:=decide_eq_true (bVN s3 (by decide));have f4:fit (((rK (dv x) w).natAbs:Int)+3).natAbs=true:=decide_eq_true (bVN s4 (by decide));have f5:fit (rX (dv x) w-rK (dv x) w*(rF (dv x) w:Nat)-(((rK (dv x) w).natAbs:Int)+3)).natAbs=true:=decide_eq_true (bVN s5 (by decide));simp only[aUM,hF,nA,M6.bN,f1,cond_true,eX,Bool.bne_false,eK,vN,v3,f2,f3,f4];rw[gP ⟨fT (bVN bCP (by decide)),by decide,by decide⟩,gP ⟨fT (bVN Xs (by decide)),wN _ (by omega),by omega,decide_eq_true (bVN s1 (by decide))⟩,
  gP ⟨fT (by rw[kK];exact bVN s1 (by decide)),wN _ (by omega)⟩,gP ⟨fT (bVN Xs (by decide)),fT (bVN s2 (by decide))⟩,gP ⟨by decide,by decide⟩,
  gP ⟨wN _ (by rw[kK];exact bVN s1 (by decide)),k3⟩,gP ⟨fT (bVN s3 (by decide)),fT (bVN s4 (by decide)),f5,by omega,by omega⟩,
  gP ⟨fT (bVN s3 (by decide)),fT (bVN s4 (by decide)),wN _ (by omega),by omega,bVN s3 (by decide),bVN s4 (by decide)⟩]
 rfl
def aJ:dO:=orc2 iW (pN .i64) sp
theorem ok:OK 243 aJ:=(fA E aE (aA rU.ok (aA rW.ok (aA tB.ok (aA Al.ok (aA Mo.ok (aA aFY.ok (aA aFW.ok (aA Es.ok (aA Cz.ok (aA aAJ.ok (aA pO.ok aD))))))))))) func243).mV rfl spec
end bQ
namespace aZ
def E:=mE [(241,Tf.aJ),(242,tA.aJ),(243,bQ.aJ),(192,iU.aJ),(244,Cz.aJ),(49,Es.aJ),(50,iX.aJ),(109,aFZ.aJ),(110,sU.aJ)] 105 [33,98] [(3,[0,1,5])] [3]
def aE:=bd f211
theorem aX:Nk E aE:=nk
def J3 a b c d e f:=mT E f211 aE 3 [dG a,cK b,dK 2 44 [cU c,sc (slice none 0 0),cX d,cU e,sc (slice none 0 0),cX f]]
theorem start a b:aH E f211 aE [D.s (sc (int u64 a)),D.s (sc (int i64 b))]=letI B:=int i64 0;letI A:=some [D.s (sc B),D.agg [sc (bool false),sc (slice none 0 0),sc B,sc (bool false),sc (slice none 0 0),sc B],D.s (sc (int i64 1))];aB (decide (b<1)) A (aB (decide (68000<b)) A (aZ.J3 a b false 0 false 0)):=eJ aX
theorem iA a b c d e f:J3 a b c d e f=letI O:=int i64 0;letI H:=(isNeg 4,M6.dg 4);letI C:=i64.wrap ((0:Int)-i64.wrap (b+8));letI B:=if(72:Int)>i64.wrap (b+8)then(72:Int)else i64.wrap (b+8);letI P:=B-i64.wrap (b+8);letI A:=bif cS.fO 64 a&&cA.jB 64 a then aN (bP.nB 64 a) (bP.nH 64 a)else((0:Int),(0:Int));letI Q:=M6.dg A.fst.natAbs;aO (0<=a/\a<18446744073709551616) (aC (isNeg A.fst) fun g=>aC Q fun h=>aC A.snd fun i=>letI I:=dv (g,h,i);aC (bif cS.fO 64 a then bif cA.jB 64 a then(0:Int)else(6:Int)else(2:Int)) fun j=>aB (j !=0) (some [D.s (sc O),D.agg [sc (bool false),sc (slice none 0 0),sc O,sc (bool false),sc (slice none 0 0),sc O],D.s (sc (int i64 j))]) (aO (aP (g,h,i)) (aC (tA.aNJ I) fun k=>aB k (aO (0<=a/\a<18446744073709551616) (aC (isNeg A.fst) fun l=>aC Q fun m=>aC A.snd fun n=>some [D.s (sc O),D.agg [sc (bool g),ints u64 h,sc (int i64 i),sc (bool l),ints u64 m,sc (int i64 n)],D.s (sc O)])) (aO (aP (g,h,i)/\bl I.fst.natAbs<=64/\((-1200:Int)<=I.snd/\I.snd<=1200)/\(1<=if(72:Int)>i64.wrap (b+8)then(72:Int)else i64.wrap (b+8))/\B<=66600) (aC (isNeg (bQ.rK I B)) fun o=>aC (M6.dg (bQ.rK I B).natAbs) fun p=>aC (isNeg (bQ.rM I B)) fun q=>aC (M6.dg (bQ.rM I B).natAbs) fun r=>letI K:=wv (q,r)/(↑((2:Nat)^(i64.wrap P).toNat):Int);aO (gI (q,r)/\0<=i64.wrap P/\i64.wrap P<4611686018427387904) (aC (isNeg K) fun s=>aC (M6.dg K.natAbs) fun t=>letI N:=bif fit (wv (s,t)+wv H).natAbs then wv (s,t)+wv H else(0:Int);letI F:=bif gT (wv (s,t)) C then aN (wv (s,t)) C else((0:Int),(0:Int));aO ((-9223372036854775808:Int)<=(4:Int)/\(4:Int)<(9223372036854775808:Int)) (aO (gI (s,t)/\gI H) (aC (isNeg N) fun u=>aC (M6.dg N.natAbs) fun v=>letI G:=bif gT (wv (u,v)) C then aN (wv (u,v)) C else((0:Int),(0:Int));aO (gI (s,t)/\(-9223372036854775808:Int)<=i64.wrap ((0:Int)-i64.wrap (b+8))/\i64.wrap ((0:Int)-i64.wrap (b+8))<9223372036854775808) (aC (isNeg F.fst) fun w=>aC (M6.dg F.fst.natAbs) fun x=>aC F.snd fun y=>aO (gI (u,v)/\(-9223372036854775808:Int)<=i64.wrap ((0:Int)-i64.wrap (b+8))/\i64.wrap ((0:Int)-i64.wrap (b+8))<9223372036854775808) (aC (isNeg G.fst) fun z=>aC (M6.dg G.fst.natAbs) fun aa=>aC G.snd fun ab=>aO ((-9223372036854775808:Int)<=(4:Int)/\(4:Int)<(9223372036854775808:Int)) (aO (gI (o,p)/\gI H/\isNeg 4=false/\1<=(M6.dg 4).length) (aC (isNeg (wv (o,p)%wv H)) fun ac=>aC (M6.dg (wv (o,p)%wv H).natAbs) fun ad=>aO (gI (ac,ad)) (aC (bif sU.sA (wv (ac,ad))then wv (ac,ad)else(0:Int)) fun ae=>some [D.s (sc (int i64 ae)),D.agg [sc (bool w),ints u64 x,sc (int i64 y),sc (bool z),ints u64 aa,sc (int i64 ab)],D.s (sc O)]))))))))))))):=cJ aX
def qM(b:Int):Int×Int:=aN (bP.nB 64 b) (bP.nH 64 b)
def cW(p:Int):Int:=if 72>p+8 then 72 else p+8
def cM(x:Int×Int)(p:Int):Int:=bQ.rM x (cW p)/((2^(cW p-(p+8)).toNat:Nat):Int)
def cQ(x:Int×Int)(p:Int):Int:=bif tA.aNJ x then 0 else bQ.rK x (cW p)%4
def Xl(x:Int×Int)(p:Int):Int×Int:=bif tA.aNJ x then x else aN (cM x p) (-(p+8))
def Xm(x:Int×Int)(p:Int):Int×Int:=bif tA.aNJ x then x else aN (cM x p+4) (-(p+8))
def sp(b p:Int):Prop×List D:=((0<=b/\b<18446744073709551616)/\cS.fO 64 b=true/\cA.jB 64 b=true/\(1<=p/\p<=66590)/\jJ (qM b)/\bl (qM b).1.natAbs<=64/\-1200<=(qM b).2/\(qM b).2<=1200,[.s (.sc (.int .i64 (cQ (qM b) p))),uV (Xl (qM b) p) (Xm (qM b) p),.s (.sc (.int .i64 0))])
theorem aDL{z:Int}{k:Nat}(h:bl z.natAbs<=k)(hk:3<=k):bl (z+4).natAbs<=k+1:=pO.Gm h (by rw[show(4:Int).natAbs=4 from rfl,show bl 4=3 from rfl];exact hk) rfl
theorem spec:gU E f211 aE (pN .u64) (pN .i64) sp:=by
 rintro b p ⟨hb,hp,hf,⟨p1,p2⟩,hx,hz,e1,e2⟩;refine(start b p).trans ?_;unfold sp cQ Xl Xm;dsimp only;have eb:(bif cS.fO 64 b&&cA.jB 64 b then aN (bP.nB 64 b) (bP.nH 64 b)else(0,0))=qM b:=by rw[hp,hf];rfl
 have ee:(bif cS.fO 64 b then(bif cA.jB 64 b then 0 else 6)else 2:Int)=0:=by rw[hp,hf];rfl
 have dk:=dJ hx;have dc:=dT (qM b);rw[aL,aL,iA,gP hb];simp only[aG,eb,ee,dc];rw[gE rfl,gP dk];cases hs:tA.aNJ (qM b)with
 |true =>
  rw[cond_true,cond_true,cond_true];show aO _ _=_;rw[gP hb];rfl
 |false =>
  rw[cond_false,cond_false,cond_false];show aO _ _=_;have w8:i64.wrap (p+8)=p+8:=wrap_i64;have eW:(if 72>p+8 then 72 else p+8)=cW p:=rfl;have hW:1<=cW p/\cW p<=66600/\p+8<=cW p:=by unfold cW;split <;> omega
  have wd:i64.wrap (cW p-(p+8))=cW p-(p+8):=wrap_i64;have w0:i64.wrap (0-(p+8))=-(p+8):=by rw[wrap_i64];omega
  obtain⟨sM,sK⟩:=bQ.aBO (p:=qM b) (w:=cW p) hz e1 e2 hW.1 hW.2.1;have v4:wv (isNeg 4,M6.dg 4)=4:=nA 4;have k4:gI (isNeg 4,M6.dg 4):=fT (z:=4) (by decide +kernel);have eM:bQ.rM (qM b) (cW p)/((2^(cW p-(p+8)).toNat:Nat):Int)=cM (qM b) p:=rfl;have sC:bl (cM (qM b) p).natAbs<=80004:=bVN (fX (uA (bXR (by decide)))) sM;have bKT:=aDL sC (by decide);have f4:fit (cM (qM b) p+4).natAbs=true:=decide_eq_true (bVN bKT (by decide));have i1:gT (cM (qM b) p) (-(p+8))=true:=gO (by omega) (by omega);have i2:gT (cM (qM b) p+4) (-(p+8))=true:=gO (by omega) (by omega);have m4:0<=bQ.rK (qM b) (cW p)%4/\bQ.rK (qM b) (cW p)%4<4:=by omega
  have sm:sU.sA (bQ.rK (qM b) (cW p)%4)=true:=by
   unfold sU.sA;simp only[bUX,decide_eq_true_eq];omega
  have b3:bl (bQ.rK (qM b) (cW p)%4).natAbs<=3:=dA.2 (by have:(2:Nat)^3=8:=rfl;omega);have l4:(M6.dg 4).length=1:=by decide +kernel
  simp only[w8,eW,wd,w0,nA,v4,eM,f4,i1,i2,sm,cond_true];rw[gP ⟨dk,hz,⟨e1,e2⟩,hW.1,hW.2.1⟩,gP ⟨fT (bVN sM (by decide)),by omega,by omega⟩,gP ⟨by decide,by decide⟩,gP ⟨fT (bVN sC (by decide)),k4⟩,
   gP ⟨fT (bVN sC (by decide)),by omega,by omega⟩,gP ⟨fT (bVN bKT (by decide)),by omega,by omega⟩,gP ⟨by decide,by decide⟩,
   gP ⟨fT (bVN sK (by decide)),k4,by decide,by omega⟩,gP (fT (bVN b3 (by decide)))]
  rfl
def aJ:dO:=orc2 (pN .u64) (pN .i64) sp
theorem ok:OK 211 aJ:=(fA E aE (aA Tf.ok (aA tA.ok (aA bQ.ok (aA iU.ok (aA Cz.ok (aA Es.ok (aA iX.ok (aA aFZ.ok (aA sU.ok aD))))))))) func211).mV rfl spec
end aZ
end W
namespace M
open Go AI W
theorem aFK{u v:Nat}(hv:0<v):2*u<=2*(sV.uQ 2 false u v*v)+v/\2*(sV.uQ 2 false u v*v)<=2*u+v:=by
 have hd:=bZX u v;have hm:=bWZ u hv;have hc:v*(u/v)=u/v*v:=bZP _ _;unfold sV.uQ mU.mS
 by_cases h:v-u%v<=u%v
 ·cases hb:(bif (2:Int)==0 then false&&decide (u%v≠0)else bif (2:Int)==1 then !false&&decide (u%v≠0)else(decide (0<lB (u%v) (v-u%v))||(lB (u%v) (v-u%v)==0&&decide (u/v%2=1))))with
  |true=>rw[cond_true,bVL,bYV];omega
  |false =>
   rw[cond_false,bVP];have zP:¬0<lB (u%v) (v-u%v):=by
    intro hh;rw[decide_eq_true hh]at hb
    revert hb
    simp
   have:u%v<=v-u%v:=by
    unfold lB at zP;split at zP
    ·omega
    ·split at zP <;> omega
   omega
 ·have e:lB (u%v) (v-u%v)=-1:=by unfold lB;rw[aW]
  rw[e];have hb:(bif (2:Int)==0 then false&&decide (u%v≠0)else bif (2:Int)==1 then !false&&decide (u%v≠0)else(decide ((0:Int) < -1)||((-1:Int)==0&&decide (u/v%2=1))))=false:=by
   cases decide (u/v%2=1) <;> rfl
  rw[hb,cond_false,bVP];omega
theorem aPE{X:Int}{f:Nat}(hf:0<f):-(f:Rat)<=2*((X:Rat)-(bQ.nK X f:Rat)*(f:Rat))/\2*((X:Rat)-(bQ.nK X f:Rat)*(f:Rat))<=(f:Rat):=by
 obtain⟨d1,d2⟩:=aFK (u:=X.natAbs) hf;have h:-(f:Int)<=2*(X-bQ.nK X f*(f:Int))/\2*(X-bQ.nK X f*(f:Int))<=(f:Int):=by
  have bUD:2*(X.natAbs:Int)<=2*((sV.uQ 2 false X.natAbs f:Nat)*(f:Int))+f:=by exact_mod_cast d1
  have bUC:2*((sV.uQ 2 false X.natAbs f:Nat)*(f:Int))<=2*(X.natAbs:Int)+f:=by exact_mod_cast d2
  unfold bQ.nK;generalize sV.uQ 2 false X.natAbs f=d at *;cases hb:isNeg X with
  |true =>
   have:X<0:=nJ.1 hb;have e:zs true d*(f:Int)=-((d:Int)*(f:Int)):=by show -(d:Int)*_=_;rw[cEB]
   rw[e];generalize (d:Int)*(f:Int)=P at *;omega
  |false =>
   have:0<=X:=iM.1 hb;have e:zs false d*(f:Int)=(d:Int)*(f:Int):=rfl;rw[e];generalize (d:Int)*(f:Int)=P at *;omega
 obtain⟨h1,h2⟩:=h;constructor
 ·have:((-(f:Int):Int):Rat)<=((2*(X-bQ.nK X f*(f:Int)):Int):Rat):=by exact_mod_cast h1
  rw[cHO,cFW,cIS,cFW,cFX]at this;exact this
 ·have:((2*(X-bQ.nK X f*(f:Int)):Int):Rat)<=((f:Int):Rat):=by exact_mod_cast h2
  rw[cFW,cIS,cFW,cFX]at this;exact this
theorem aHM{q:Rat}{a b:Int}(h1:R.pz a<=q)(h2:q<R.pz (a+1))(h3:R.pz b<=q)(h4:q<R.pz (b+1)):a=b:=by
 have:R.pz a<R.pz (b+1):=by grind
 have:=R.wG.1 this;have:R.pz b<R.pz (a+1):=by grind
 have:=R.wG.1 this;omega
theorem aTL{p q:Int×Int}(hp:p.1≠0)(h:R.qz p=R.qz q):bA p=bA q:=by
 have hq:q.1≠0:=Hd (by rw[<-h];exact aRW hp);obtain⟨a,b⟩:=oG hp;obtain⟨c,d⟩:=oG hq;rw[h]at a b;exact aHM a b c d
structure aXN(z e:Int):Prop where
 z0:z≠0
 z1:z.natAbs<9007199254740992
 e0:-1074<=e
 e1:e<=971
theorem aDO(z:Int):R.ab (z:Rat)=(z.natAbs:Rat):=by
 unfold R.ab
 by_cases hz:0<=z
 ·rw[if_pos (by exact_mod_cast hz),<-cFX];congr 1;omega
 ·rw[if_neg (by intro hc;exact hz (by exact_mod_cast hc)),<-cFX,<-cHO];congr 1;omega
theorem aBE(p:Int×Int):tA.aNJ p=decide (R.ab (R.qz p)<=3/4):=by
 unfold tA.aNJ;have e:R.qz (3,-2)=3/4:=by
  unfold R.qz;dsimp only;rw[show(-2:Int)=-((2:Nat):Int) by rfl,R.xG];have h3:R.hf 2=1/4:=by simp[R.hf];grind
  have:((3:Int):Rat)=3:=by norm_cast
  rw[h3,this];grind
 by_cases h:R.ab (R.qz p)<=3/4
 ·rw[decide_eq_true h];refine decide_eq_true (kV.2 ?_);rw[Cj,e];exact h
 ·rw[decide_eq_false h];refine decide_eq_false fun hc=>h ?_
  have:=kV.1 hc;rwa [Cj,e]at this
structure aAH(x:Int×Int):Prop where
 uZ:jJ x
 ne:x.1≠0
 bl:bl x.1.natAbs<=53
 t0:-1074<=bA x
 t1:bA x<=1023
 e0:-1074<=x.2
 e1:x.2<=1023
 fit:R.Fit (R.qz x)
 bEZ:¬R.ab (R.qz x)<=3/4->-53<=x.2/\R.bDJ (R.qz x)
theorem bCT{z e:Int}(h:aXN z e):aAH (aN z e):=by
 obtain⟨z0,z1,e0,e1⟩:=h;have bz:bl z.natAbs<=53:=dA.2 (by have:(2:Nat)^53=9007199254740992:=rfl;omega);have b0:=pA (n:=z.natAbs) (by omega);have q:=oH z e;have q':R.qz (aN z e)=R.qz (z,e):=q;have ne:(aN z e).1≠0:=fun hz=>z0 (dW.1 hz)
 have tt:=aTL ne q';have t':bA (z,e)=e+(bl z.natAbs:Nat)-1:=rfl;have ge:=qT (e:=e) z0;have bb:=vB z e;have b1:=pA (n:=(aN z e).1.natAbs) (by omega);have te:bA (aN z e)=(aN z e).2+(bl (aN z e).1.natAbs:Nat)-1:=rfl;have uZ:jJ (aN z e):=gJ (gO (by omega) (by omega)) (by omega);have num:¬R.ab (R.qz (aN z e))<=3/4->-53<=e/\R.bDJ (R.qz (aN z e)):=by
  intro hb;have he:-53<=e:=by
   refine Int.not_lt.1 fun hn=>hb ?_
   have h2:=(oG (p:=(z,e)) z0).2;have:R.pz (bA (z,e)+1)<=R.pz (-1):=R.bV (by omega);have p1:R.pz (-1)*2=1:=by
    have:=R.qA 0;rw[R.fQ]at this;exact this
   rw[q'];grind
  refine⟨he,(z.natAbs:Int),e,by omega,by omega,he,e1,?_⟩;rw[q',cFX,<-aDO];show(z:Rat)*R.pz e=_\/(z:Rat)*R.pz e=_;unfold R.ab;split
  ·left;rfl
  ·right;grind
 refine⟨uZ,ne,by omega,by omega,by omega,by omega,by omega,?_,fun hb=>⟨by have:=(num hb).1;omega,(num hb).2⟩⟩
 by_cases c:R.ab (R.qz (aN z e))<=3/4
 ·exact Or.inr c
 ·exact Or.inl (num c).2
theorem aOK{G q K f M P W p:Rat}(hG:G=W*(256*P))(P1:1<=P)(W1:1<=W)(aq:R.ab q<=P)(f0:0<=f)(f1:f<=G*p)(f2:G*p<f+1)(p1:314159/100000<p)(p2:p<314160/100000)
  (n1:-f<=2*(2*(G*q)-K*f)) (n2:2*(2*(G*q)-K*f)<=f) (m1:M*(512*P)<=2*(G*q)-K*f-(R.ab K+3)) (m2:2*(G*q)-K*f-(R.ab K+3)<(M+1)*(512*P)) :
  M<=W*(q-K*(p/2))/\W*(q-K*(p/2))<=M+2/\W*R.ab (q-K*(p/2))<=W*(p/4)+1:=by
 have WP:=R.aF (show 0<=W-1 by grind) (show 0<=P-1 by grind);have G1:256<=G:=by rw[hG];grind
 have Gp:=R.aF (show 0<=G by grind) (show 0<=p-314159/100000 by grind);have Gp2:=R.aF (show 0<=G by grind) (show 0<=314160/100000-p by grind);have f3:3*G<=f:=by grind
 have f4:f<=4*G:=by grind
 have k0:=R.aM K;have eX:R.ab (2*(G*q))=2*(G*R.ab q):=by
  rw[R.fJ,R.fJ,R.bG (show(0:Rat)<=2 by grind),R.bG (show 0<=G by grind)]
 have eK:R.ab (K*f)=R.ab K*f:=by rw[R.fJ,R.bG f0]
 have aKf:R.ab K*f<=2*(G*R.ab q)+f/2:=by
  rw[<-eK,<-eX];have a1:=R.Bs (2*(G*q));have a2:=R.nI (2*(G*q));rw[R.bW];constructor <;> grind
 have g1:=R.aF (show 0<=G by grind) (show 0<=P-R.ab q by grind);have g2:=R.aF k0 (show 0<=f-3*G by grind);have aK:3*R.ab K<=2*P+2:=by
  refine R.bS (q:=G) (by grind) ?_;grind
 have kd:R.ab (K*(G*p-f))<=R.ab K:=by
  rw[R.fJ,R.bG (show 0<=G*p-f by grind)];have:=R.aF k0 (show 0<=1-(G*p-f) by grind);grind
 rw[R.bW]at kd;have e2:2*(G*q)-K*f-K*(G*p-f)=512*P*(W*(q-K*(p/2))):=by rw[hG];grind
 have P0:0<512*P:=by grind
 refine⟨?_,?_,?_⟩
 ·refine R.bS P0 ?_;rw[<-e2];generalize K*(G*p-f)=Z at *;grind
 ·refine R.bS P0 ?_;rw[<-e2];generalize K*(G*p-f)=Z at *;grind
 ·refine R.bS P0 ?_;have e3:512*P*(W*R.ab (q-K*(p/2)))=R.ab (512*P*(W*(q-K*(p/2)))):=by
   rw[R.fJ (512*P),R.fJ W,R.bG (bZY P0),R.bG (show 0<=W by grind)]
  rw[e3,<-e2,R.bW];have e4:512*P*(W*(p/4)+1)=G*p/2+512*P:=by rw[hG];grind
  rw[e4];generalize K*(G*p-f)=Z at *;constructor <;> grind
structure aWW(x:Int×Int)(w k:Int):Prop where
 Yl:R.rT (R.qz x) k
 q:aZ.cQ x w=k%4
 pl:jJ (aZ.Xl x w)
 ph:jJ (aZ.Xm x w)
 lo:R.qz (aZ.Xl x w)<=R.qz x-(k:Rat)*(R.pi/2)
 hi:R.qz x-(k:Rat)*(R.pi/2)<=R.qz (aZ.Xm x w)
 wd:R.qz (aZ.Xm x w)-R.qz (aZ.Xl x w)<=R.pz (57-w)*R.ab (R.qz x-(k:Rat)*(R.pi/2))
 rg:R.pz (-1074)<=R.ab (R.qz x-(k:Rat)*(R.pi/2))
theorem Ij{x:Int×Int}{w:Int}(hx:aAH x)(hw:64<=w/\w<=66590):∃k,aWW x w k:=by
 obtain⟨q1,q2⟩:=R.gL
 by_cases c:R.ab (R.qz x)<=3/4
 ·have sm:tA.aNJ x=true:=by rw[aBE,decide_eq_true c]
  have k0:((0:Int):Rat)=0:=by norm_cast
  have dL:aZ.Xl x w=x:=by unfold aZ.Xl;rw[sm];rfl
  have dH:aZ.Xm x w=x:=by unfold aZ.Xm;rw[sm];rfl
  have er:R.qz x-((0:Int):Rat)*(R.pi/2)=R.qz x:=by rw[k0];grind
  refine⟨0,?_,by unfold aZ.cQ;rw[sm];rfl,by rw[dL];exact hx.uZ,by rw[dH];exact hx.uZ,by rw[dL,er];exact cAZ,by rw[dH,er];exact cAZ,?_,?_⟩
  ·unfold R.rT;rw[er];grind
  ·rw[dL,dH,er];have:=R.aF (bZY (R.dC (57-w))) (R.aM (R.qz x));grind
  ·rw[er];have:=(oG hx.ne).1;have:=R.bV hx.t0;grind
 ·have sm:tA.aNJ x=false:=by rw[aBE,decide_eq_false c]
  obtain⟨e53,num⟩:=hx.bEZ c;have hb:=hx.bl;have aCM:=hx.e1;obtain⟨sM,sK⟩:=bQ.aBO (p:=x) (w:=aZ.cW w) (by omega) (by omega) (by omega) (by unfold aZ.cW;split <;> omega) (by unfold aZ.cW;split <;> omega);have eW:aZ.cW w=w+8:=by unfold aZ.cW;split <;> omega
  have hM:aZ.cM x w=bQ.rM x (w+8):=by
   unfold aZ.cM;rw[eW,show w+8-(w+8)=0 by omega];show bQ.rM x (w+8)/((2^(0:Int).toNat:Nat):Int)=_;rw[show(2^(0:Int).toNat:Nat)=1 by rfl];omega
  have hQ:aZ.cQ x w=bQ.rK x (w+8)%4:=by unfold aZ.cQ;rw[sm,eW];rfl
  have dL:aZ.Xl x w=aN (bQ.rM x (w+8)) (-(w+8)):=by unfold aZ.Xl;rw[sm,hM];rfl
  have dH:aZ.Xm x w=aN (bQ.rM x (w+8)+4) (-(w+8)):=by unfold aZ.Xm;rw[sm,hM];rfl
  rw[eW]at sM sK;have hT:bQ.oS x=if 0>bA x+1 then 0 else bA x+1:=by
   unfold bQ.oS bA;rw[show x.2+((M.bl x.1.natAbs:Nat):Int)-1+1=x.2+((M.bl x.1.natAbs:Nat):Int) by omega]
  have t1:=hx.t1;have T0:0<=bQ.oS x/\bA x+1<=bQ.oS x/\bQ.oS x<=1024:=by rw[hT];split <;> omega
  have hG:bQ.rG x (w+8)=w+8+bQ.oS x+8:=rfl;obtain⟨g,hg⟩:=bZV (show 0<=bQ.rG x (w+8) by omega);have hX:(bQ.rX x (w+8):Rat)=2*(R.pz (bQ.rG x (w+8))*R.qz x):=by
   unfold bQ.rX tB.aKU;rw[aW];obtain⟨n,hn⟩:=bZV (show 0<=x.2+bQ.rG x (w+8) by omega);rw[hn,bYO,cFW,cFW,cFX];have e1:((2^n:Nat):Rat)=R.pz x.2*R.pz (bQ.rG x (w+8)):=by rw[<-R.jI,hn,R.lT]
   rw[e1];unfold R.qz;have:((2:Int):Rat)=2:=by norm_cast
   rw[this];grind
  obtain⟨f1,f2⟩:=R.zD (q:=(bQ.rG x (w+8)).toNat) (by omega);have f0:=(bQ.Qx (g:=(bQ.rG x (w+8)).toNat) (by omega)).2;have hF:R.pF (bQ.rG x (w+8)).toNat=bQ.rF x (w+8):=rfl;rw[hF]at f0 f1 f2;have eG:((2^(bQ.rG x (w+8)).toNat:Nat):Rat)=R.pz (bQ.rG x (w+8)):=by rw[hg,bYO,R.lT]
  rw[eG]at f1 f2;obtain⟨n1,n2⟩:=aPE (X:=bQ.rX x (w+8)) (f:=bQ.rF x (w+8)) (by omega);have hK:bQ.nK (bQ.rX x (w+8)) (bQ.rF x (w+8))=bQ.rK x (w+8):=rfl;rw[hK]at n1 n2;have hR:(bQ.rR x (w+8):Rat)=(bQ.rX x (w+8):Rat)-(bQ.rK x (w+8):Rat)*(bQ.rF x (w+8):Rat):=by
   unfold bQ.rR;rw[cIS,cFW,cFX]
  have hO:(bQ.rO x (w+8):Rat)=R.ab (bQ.rK x (w+8):Rat)+3:=by
   unfold bQ.rO;rw[cHP,cFX,aDO];have:((3:Int):Rat)=3:=by norm_cast
   rw[this]
  have hS:bQ.rG x (w+8)-(w+8)+1=bQ.oS x+9:=by omega
  have bJC:bQ.rM x (w+8)=(bQ.rR x (w+8)-bQ.rO x (w+8))/((2^(bQ.oS x+9).toNat:Nat):Int):=by
   show(bQ.rR x (w+8)-bQ.rO x (w+8))/((2^(bQ.rG x (w+8)-(w+8)+1).toNat:Nat):Int)=_;rw[hS]
  obtain⟨m1,m2⟩:=Lv (z:=bQ.rR x (w+8)-bQ.rO x (w+8)) (k:=(bQ.oS x+9).toNat);rw[<-bJC,cIS]at m1 m2;obtain⟨s,hs⟩:=bZV (show 0<=bQ.oS x+9 by omega);have eS:((2^(bQ.oS x+9).toNat:Nat):Rat)=512*R.pz (bQ.oS x):=by
   rw[hs,bYO,<-R.lT,<-hs];have:=R.dX (bQ.oS x) 9;have n9:((2^9:Nat):Rat)=512:=by norm_cast
   rw[n9]at this;rw[show bQ.oS x+9=bQ.oS x+((9:Nat):Int) by rfl,this];grind
  rw[eS]at m1 m2;have bTW:R.pz (bQ.rG x (w+8))=R.pz (w+8)*(256*R.pz (bQ.oS x)):=by
   rw[hG,R.jI,R.jI];have:R.pz 8=256:=by rw[show(8:Int)=((8:Nat):Int) by rfl,R.lT];norm_cast
   rw[this];grind
  have P1:1<=R.pz (bQ.oS x):=by rw[<-R.fQ];exact R.bV (by omega)
  have aq:R.ab (R.qz x)<=R.pz (bQ.oS x):=by
   have:=(oG hx.ne).2;have:=R.bV T0.2.1;grind
  have W80:(4722366482869645213696:Rat)<=R.pz (w+8):=by
   have:=R.bV (show(72:Int)<=w+8 by omega);have e:R.pz 72=4722366482869645213696:=by rw[show(72:Int)=((72:Nat):Int) by rfl,R.lT];norm_cast
   rw[e]at this;grind
  rw[hR,hO,hX]at m1 m2;rw[hX]at n1 n2;have F0:(0:Rat)<=(bQ.rF x (w+8):Rat):=by exact_mod_cast cAS _
  obtain⟨r1,r2,r3⟩:=aOK bTW P1 (by grind) aq F0 f1 f2 q1 q2 n1 n2 m1 m2;have Wi:=R.Yg (w+8);have Wp:=R.dC (-(w+8));have v:=R.aTU num (bQ.rK x (w+8));have i1:gT (bQ.rM x (w+8)) (-(w+8))=true:=gO (by omega) (by omega);have s4:M.bl (bQ.rM x (w+8)+4).natAbs<=80010:=by
   have:=aZ.aDL sM (by decide);omega
  have i2:gT (bQ.rM x (w+8)+4) (-(w+8))=true:=gO (by omega) (by omega);have vL:R.qz (aZ.Xl x w)=(bQ.rM x (w+8):Rat)*R.pz (-(w+8)):=by rw[dL,oH]
  have vH:R.qz (aZ.Xm x w)=(bQ.rM x (w+8):Rat)*R.pz (-(w+8))+4*R.pz (-(w+8)):=by
   rw[dH,oH,cHP];have:((4:Int):Rat)=4:=by norm_cast
   rw[this];grind
  have p63:R.pz (57-w)*(1/9223372036854775808)=4*R.pz (-(w+8)):=by
   have:=R.fG (57-w) (n:=65) (c:=36893488147419103232) (by norm_cast);rw[show 57-w-((65:Nat):Int)=-(w+8) by omega]at this;grind
  have mm:=R.aF (bZY (R.dC (57-w))) (show 0<=R.ab (R.qz x-(bQ.rK x (w+8):Rat)*(R.pi/2))-1/9223372036854775808 by grind);have aZP:R.rT (R.qz x) (bQ.rK x (w+8)):=by
   unfold R.rT;generalize R.ab (R.qz x-(bQ.rK x (w+8):Rat)*(R.pi/2))=a at *;have u:=R.aF (bZY Wp) (show 0<=R.pz (w+8)*(R.pi/4)+1-R.pz (w+8)*a by grind);have u3:R.pz (-(w+8))*(R.pz (w+8)*a)=a:=by rw[<-cFV,cHL (R.pz (-(w+8))),Wi];grind
   have u4:R.pz (-(w+8))*(R.pz (w+8)*(R.pi/4))=R.pi/4:=by rw[<-cFV,cHL (R.pz (-(w+8))),Wi];grind
   have l65:R.pz (-(w+8))<=R.pz (-65):=R.bV (by omega);have bTY:=R.fG 0 (n:=65) (c:=36893488147419103232) (by norm_cast);rw[R.fQ,show(0:Int)-((65:Nat):Int)=-65 by rfl]at bTY;grind
  obtain⟨r,hr⟩:∃r,r=R.qz x-(bQ.rK x (w+8):Rat)*(R.pi/2):=⟨_,rfl⟩;rw[<-hr]at r1 r2 r3 v mm;have u1:=R.aF (bZY Wp) (show 0<=R.pz (w+8)*r-(bQ.rM x (w+8):Rat) by grind);have u2:=R.aF (bZY Wp) (show 0<=(bQ.rM x (w+8):Rat)+2-R.pz (w+8)*r by grind);have u3:R.pz (-(w+8))*(R.pz (w+8)*r)=r:=by rw[<-cFV,cHL (R.pz (-(w+8))),Wi];grind
  refine⟨bQ.rK x (w+8),?_,hQ,by rw[dL];exact gJ i1 (by omega),by rw[dH];exact gJ i2 (by omega),?_,?_,?_,?_⟩
  ·exact aZP
  ·rw[vL,<-hr];grind
  ·rw[vH,<-hr];grind
  ·rw[vH,vL,<-hr];grind
  ·rw[<-hr];have p64:R.pz (-1074)<=R.pz (-63):=R.bV (by omega);have bJW:=R.fG 0 (n:=63) (c:=9223372036854775808) (by norm_cast);rw[R.fQ,show(0:Int)-((63:Nat):Int)=-63 by rfl]at bJW;grind
end M
namespace AI
open Go Go.RowKit
def t2{β:Type}(x y:β):Nat->β
 |0=>x
 |_+1=>y
def t4{β:Type}(x y z u:β):Nat->β
 |0=>x
 |1=>y
 |2=>z
 |_+3=>u
def bKV{β:Type}(p:SPar β)(d:β):kW (β) where
 put x:=.rows p.n 1 fun _=>p.put x
 get
  | .rows sz n g=>if n=1/\sz=p.n then(p.get (g 0)).bind fun x=>some x else none
  |_=>none
 le:=by
  intro dd x h
  match dd,h with
  | .rows sz n g,h =>
   dsimp only at h;split at h
   ·rename_i hc;obtain⟨rfl,hc⟩:=hc;simp only[bWY]at h;obtain⟨y0,h0,h⟩:=h;cases h;have zR:allB 1 (fun i=>(p.get (g i)).isSome)=true:=by simp[allB,h0]
    have e:=(pR p d).le (d:=.rows sz 1 g) (x:=(1,fun i=>(p.get (g i)).getD d)) (if_pos ⟨hc,zR⟩);rintro Y w v hv;obtain⟨A,c,e1,e2,e3⟩:=e Y w v hv;refine⟨A,c,e1,e2,fun i hi=>?_⟩;have e4:=e3 i hi;obtain rfl:i=0:=by omega
    dsimp only at e4;rw[h0]at e4;exact e4
   ·cases h
def bDU{β:Type}(p:SPar β)(d:β):kW (β×β) where
 put x:=.rows p.n 2 fun i=>p.put (t2 x.1 x.2 i)
 get
  | .rows sz n g=>if n=2/\sz=p.n then(p.get (g 0)).bind fun x=>(p.get (g 1)).bind fun y=>some (x,y)else none
  |_=>none
 le:=by
  intro dd x h
  match dd,h with
  | .rows sz n g,h =>
   dsimp only at h;split at h
   ·rename_i hc;obtain⟨rfl,hc⟩:=hc;simp only[bWY]at h;obtain⟨y0,h0,y1,h1,h⟩:=h;cases h;have zR:allB 2 (fun i=>(p.get (g i)).isSome)=true:=by simp[allB,h0,h1]
    have e:=(pR p d).le (d:=.rows sz 2 g) (x:=(2,fun i=>(p.get (g i)).getD d)) (if_pos ⟨hc,zR⟩);rintro Y w v hv;obtain⟨A,c,e1,e2,e3⟩:=e Y w v hv;refine⟨A,c,e1,e2,fun i hi=>?_⟩;have e4:=e3 i hi;obtain rfl |rfl:i=0\/i=1:=by omega
    ·dsimp only at e4;rw[h0]at e4;exact e4
    ·dsimp only at e4;rw[h1]at e4;exact e4
   ·cases h
def aSA{β:Type}(p:SPar β)(d:β):kW (β×β×β×β) where
 put x:=.rows p.n 4 fun i=>p.put (t4 x.1 x.2.1 x.2.2.1 x.2.2.2 i)
 get
  | .rows sz n g=>if n=4/\sz=p.n then(p.get (g 0)).bind fun x=>(p.get (g 1)).bind fun y=>(p.get (g 2)).bind fun z=>(p.get (g 3)).bind fun u=>some (x,y,z,u)else none
  |_=>none
 le:=by
  intro dd x h
  match dd,h with
  | .rows sz n g,h =>
   dsimp only at h;split at h
   ·rename_i hc;obtain⟨rfl,hc⟩:=hc;simp only[bWY]at h;obtain⟨y0,h0,y1,h1,y2,h2,y3,h3,h⟩:=h;cases h;have zR:allB 4 (fun i=>(p.get (g i)).isSome)=true:=by simp[allB,h0,h1,h2,h3]
    have e:=(pR p d).le (d:=.rows sz 4 g) (x:=(4,fun i=>(p.get (g i)).getD d)) (if_pos ⟨hc,zR⟩);rintro Y w v hv;obtain⟨A,c,e1,e2,e3⟩:=e Y w v hv;refine⟨A,c,e1,e2,fun i hi=>?_⟩;have e4:=e3 i hi;obtain rfl |rfl |rfl |rfl:i=0\/i=1\/i=2\/i=3:=by omega
    ·dsimp only at e4;rw[h0]at e4;exact e4
    ·dsimp only at e4;rw[h1]at e4;exact e4
    ·dsimp only at e4;rw[h2]at e4;exact e4
    ·dsimp only at e4;rw[h3]at e4;exact e4
   ·cases h
end AI
namespace W
open Go AI M
namespace Ac
def E:=mE [] 9 [] [] []
def aE:=bd f161
theorem aX:Nk E aE:=nk
theorem start a:aH E f161 aE [D.s (sc (int i64 a))]=aB (decide (1<=a)) (some [D.s (sc (bool (decide (a<=70000))))]) (some [D.s (sc (bool false))]):=eJ aX
def sp(p:Int):Prop×List D:=(True,[.s (.sc (.bool (decide (1<=p)&&decide (p<=70000))))])
theorem spec:jD E f161 aE (pN .i64) sp:=by
 intro p h;refine(start p).trans ?_;unfold sp aB;cases (decide ((1:Int)<=p)) <;> rfl
def aJ:dO:=orc1 (pN .i64) sp
theorem ok:OK 161 aJ:=(fA E aE aD func161).pU rfl spec
end Ac
namespace xZ
def E:=mE [(161,Ac.aJ),(67,uU.aJ)] 20 [] [(4,[10,11,12])] []
def aE:=bd f117
theorem aX:Nk E aE:=nk
def L4(a:Nat)(b:Nat->Bool)(c:Nat->List Int)(d:Nat->Int)(e:Nat->Bool)(f:Nat->List Int)(g:Nat->Int) h j:=sJ E f117 aE 4 [(A.v (V.one (L.rows 6 a fun i=>[sc (bool (b i)),ints u64 (c i),sc (int i64 (d i)),sc (bool (e i)),ints u64 (f i),sc (int i64 (g i))])),none),cK h,cK j]
theorem start p (a:wW) (b:wW):aH E f117 aE [D.s (sc (int i64 p)),D.rows 6 2 fun i=>[sc (bool (t2 a b i).fst),ints u64 (t2 a b i).snd.fst,sc (int i64 (t2 a b i).snd.snd.fst),sc (bool (t2 a b i).snd.snd.snd.fst),ints u64 (t2 a b i).snd.snd.snd.snd.fst,sc (int i64 (t2 a b i).snd.snd.snd.snd.snd)]]=aO True (aB (!(decide (1<=p)&&decide (p<=70000))) (some [D.s (sc (int i64 1))]) (xZ.L4 2 (fun i=>(t2 a b i).fst) (fun i=>(t2 a b i).snd.fst) (fun i=>(t2 a b i).snd.snd.fst) (fun i=>(t2 a b i).snd.snd.snd.fst) (fun i=>(t2 a b i).snd.snd.snd.snd.fst) (fun i=>(t2 a b i).snd.snd.snd.snd.snd) 2 0)):=eJ aX
theorem vI a b c d e f g h j:L4 a b c d e f g h j=aB (decide (j<h)) (if 0<=j/\j<(a:Int)then aO (eQ (b j.toNat,c j.toNat,d j.toNat,e j.toNat,f j.toNat,g j.toNat)) (xZ.L4 a (fun i=>b i) (fun i=>c i) (fun i=>d i) (fun i=>e i) (fun i=>f i) (fun i=>g i) h (i64.wrap (j+1)))else none) (some [D.s (sc (int i64 0))]):=lJ aX
def sp(p:Int)(a:wW×wW):Prop×List D:=(eQ a.1/\eQ a.2,[.s (.sc (.int .i64 (if 1<=p/\p<=70000 then 0 else 1)))])
theorem L(n:Nat)(f:Nat->wW)(hn:n<=1000)(hf:∀i,i<n->eQ (f i)):∀d k:Nat,k+d=n->L4 n (fun i=>(f i).1) (fun i=>(f i).2.1) (fun i=>(f i).2.2.1) (fun i=>(f i).2.2.2.1) (fun i=>(f i).2.2.2.2.1) (fun i=>(f i).2.2.2.2.2) (n:Int) (k:Int)=some [D.s (.sc (.int .i64 0))]
 |0,k,h=>by rw[vI,aL]
 |d+1,k,h=>by
  have e:i64.wrap ((k:Int)+1)=((k+1:Nat):Int):=by rw[wrap_i64];omega
  rw[vI,aQ,aW,bYO,gP (hf k (by omega)),e];exact L n f hn hf d (k+1) (by omega)
theorem spec:gU E f117 aE (pN .i64) (bDU (.pair sB (.pair (sI .u64) (.pair (sN .i64) (.pair sB (.pair (sI .u64) (sN .i64)))))) (false,[],0,false,[],0)) sp:=by
 intro p a h;have hf:∀i,i<2->eQ (t2 a.1 a.2 i):=fun i hi=>by
  obtain rfl |rfl:i=0\/i=1:=by omega
  ·exact h.1
  ·exact h.2
 refine(start p a.1 a.2).trans ((gP trivial).trans ?_);unfold sp
 by_cases hp:1<=p/\p<=70000
 ·rw[if_pos hp,decide_eq_true hp.1,decide_eq_true hp.2];exact L 2 (fun i=>t2 a.1 a.2 i) (by decide) hf 2 0 (by omega)
 ·rw[if_neg hp];have:(decide (1<=p)&&decide (p<=70000))=false:=by
   rw[cGG,decide_eq_false_iff_not,decide_eq_false_iff_not];omega
  rw[this];rfl
def aJ:dO:=orc2 (pN .i64) (bDU (.pair sB (.pair (sI .u64) (.pair (sN .i64) (.pair sB (.pair (sI .u64) (sN .i64)))))) (false,[],0,false,[],0)) sp
theorem ok:OK 117 aJ:=(fA E aE (aA Ac.ok (aA uU.ok aD)) func117).mV rfl spec
end xZ
namespace Mk
def E:=mE [(120,Gv.aJ)] 6 [5] [] []
def aE:=bd f165
theorem aX:Nk E aE:=nk
theorem start a b c:aH E f165 aE [D.agg [sc (bool a),ints u64 b,sc (int i64 c)]]=aO (aP (a,b,c)/\aP (false,[],(0:Int))) (some [D.s (sc (int i64 (eB (dv (a,b,c)) (dv (false,[],Int.ofNat (nat_lit 0))))))]):=eJ aX
def sp(x:gB):Prop×List D:=(aP x,[.s (.sc (.int .i64 (eB (dv x) (0,0))))])
theorem bDV:aP (false,[],0):=⟨⟨M6.It,fun h=>Bool.noConfusion h,by simp⟩,by constructor <;> decide,fun _=>rfl,fun h=>(h rfl).elim⟩
theorem spec:jD E f165 aE iW sp:=by
 intro x h;exact(start x.1 x.2.1 x.2.2).trans (gP ⟨h,bDV⟩)
def aJ:dO:=orc1 iW sp
theorem ok:OK 165 aJ:=(fA E aE (aA Gv.ok aD) func165).pU rfl spec
end Mk
namespace fL
def E:=mE [(67,uU.aJ),(165,Mk.aJ)] 18 [] [] []
def aE:=bd f159
theorem aX:Nk E aE:=nk
theorem start a b c d e f:aH E f159 aE [D.agg [sc (bool a),ints u64 b,sc (int i64 c),sc (bool d),ints u64 e,sc (int i64 f)]]=letI A:=sc (int i64 0);aO (eQ (a,b,c,d,e,f)) (aO (aP (d,e,f)) (aB (decide (eB (dv (d,e,f)) ((0:Int),(0:Int))<0)) (some [D.s (sc (int i64 (-1:Int))),D.s A]) (aO (aP (a,b,c)) (aB (decide (0<eB (dv (a,b,c)) ((0:Int),(0:Int)))) (some [D.s (sc (int i64 1)),D.s A]) (some [D.s A,D.s A]))))):=eJ aX
def sF(a b:Int×Int):Int:=if eB b (0,0)<0 then -1 else if 0<eB a (0,0)then 1 else 0
def sp(s:wW):Prop×List D:=(eQ s,[.s (.sc (.int .i64 (sF (dv (gW s)) (dv (gX s))))),.s (.sc (.int .i64 0))])
theorem spec:jD E f159 aE yH sp:=by
 intro s h;have h:eQ s:=h;have hL:aP (s.1,s.2.1,s.2.2.1):=h.1;have hH:aP (s.2.2.2.1,s.2.2.2.2.1,s.2.2.2.2.2):=h.2.1;refine(start s.1 s.2.1 s.2.2.1 s.2.2.2.1 s.2.2.2.2.1 s.2.2.2.2.2).trans ?_;unfold sp sF
 try dsimp only
 rw[gP h,gP hH];show aB (decide (eB (dv (gX s)) (0,0)<0)) _ _=_
 by_cases c1:eB (dv (gX s)) (0,0)<0
 ·rw[aQ c1,if_pos c1]
 ·rw[aL c1,if_neg c1,gP hL];show aB (decide (0<eB (dv (gW s)) (0,0))) _ _=_
  by_cases c2:0<eB (dv (gW s)) (0,0)
  ·rw[aQ c2,if_pos c2]
  ·rw[aL c2,if_neg c2]
def aJ:dO:=orc1 yH sp
theorem ok:OK 159 aJ:=(fA E aE (aA uU.ok (aA Mk.ok aD)) func159).pU rfl spec
end fL
namespace Mt
def E:=mE [(210,cB.aJ)] 14 [11] [] []
def aE:=bd f166
theorem aX:Nk E aE:=nk
theorem start a b d e f g c:aH E f166 aE [D.agg [sc (bool a),ints u64 b,sc (int i64 d)],D.agg [sc (bool e),ints u64 f,sc (int i64 g)],D.s (sc (int i64 c))]=letI A:=cB.uJ false c (dv (a,b,d)) (dv (e,f,g));letI B:=bif gT A.fst A.snd then aN A.fst A.snd else((0:Int),(0:Int));aO (aP (a,b,d)/\aP (e,f,g)/\(dv (e,f,g)).fst≠0/\b.length<=4096/\f.length<=4096/\1<=c/\c<=70000) (some [D.agg [sc (bool (isNeg B.fst)),ints u64 (M6.dg B.fst.natAbs),sc (int i64 B.snd)],D.s (sc (int i64 (bif gT A.fst A.snd then(0:Int)else(5:Int))))]):=eJ aX
def sp(x y:gB)(p:Int):Prop×List D:=(aP x/\aP y/\(dv y).1≠0/\x.2.1.length<=4096/\y.2.1.length<=4096/\1<=p/\p<=70000,dE (gT (cB.uJ false p (dv x) (dv y)).1 (cB.uJ false p (dv x) (dv y)).2) (aN (cB.uJ false p (dv x) (dv y)).1 (cB.uJ false p (dv x) (dv y)).2))
theorem spec:oP E f166 aE iW iW (pN .i64) sp:=by
 intro x y p h;refine(start x.1 x.2.1 x.2.2 y.1 y.2.1 y.2.2 p).trans ((gP h).trans ?_);rfl
def aJ:dO:=orc3 iW iW (pN .i64) sp
theorem ok:OK 166 aJ:=(fA E aE (aA cB.ok aD) func166).yM rfl spec
end Mt
namespace aAI
def E:=mE [(210,cB.aJ)] 14 [11] [] []
def aE:=bd f167
theorem aX:Nk E aE:=nk
theorem start a b d e f g c:aH E f167 aE [D.agg [sc (bool a),ints u64 b,sc (int i64 d)],D.agg [sc (bool e),ints u64 f,sc (int i64 g)],D.s (sc (int i64 c))]=letI A:=cB.uJ true c (dv (a,b,d)) (dv (e,f,g));letI B:=bif gT A.fst A.snd then aN A.fst A.snd else((0:Int),(0:Int));aO (aP (a,b,d)/\aP (e,f,g)/\(dv (e,f,g)).fst≠0/\b.length<=4096/\f.length<=4096/\1<=c/\c<=70000) (some [D.agg [sc (bool (isNeg B.fst)),ints u64 (M6.dg B.fst.natAbs),sc (int i64 B.snd)],D.s (sc (int i64 (bif gT A.fst A.snd then(0:Int)else(5:Int))))]):=eJ aX
def sp(x y:gB)(p:Int):Prop×List D:=(aP x/\aP y/\(dv y).1≠0/\x.2.1.length<=4096/\y.2.1.length<=4096/\1<=p/\p<=70000,dE (gT (cB.uJ true p (dv x) (dv y)).1 (cB.uJ true p (dv x) (dv y)).2) (aN (cB.uJ true p (dv x) (dv y)).1 (cB.uJ true p (dv x) (dv y)).2))
theorem spec:oP E f167 aE iW iW (pN .i64) sp:=by
 intro x y p h;refine(start x.1 x.2.1 x.2.2 y.1 y.2.1 y.2.2 p).trans ((gP h).trans ?_);rfl
def aJ:dO:=orc3 iW iW (pN .i64) sp
theorem ok:OK 167 aJ:=(fA E aE (aA cB.ok aD) func167).yM rfl spec
end aAI
namespace Wu
def E:=mE [] 23 [] [] []
def aE:=bd f164
theorem aX:Nk E aE:=nk
theorem start a c e b f g h d:aH E f164 aE [D.agg [sc (bool a),ints u64 c,sc (int i64 e)],D.s (sc (int i64 b)),D.agg [sc (bool f),ints u64 g,sc (int i64 h)],D.s (sc (int i64 d))]=letI B:=int i64 0;letI A:=some [D.agg [sc (bool false),sc (slice none 0 0),sc B,sc (bool false),sc (slice none 0 0),sc B],D.s (sc (int i64 (if d>b then d else b)))];aB (b !=0) A (aB (d !=0) A (some [D.agg [sc (bool a),ints u64 c,sc (int i64 e),sc (bool f),ints u64 g,sc (int i64 h)],D.s (sc B)])):=eJ aX
def sp(x:gB)(e:Int)(y:gB)(f:Int):Prop×List D:=(e=0/\f=0,[.agg [.sc (.bool x.1),.ints .u64 x.2.1,.sc (.int .i64 x.2.2),.sc (.bool y.1),.ints .u64 y.2.1,.sc (.int .i64 y.2.2)],.s (.sc (.int .i64 0))])
theorem spec:Of E f164 aE iW (pN .i64) iW (pN .i64) sp:=by
 rintro x e y f ⟨rfl,rfl⟩;exact start x.1 x.2.1 x.2.2 0 y.1 y.2.1 y.2.2 0
def aJ:dO:=orc4 iW (pN .i64) iW (pN .i64) sp
theorem ok:OK 164 aJ:=(fA E aE aD func164).aNM rfl spec
end Wu
namespace iQ
def E:=mE [(117,xZ.aJ),(159,fL.aJ),(20,jY.aJ),(165,Mk.aJ),(166,Mt.aJ),(167,aAI.aJ),(164,Wu.aJ)] 86 [21,83] [(11,[2,3,4,6]),(14,[2,3,4,6,11,12]),(16,[2,3,6,11,12])] [11,14,16]
def aE:=bd f119
theorem aX:Nk E aE:=nk
def bFD a b c d e f g h i j k l m n o p q:=mT E f119 aE 11 [cK a,dK 1 44 [cU b,fU c,cX d,cU e,fU f,cX g],dK 2 44 [cU h,fU i,cX j,cU k,fU l,cX m],dK 3 44 [cU n,sc (slice none 0 0),cX o,cU p,sc (slice none 0 0),cX q]]
def aRJ a b c d e f g h i j k l m n o p q r s t u v w:=mT E f119 aE 14 [cK a,dK 1 44 [cU b,fU c,cX d,cU e,fU f,cX g],dK 2 44 [cU h,fU i,cX j,cU k,fU l,cX m],dK 3 44 [cU n,sc (slice none 0 0),cX o,cU p,sc (slice none 0 0),cX q],dK 4 29 [cU r,fU s,cX t],dK 5 29 [cU u,fU v,cX w]]
def aRI a b c d e f g h i j k l m n o p q:=mT E f119 aE 16 [cK a,dK 1 44 [cU b,fU c,cX d,cU e,fU f,cX g],dK 2 44 [cU h,sc (slice none 0 0),cX i,cU j,sc (slice none 0 0),cX k],dK 3 29 [cU l,fU m,cX n],dK 4 29 [cU o,fU p,cX q]]
theorem start a b d e f g h i j k l m c:aH E f119 aE [D.agg [sc (bool a),ints u64 b,sc (int i64 d),sc (bool e),ints u64 f,sc (int i64 g)],D.agg [sc (bool h),ints u64 i,sc (int i64 j),sc (bool k),ints u64 l,sc (int i64 m)],D.s (sc (int i64 c))]=letI I:=int i64 0;letI F:=bool false;letI C:=slice none 0 0;letI B:=(a,b,d,e,f,g);letI N:=dv (gW B);letI K:=dv (gX B);letI A:=(h,i,j,k,l,m);letI H:=dv (gX A);letI G:=dv (gW A);aO (eQ B/\eQ A) (aC (if 1<=c/\c<=70000 then(0:Int)else(1:Int)) fun n=>aB (n !=0) (some [D.agg [sc F,sc C,sc I,sc F,sc C,sc I],D.s (sc (int i64 n))]) (aO (eQ A) (aC (fL.sF G H) fun o=>aB (o==0) (some [D.agg [sc F,sc C,sc I,sc F,sc C,sc I],D.s (sc (int i64 4))]) (aB (o==(-1:Int)) (aO (eQ B) (aC (isNeg (-K.fst)) fun p=>aC (M6.dg (-K.fst).natAbs) fun q=>aC K.snd fun r=>aC (isNeg (-N.fst)) fun s=>aC (M6.dg (-N.fst).natAbs) fun t=>aC N.snd fun u=>aO (eQ A) (aC (isNeg (-H.fst)) fun v=>aC (M6.dg (-H.fst).natAbs) fun w=>aC H.snd fun x=>aC (isNeg (-G.fst)) fun y=>aC (M6.dg (-G.fst).natAbs) fun z=>aC G.snd fun aa=>iQ.bFD c p q r s t u v w x y z aa false 0 false 0))) (iQ.bFD c a b d e f g h i j k l m false 0 false 0))))):=eJ aX
theorem aXI a b c d e f g h i j k l m n o p q:bFD a b c d e f g h i j k l m n o p q=aO (aP (b,c,d)) (aC (eB (dv (b,c,d)) ((0:Int),(0:Int))) fun r=>aB (decide (r<0)) (iQ.aRJ a b c d e f g h i j k l m n o p q h i j h i j) (iQ.aRJ a b c d e f g h i j k l m n o p q k l m h i j)):=cJ aX
theorem Tb a b c d e f g h i j k l m n o p q r s t u v w:aRJ a b c d e f g h i j k l m n o p q r s t u v w=aO (aP (e,f,g)) (aC (eB (dv (e,f,g)) ((0:Int),(0:Int))) fun x=>aB (decide (x<0)) (iQ.aRI a b c d e f g n o p q r s t k l m) (iQ.aRI a b c d e f g n o p q r s t u v w)):=cJ aX
theorem aAF a b c d e f g h i j k l m n o p q:aRI a b c d e f g h i j k l m n o p q=letI B:=cB.uJ true a (dv (e,f,g)) (dv (o,p,q));letI F:=bif gT B.fst B.snd then aN B.fst B.snd else((0:Int),(0:Int));letI A:=cB.uJ false a (dv (b,c,d)) (dv (l,m,n));letI C:=bif gT A.fst A.snd then aN A.fst A.snd else((0:Int),(0:Int));aO (aP (b,c,d)/\aP (l,m,n)/\(dv (l,m,n)).fst≠0/\c.length<=4096/\m.length<=4096/\1<=a/\a<=70000) (aC (isNeg C.fst) fun r=>aC (M6.dg C.fst.natAbs) fun s=>aC C.snd fun t=>aC (bif gT A.fst A.snd then(0:Int)else(5:Int)) fun u=>aO (aP (e,f,g)/\aP (o,p,q)/\(dv (o,p,q)).fst≠0/\f.length<=4096/\p.length<=4096/\1<=a/\a<=70000) (aC (isNeg F.fst) fun v=>aC (M6.dg F.fst.natAbs) fun w=>aC F.snd fun x=>aC (bif gT B.fst B.snd then(0:Int)else(5:Int)) fun y=>aO (u=0/\y=0) (some [D.agg [sc (bool r),ints u64 s,sc (int i64 t),sc (bool v),ints u64 w,sc (int i64 x)],D.s (sc (int i64 0))]))):=cJ aX
def aGF(p:Int)(a u v:Int×Int):Int×Int:=cB.uJ false p a (bif decide (eB a (0,0)<0)then u else v)
def aGG(p:Int)(a u v:Int×Int):Int×Int:=cB.uJ true p a (bif decide (eB a (0,0)<0)then v else u)
def Ka(p:Int)(a b u v:Int×Int):Int×Int:=bif fL.sF u v==-1 then aGF p (jY.wI b) (jY.wI v) (jY.wI u)else aGF p a u v
def Kb(p:Int)(a b u v:Int×Int):Int×Int:=bif fL.sF u v==-1 then aGG p (jY.wI a) (jY.wI v) (jY.wI u)else aGG p b u v
def sp(s t:wW)(p:Int):Prop×List D:=(eQ s/\eQ t/\(1<=p/\p<=70000)/\fL.sF (dv (gW t)) (dv (gX t))≠0 /\
 (bl (dv (gW s)).1.natAbs<=262144/\bl (dv (gX s)).1.natAbs<=262144/\bl (dv (gW t)).1.natAbs<=262144/\bl (dv (gX t)).1.natAbs<=262144) /\
 gT (Ka p (dv (gW s)) (dv (gX s)) (dv (gW t)) (dv (gX t))).1 (Ka p (dv (gW s)) (dv (gX s)) (dv (gW t)) (dv (gX t))).2=true/\gT (Kb p (dv (gW s)) (dv (gX s)) (dv (gW t)) (dv (gX t))).1 (Kb p (dv (gW s)) (dv (gX s)) (dv (gW t)) (dv (gX t))).2=true,
 [uV (aN (Ka p (dv (gW s)) (dv (gX s)) (dv (gW t)) (dv (gX t))).1 (Ka p (dv (gW s)) (dv (gX s)) (dv (gW t)) (dv (gX t))).2) (aN (Kb p (dv (gW s)) (dv (gX s)) (dv (gW t)) (dv (gX t))).1 (Kb p (dv (gW s)) (dv (gX s)) (dv (gW t)) (dv (gX t))).2),.s (.sc (.int .i64 0))])
theorem J{p:Int}(hp:1<=p/\p<=70000){x y u v:gB}(hx:aP x)(hy:aP y)(hu:aP u)(hv:aP v)(u0:(dv u).1≠0)(v0:(dv v).1≠0)(lx:x.2.1.length<=4096)(ly:y.2.1.length<=4096)(lu:u.2.1.length<=4096)(lv:v.2.1.length<=4096)
  (i1:gT (aGF p (dv x) (dv u) (dv v)).1 (aGF p (dv x) (dv u) (dv v)).2=true) (i2:gT (aGG p (dv y) (dv u) (dv v)).1 (aGG p (dv y) (dv u) (dv v)).2=true) :
  bFD p x.1 x.2.1 x.2.2 y.1 y.2.1 y.2.2 u.1 u.2.1 u.2.2 v.1 v.2.1 v.2.2 false 0 false 0=some [uV (aN (aGF p (dv x) (dv u) (dv v)).1 (aGF p (dv x) (dv u) (dv v)).2) (aN (aGG p (dv y) (dv u) (dv v)).1 (aGG p (dv y) (dv u) (dv v)).2),.s (.sc (.int .i64 0))]:=by
 have fin:∀m n:gB,aP m->aP n->(dv m).1≠0->(dv n).1≠0->m.2.1.length<=4096->n.2.1.length<=4096->gT (cB.uJ false p (dv x) (dv m)).1 (cB.uJ false p (dv x) (dv m)).2=true->gT (cB.uJ true p (dv y) (dv n)).1 (cB.uJ true p (dv y) (dv n)).2=true ->
   aRI p x.1 x.2.1 x.2.2 y.1 y.2.1 y.2.2 false 0 false 0 m.1 m.2.1 m.2.2 n.1 n.2.1 n.2.2=some [uV (aN (cB.uJ false p (dv x) (dv m)).1 (cB.uJ false p (dv x) (dv m)).2) (aN (cB.uJ true p (dv y) (dv n)).1 (cB.uJ true p (dv y) (dv n)).2),.s (.sc (.int .i64 0))]:=by
  intro m n hm hn m0 n0 lm ln j1 j2;have x1:(x.1,x.2.1,x.2.2)=x:=rfl;have x2:(y.1,y.2.1,y.2.2)=y:=rfl;have x3:(m.1,m.2.1,m.2.2)=m:=rfl;have x4:(n.1,n.2.1,n.2.2)=n:=rfl;rw[aAF];simp only[aG,x1,x2,x3,x4,j1,j2,cond_true];rw[gP ⟨hx,hm,m0,lx,lm,hp.1,hp.2⟩,gP ⟨hy,hn,n0,ly,ln,hp.1,hp.2⟩,gP ⟨trivial,trivial⟩];rfl
 unfold aGF aGG at *;rw[aXI,gP hx,aG]
 by_cases c1:eB (dv x) (0,0)<0
 ·rw[show dv (x.1,x.2.1,x.2.2)=dv x from rfl,aQ c1,Tb,gP hy,aG,show dv (y.1,y.2.1,y.2.2)=dv y from rfl];rw[decide_eq_true c1,cond_true]at i1 ⊢
  by_cases c2:eB (dv y) (0,0)<0
  ·rw[aQ c2];rw[decide_eq_true c2,cond_true]at i2 ⊢;exact fin u v hu hv u0 v0 lu lv i1 i2
  ·rw[aL c2];rw[decide_eq_false c2,cond_false]at i2 ⊢;exact fin u u hu hu u0 u0 lu lu i1 i2
 ·rw[show dv (x.1,x.2.1,x.2.2)=dv x from rfl,aL c1,Tb,gP hy,aG,show dv (y.1,y.2.1,y.2.2)=dv y from rfl];rw[decide_eq_false c1,cond_false]at i1 ⊢
  by_cases c2:eB (dv y) (0,0)<0
  ·rw[aQ c2];rw[decide_eq_true c2,cond_true]at i2 ⊢;exact fin v v hv hv v0 v0 lv lv i1 i2
  ·rw[aL c2];rw[decide_eq_false c2,cond_false]at i2 ⊢;exact fin v u hv hu v0 u0 lv lu i1 i2
theorem cell{q:Int×Int}(h:jJ q)(hb:bl q.1.natAbs<=262144):(isNeg q.1,M6.dg q.1.natAbs,q.2).2.1.length<=4096:=by
 have:=dJ h;refine this.Fw ?_;rw[dT];exact hb
theorem spec:oP E f119 aE yH yH (pN .i64) sp:=by
 rintro s t p ⟨h1,h2,hp,hs,⟨l1,l2,l3,l4⟩,i1,i2⟩;refine(start s.1 s.2.1 s.2.2.1 s.2.2.2.1 s.2.2.2.2.1 s.2.2.2.2.2 t.1 t.2.1 t.2.2.1 t.2.2.2.1 t.2.2.2.2.1 t.2.2.2.2.2 p).trans ?_;rw[gP ⟨h1,h2⟩,aG,if_pos hp,gE rfl,gP h2,aG];unfold sp;have n1:(dv (gW t)).1≠0:=fun hz=>by
  have:=Ea.1 (Ar hz);have o:=kV.1 h2.2.2;unfold fL.sF at hs
  by_cases g:eB (dv (gX t)) (0,0)<0
  ·have:=Bg.1 g;grind
  ·rw[if_neg g,if_neg (by rw[Ar hz];omega)]at hs;exact hs rfl
 have n2:(dv (gX t)).1≠0:=fun hz=>by
  have:=Ea.1 (Ar hz);have o:=kV.1 h2.2.2;unfold fL.sF at hs;rw[if_neg (by rw[Ar hz];omega)]at hs
  by_cases g:0<eB (dv (gW t)) (0,0)
  ·have:=xQ.1 g;grind
  ·rw[if_neg g]at hs;exact hs rfl
 show aB (fL.sF (dv (gW t)) (dv (gX t))==0) _ _=_;rw[bM hs];have p1:=h1.1.uZ;have p2:=h1.2.1.uZ;have p3:=h2.1.uZ;have p4:=h2.2.1.uZ;unfold Ka Kb at *
 by_cases c:fL.sF (dv (gW t)) (dv (gX t))=-1
 ·rw[show(fL.sF (dv (gW t)) (dv (gX t))==-1)=true from beq_iff_eq.2 c,cond_true]at i1 i2;show aB (fL.sF (dv (gW t)) (dv (gX t))==-1) _ _=_;rw[cN c,gP h1];simp only[aG];rw[gP h2];rw[show(fL.sF (dv (gW t)) (dv (gX t))==-1)=true from beq_iff_eq.2 c,cond_true,cond_true];have e:=J hp (dJ p2.Fq) (dJ p1.Fq) (dJ p4.Fq) (dJ p3.Fq);rw[dT,dT,dT,dT]at e;dsimp only at e;exact e (by omega) (by omega) (cell p2.Fq (by dsimp only;rw[cBC];exact l2)) (cell p1.Fq (by dsimp only;rw[cBC];exact l1)) (cell p4.Fq (by dsimp only;rw[cBC];exact l4)) (cell p3.Fq (by dsimp only;rw[cBC];exact l3)) i1 i2
 ·rw[show(fL.sF (dv (gW t)) (dv (gX t))==-1)=false from beq_eq_false_iff_ne.2 c,cond_false]at i1 i2;show aB (fL.sF (dv (gW t)) (dv (gX t))==-1) _ _=_;rw[bM c];rw[show(fL.sF (dv (gW t)) (dv (gX t))==-1)=false from beq_eq_false_iff_ne.2 c,cond_false,cond_false];exact J hp h1.1 h1.2.1 h2.1 h2.2.1 n1 n2 (h1.1.Fw l1) (h1.2.1.Fw l2) (h2.1.Fw l3) (h2.2.1.Fw l4) i1 i2
def aJ:dO:=orc3 yH yH (pN .i64) sp
theorem ok:OK 119 aJ:=(fA E aE (aA xZ.ok (aA fL.ok (aA jY.ok (aA Mk.ok (aA Mt.ok (aA aAI.ok (aA Wu.ok aD))))))) func119).yM rfl spec
end iQ
namespace VTurned
def E:=mE [(20,jY.aJ)] 29 [16] [(2,[3,4,6,7,11,12])] []
def aE:=bd f212
theorem aX:Nk E aE:=nk
def L2 a b c d e f g h i j k l m n o p q r s t u v:=sJ E f212 aE 2 [dK 0 44 [cU a,fU b,cX c,cU d,fU e,cX f],dK 1 44 [cU g,fU h,cX i,cU j,fU k,cX l],dK 2 44 [cU m,sc (slice none 0 0),cX n,cU o,sc (slice none 0 0),cX p],dK 3 44 [cU q,sc (slice none 0 0),cX r,cU s,sc (slice none 0 0),cX t],cK u,cK v]
theorem start a b d e f g h i j k l m c:aH E f212 aE [D.agg [sc (bool a),ints u64 b,sc (int i64 d),sc (bool e),ints u64 f,sc (int i64 g)],D.agg [sc (bool h),ints u64 i,sc (int i64 j),sc (bool k),ints u64 l,sc (int i64 m)],D.s (sc (int i64 c))]=VTurned.L2 a b d e f g h i j k l m false 0 false 0 false 0 false 0 c 0:=eJ aX
theorem lN a b c d e f g h i j k l m n o p q r s t u v:L2 a b c d e f g h i j k l m n o p q r s t u v=letI A:=(a,b,c,d,e,f);letI C:=dv (gW A);letI B:=dv (gX A);aB (decide (v<u)) (aO (eQ A) (aC (isNeg (-B.fst)) fun w=>aC (M6.dg (-B.fst).natAbs) fun x=>aC B.snd fun y=>aC (isNeg (-C.fst)) fun z=>aC (M6.dg (-C.fst).natAbs) fun aa=>aC C.snd fun ab=>VTurned.L2 g h i j k l w x y z aa ab m n o p q r s t u (i64.wrap (v+1)))) (some [D.agg [sc (bool a),ints u64 b,sc (int i64 c),sc (bool d),ints u64 e,sc (int i64 f)],D.agg [sc (bool g),ints u64 h,sc (int i64 i),sc (bool j),ints u64 k,sc (int i64 l)],D.s (sc (int i64 0))]):=lJ aX
def trn(s c:(Int×Int)×(Int×Int)):Nat->((Int×Int)×(Int×Int))×((Int×Int)×(Int×Int))
 |0=>(s,c)
 |n+1=>trn c (jY.wI s.2,jY.wI s.1) n
def sp(s c:wW)(q:Int):Prop×List D:=(eQ s/\eQ c/\0<=q/\q<=3,[uV (trn (dv (gW s),dv (gX s)) (dv (gW c),dv (gX c)) q.toNat).1.1 (trn (dv (gW s),dv (gX s)) (dv (gW c),dv (gX c)) q.toNat).1.2,uV (trn (dv (gW s),dv (gX s)) (dv (gW c),dv (gX c)) q.toNat).2.1 (trn (dv (gW s),dv (gX s)) (dv (gW c),dv (gX c)) q.toNat).2.2,.s (.sc (.int .i64 0))])
theorem aJA{s:wW}(h:eQ s):eQ (mM (jY.wI (dv (gX s))) (jY.wI (dv (gW s)))):=by
 refine xF h.2.1.uZ.Fq h.1.uZ.Fq ?_;have:=kV.1 h.2.2;refine kV.2 ?_;unfold jY.wI;rw[oU,oU];grind
theorem L:∀(d k:Nat) (s c:wW),k+d<=1000->eQ s->eQ c->L2 s.1 s.2.1 s.2.2.1 s.2.2.2.1 s.2.2.2.2.1 s.2.2.2.2.2 c.1 c.2.1 c.2.2.1 c.2.2.2.1 c.2.2.2.2.1 c.2.2.2.2.2 false 0 false 0 false 0 false 0 ((k+d:Nat):Int) (k:Int)=some [uV (trn (dv (gW s),dv (gX s)) (dv (gW c),dv (gX c)) d).1.1 (trn (dv (gW s),dv (gX s)) (dv (gW c),dv (gX c)) d).1.2,uV (trn (dv (gW s),dv (gX s)) (dv (gW c),dv (gX c)) d).2.1 (trn (dv (gW s),dv (gX s)) (dv (gW c),dv (gX c)) d).2.2,.s (.sc (.int .i64 0))]
 |0,k,s,c,h,h1,h2=>by
  rw[lN,aL];unfold trn;dsimp only;rw[h1.uV,h2.uV]
 |d+1,k,s,c,h,h1,h2=>by
  have e:i64.wrap ((k:Int)+1)=((k+1:Nat):Int):=by rw[wrap_i64];omega
  rw[lN,aQ,gP h1];simp only[aG,e];have r:=L d (k+1) c (mM (jY.wI (dv (gX s))) (jY.wI (dv (gW s)))) (by omega) h2 (aJA h1);rw[oL,oM,show k+1+d=k+(d+1) by omega]at r;exact r
theorem spec:oP E f212 aE yH yH (pN .i64) sp:=by
 rintro s c q ⟨h1,h2,q0,q1⟩;refine(start s.1 s.2.1 s.2.2.1 s.2.2.2.1 s.2.2.2.2.1 s.2.2.2.2.2 c.1 c.2.1 c.2.2.1 c.2.2.2.1 c.2.2.2.2.1 c.2.2.2.2.2 q).trans ?_;obtain⟨n,rfl⟩:=bZV q0;have:=L n 0 s c (by omega) h1 h2;rw[bUT]at this;exact this
def aJ:dO:=orc3 yH yH (pN .i64) sp
theorem ok:OK 212 aJ:=(fA E aE (aA jY.ok aD) func212).yM rfl spec
end VTurned
end W
namespace M
open Go AI W
structure Bx(s:(Int×Int)×(Int×Int))(V W m:Rat):Prop where
 pl:jJ s.1
 ph:jJ s.2
 bl:bl s.1.1.natAbs<=100000
 bh:M.bl s.2.1.natAbs<=100000
 m0:0<=m
 lo:R.qz s.1+m<=V
 hi:V+m<=R.qz s.2
 wd:R.qz s.2-R.qz s.1<=W
theorem Bx.neg{s:(Int×Int)×(Int×Int)}{V W m:Rat}(h:Bx s V W m):Bx (jY.wI s.2,jY.wI s.1) (-V) W m:=by
 obtain⟨h1,h2,h3,h4,h5,h6,h7,h8⟩:=h;refine⟨h2.Fq,h1.Fq,?_,?_,h5,?_,?_,?_⟩
 ·show M.bl (-s.2.1).natAbs<=_;rw[cBC];exact h4
 ·show M.bl (-s.1.1).natAbs<=_;rw[cBC];exact h3
 ·show R.qz (-s.2.1,s.2.2)+m<=_;rw[oU];grind
 ·show _<=R.qz (-s.1.1,s.1.2);rw[oU];grind
 ·show R.qz (-s.1.1,s.1.2)-R.qz (-s.2.1,s.2.2)<=_;rw[oU,oU];grind
theorem Bx.yV{s:(Int×Int)×(Int×Int)}{V W m:Rat}(h:Bx s V W m):eQ (mM s.1 s.2):=xF h.pl h.ph (kV.2 (by have:=h.lo;have:=h.hi;have:=h.m0;grind))
theorem Bx.trn{s c:(Int×Int)×(Int×Int)}{S C Ws Wc m:Rat}(hs:Bx s S Ws m)(hc:Bx c C Wc m){k:Int} :
  Bx (VTurned.trn s c (k%4).toNat).1 (R.rs k S C) (if k%2=0 then Ws else Wc) m/\Bx (VTurned.trn s c (k%4).toNat).2 (R.rc k S C) (if k%2=0 then Wc else Ws) m:=by
 have h4:k%4=0\/k%4=1\/k%4=2\/k%4=3:=by omega
 unfold R.rs R.rc;rcases h4 with h |h |h |h
 ·have h2:k%2=0:=by omega
  simp[h,h2];exact⟨hs,hc⟩
 ·have h2:k%2=1:=by omega
  simp[h,h2];exact⟨hc,hs.neg⟩
 ·have h2:k%2=0:=by omega
  simp[h,h2];exact⟨hs.neg,hc.neg⟩
 ·have h2:k%2=1:=by omega
  simp[h,h2];have e:s=(jY.wI (jY.wI s.1),jY.wI (jY.wI s.2)):=by
   obtain⟨⟨a,b⟩,c,d⟩:=s;unfold jY.wI;dsimp only;rw[Int.neg_neg,Int.neg_neg]
  refine⟨hc.neg,?_⟩;have:=hs;rw[e]at this;exact this
theorem aQU(up:Bool){z:Int}{v:Rat}{k:Nat}(hk:1<=k)(h:(z:Rat)=v\/(z%2=1/\(z:Rat)-1<v/\v<(z:Rat)+1)) :
  (up=false->(kD.oZ up z k:Rat)*((2^k:Nat):Rat)<=v/\v<=(kD.oZ up z k:Rat)*((2^k:Nat):Rat)+((2^k:Nat):Rat))/\(up=true->v<=(kD.oZ up z k:Rat)*((2^k:Nat):Rat)/\(kD.oZ up z k:Rat)*((2^k:Nat):Rat)<=v+((2^k:Nat):Rat)):=by
 obtain⟨c1,c2⟩:=aCZ up z k;have K0:(0:Rat)<((2^k:Nat):Rat):=by exact_mod_cast bXR (by decide)
 rcases h with h |⟨ho,h1,h2⟩
 ·rw[<-h];exact⟨fun hu=>⟨(c1 hu).1,bZY (c1 hu).2⟩,fun hu=>⟨(c2 hu).1,bZY (c2 hu).2⟩⟩
 ·
  have ev:(2:Int)∣((2^k:Nat):Int):=by
   obtain⟨j,rfl⟩:∃j,k=j+1:=⟨k-1,by omega⟩;rw[bZQ];exact⟨((2^j:Nat):Int),by push_cast;omega⟩
  have fl:∀w:Int,w%2=1->w/((2^k:Nat):Int)*((2^k:Nat):Int)+1<=w/\w+1<=w/((2^k:Nat):Int)*((2^k:Nat):Int)+((2^k:Nat):Int):=by
   intro w hw;have e:=cDM w ((2^k:Nat):Int);have hp:(0:Int)<((2^k:Nat):Int):=by have:=bXR (n:=k) (show 0<2 by decide);omega
   have m0:=cDN w (show((2^k:Nat):Int)≠0 by omega);have m1:=cDO w hp;have m2:w%((2^k:Nat):Int)%2=1:=by rw[Int.emod_emod_of_dvd w ev];exact hw
   rw[cCJ]at e;generalize w/((2^k:Nat):Int)*((2^k:Nat):Int)=P at *;omega
  constructor
  ·rintro rfl;unfold kD.oZ;rw[cond_false];obtain⟨f1,f2⟩:=fl z ho;have bTT:((z/((2^k:Nat):Int):Int):Rat)*((2^k:Nat):Rat)+1<=(z:Rat):=by exact_mod_cast f1
   have bTS:(z:Rat)+1<=((z/((2^k:Nat):Int):Int):Rat)*((2^k:Nat):Rat)+((2^k:Nat):Rat):=by exact_mod_cast f2
   generalize ((z/((2^k:Nat):Int):Int):Rat)*((2^k:Nat):Rat)=P at *;constructor <;> grind
  ·rintro rfl;unfold kD.oZ;rw[cond_true];obtain⟨f1,f2⟩:=fl (-z) (by omega);have bTT:((-z/((2^k:Nat):Int):Int):Rat)*((2^k:Nat):Rat)+1<=-(z:Rat):=by exact_mod_cast f1
   have bTS:-(z:Rat)+1<=((-z/((2^k:Nat):Int):Int):Rat)*((2^k:Nat):Rat)+((2^k:Nat):Rat):=by exact_mod_cast f2
   rw[cHO];have e:-((-z/((2^k:Nat):Int):Int):Rat)*((2^k:Nat):Rat)=-(((-z/((2^k:Nat):Int):Int):Rat)*((2^k:Nat):Rat)):=by grind
   rw[e];generalize ((-z/((2^k:Nat):Int):Int):Rat)*((2^k:Nat):Rat)=P at *;constructor <;> grind
theorem aON{a b s:Nat}(hb:0<b):∃v:Rat,v*(b:Rat)=2*((a:Rat)*((2^s:Nat):Rat))/\0<=v/\((cB.Uf a b s:Rat)=v\/(cB.Uf a b s%2=1/\(cB.Uf a b s:Rat)-1<v/\v<(cB.Uf a b s:Rat)+1)):=by
 have b0:(0:Rat)<(b:Rat):=by exact_mod_cast hb
 have hd:=bZX (a*2^s) b;have hm:=bWZ (a*2^s) hb;have A:(b:Rat)*((a*2^s/b:Nat):Rat)+((a*2^s%b:Nat):Rat)=(a:Rat)*((2^s:Nat):Rat):=by exact_mod_cast hd
 have Mm:((a*2^s%b:Nat):Rat)<(b:Rat):=by exact_mod_cast hm
 have q0:(0:Rat)<=((a*2^s/b:Nat):Rat):=by exact_mod_cast cAS _
 have m0:(0:Rat)<=((a*2^s%b:Nat):Rat):=by exact_mod_cast cAS _
 refine⟨2*((a:Rat)*((2^s:Nat):Rat))/(b:Rat),by grind,?_,?_⟩
 ·refine R.bS b0 ?_;have:(b:Rat)*(2*((a:Rat)*((2^s:Nat):Rat))/(b:Rat))=2*((a:Rat)*((2^s:Nat):Rat)):=by grind
  rw[this,<-A];have:=R.aF (bZY b0) q0;grind
 ·have e:(b:Rat)*(2*((a:Rat)*((2^s:Nat):Rat))/(b:Rat))=2*((b:Rat)*((a*2^s/b:Nat):Rat)+((a*2^s%b:Nat):Rat)):=by rw[A];grind
  generalize 2*((a:Rat)*((2^s:Nat):Rat))/(b:Rat)=v at *;unfold cB.Uf
  by_cases hz:a*2^s%b=0
  ·left;rw[if_pos hz,bVP,cBJ];rw[hz]at e;have z:((0:Nat):Rat)=0:=by norm_cast
   have two:((2:Nat):Rat)=2:=by norm_cast
   rw[z]at e;rw[two];have:(b:Rat)*v=(b:Rat)*(((a*2^s/b:Nat):Rat)*2):=by rw[e];grind
   exact(cIV (R.bS b0 (by rw[this];exact cAZ)) (R.bS b0 (by rw[this];exact cAZ))).symm
  ·right;have m1:(1:Rat)<=((a*2^s%b:Nat):Rat):=by exact_mod_cast(show 1<=a*2^s%b by omega)
   rw[if_neg hz];have c:((a*2^s/b*2+1:Nat):Rat)=2*((a*2^s/b:Nat):Rat)+1:=by
    rw[cEY,cBJ];have two:((2:Nat):Rat)=2:=by norm_cast
    have one:((1:Nat):Rat)=1:=by norm_cast
    rw[two,one];grind
   rw[c];refine⟨by omega,?_,?_⟩
   ·refine R.qO b0 ?_;rw[e];grind
   ·refine R.qO b0 ?_;rw[e];grind
end M
namespace W
open Go AI M
namespace Cv
def E:=mE [(161,Ac.aJ),(67,uU.aJ)] 20 [] [(4,[10,11,12])] []
def aE:=bd f117
theorem aX:Nk E aE:=nk
def L4(a:Nat)(b:Nat->Bool)(c:Nat->List Int)(d:Nat->Int)(e:Nat->Bool)(f:Nat->List Int)(g:Nat->Int) h j:=sJ E f117 aE 4 [(A.v (V.one (L.rows 6 a fun i=>[sc (bool (b i)),ints u64 (c i),sc (int i64 (d i)),sc (bool (e i)),ints u64 (f i),sc (int i64 (g i))])),none),cK h,cK j]
theorem start p (a:wW):aH E f117 aE [D.s (sc (int i64 p)),D.rows 6 1 fun i=>[sc (bool a.fst),ints u64 a.snd.fst,sc (int i64 a.snd.snd.fst),sc (bool a.snd.snd.snd.fst),ints u64 a.snd.snd.snd.snd.fst,sc (int i64 a.snd.snd.snd.snd.snd)]]=aO True (aB (!(decide (1<=p)&&decide (p<=70000))) (some [D.s (sc (int i64 1))]) (Cv.L4 1 (fun i=>a.fst) (fun i=>a.snd.fst) (fun i=>a.snd.snd.fst) (fun i=>a.snd.snd.snd.fst) (fun i=>a.snd.snd.snd.snd.fst) (fun i=>a.snd.snd.snd.snd.snd) 1 0)):=eJ aX
theorem vI a b c d e f g h j:L4 a b c d e f g h j=aB (decide (j<h)) (if 0<=j/\j<(a:Int)then aO (eQ (b j.toNat,c j.toNat,d j.toNat,e j.toNat,f j.toNat,g j.toNat)) (Cv.L4 a (fun i=>b i) (fun i=>c i) (fun i=>d i) (fun i=>e i) (fun i=>f i) (fun i=>g i) h (i64.wrap (j+1)))else none) (some [D.s (sc (int i64 0))]):=lJ aX
def sp(p:Int)(a:wW):Prop×List D:=(eQ a,[.s (.sc (.int .i64 (if 1<=p/\p<=70000 then 0 else 1)))])
theorem L(n:Nat)(f:Nat->wW)(hn:n<=1000)(hf:∀i,i<n->eQ (f i)):∀d k:Nat,k+d=n->L4 n (fun i=>(f i).1) (fun i=>(f i).2.1) (fun i=>(f i).2.2.1) (fun i=>(f i).2.2.2.1) (fun i=>(f i).2.2.2.2.1) (fun i=>(f i).2.2.2.2.2) (n:Int) (k:Int)=some [D.s (.sc (.int .i64 0))]
 |0,k,h=>by rw[vI,aL]
 |d+1,k,h=>by
  have e:i64.wrap ((k:Int)+1)=((k+1:Nat):Int):=by rw[wrap_i64];omega
  rw[vI,aQ,aW,bYO,gP (hf k (by omega)),e];exact L n f hn hf d (k+1) (by omega)
theorem spec:gU E f117 aE (pN .i64) (bKV (.pair sB (.pair (sI .u64) (.pair (sN .i64) (.pair sB (.pair (sI .u64) (sN .i64)))))) (false,[],0,false,[],0)) sp:=by
 intro p a h;have hf:∀i,i<1->eQ (a):=fun i hi=>h
 refine(start p a).trans ((gP trivial).trans ?_);unfold sp
 by_cases hp:1<=p/\p<=70000
 ·rw[if_pos hp,decide_eq_true hp.1,decide_eq_true hp.2];exact L 1 (fun _=>a) (by decide) hf 1 0 (by omega)
 ·rw[if_neg hp];have:(decide (1<=p)&&decide (p<=70000))=false:=by
   rw[cGG,decide_eq_false_iff_not,decide_eq_false_iff_not];omega
  rw[this];rfl
def aJ:dO:=orc2 (pN .i64) (bKV (.pair sB (.pair (sI .u64) (.pair (sN .i64) (.pair sB (.pair (sI .u64) (sN .i64)))))) (false,[],0,false,[],0)) sp
theorem ok:OK 117 aJ:=(fA E aE (aA Ac.ok (aA uU.ok aD)) func117).mV rfl spec
end Cv
namespace aMP
def E:=mE [(203,Ao.aJ),(56,jQ.aJ)] 24 [10] [] []
def aE:=bd f213
theorem aX:Nk E aE:=nk
theorem start a b c:aH E f213 aE [D.agg [sc (bool a),ints u64 b,sc (int i64 c)]]=letI B:=dv (a,b,c);aO (aP (a,b,c)) (aC (if B.fst=0 then(0:Int)else c+(↑(bl (M6.val b)):Int)-(1:Int)) fun d=>letI C:=i64.wrap ((0:Int)-d);letI A:=bif jQ.Ff B C then jQ.Mv B C else((0:Int),(0:Int));aO (aP (a,b,c)/\(-9223372036854775808:Int)<=i64.wrap ((0:Int)-d)/\i64.wrap ((0:Int)-d)<9223372036854775808) (aC (M6.dg A.fst.natAbs) fun e=>aC A.snd fun f=>some [D.agg [sc (bool false),ints u64 e,sc (int i64 f)],D.s (sc (int i64 d))])):=eJ aX
def sp(x:gB):Prop×List D:=(aP x/\(dv x).1≠0,[dD (((dv x).1.natAbs:Nat),1-(bl (dv x).1.natAbs:Nat)),.s (.sc (.int .i64 (bA (dv x))))])
theorem spec:jD E f213 aE iW sp:=by
 rintro x ⟨hx,h0⟩;have he:=hx.2.1;have ha:(dv x).1.natAbs=M6.val x.2.1:=iF (x.1,x.2.1);have hb:=hx.Db.bl;dsimp only at hb;have hb0:=pA (n:=M6.val x.2.1) (by omega);refine(start x.1 x.2.1 x.2.2).trans ?_;have ht:x.2.2+(bl (M6.val x.2.1):Int)-1=bA (dv x):=by unfold bA;rw[ha];rfl
 have h2:(dv x).2=x.2.2:=rfl;have Na:jQ.Ff (dv x) (0-bA (dv x))=true:=by
  unfold jQ.Ff;rw[decide_eq_false h0,bWS,decide_eq_true (by omega),decide_eq_true (by omega)];rfl
 have bQD:jQ.Mv (dv x) (0-bA (dv x))=((dv x).1,1-((bl (dv x).1.natAbs:Nat):Int)):=by
  unfold jQ.Mv;rw[if_neg h0];congr 1;unfold bA;omega
 have bHL:isNeg ((((dv x).1.natAbs:Nat):Int))=false:=iM.2 (by omega);simp only[aG];have bJQ:¬((dv (x.1,x.2.1,x.2.2)).1=0):=h0;rw[gP hx,if_neg bJQ,ht,wrap_i64 (n:=0-bA (dv x)),gP ⟨hx,by omega,by omega⟩,show dv (x.1,x.2.1,x.2.2)=dv x from rfl,Na,cond_true,bQD];unfold sp dD
 try dsimp only
 rw[bHL,cAH]
def aJ:dO:=orc1 iW sp
theorem ok:OK 213 aJ:=(fA E aE (aA Ao.ok (aA jQ.ok aD)) func213).pU rfl spec
end aMP
namespace En
def E:=mE [(117,Cv.aJ),(120,Gv.aJ),(159,fL.aJ),(59,Tc.aJ),(213,aMP.aJ)] 77 [19,41] [(15,[1,9,11])] [15]
def aE:=bd f174
theorem aX:Nk E aE:=nk
def aGX a b c d e f g:=mT E f174 aE 15 [cK a,dK 1 29 [cU b,fU c,cX d],dK 2 29 [cU e,fU f,cX g]]
theorem start a c d e f g b:aH E f174 aE [D.agg [sc (bool a),ints u64 c,sc (int i64 d),sc (bool e),ints u64 f,sc (int i64 g)],D.s (sc (int i64 b))]=letI G:=sc (bool false);letI F:=dv (e,f,g);letI C:=(a,c,d,e,f,g);letI B:=dv (a,c,d);letI A:=bif bI.jW F (-B.fst,B.snd)then bI.nC F (-B.fst,B.snd)else((0:Int),(0:Int));aO (eQ C) (aC (if 1<=b/\b<=70000 then(0:Int)else(1:Int)) fun h=>aB (h !=0) (some [D.s G,D.s (sc (int i64 h))]) (aO (aP (a,c,d)/\aP (e,f,g)) (aC (eB B F) fun i=>aB (i==0) (some [D.s (sc (bool true)),D.s (sc (int i64 0))]) (aO (eQ C) (aC (fL.sF (dv (gW C)) (dv (gX C))) fun j=>aB (j==0) (some [D.s G,D.s (sc (int i64 0))]) (aO (aP (e,f,g)/\aP (a,c,d)) (aC (isNeg A.fst) fun k=>aC (M6.dg A.fst.natAbs) fun l=>aC A.snd fun m=>aC (bif bI.jW F (-B.fst,B.snd)then(0:Int)else(5:Int)) fun n=>aB (n !=0) (some [D.s G,D.s (sc (int i64 n))]) (aB (decide (j<0)) (En.aGX b k l m e f g) (En.aGX b k l m a c d))))))))):=eJ aX
theorem Ms a b c d e f g:aGX a b c d e f g=letI B:=dv (e,f,g);letI F:=(B.fst.natAbs:Int);letI A:=dv (b,c,d);letI C:=(A.fst.natAbs:Int);aO (aP (b,c,d)/\A.fst≠0) (aC (isNeg C) fun h=>aC (M6.dg C.natAbs) fun i=>aC ((1:Int)-(↑(bl A.fst.natAbs):Int)) fun j=>aC (bA A) fun k=>aO (aP (e,f,g)/\B.fst≠0) (aC (isNeg F) fun l=>aC (M6.dg F.natAbs) fun m=>aC ((1:Int)-(↑(bl B.fst.natAbs):Int)) fun n=>aC (bA B) fun o=>aB (i64.wrap (k+a) !=o) (some [D.s (sc (bool (decide (i64.wrap (k+a)<o)))),D.s (sc (int i64 0))]) (aO (aP (h,i,j)/\aP (l,m,n)) (aC (eB (dv (h,i,j)) (dv (l,m,n))) fun p=>some [D.s (sc (bool (decide (p<=0)))),D.s (sc (int i64 0))])))):=cJ aX
def aXR(a b:Int×Int)(p:Int):Bool :=
 bif eB a b==0 then true else bif fL.sF a b==0 then false else
 bif (bA (bI.nC b (-a.1,a.2))+p) !=bA (bif decide (fL.sF a b<0)then b else a)then decide (bA (bI.nC b (-a.1,a.2))+p<bA (bif decide (fL.sF a b<0)then b else a))
 else decide (eB (aGE (bI.nC b (-a.1,a.2))) (aGE (bif decide (fL.sF a b<0)then b else a))<=0)
def sp(s:wW)(p:Int):Prop×List D:=(eQ s/\(1<=p/\p<=70000)/\bI.jW (dv (gX s)) (-(dv (gW s)).1,(dv (gW s)).2)=true,[.s (.sc (.bool (aXR (dv (gW s)) (dv (gX s)) p))),.s (.sc (.int .i64 0))])
theorem J{p:Int}{w n:Int×Int}{x:gB}(hp:1<=p/\p<=70000)(hw:jJ w)(hn:aP x)(he:dv x=n)(w0:w.1≠0)(n0:n.1≠0) :
  aGX p (isNeg w.1) (M6.dg w.1.natAbs) w.2 x.1 x.2.1 x.2.2=some [.s (.sc (.bool (bif (bA w+p) !=bA n then decide (bA w+p<bA n)else decide (eB (aGE w) (aGE n)<=0)))),.s (.sc (.int .i64 0))]:=by
 subst he;have c:=dT w;have cx:(x.1,x.2.1,x.2.2)=x:=rfl;have t1:=hw.top;have t2:=hn.uZ.top;rw[Ms];simp only[aG,c,cx];rw[gP ⟨dJ hw,w0⟩,gP ⟨hn,n0⟩,wrap_i64 (n:=bA w+p)]
 by_cases h:bA w+p=bA (dv x)
 ·rw[gE h];have d1:=dJ (aIP hw w0);have d2:=dJ (aIP hn.uZ n0);have e1:=dT (aGE w);have e2:=dT (aGE (dv x));rw[show((bA w+p) !=bA (dv x))=false from by rw[h];exact bne_self_eq_false _,cond_false];unfold aGE at d1 d2 e1 e2 ⊢;dsimp only at d1 d2 e1 e2 ⊢;rw[gP ⟨d1,d2⟩,e1,e2]
 ·rw[oI h,show((bA w+p) !=bA (dv x))=true from bne_iff_ne.2 h,cond_true]
theorem spec:gU E f174 aE yH (pN .i64) sp:=by
 rintro s p ⟨h1,hp,ao⟩;have hL:aP (s.1,s.2.1,s.2.2.1):=h1.1;have hH:aP (s.2.2.2.1,s.2.2.2.2.1,s.2.2.2.2.2):=h1.2.1;refine(start s.1 s.2.1 s.2.2.1 s.2.2.2.1 s.2.2.2.2.1 s.2.2.2.2.2 p).trans ?_;rw[gP h1,aG,if_pos hp,gE rfl,gP ⟨hL,hH⟩,aG];unfold sp aXR;dsimp only;unfold gW gX at *;generalize ha:dv (s.1,s.2.1,s.2.2.1)=a at *;generalize hb:dv (s.2.2.2.1,s.2.2.2.2.1,s.2.2.2.2.2)=b at *
 by_cases c:eB a b=0
 ·rw[cN c,show(eB a b==0)=true from beq_iff_eq.2 c,cond_true]
 ·rw[bM c,show(eB a b==0)=false from beq_eq_false_iff_ne.2 c,cond_false,gP h1,aG]
  by_cases d:fL.sF a b=0
  ·rw[cN d,show(fL.sF a b==0)=true from beq_iff_eq.2 d,cond_true]
  ·rw[bM d,show(fL.sF a b==0)=false from beq_eq_false_iff_ne.2 d,cond_false,gP ⟨hH,hL⟩,ao];simp only[aG,cond_true];rw[gE rfl];have pa:jJ a:=ha▸hL.uZ;have pb:jJ b:=hb▸hH.uZ;have pw:=Qw pb (by obtain⟨x1,x2,x3,x4⟩:=pa;exact⟨by dsimp only;rw[cBC];exact x1,x2,fun h=>x3 (by dsimp only at h;omega),fun h=>by dsimp only at h ⊢;have:=x4 (by omega);omega⟩) ao;have w0:=aHZ c
   by_cases g:fL.sF a b<0
   ·have n0:b.1≠0:=fun hz=>by
     have:=Ar hz;unfold fL.sF at g;rw[aU]at g;split at g <;> omega
    rw[aQ g,decide_eq_true g,cond_true];exact J hp pw hH hb w0 n0
   ·have n0:a.1≠0:=fun hz=>by
     have:=Ar hz;unfold fL.sF at g d;split at g
     ·omega
     ·rw[aU,aU]at d;exact d rfl
    rw[aL g,decide_eq_false g,cond_false];exact J hp pw hL ha w0 n0
def aJ:dO:=orc2 yH (pN .i64) sp
theorem ok:OK 174 aJ:=(fA E aE (aA Cv.ok (aA Gv.ok (aA fL.ok (aA Tc.ok (aA aMP.ok aD))))) func174).mV rfl spec
end En
end W
end Go.Proofs.YtplagoepbghhpaaGreatDoor
end
