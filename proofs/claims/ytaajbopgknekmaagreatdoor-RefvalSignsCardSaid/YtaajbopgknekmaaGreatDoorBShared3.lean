/- Contracts of functions and laws, for the claim. -/
import Derived.Test.YtaajbopgknekmaaGreatDoorBShared2
set_option linter.unusedVariables false
set_option linter.unusedSimpArgs false
set_option exponentiation.threshold 10000000
noncomputable section
open Go.IntKind(i8 i16 i32 i64 u8 u16 u32 u64)
open Go.Proofs.Tryz
open Int renaming toNat_natCast->cBF,eq_ofNat_of_zero_le->cCM,natCast_mul->cDY,natAbs_natCast->cDF,natCast_ediv->cDA,natAbs_neg->cFM,tdiv_eq_ediv_of_nonneg->cEF,natCast_nonneg->cHN,tmod_eq_emod_of_nonneg->cEG,mul_neg->cGW,natAbs->cHV,mul_nonneg->cJI,mul_ediv_add_emod->cGY,lt_or_le->cJJ,mul_le_mul_of_nonneg_left->cJL,add_zero->cJN,natCast_emod->cED,toNat_of_nonneg->cJS,emod_nonneg->cGZ,emod_lt_of_pos->cHA,emod_eq_of_lt->cHG,mul_le_mul_of_nonneg_right->bZS,emod_emod_of_dvd->cJW
open Nat renaming mul_add->cCO,pow_add->cCH,pow_succ->cCK,mul_assoc->cCN,lt_of_le_of_lt->cEC,mod_lt->bZR,mul_comm->cCI,le_trans->bYC,lt_of_lt_of_le->bYH,div_le_self->cDK,zero_add->bXL,div_lt_of_lt_mul->cDC,add_mul->bZU,mul_lt_mul''->cGK,mul_le_mul_left->bZW,pow_pos->cAH,div_eq_of_lt->cCW,mul_le_mul_right->cBK,pow_lt_pow_right->cEE,le_refl->bXK,mod_eq_of_lt->cIZ,one_mul->cBL,div_add_mod->cCS,div_div_eq_div_mul->cCT,mul_le_mul->cIC,mul_one->bYB,mod_add_div->cJC,add_zero->bYI,pow_le_pow_right->cAI,sub_le->cDX,add_mul_div_left->cDI,lt_or_ge->bXZ,pow_zero->cEN,add_comm->cDO,add_assoc->cAY,lt_succ_self->cJG,zero_mod->cFQ,mul_right_comm->cIP,min_eq_left->cDS,div_eq_of_lt_le->cFZ,mul_add_div->cHM,zero_mul->cFO,mul_left_comm->cEJ,mul_div_le->cIN,testBit_two_pow->cJM,mul_lt_mul_of_pos_left->cJO,le_of_not_lt->cFW,div_le_div_left->cFT,add_mul_mod_self_left->cJP,le_of_ble_eq_true->bZF,mul_add_mod->cJR,mul_div_mul_right->cGU,mul_mod_mul_right->cGV,mul_div_cancel->cHW,exists_eq_add_of_le->bYQ,mul_lt_mul_of_pos_right->cGJ,eq_of_testBit_eq->cIJ,testBit_and->cIG,testBit_lt_two_pow->cJV
open List renaming replicate->bZK,take->cDG,drop->cDH,take_length->cEH,drop_zero->cDT,length_replicate->cJD,take_set_of_le->cJE,length_take->bZC,drop_set_of_lt->cJF,length_append->bZY,drop_of_length_le->cJH,getD_eq_getElem?_getD->cCQ,take_of_length_le->cFG,drop_replicate->cJK,nil_append->cBJ,append_nil->cAG,take_zero->cBI,append_assoc->bYY,singleton_append->cEI
open Bool renaming not_true->bZH,true_and->cAJ,or_true->cDZ,false_and->cCU,false_or->bZI,true_or->cDL,and_eq_true->bXN,and_false->cDB
open Rat renaming le_of_lt->cCJ,intCast_natCast->cEW,le_refl->cDM,intCast_neg->cIX,intCast_mul->cEV,le_antisymm->cJT
namespace Go.Proofs.YtaajbopgknekmaaGreatDoor
open Go.Value(int bool slice)
open AI.S(sc ints)
namespace W
open Go AI M
namespace tJ
def E:=mE [(104,fY.aJ),(106,Gv.aJ),(105,Ez.aJ),(194,aHA.aJ),(195,Ye.aJ)] 61 [23,58] [(9,[0,2,4,6,8,10]),(14,[0,4,6,8,10,11])] [9,14]
def aF:=bd f157
theorem aU:Nk E aF:=nk
def J9 a b c d e f g:=lE E f157 aF 9 [bK a,bK b,bM 2 33 [bC c,eF d],bM 3 33 [bC e,sc (slice none 0 0)],iU f,aFE g]
def aSV a b c d e f g:=lE E f157 aF 14 [bK a,bM 1 33 [bC b,eF c],bM 2 33 [bC d,sc (slice none 0 0)],iU e,aFE f,bK g]
theorem start a b d c:aG E f157 aF [D.s (sc (int i64 a)),D.agg [sc (bool b),ints u64 d],D.s (sc (int i64 c))]=letI A:=M6.dg (M6.val d/(2:Nat)^c.toNat);aD (decide (c<0)) (some [D.agg [sc (bool false),sc (slice none 0 0)],D.s (sc (int i64 1))]) (aO (d.length<=1099511627776) (aD (!fY.pS (b,d)) (some [D.agg [sc (bool false),sc (slice none 0 0)],D.s (sc (int i64 2))]) (aO (M6.cI d/\d.length<=8192/\0<=c/\c<4611686018427387904) (aD (decide (0<(d.length:Int))) (aO (M6.bN d/\d.length<=1099511627776) (tJ.J9 a c b d false A (decide ((↑(tz (M6.val d)):Int)<c)))) (tJ.J9 a c b d false A false))))):=eJ aU
theorem aOA a b c d e f g:J9 a b c d e f g=aO (M6.bN d/\d.length<=1099511627776/\(-9223372036854775808:Int)<=i64.wrap (b-1)/\i64.wrap (b-1)<9223372036854775808) (aD (decide (0<=i64.wrap (b-1))&&decide (M6.val d/(2:Nat)^(i64.wrap (b-1)).toNat%2=(1:Nat))) (aO (M6.bN d/\d.length<=1099511627776) (aD ((↑(tz (M6.val d)):Int)==i64.wrap (b-1)) (tJ.aSV a c d e f g 0) (tJ.aSV a c d e f g 1))) (tJ.aSV a c d e f g (-1:Int))):=cJ aU
theorem Uk a b c d e f g:aSV a b c d e f g=letI A:=M6.val e+bif qF.qE a b (decide (M6.val e%2=(1:Nat))) f g then(1:Nat)else(0:Nat);letI B:=bif fit A then zs b A else(0:Int);aO (M6.cI e/\e.length<=8192) (some [D.agg [sc (bool (isNeg B)),ints u64 (M6.dg B.natAbs)],D.s (sc (int i64 (bif fit A then(0:Int)else(5:Int))))]):=cJ aU
def aCQ(v:Nat)(n:Int):Bool:=decide (v≠0)&&decide ((tz v:Int)<n)
def aDU(v:Nat)(n:Int):Int:=bif decide (0<=n-1)&&decide (v/2^(n-1).toNat%2=1)then(bif ((tz v:Int)==n-1)then 0 else 1)else -1
def Bb(w:Int)(neg:Bool)(v:Nat)(n:Int):Nat:=v/2^n.toNat+bif qF.qE w neg (decide (v/2^n.toNat%2=1)) (aCQ v n) (aDU v n)then 1 else 0
def sp(w:Int)(x:Bool×List Int)(n:Int):Prop×List D:=(iY x/\0<=n/\n<4611686018427387904,wE (fit (Bb w x.1 (M6.val x.2) n)) (zs x.1 (Bb w x.1 (M6.val x.2) n)))
theorem spec:sR E f157 aF (pN .i64) qN (pN .i64) sp:=by
 rintro w x n ⟨hx,h0,h1⟩;refine(start w x.1 x.2 n).trans ?_;have l1:=hx.len;have f1:=fY.mM hx;have b1:=hx.bl;obtain⟨p,a⟩:=x;have n1:M6.cI a:=hx.1
 try dsimp only at *
 unfold sp
 try dsimp only
 have hq:=gD (n:=M6.val a/2^n.toNat) (k:=8192) (bYC (fW (cDK _ _)) b1);have j14:∀(r:Bool) (hf:Int),aSV w p a false (M6.dg (M6.val a/2^n.toNat)) r hf=some (wE (fit (M6.val a/2^n.toNat+bif qF.qE w p (decide (M6.val a/2^n.toNat%2=1)) r hf then 1 else 0)) (zs p (M6.val a/2^n.toNat+bif qF.qE w p (decide (M6.val a/2^n.toNat%2=1)) r hf then 1 else 0))):=by
  intro r hf;rw[Uk,gP ⟨M6.bA _,hq⟩,M6.bD];rfl
 have wn:i64.wrap (n-1)=n-1:=by rw[wrap_i64]
 have j9:∀r:Bool,J9 w n p a false (M6.dg (M6.val a/2^n.toNat)) r=some (wE (fit (M6.val a/2^n.toNat+bif qF.qE w p (decide (M6.val a/2^n.toNat%2=1)) r (aDU (M6.val a) n)then 1 else 0)) (zs p (M6.val a/2^n.toNat+bif qF.qE w p (decide (M6.val a/2^n.toNat%2=1)) r (aDU (M6.val a) n)then 1 else 0))):=by
  intro r;rw[aOA,wn,gP ⟨n1.gT,by omega,by omega,by omega⟩,j14,j14,j14,gP ⟨n1.gT,by omega⟩];unfold aDU aD;cases (decide (0<=n-1)&&decide (M6.val a/2^(n-1).toNat%2=1))with
  |false=>rfl
  |true=>cases ((tz (M6.val a):Int)==n-1) <;> rfl
 have hz:=M6.cX n1;rw[aN,gP,f1,bZH,bF,gP ⟨n1,l1,h0,h1⟩,j9,j9,gP ⟨n1.gT,by omega⟩];unfold Bb aCQ
 by_cases h:M6.val a=0
 ·rw[aN (by have:=hz.2 h;omega),decide_eq_false (show ¬(M6.val a≠0) by omega),cCU]
 ·rw[aR (by have:a.length≠0:=fun hl=>h (hz.1 hl);omega),decide_eq_true (show(M6.val a≠0) by omega),cAJ]
def aJ:dG:=orc3 (pN .i64) qN (pN .i64) sp
theorem ok:OK 157 aJ:=(dZ E aF (aA fY.ok (aA Gv.ok (aA Ez.ok (aA aHA.ok (aA Ye.ok aE))))) func157).Cq rfl spec
end tJ
namespace lP
def E:=mE [(157,tJ.aJ)] 11 [8] [] []
def aF:=bd f112
theorem aU:Nk E aF:=nk
theorem start a c b:aG E f112 aF [D.agg [sc (bool a),ints u64 c],D.s (sc (int i64 b))]=letI A:=tJ.Bb 0 a (M6.val c) b;letI B:=bif fit A then zs a A else(0:Int);aO (iY (a,c)/\0<=b/\b<4611686018427387904) (some [D.agg [sc (bool (isNeg B)),ints u64 (M6.dg B.natAbs)],D.s (sc (int i64 (bif fit A then(0:Int)else(5:Int))))]):=eJ aU
theorem Vs{v:Nat}{n:Int}(h:0<=n):tJ.aCQ v n=decide (v%2^n.toNat≠0):=by
 unfold tJ.aCQ
 by_cases hv:v=0
 ·subst hv;rw[decide_eq_false (by omega),cCU,cFQ];rfl
 ·rw[decide_eq_true hv,cAJ];have hs:=yT v hv;obtain⟨k,rfl⟩:=cCM h;rw[cBF];generalize tz v=j at *
  by_cases hk:j<k
  ·have:v%2^k≠0:=by
    intro hm;have e1:v=2^k*(v/2^k):=by have:=cCS v (2^k);omega
    have e2:v/2^j=2*(2^(k-j-1)*(v/2^k)):=by
     have hp:2^k=2^j*(2*2^(k-j-1)):=by
      rw[<-Nat.pow_succ',<-cCH];congr 1;omega
     generalize v/2^k=t at e1 ⊢;rw[e1,hp,cCN,Nat.mul_div_cancel_left _ (cAH (by decide)),cCN]
    omega
   rw[decide_eq_true (by omega),decide_eq_true this]
  ·have:v%2^k=0:=by
    have hp:2^j=2^k*2^(j-k):=by rw[<-cCH];congr 1;omega
    have e1:v=2^j*(v/2^j):=by have:=cCS v (2^j);omega
    rw[e1,hp,cCN,Nat.mul_mod_right]
   rw[decide_eq_false (by omega),decide_eq_false (by omega)]
theorem down{p:Bool}{v:Nat}{n:Int}(h:0<=n):zs p (tJ.Bb 0 p v n)=zs p v/((2^n.toNat:Nat):Int):=by
 unfold tJ.Bb qF.qE;rw[Vs h,show((0:Int)==0)=true from rfl,cond_true];have hp:0<2^n.toNat:=cB;have hd:=cCS v (2^n.toNat);have hm:=bZR v hp;generalize 2^n.toNat=q at *;cases p with
 |false =>
  rw[cCU,cond_false,bYI];show((v/q:Nat):Int)=(v:Int)/(q:Int);rw[cDA]
 |true =>
  rw[cAJ];show -(((v/q+bif decide (v%q≠0)then 1 else 0:Nat)):Int)=-(v:Int)/(q:Int)
  by_cases hz:v%q=0
  ·rw[decide_eq_false (by omega),cond_false,bYI];have e:-(v:Int)=(q:Int)*(-((v/q:Nat):Int)):=by
    rw[cGW,<-cDY];omega
   rw[e,Int.mul_ediv_cancel_left _ (by omega)]
  ·rw[decide_eq_true hz,cond_true];have e:-(v:Int)=((q-v%q:Nat):Int)+(q:Int)*(-((v/q+1:Nat):Int)):=by
    rw[cGW,<-cDY,cCO];omega
   rw[e,Int.add_mul_ediv_left _ _ (by omega),Int.ediv_eq_zero_of_lt (by omega) (by omega),Int.zero_add]
theorem small{p:Bool}{v:Nat}{n:Int}(h:0<=n)(hb:bl v<=524288):fit (tJ.Bb 0 p v n)=true:=by
 refine decide_eq_true (bYC (fW ?_) hb);unfold tJ.Bb qF.qE;rw[Vs h,show((0:Int)==0)=true from rfl,cond_true];have hp:0<2^n.toNat:=cB
 by_cases hz:v%2^n.toNat=0
 ·rw[decide_eq_false (by omega),cDB,cond_false];exact cDK _ _
 ·have h2:2<=2^n.toNat:=by
   refine cFW fun hc=>hz ?_
   rw[show 2^n.toNat=1 from by omega,Nat.mod_one]
  have:v/2^n.toNat<=v/2:=cFT h2 (by omega);have hv:v≠0:=fun h=>hz (by rw[h,cFQ])
  have:(bif p&&decide (v%2^n.toNat≠0)then(1:Nat)else 0)<=1:=by cases p <;> cases decide (v%2^n.toNat≠0) <;> decide
  omega
def sp(x:Bool×List Int)(n:Int):Prop×List D:=(iY x/\0<=n/\n<4611686018427387904,[wD (wv x/((2^n.toNat:Nat):Int)),.s (.sc (.int .i64 0))])
theorem spec:eR E f112 aF qN (pN .i64) sp:=by
 intro x n h;have h':=h;obtain⟨hx,h0,h1⟩:=h;refine(start x.1 x.2 n).trans ((gP h').trans ?_);unfold sp
 try dsimp only
 rw[small h0 hx.bl];show some (wE true _)=_;rw[down h0];rfl
def aJ:dG:=orc2 qN (pN .i64) sp
theorem ok:OK 112 aJ:=(dZ E aF (aA tJ.ok aE) func112).jR rfl spec
end lP
namespace Ow
def E:=mE [(157,tJ.aJ)] 11 [8] [] []
def aF:=bd f206
theorem aU:Nk E aF:=nk
theorem start a c b:aG E f206 aF [D.agg [sc (bool a),ints u64 c],D.s (sc (int i64 b))]=letI A:=tJ.Bb 1 a (M6.val c) b;letI B:=bif fit A then zs a A else(0:Int);aO (iY (a,c)/\0<=b/\b<4611686018427387904) (some [D.agg [sc (bool (isNeg B)),ints u64 (M6.dg B.natAbs)],D.s (sc (int i64 (bif fit A then(0:Int)else(5:Int))))]):=eJ aU
theorem up{p:Bool}{v:Nat}{n:Int}(h:0<=n):zs p (tJ.Bb 1 p v n)=-(-(zs p v)/((2^n.toNat:Nat):Int)):=by
 have e1:zs p (tJ.Bb 1 p v n)=-(zs (!p) (tJ.Bb 0 (!p) v n)):=by
  unfold tJ.Bb qF.qE zs;cases p <;> simp
 have e2:-(zs p v)=zs (!p) v:=by unfold zs;cases p <;> simp
 rw[e1,e2,lP.down h]
theorem small{p:Bool}{v:Nat}{n:Int}(h:0<=n)(hb:bl v<=524288):fit (tJ.Bb 1 p v n)=true:=by
 have e1:tJ.Bb 1 p v n=tJ.Bb 0 (!p) v n:=by
  unfold tJ.Bb qF.qE;cases p <;> simp
 rw[e1];exact lP.small h hb
def sp(x:Bool×List Int)(n:Int):Prop×List D:=(iY x/\0<=n/\n<4611686018427387904,[wD (-(-(wv x)/((2^n.toNat:Nat):Int))),.s (.sc (.int .i64 0))])
theorem spec:eR E f206 aF qN (pN .i64) sp:=by
 intro x n h;have h':=h;obtain⟨hx,h0,h1⟩:=h;refine(start x.1 x.2 n).trans ((gP h').trans ?_);unfold sp
 try dsimp only
 rw[small h0 hx.bl];show some (wE true _)=_;rw[up h0];rfl
def aJ:dG:=orc2 qN (pN .i64) sp
theorem ok:OK 206 aJ:=(dZ E aF (aA tJ.ok aE) func206).jR rfl spec
end Ow
namespace lK
def E:=mE [(112,lP.aJ),(206,Ow.aJ)] 22 [] [] []
def aF:=bd f175
theorem aU:Nk E aF:=nk
theorem start a d b c:aG E f175 aF [D.agg [sc (bool a),ints u64 d],D.s (sc (int i64 b)),D.s (sc (bool c))]=letI B:=iY (a,d)/\0<=b/\b<4611686018427387904;letI A:=(↑((2:Nat)^b.toNat):Int);aD c (aO B (some [D.agg [sc (bool (isNeg (-(-wv (a,d)/A)))),ints u64 (M6.dg (-(-wv (a,d)/A)).natAbs)]])) (aO B (some [D.agg [sc (bool (isNeg (wv (a,d)/A))),ints u64 (M6.dg (wv (a,d)/A).natAbs)]])):=eJ aU
def rD(up:Bool)(z:Int)(n:Nat):Int:=bif up then -(-z/((2^n:Nat):Int))else z/((2^n:Nat):Int)
theorem aEJ(up:Bool)(z:Int)(n:Nat):(rD up z n).natAbs<=z.natAbs:=by
 unfold rD;cases up with
 |false=>exact qI (cAH (by decide))
 |true =>
  rw[cond_true,cFM];have:=qI (z:=-z) (cAH (n:=n) (show 0<2 by decide));rwa [cFM]at this
def sp(x:Bool×List Int)(n:Int)(up:Bool):Prop×List D:=(iY x/\(0<=n/\n<4611686018427387904),[wD (rD up (wv x) n.toNat)])
theorem spec:sR E f175 aF qN (pN .i64) pB sp:=by
 rintro x n up ⟨h1,h2⟩;refine(start x.1 x.2 n up).trans ?_;cases up with
 |true=>rw[bT,gP ⟨h1,h2⟩];rfl
 |false=>rw[bF,gP ⟨h1,h2⟩];rfl
def aJ:dG:=orc3 qN (pN .i64) pB sp
theorem ok:OK 175 aJ:=(dZ E aF (aA lP.ok (aA Ow.ok aE)) func175).Cq rfl spec
end lK
namespace cZ
def E:=mE [(131,yK.aJ),(67,mD.aJ),(175,lK.aJ)] 33 [20,30] [] []
def aF:=bd f135
theorem aU:Nk E aF:=nk
theorem start a e b c d:aG E f135 aF [D.agg [sc (bool a),ints u64 e],D.s (sc (int i64 b)),D.s (sc (int i64 c)),D.s (sc (bool d))]=letI H:=wv (a,e);letI C:=bif jD H b then bV H b else((0:Int),(0:Int));letI B:=(↑(bl (M6.val e)):Int);letI G:=lK.rD d H (i64.wrap (B-c)).toNat;letI F:=b+i64.wrap (B-c);letI I:=i64.wrap F;aO (M6.bN e/\e.length<=1099511627776) (aD (decide (i64.wrap (B-c)<=0)) (aO (iY (a,e)/\(-9223372036854775808:Int)<=b/\b<9223372036854775808) (aC (isNeg C.fst) fun f=>aC (M6.dg C.fst.natAbs) fun g=>aC C.snd fun h=>aC (bif jD H b then(0:Int)else(5:Int)) fun i=>some [D.agg [sc (bool f),ints u64 g,sc (int i64 h)],D.s (sc (int i64 i))])) (aO (iY (a,e)/\0<=i64.wrap (B-c)/\i64.wrap (B-c)<4611686018427387904) (aC (isNeg G) fun j=>aC (M6.dg G.natAbs) fun k=>letI A:=bif jD (wv (j,k)) I then bV (wv (j,k)) I else((0:Int),(0:Int));aO (iY (j,k)/\(-9223372036854775808:Int)<=i64.wrap F/\i64.wrap F<9223372036854775808) (aC (isNeg A.fst) fun l=>aC (M6.dg A.fst.natAbs) fun m=>aC A.snd fun n=>aC (bif jD (wv (j,k)) I then(0:Int)else(5:Int)) fun o=>some [D.agg [sc (bool l),ints u64 m,sc (int i64 n)],D.s (sc (int i64 o))])))):=eJ aU
def pC(up:Bool)(z e p:Int):Int×Int:=if(bl z.natAbs:Int)-p<=0 then(z,e)else(lK.rD up z ((bl z.natAbs:Int)-p).toNat,e+((bl z.natAbs:Int)-p))
def sp(x:Bool×List Int)(e p:Int)(up:Bool):Prop×List D:=(iY x/\(-4611686018427387904<=e/\e<4611686018427387904)/\1<=p/\p<=70000,dE (jD (pC up (wv x) e p).1 (pC up (wv x) e p).2) (bV (pC up (wv x) e p).1 (pC up (wv x) e p).2))
theorem spec:Ud E f135 aF qN (pN .i64) (pN .i64) pB sp:=by
 rintro x e p up ⟨hw,he,hp⟩;have hb:=hw.bl;have hl:=hw.len;have ha:=iT x;refine(start x.1 x.2 e p up).trans ?_;unfold sp pC
 try dsimp only
 rw[gP ⟨hw.1.gT,by omega⟩,aB,ha,wrap_i64 (n:=(bl (M6.val x.2):Int)-p) (by omega) (by omega)];have hx:wv (x.1,x.2)=wv x:=rfl
 by_cases hn:(bl (M6.val x.2):Int)-p<=0
 ·rw[aR hn,if_pos hn,gP ⟨hw,by omega,by omega⟩];simp only[aB];rfl
 ·have aGC:=lK.aEJ up (wv x) ((bl (M6.val x.2):Int)-p).toNat;have Wo:iY (isNeg (lK.rD up (wv x) ((bl (M6.val x.2):Int)-p).toNat),M6.dg (lK.rD up (wv x) ((bl (M6.val x.2):Int)-p).toNat).natAbs):=gY (bYC (fW aGC) (by rw[ha];exact hb));rw[aN hn,if_neg hn,gP ⟨hw,by omega,by omega⟩];simp only[aB];rw[wrap_i64 (n:=e+((bl (M6.val x.2):Int)-p)) (by omega) (by omega)];rw[gP ⟨Wo,by omega,by omega⟩,tB];rfl
def aJ:dG:=orc4 qN (pN .i64) (pN .i64) pB sp
theorem ok:OK 135 aJ:=(dZ E aF (aA yK.ok (aA mD.ok (aA lK.ok aE))) func135).aQH rfl spec
end cZ
end W
namespace M6
open Go M
def oL(n v:Nat):List Int:=dg v ++ bZK (n-(dg v).length) 0
theorem kZ{n v:Nat}:val (oL n v)=v:=by
 unfold oL;rw[iE,gW,bD];omega
theorem lY{n v:Nat}:bN (oL n v):=lS.2 ⟨bZ _,gM _⟩
theorem iA{n v:Nat}(h:v<18446744073709551616^n):(oL n v).length=n:=by
 have:=cU h;unfold oL;rw[bZY,cJD];omega
theorem oU {a : List Int} {n v : Nat} (h : bN a) (hl : a.length = n) (hv : val a = v) : a = oL n v := by
  subst hl; subst hv
  obtain ⟨k, hk⟩ := Er h
  unfold oL
  have : a.length = (dg (val a)).length + k := by conv => lhs; rw [hk]
                                                  simp
  rw [this, Nat.add_sub_cancel_left]
  exact hk
theorem aLS{n:Nat}:oL n 0=bZK n 0:=by simp[oL,cG]
theorem aLT{n v:Nat}:(oL n v).take (dg v).length=dg v:=by
 unfold oL;exact List.take_left
theorem lU{a:List Int}{j:Nat}(hj:j<a.length)(d:Int):val (a.set j d)+18446744073709551616^j*(a.getD j 0).toNat=val a+18446744073709551616^j*d.toNat:=by
 have h1:=eZ (a.set j d) (n:=j) (by simp;omega);have h2:=eZ a (n:=j) (by omega);rw[nP hj,cJE (bXK j)]at h1;rw[gB (a:=a) j]at h2;rw[h1,h2,cCO,cCO];omega
theorem pY{m n:Nat}(h:m<=n):18446744073709551616^m<=18446744073709551616^n:=cAI (by omega) h
theorem Be{a:List Int}(h:cI a):∀k,cI (a.drop k)
 |0=>h
 |k+1=>by
  match a,h with
  | [],h=>simpa using h
  |d :: a,h=>exact Be (Mj h) k
theorem mJ{a:List Int}(h:bN a)(k:Nat):val (a.take k)=val a%18446744073709551616^k:=by
 by_cases hk:k<=a.length
 ·rw[eZ a hk,cJP,cIZ (fR h k)]
 ·rw[cA (by omega),cIZ];exact bYH (cR h) (pY (by omega))
theorem iL{a:List Int}(h:bN a)(k:Nat):val (a.drop k)=val a/18446744073709551616^k:=by
 by_cases hk:k<=a.length
 ·have h1:=eZ a hk;have h2:=fR h k;rw[h1,cDI _ _ (cB),cCW h2,bXL]
 ·rw[cJH (by omega),cCW]
  ·rfl
  ·exact bYH (cR h) (pY (by omega))
theorem qM(v o n:Nat):v=v%18446744073709551616^o+18446744073709551616^o*(v/18446744073709551616^o%18446744073709551616^n)+18446744073709551616^(o+n)*(v/18446744073709551616^(o+n)):=by
 have h1:=cJC v (18446744073709551616^o);have h2:=cJC (v/18446744073709551616^o) (18446744073709551616^n);rw[cCT,<-cCH]at h2
 conv=>lhs;rw[<-h1,<-h2]
 rw[cCO,<-cCN,<-cCH];omega
theorem Ar{v v' o n X c:Nat}(h1:v'%18446744073709551616^o=v%18446744073709551616^o)(h2:v'/18446744073709551616^(o+n)=v/18446744073709551616^(o+n))(h:v'+18446744073709551616^o*X=v+18446744073709551616^(o+n)*c) :
  v'/18446744073709551616^o%18446744073709551616^n+X=v/18446744073709551616^o%18446744073709551616^n+18446744073709551616^n*c:=by
 have e1:=qM v o n;have e2:=qM v' o n;rw[h1,h2]at e2;apply Nat.eq_of_mul_eq_mul_left (cAH (n:=o) (by omega:0<18446744073709551616));have e3:18446744073709551616^(o+n)*c=18446744073709551616^o*(18446744073709551616^n*c):=by rw[cCH,cCN]
 rw[e3]at h;rw[cCO,cCO];omega
theorem Ea(v o n:Nat):v/18446744073709551616^o%18446744073709551616^n<18446744073709551616^n:=bZR _ (cB)
theorem Au{z z':List Int}(hd:bN z)(Bm:bN z'){o n:Nat}(h1:z'.take o=z.take o)(h2:z'.drop (o+n)=z.drop (o+n)):val z'%18446744073709551616^o=val z%18446744073709551616^o/\val z'/18446744073709551616^(o+n)=val z/18446744073709551616^(o+n):=by
 rw[<-mJ hd,<-mJ Bm,h1,<-iL hd,<-iL Bm,h2];exact⟨rfl,rfl⟩
end M6
namespace W
open Go AI M
namespace oX
def E:=mE [] 8 [] [] []
def aF:=bd f176
theorem aU:Nk E aF:=nk
theorem start a:aG E f176 aF [D.s (ints u64 a)]=aD (decide (8192<(a.length:Int))) (some [D.s (sc (slice none 0 0)),D.s (sc (int i64 5))]) (some [D.s (ints u64 a),D.s (sc (int i64 0))]):=eJ aU
def can(a b:List Int):Prop:=Contract prog base.glob 177 [(pI .u64).put a,(pI .u64).put b] [.own gN .u64 (M6.dg (M6.val a*M6.val b))]
def less(n:Nat):Prop:=∀c d:List Int,M6.cI c->M6.cI d->c.length+d.length<n->can c d
def prec:dG:=orc2 (pI .u64) (pI .u64) fun a b=>(can a b,[.own gN .u64 (M6.dg (M6.val a*M6.val b))])
theorem Kj:lT prog base.glob 177 prec:=by
 intro ds g rs hd hg;unfold prec orc2 at hd;split at hd
 ·split at hd
  ·rename_i x y hx hy;have hd:=Option.some.inj hd;have e1:g=can x y:=(Prod.mk.inj hd).1.symm;have e2:=(Prod.mk.inj hd).2;subst e1;rw[<-e2];exact⟨Contract.bFP (show Contract _ _ _ _ _ from hg) ((pI .u64).le hx) ((pI .u64).le hy),vQ (c:=(f177.body).getD .skip) func177 rfl rfl⟩
  ·cases hd
 ·cases hd
def Lj(a:List Int):Bool:=decide (a.length<=8192)
def sp(a:List Int):Prop×List D:=(True,[.s (.ints .u64 (bif Lj a then a else [])),.s (.sc (.int .i64 (bif Lj a then 0 else 5)))])
theorem spec:aSP E f176 aF (pI .u64) sp:=by
 intro a _;have e:=start a;unfold sp Lj;simp only
 by_cases hc:a.length<=8192
 ·rw[aN]at e;rw[decide_eq_true hc];exact⟨_,e,iV.refl _⟩
 ·rw[aR]at e;rw[decide_eq_false hc];exact⟨_,e,.cons (De.nil _) (iV.refl _)⟩
def aJ:dG:=orc1 (pI .u64) sp
theorem ok:OK 176 aJ:=(dZ E aF aE func176).bFM rfl spec
end oX
namespace Ou
def E:=mE [] 51 [] [] []
def aF:=bd f226
theorem aU:Nk E aF:=nk
theorem start a b:aG E f226 aF [D.s (sc (int u64 a)),D.s (sc (int u64 b))]=letI A:=u64.wrap (a/4294967296*fU BinOp.and u64 b 4294967295)+u64.wrap (fU BinOp.and u64 a 4294967295*fU BinOp.and u64 b 4294967295)/4294967296;some [D.s (sc (int u64 (u64.wrap (u64.wrap (u64.wrap (a/4294967296*(b/4294967296))+u64.wrap A/4294967296)+u64.wrap (fU BinOp.and u64 (u64.wrap A) 4294967295+u64.wrap (fU BinOp.and u64 a 4294967295*(b/4294967296)))/4294967296)))),D.s (sc (int u64 (u64.wrap (a*b))))]:=eJ aU
def sp(a b:Int):Prop×List D:=(0<=a/\a<18446744073709551616/\0<=b/\b<18446744073709551616,[.s (.sc (.int .u64 (a*b/18446744073709551616))),.s (.sc (.int .u64 (a*b%18446744073709551616)))])
theorem spec:eR E f226 aF (pN .u64) (pN .u64) sp:=by
 rintro a b ⟨ha,bGO,hb,xJ⟩;refine(start a b).trans ?_;simp only[sp];have m1:fU .and .u64 a 4294967295=a%4294967296:=kM ha bGO;have m2:fU .and .u64 b 4294967295=b%4294967296:=kM hb xJ;rw[m1,m2];have bd:∀x y:Int,0<=x->x<=4294967295->0<=y->y<=4294967295->0<=x*y/\x*y<=18446744065119617025:=fun x y h1 h2 h3 h4 =>
  ⟨cJI h1 h3,by have:=Int.mul_le_mul h2 h4 h3 (by omega:(0:Int)<=4294967295);omega⟩
 have bQS:=bd (a/4294967296) (b/4294967296) (by omega) (by omega) (by omega) (by omega);have bFO:=bd (a/4294967296) (b%4294967296) (by omega) (by omega) (by omega) (by omega);have q01:=bd (a%4294967296) (b/4294967296) (by omega) (by omega) (by omega) (by omega);have aTM:=bd (a%4294967296) (b%4294967296) (by omega) (by omega) (by omega) (by omega);have e:a*b=(a/4294967296)*(b/4294967296)*18446744073709551616+((a/4294967296)*(b%4294967296)+(a%4294967296)*(b/4294967296))*4294967296+(a%4294967296)*(b%4294967296):=by
  conv=>lhs;rw[<-cGY a 4294967296,<-cGY b 4294967296]
  generalize a/4294967296=x;generalize a%4294967296=y;generalize b/4294967296=z;generalize b%4294967296=t;grind
 have e0:u64.wrap (a*b)=a*b%18446744073709551616:=gA _;rw[e0];generalize a*b=ab at *;generalize (a/4294967296)*(b/4294967296)=bHJ at *;generalize (a/4294967296)*(b%4294967296)=aVY at *;generalize (a%4294967296)*(b/4294967296)=bHK at *;generalize (a%4294967296)*(b%4294967296)=aVZ at *;rw[wrap_u64 (n:=aVZ),wrap_u64 (n:=bHJ),wrap_u64 (n:=bHK),wrap_u64 (n:=aVY)];rw[wrap_u64 (n:=aVY+aVZ/4294967296),kM (w:=aVY+aVZ/4294967296) (by omega) (by omega)];rw[wrap_u64 (n:=(aVY+aVZ/4294967296)%4294967296+bHK),wrap_u64 (n:=bHJ+(aVY+aVZ/4294967296)/4294967296),wrap_u64];have:bHJ+(aVY+aVZ/4294967296)/4294967296+((aVY+aVZ/4294967296)%4294967296+bHK)/4294967296=ab/18446744073709551616:=by omega
 rw[this]
def aJ:dG:=orc2 (pN .u64) (pN .u64) sp
theorem ok:OK 226 aJ:=(dZ E aF aE func226).jR rfl spec
end Ou
namespace Jl
def E:Env:={ ({ base with C:=callsOf [(226,Ou.aJ)],n0:=1,io:=[0] })with nt:=71,own:=[],keep:=fun k=>(tlook [(5,[0,1,2,6,7,13,14,18,19]),(1,[0,1,2,13,14])] k).getD [],cut:=tlook [] }
def aF:=bd f227
theorem aU:Nk E aF:=nk
def L1(a:List Int)(b:Nat)(c:Nat) d f g h:=nN E f227 aF 1 [(A.any,some { e:=(23:Nat),cont:=oI.ints u64 a }),(A.v (V.one (L.view 0 b c)),none),iU d,iU f,bK g,bK h]
def L5(a:List Int)(b:Nat)(c:Nat) d f g h x7 i j k:=nN E f227 aF 5 [(A.any,some { e:=(23:Nat),cont:=oI.ints u64 a }),(A.v (V.one (L.view 0 b c)),none),iU d,iU f,bK g,dM h,bK x7,bK i,bK j,bK k]
theorem start al ao an b c:aG E f227 aF [D.io gN u64 al ao an,D.s (ints u64 b),D.s (ints u64 c)]=Jl.L1 al ao an b c (c.length:Int) 0:=eJ aU
theorem Rn a b c d e f g:L1 a b c d e f g=aD (decide (g<f)) (Jl.L5 a b c d e g 0 f g (d.length:Int) 0) (some [D.io 23 u64 a 0 0]):=lJ aU
theorem Dz a b c d e f g h i j k:L5 a b c d e f g h i j k=letI C:=(d.length:Int);letI B:=b+(i64.wrap (k+f)).toNat;letI A:=d.getD k.toNat 0*e.getD f.toNat 0%(18446744073709551616:Int)+g+0;letI F:=a.getD B 0+A%18446744073709551616+(0:Int);aD (decide (k<j)) (if 0<=k/\k<C then if 0<=f/\f<(e.length:Int)then aO (0<=d.getD k.toNat 0/\d.getD k.toNat 0<(18446744073709551616:Int)/\0<=e.getD f.toNat 0/\e.getD f.toNat 0<(18446744073709551616:Int)) (aO (0<=d.getD k.toNat 0*e.getD f.toNat 0%(18446744073709551616:Int)/\0<=g/\(0:Int)<=(0:Int)/\(0:Int)<=(1:Int)) (if 0<=i64.wrap (k+f)/\i64.wrap (k+f)<(c:Int)then aO (0<=a.getD B 0/\0<=A%18446744073709551616/\(0:Int)<=(0:Int)/\(0:Int)<=(1:Int)) (if 0<=i64.wrap (k+f)/\i64.wrap (k+f)<(c:Int)then Jl.L5 (a.set B (F%18446744073709551616)) b c d e f (u64.wrap (u64.wrap (d.getD k.toNat 0*e.getD f.toNat 0/(18446744073709551616:Int)+A/18446744073709551616)+F/18446744073709551616)) h i j (i64.wrap (k+1))else none)else none))else none else none) (if 0<=i64.wrap (f+C)/\i64.wrap (f+C)<(c:Int)then Jl.L1 (a.set (b+(i64.wrap (f+C)).toNat) g) b c d e h (i64.wrap (i+1))else none):=lJ aU
def sp(x:List Int×Nat×Nat)(a b:List Int):Prop×List D:=(M6.bN x.1/\x.2.1=0/\x.2.2=x.1.length/\M6.bN a/\M6.bN b/\x.1.length=a.length+b.length/\x.1.length<=1099511627776/\M6.val x.1=0,
 [.io gN .u64 (M6.oL x.1.length (M6.val a*M6.val b)) 0 0])
theorem bCI{x c:Int}{p:Nat}(hp:p<=340282366920938463426481119284349108225)(h0:0<=x)(h1:x<18446744073709551616)(h2:0<=c)(h3:c<18446744073709551616) :
  (0<=(p:Int)/18446744073709551616+((p:Int)%18446744073709551616+c+0)/18446744073709551616/\(p:Int)/18446744073709551616+((p:Int)%18446744073709551616+c+0)/18446744073709551616<18446744073709551616) /\
  (0<=(p:Int)/18446744073709551616+((p:Int)%18446744073709551616+c+0)/18446744073709551616+(x+((p:Int)%18446744073709551616+c+0)%18446744073709551616+0)/18446744073709551616/\(p:Int)/18446744073709551616+((p:Int)%18446744073709551616+c+0)/18446744073709551616+(x+((p:Int)%18446744073709551616+c+0)%18446744073709551616+0)/18446744073709551616<18446744073709551616) /\
  ((x+((p:Int)%18446744073709551616+c+0)%18446744073709551616+0)%18446744073709551616).toNat+18446744073709551616*((p:Int)/18446744073709551616+((p:Int)%18446744073709551616+c+0)/18446744073709551616+(x+((p:Int)%18446744073709551616+c+0)%18446744073709551616+0)/18446744073709551616).toNat=x.toNat+p+c.toNat:=by
 omega
theorem bHR{i j u X Y:Nat}:18446744073709551616^j*((u+18446744073709551616^i*X)*Y)=18446744073709551616^j*(u*Y)+18446744073709551616^(i+j)*(X*Y):=by
 rw[bZU,cCO,cCH];congr 1;rw[cCN,<-cCN (18446744073709551616^j),cCI (18446744073709551616^j)]
theorem bXE{a b:List Int}{N j V:Nat}(hN:N<=1099511627776)(ha:M6.bN a)(hb:M6.bN b)(hj:j<b.length)(bKS:a.length+b.length=N):∀(r i:Nat) (z:List Int) (c:Int),i+r=a.length->z.length=N->M6.bN z->0<=c->c<18446744073709551616->z.getD (a.length+j) 0=0 ->
  M6.val z+18446744073709551616^(i+j)*c.toNat=V+18446744073709551616^j*(M6.val (a.take i)*(b.getD j 0).toNat) ->
  ∃z',L5 z 0 N a b j c b.length j a.length i=L1 z' 0 N a b b.length ((j+1:Nat):Int)/\z'.length=N/\M6.bN z'/\M6.val z'=V+18446744073709551616^j*(M6.val a*(b.getD j 0).toNat):=by
 intro r
 induction r with
 |zero =>
  intro i z c hi hz hd h0 h1 bCO hv;have w1:i64.wrap ((j:Int)+(a.length:Int))=((a.length+j:Nat):Int):=by rw[wrap_i64];omega
  have w2:i64.wrap ((j:Int)+1)=((j+1:Nat):Int):=by rw[wrap_i64];omega
  have bJT:i=a.length:=by omega
  subst bJT;refine⟨z.set (a.length+j) c,?_,by simp[hz],M6.kI hd ⟨h0,h1⟩,?_⟩
  ·rw[Dz,aN,w1,aT,cBF,bXL,w2]
  ·have hs:=M6.lU (a:=z) (j:=a.length+j) (by omega) c;rw[bCO]at hs;rw[cEH]at hv;simp at hs;rw[hs];exact hv
 |succ r ih =>
  intro i z c hi hz hd h0 h1 bCO hv;have g:=hd.get (i+j);have ga:=ha.get i;have gb:=hb.get j;have w1:i64.wrap ((i:Int)+(j:Int))=((i+j:Nat):Int):=by rw[wrap_i64];omega
  have w2:i64.wrap ((i:Int)+1)=((i+1:Nat):Int):=by rw[wrap_i64];omega
  obtain⟨X,hX⟩:=cCM ga.1;obtain⟨Y,hY⟩:=cCM gb.1;have bGP:X*Y<=340282366920938463426481119284349108225:=by
   have h2:X<=18446744073709551615:=by omega
   have h3:Y<=18446744073709551615:=by omega
   have:=cIC h2 h3;omega
  rw[Dz,aR,aT,aT,w1,w2];simp only[cBF,bXL];have hs:=fun d=>M6.lU (a:=z) (j:=i+j) (by omega) d
  rw[show a.getD i 0*b.getD j 0=((X*Y:Nat):Int)from by rw[hX,hY];simp];obtain⟨k1,k2,k3⟩:=bCI bGP g.1 g.2 h0 h1;rw[gP ⟨ga.1,ga.2,gb.1,gb.2⟩,gP ⟨by omega,by omega,by omega,by omega⟩,aT,gP ⟨by omega,by omega,by omega,by omega⟩,aT];rw[wrap_u64 k1.1 k1.2,wrap_u64 k2.1 k2.2];refine ih (i+1) _ _ (by omega) (by simp[hz]) (M6.kI hd (by omega)) k2.1 k2.2 (by
   rw[cCQ,List.getElem?_set_ne (by omega),<-cCQ];exact bCO) ?_
  rw[M6.bR,bHR,show i+1+j=(i+j)+1 from by omega,cCK,cCN];have hs:=hs ((z.getD (i+j) 0+(((X*Y:Nat):Int)%18446744073709551616+c+0)%18446744073709551616+0)%18446744073709551616);rw[hX,hY,cBF,cBF];rw[hY,cBF]at hv;generalize ((z.getD (i+j) 0+(((X*Y:Nat):Int)%18446744073709551616+c+0)%18446744073709551616+0)%18446744073709551616)=d at *;generalize ((X*Y:Nat):Int)/18446744073709551616+(((X*Y:Nat):Int)%18446744073709551616+c+0)/18446744073709551616+(z.getD (i+j) 0+(((X*Y:Nat):Int)%18446744073709551616+c+0)%18446744073709551616+0)/18446744073709551616=c' at *;generalize X*Y=q at *;generalize 18446744073709551616^(i+j)=B at *;generalize M6.val (z.set (i+j) d)=W at *;generalize (z.getD (i+j) 0).toNat=x at *;generalize 18446744073709551616^j*(M6.val (a.take i)*Y)=U at *;have e2:B*d.toNat+B*(18446744073709551616*c'.toNat)=B*x+B*q+B*c.toNat:=by
   rw[<-cCO,k3,cCO,cCO]
  omega
theorem aPF{z:List Int}(hd:M6.bN z){k:Nat}(h:M6.val z<18446744073709551616^k):z.getD k 0=0:=by
 have h1:=M6.iL hd k;rw[cCW h,M6.gB]at h1;have:=hd.get k;omega
theorem bMC{a b:List Int}{N:Nat}(hN:N<=1099511627776)(ha:M6.bN a)(hb:M6.bN b)(bKS:a.length+b.length=N):∀(r j:Nat) (z:List Int),j+r=b.length->z.length=N->M6.bN z->M6.val z=M6.val a*M6.val (b.take j) ->
  L1 z 0 N a b b.length j=some [.io gN .u64 (M6.oL N (M6.val a*M6.val b)) 0 0]:=by
 intro r
 induction r with
 |zero =>
  intro j z hj hz hd hv;rw[Rn,aN];rw[M6.cA (by omega)]at hv;rw[M6.oU hd hz hv]
 |succ r ih =>
  intro j z hj hz hd hv;rw[Rn,aR];have jM:M6.val z<18446744073709551616^(a.length+j):=by
   rw[hv,cCH];exact cGK (M6.cR ha) (M6.fR hb j)
  obtain⟨z',h1,h2,h3,h4⟩:=bXE hN ha hb (show j<b.length by omega) bKS a.length 0 z 0 (by omega) hz hd (by omega) (by omega) (aPF hd jM) (V:=M6.val z) (by simp[M6.val]);have h1:L5 z 0 N a b j 0 b.length j a.length 0=L1 z' 0 N a b b.length ((j+1:Nat):Int):=h1;rw[h1];refine ih (j+1) z' (by omega) h2 h3 ?_;rw[h4,hv,M6.bR,cCO];congr 1;rw[<-cCN,<-cCN,cCI (18446744073709551616^j)]
theorem spec(x:List Int×Nat×Nat)(a b:List Int)(h:(sp x a b).1):aG E f227 aF [(Ej gN .u64).put x,(pI .u64).put a,(pI .u64).put b]=some (sp x a b).2/\∃rs oN,(sp x a b).2=rs ++ [.io gN .u64 oN 0 0]/\oN.length=x.1.length:=by
 obtain⟨xl,xo,xn⟩:=x;obtain⟨hd,ho,hn,ha,hb,hl,hN,hv⟩:=h;simp only at hd ho hn hl hN hv;subst ho;subst hn;refine⟨(start xl 0 xl.length a b).trans ?_,[],_,rfl,M6.iA ?_⟩
 ·exact bMC hN ha hb hl.symm b.length 0 xl (by omega) rfl hd (by simp[hv,M6.val])
 ·show _<18446744073709551616^xl.length;rw[hl,cCH];exact cGK (M6.cR ha) (M6.cR hb)
def aJ:dG:=orc3 (Ej gN .u64) (pI .u64) (pI .u64) sp
theorem fnok:nJ prog E 227 f227 aF:=vR oA mixed (iH _ rfl (aA Ou.ok aE) (lA)) func227 rfl rfl rfl rfl rfl
theorem ok:rW prog base.glob 227 aJ:=fnok.Cq rfl spec
end Jl
namespace Ca
def E:=mE [] 22 [] [(2,[0,3])] []
def aF:=bd f208
theorem aU:Nk E aF:=nk
def L2 a b:=nN E f208 aF 2 [iU a,bK b]
theorem start a:aG E f208 aF [D.s (ints u64 a)]=Ca.L2 a (a.length:Int):=eJ aU
theorem lG a b:L2 a b=letI B:=(a.length:Int);letI A:=ints u64 (cDH 0 (cDG b.toNat a));aD (decide (0<b)) (if 0<=i64.wrap (b-1)/\i64.wrap (b-1)<B then aD (a.getD (i64.wrap (b-1)).toNat 0==(0:Int)) (Ca.L2 a (i64.wrap (b-1))) (if(0:Int)<=(0:Int)/\0<=b/\b<=b/\b<=B then some [D.s A]else none)else none) (if(0:Int)<=(0:Int)/\0<=b/\b<=b/\b<=B then some [D.s A]else none):=lJ aU
def sp(a:List Int):Prop×List D:=(M6.bN a/\a.length<=1099511627776,[.s (.ints .u64 (M6.dg (M6.val a)))])
theorem L{xs:List Int}(hd:M6.bN xs)(hl:xs.length<=4398046511104):∀n:Nat,n<=xs.length->L2 xs n=some [D.s (.ints .u64 (M6.dg (M6.val (xs.take n))))]
 |0,h=>by
  rw[lG,aN,aT];simp[M6.val,M6.cG]
 |n+1,h=>by
  rw[lG];have e:i64.wrap (((n+1:Nat):Int)-1)=(n:Int):=by rw[wrap_i64];omega
  rw[e,aR,aT,cBF]
  by_cases hz:xs.getD n 0=0
  ·rw[cL hz,L hd hl n (by omega),M6.mQ (by omega),hz];simp
  ·rw[cO hz,aT,cBF,cDT];have:M6.cI (xs.take (n+1)):=M6.Bd (hd.take _) fun d hg=>by
    rw[M6.getLast_take (by omega)]at hg;cases hg;exact hz
   rw[<-this]
theorem spec:iD E f208 aF (pI .u64) sp:=by
 rintro a ⟨hd,hl⟩;refine(start a).trans ?_;rw[L hd (by omega) a.length (bXK _),cEH];rfl
def aJ:dG:=orc1 (pI .u64) sp
theorem ok:OK 208 aJ:=(dZ E aF aE func208).oS rfl spec
end Ca
namespace rU
def E:Env:={ ({ base with n0:=1,io:=[0] })with nt:=55,own:=[],keep:=fun k=>(tlook [(7,[0,6,8]),(2,[0,1,2,6,10,11])] k).getD [],cut:=tlook [] }
def aF:=bd f239
theorem aU:Nk E aF:=nk
def L2(a:List Int)(b:Nat)(c:Nat) d f g h x7:=nN E f239 aF 2 [(A.any,some { e:=(23:Nat),cont:=oI.ints u64 a }),(A.v (V.one (L.view 0 b c)),none),iU d,bK f,dM g,bK h,bK x7]
def L7(a:List Int)(b:Nat)(c:Nat) d f:=nN E f239 aF 7 [(A.any,some { e:=(23:Nat),cont:=oI.ints u64 a }),(A.v (V.one (L.view 0 b c)),none),dM d,bK f]
theorem start al ao an b c:aG E f239 aF [D.io gN u64 al ao an,D.s (ints u64 b),D.s (sc (int i64 c))]=rU.L2 al ao an b c 0 (b.length:Int) 0:=eJ aU
theorem lG a b c d e f g h:L2 a b c d e f g h=letI A:=b+(i64.wrap (e+h)).toNat;letI B:=a.getD A 0+d.getD h.toNat 0+f;aD (decide (h<g)) (if 0<=i64.wrap (e+h)/\i64.wrap (e+h)<(c:Int)then if 0<=h/\h<(d.length:Int)then aO (0<=a.getD A 0/\0<=d.getD h.toNat 0/\0<=f/\f<=1) (if 0<=i64.wrap (e+h)/\i64.wrap (e+h)<(c:Int)then rU.L2 (a.set A (B%18446744073709551616)) b c d e (B/18446744073709551616) g (i64.wrap (h+1))else none)else none else none) (rU.L7 a b c f (i64.wrap (e+(d.length:Int)))):=lJ aU
theorem yM a b c d e:L7 a b c d e=letI B:=b+e.toNat;letI A:=a.getD B 0+(0:Int)+d;aD (decide (0<d)) (if 0<=e/\e<(c:Int)then aO (0<=a.getD B 0/\(0:Int)<=(0:Int)/\0<=d/\d<=1) (if 0<=e/\e<(c:Int)then rU.L7 (a.set B (A%18446744073709551616)) b c (A/18446744073709551616) (i64.wrap (e+1))else none)else none) (some [D.io 23 u64 a 0 0]):=lJ aU
def sp(x:List Int×Nat×Nat)(b:List Int)(k:Int):Prop×List D:=(M6.bN x.1/\x.2.1=0/\x.2.2=x.1.length/\M6.bN b/\0<=k/\k.toNat+b.length<=x.1.length/\x.1.length<=1099511627776/\M6.val x.1+M6.val b*18446744073709551616^k.toNat<18446744073709551616^x.1.length,
 [.io gN .u64 (M6.oL x.1.length (M6.val x.1+M6.val b*18446744073709551616^k.toNat)) 0 0])
theorem bLY{T N:Nat}(hN:N<=1099511627776)(hT:T<18446744073709551616^N):∀(r j:Nat) (z:List Int) (c:Int),j+r=N+1->z.length=N->M6.bN z->0<=c->c<=1->M6.val z+18446744073709551616^j*c.toNat=T ->
  L7 z 0 N c j=some [.io gN .u64 (M6.oL N T) 0 0]:=by
 intro r
 induction r with
 |zero =>
  intro j z c hj hz hd h0 h1 hv;have hc:c=0:=by
   have h2:=M6.pY (show N<=j by omega);rcases cJJ 0 c with h3 |h3
   ·have:c=1:=by omega
    subst this;simp at hv;omega
   ·omega
  subst hc;rw[yM,aN];simp at hv;rw[M6.oU hd hz hv]
 |succ r ih =>
  intro j z c hj hz hd h0 h1 hv
  by_cases hc:c=0
  ·subst hc;rw[yM,aN];simp at hv;rw[M6.oU hd hz hv]
  ·have aXU:c=1:=by omega
   subst aXU;have bTP:j<N:=by
    rcases bXZ j N with h |h
    ·exact h
    ·have h2:=M6.pY h;simp at hv;omega
   have g:=hd.get j;have w2:i64.wrap ((j:Int)+1)=((j+1:Nat):Int):=by rw[wrap_i64];omega
   rw[yM,aR,aT,bXL,cBF,gP ⟨g.1,by omega,by omega,by omega⟩,aT,w2];refine ih (j+1) _ _ (by omega) (by simp[hz]) (M6.kI hd (by omega)) (by omega) (by omega) ?_;have hs:=M6.lU (a:=z) (j:=j) (by omega) ((z.getD j 0+0+1)%18446744073709551616);rw[cCK,cCN];generalize z.getD j 0=x at *;generalize M6.val (z.set j _)=V at *;generalize 18446744073709551616^j=B at *;have e:((x+0+1)%18446744073709551616).toNat+18446744073709551616*((x+0+1)/18446744073709551616).toNat=x.toNat+1:=by omega
   have e2:B*((x+0+1)%18446744073709551616).toNat+B*(18446744073709551616*((x+0+1)/18446744073709551616).toNat)=B*x.toNat+B:=by
    rw[<-cCO,e,cCO,bYB]
   simp at hv;omega
theorem bMA{b:List Int}{V N k:Nat}(hN:N<=1099511627776)(hb:M6.bN b)(hk:k+b.length<=N)(hT:V+M6.val b*18446744073709551616^k<18446744073709551616^N):∀(r i:Nat) (z:List Int) (c:Int),i+r=b.length->z.length=N->M6.bN z->0<=c->c<=1 ->
  M6.val z+18446744073709551616^(k+i)*c.toNat=V+M6.val (b.take i)*18446744073709551616^k ->
  L2 z 0 N b k c b.length i=some [.io gN .u64 (M6.oL N (V+M6.val b*18446744073709551616^k)) 0 0]:=by
 intro r
 induction r with
 |zero =>
  intro i z c hi hz hd h0 h1 hv;have w1:i64.wrap ((k:Int)+(b.length:Int))=((k+b.length:Nat):Int):=by rw[wrap_i64];omega
  rw[lG,aN,w1];have aLA:i=b.length:=by omega
  subst aLA;rw[cEH]at hv;exact bLY hN hT (N+1-(k+b.length)) (k+b.length) z c (by omega) hz hd h0 h1 hv
 |succ r ih =>
  intro i z c hi hz hd h0 h1 hv;have g:=hd.get (k+i);have g2:=hb.get i;have w1:i64.wrap ((k:Int)+(i:Int))=((k+i:Nat):Int):=by rw[wrap_i64];omega
  have w2:i64.wrap ((i:Int)+1)=((i+1:Nat):Int):=by rw[wrap_i64];omega
  rw[lG,aR,w1,aT,aT,bXL,cBF,cBF,gP ⟨g.1,g2.1,h0,h1⟩,aT,w2];refine ih (i+1) _ _ (by omega) (by simp[hz]) (M6.kI hd (by omega)) (by omega) (by omega) ?_;have hs:=M6.lU (a:=z) (j:=k+i) (by omega) ((z.getD (k+i) 0+b.getD i 0+c)%18446744073709551616);have e0:M6.val (b.take (i+1))*18446744073709551616^k=M6.val (b.take i)*18446744073709551616^k+18446744073709551616^(k+i)*(b.getD i 0).toNat:=by
   rw[M6.bR,bZU,cCH];congr 1;rw[cIP,cCI (18446744073709551616^i)]
  rw[e0,show k+(i+1)=(k+i)+1 from by omega,cCK,cCN];generalize z.getD (k+i) 0=x at *;generalize b.getD i 0=y at *;generalize M6.val (z.set (k+i) _)=W at *;generalize 18446744073709551616^(k+i)=B at *;generalize M6.val (b.take i)*18446744073709551616^k=U at *;have e:((x+y+c)%18446744073709551616).toNat+18446744073709551616*((x+y+c)/18446744073709551616).toNat=x.toNat+y.toNat+c.toNat:=by omega
  have e2:B*((x+y+c)%18446744073709551616).toNat+B*(18446744073709551616*((x+y+c)/18446744073709551616).toNat)=B*x.toNat+B*y.toNat+B*c.toNat:=by
   rw[<-cCO,e,cCO,cCO]
  omega
theorem spec(x:List Int×Nat×Nat)(b:List Int)(k:Int)(h:(sp x b k).1):aG E f239 aF [(Ej gN .u64).put x,(pI .u64).put b,(pN .i64).put k]=some (sp x b k).2/\∃rs oN,(sp x b k).2=rs ++ [.io gN .u64 oN 0 0]/\oN.length=x.1.length:=by
 obtain⟨xl,xo,xn⟩:=x;obtain⟨hd,ho,hn,hb,hk,aHR,hl,hT⟩:=h;simp only at hd ho hn hb hk aHR hl hT;subst ho;subst hn;obtain⟨k,rfl⟩:=cCM hk;rw[cBF]at aHR hT;refine⟨(start xl 0 xl.length b k).trans ?_,[],_,rfl,M6.iA hT⟩;have:=bMA hl hb aHR hT b.length 0 xl 0 (by omega) rfl hd (by omega) (by omega) (by simp[M6.val]);exact this
def aJ:dG:=orc3 (Ej gN .u64) (pI .u64) (pN .i64) sp
theorem fnok:nJ prog E 239 f239 aF:=vR oA mixed (iH _ rfl aE (lA)) func239 rfl rfl rfl rfl rfl
theorem ok:rW prog base.glob 239 aJ:=fnok.Cq rfl spec
end rU
namespace Iq
def E:Env:={ ({ base with C:=rP [(239,rU.aJ)] (callsOf [(208,Ca.aJ),(177,oX.prec)]),ioF:=Mt [(239,rU.aJ)],n0:=1,io:=[0] })with nt:=34,own:=[],keep:=fun k=>(tlook [(1,[0,1,2,6])] k).getD [],cut:=tlook [] }
def aF:=bd f228
theorem aU:Nk E aF:=nk
def L1(a:List Int)(b:Nat)(c:Nat) d f g:=nN E f228 aF 1 [(A.any,some { e:=(23:Nat),cont:=oI.ints u64 a }),(A.v (V.one (L.view 0 b c)),none),iU d,iU f,bK g]
theorem start al ao an b c:aG E f228 aF [D.io gN u64 al ao an,D.s (ints u64 b),D.s (ints u64 c)]=Iq.L1 al ao an b c 0:=eJ aU
theorem Rn a b c d e f:L1 a b c d e f=letI C:=(d.length:Int);letI B:=f+(e.length:Int);letI A:=cDH f.toNat (cDG (if C<i64.wrap B then C else i64.wrap B).toNat d);aD (decide (f<C)) (if 0<=f/\(f<=if C<i64.wrap B then C else i64.wrap B)/\((if C<i64.wrap B then C else i64.wrap B)<=if C<i64.wrap B then C else i64.wrap B)/\(if C<i64.wrap B then C else i64.wrap B)<=C then aO (M6.bN A/\A.length<=1099511627776) (aC (M6.dg (M6.val A)) fun g=>aO (oX.can g e) (aC (M6.dg (M6.val g*M6.val e)) fun h=>aO (M6.bN a/\b=0/\c=a.length/\M6.bN h/\0<=f/\f.toNat+h.length<=a.length/\a.length<=1099511627776/\M6.val a+M6.val h*(18446744073709551616:Nat)^f.toNat<(18446744073709551616:Nat)^a.length) (aC (M6.oL a.length (M6.val a+M6.val h*(18446744073709551616:Nat)^f.toNat)) fun i=>Iq.L1 i b c d e (i64.wrap B))))else none) (some [D.io 23 u64 a 0 0]):=lJ aU
def sp(x:List Int×Nat×Nat)(a b:List Int):Prop×List D:=(M6.bN x.1/\x.2.1=0/\x.2.2=x.1.length/\M6.cI a/\M6.cI b/\x.1.length=a.length+b.length/\x.1.length<=549755813888/\M6.val x.1=0/\0<b.length/\2*b.length<=a.length/\oX.less (a.length+b.length),
 [.io gN .u64 (M6.oL x.1.length (M6.val a*M6.val b)) 0 0])
theorem bMC{a b:List Int}{N:Nat}(hN:N<=549755813888)(ha:M6.cI a)(hb:M6.cI b)(bKS:N=a.length+b.length)(h0:0<b.length)(h2:2*b.length<=a.length)(hc:oX.less (a.length+b.length)):∀(r at_:Nat) (z:List Int),a.length<=at_+r->at_<=N->z.length=N->M6.bN z->M6.val z=M6.val (a.take at_)*M6.val b ->
  L1 z 0 N a b at_=some [.io gN .u64 (M6.oL N (M6.val a*M6.val b)) 0 0]:=by
 intro r
 induction r with
 |zero =>
  intro t z hr ht hz hd hv;rw[Rn,aN];rw[M6.cA (by omega)]at hv;rw[M6.oU hd hz hv]
 |succ r ih =>
  intro t z hr ht hz hd hv
  by_cases jM:t<a.length
  ·have w:i64.wrap ((t:Int)+(b.length:Int))=((t+b.length:Nat):Int):=by rw[wrap_i64];omega
   obtain⟨e,he⟩:∃e:Nat,e=min a.length (t+b.length):=⟨_,rfl⟩;have bTV:(if(a.length:Int)<((t+b.length:Nat):Int)then(a.length:Int)else((t+b.length:Nat):Int))=(e:Int):=by split <;> omega
   have Zu:((a.take e).drop t).length=e-t:=by rw[List.length_drop,bZC];omega
   have bNU:M6.bN ((a.take e).drop t):=(ha.gT.take _).drop _;have bJC:=M6.cR bNU;rw[Zu]at bJC;have Wl:M6.val (a.take e)=M6.val (a.take t)+18446744073709551616^t*M6.val ((a.take e).drop t):=by
    have:=M6.eZ (a.take e) (n:=t) (by rw[bZC];omega);rw[List.take_take,show min t e=t from by omega]at this;exact this
   have bOQ:=M6.cR hb.gT;have jO:=M6.fR ha.gT e;have h1:M6.val ((a.take e).drop t)*M6.val b<18446744073709551616^(e-t+b.length):=by
    rw[cCH];exact cGK bJC bOQ
   have h3:M6.val (a.take e)*M6.val b<18446744073709551616^N:=by
    have:M6.val (a.take e)*M6.val b<18446744073709551616^(e+b.length):=by
     rw[cCH];exact cGK jO bOQ
    exact bYH this (M6.pY (by omega))
   have h4:M6.val z+M6.val ((a.take e).drop t)*M6.val b*18446744073709551616^t=M6.val (a.take e)*M6.val b:=by
    rw[hv,Wl,bZU];congr 1;rw[cCI (18446744073709551616^t),cIP]
   rw[Rn,aR,w,bTV,if_pos ⟨by omega,by omega,by omega,by omega⟩];simp only[cBF];rw[gP ⟨bNU,by omega⟩,aB,gP (hc _ _ (M6.bA _) hb (by have:=M6.cU bJC;omega)),aB,M6.bD,M6.bD];have Jd:=M6.cU h1;rw[gP ⟨hd,by trivial,by omega,M6.bZ _,by omega,by omega,by omega,by rw[h4,hz];exact h3⟩,aB,hz,h4];refine ih (t+b.length) _ (by omega) (by omega) (M6.iA h3) M6.lY ?_;rw[M6.kZ];congr 1
   by_cases bEB:t+b.length<=a.length
   ·rw[he,Nat.min_eq_right bEB]
   ·rw[he,cDS (by omega),cEH,M6.cA (by omega)]
  ·rw[Rn,aN];rw[M6.cA (by omega)]at hv;rw[M6.oU hd hz hv]
theorem spec(x:List Int×Nat×Nat)(a b:List Int)(h:(sp x a b).1):aG E f228 aF [(Ej gN .u64).put x,(pI .u64).put a,(pI .u64).put b]=some (sp x a b).2/\∃rs oN,(sp x a b).2=rs ++ [.io gN .u64 oN 0 0]/\oN.length=x.1.length:=by
 obtain⟨xl,xo,xn⟩:=x;obtain⟨hd,ho,hn,ha,hb,hl,hN,hv,h0,h2,hc⟩:=h;simp only at hd ho hn hl hN hv;subst ho;subst hn;refine⟨(start xl 0 xl.length a b).trans ?_,[],_,rfl,M6.iA ?_⟩
 ·exact bMC hN ha hb hl h0 h2 hc a.length 0 xl (by omega) (by omega) rfl hd (by simp[hv,M6.val])
 ·show _<18446744073709551616^xl.length;rw[hl,cCH];exact cGK (M6.cR ha.gT) (M6.cR hb.gT)
def aJ:dG:=orc3 (Ej gN .u64) (pI .u64) (pI .u64) sp
theorem fnok:nJ prog E 228 f228 aF:=vR oA mixed (mP _ _ rfl rfl (nB rU.ok wQ) (aA Ca.ok (aA oX.Kj aE)) (lA)) func228 rfl rfl rfl rfl rfl
theorem ok:rW prog base.glob 228 aJ:=fnok.Cq rfl spec
end Iq
namespace aZN
def E:=mE [(208,Ca.aJ)] 29 [16,21] [] []
def aF:=bd f240
theorem aU:Nk E aF:=nk
theorem start a b:aG E f240 aF [D.s (ints u64 a),D.s (sc (int i64 b))]=letI C:=cDH 0 (cDG b.toNat a);letI A:=(a.length:Int);letI F:=cDG A.toNat a;letI B:=cDH 0 F;aD (decide (A<=b)) (if(0:Int)<=(0:Int)/\0<=A/\A<=A/\A<=A then aO (M6.bN B/\B.length<=1099511627776) (some [D.s (ints u64 (M6.dg (M6.val B))),D.s (sc (slice none 0 0))])else none) (if(0:Int)<=(0:Int)/\0<=b/\b<=b/\b<=A then aO (M6.bN C/\C.length<=1099511627776) (if 0<=b/\b<=A/\A<=A/\A<=A then some [D.s (ints u64 (M6.dg (M6.val C))),D.s (ints u64 (cDH b.toNat F))]else none)else none):=eJ aU
def sp(a:List Int)(k:Int):Prop×List D:=(M6.cI a/\a.length<=1099511627776/\0<=k,[.s (.ints .u64 (M6.dg (M6.val a%18446744073709551616^k.toNat))),.s (.ints .u64 (M6.dg (M6.val a/18446744073709551616^k.toNat)))])
theorem spec:Ok E f240 aF (pI .u64) (pN .i64) sp:=by
 rintro a k ⟨ha,hl,h0⟩;obtain⟨k,rfl⟩:=cCM h0;simp only[sp,cBF];have aFW:=start a (k:Int)
 by_cases hk:a.length<=k
 ·rw[aR,aT,cBF,cEH,cDT,gP ⟨ha.gT,hl⟩]at aFW;refine⟨_,aFW,?_⟩;have h1:M6.val a<18446744073709551616^k:=bYH (M6.cR ha.gT) (M6.pY hk);rw[cIZ h1,cCW h1,M6.cG];exact .cons (.refl _) (.cons (.nil _) .nil)
 ·rw[aN,aT,cBF,cBF,cDT,gP ⟨ha.gT.take _,by rw[bZC];omega⟩,aT,cEH,M6.mJ ha.gT]at aFW;refine⟨_,aFW,?_⟩;have h2:a.drop k=M6.dg (M6.val a/18446744073709551616^k):=by
   rw[<-M6.iL ha.gT];exact M6.Be ha k
  rw[h2];exact .refl _
def aJ:dG:=orc2 (pI .u64) (pN .i64) sp
theorem ok:OK 240 aJ:=(dZ E aF (aA Ca.ok aE) func240).aHY rfl spec
end aZN
namespace PSum
def E:Env:={ ({ base with C:=rP [(239,rU.aJ)] (callsOf [(208,Ca.aJ)]),ioF:=Mt [(239,rU.aJ)] })with nt:=25,own:=[24],keep:=fun k=>(tlook [] k).getD [],cut:=tlook [(3,[0,1])] }
def aF:=bd f241
theorem aU:Nk E aF:=nk
def J3 a b:=lE E f241 aF 3 [iU a,iU b]
theorem start a b:aG E f241 aF [D.s (ints u64 a),D.s (ints u64 b)]=aD (decide ((a.length:Int)<(b.length:Int))) (PSum.J3 b a) (PSum.J3 a b):=eJ aU
theorem fB a b:J3 a b=letI F:=(a.length:Int);letI G:=F+(1:Int);letI B:=i64.wrap G;letI A:=cDG B.toNat a ++ cDH (min a.length B.toNat) (bZK B.toNat (0:Int));letI C:=M6.oL A.length (M6.val A+M6.val b*1);if 0<=i64.wrap G/\i64.wrap G<=i64.wrap G/\i64.wrap G<=8796093022208 then aO (M6.bN A/\(0:Nat)=(0:Nat)/\B.toNat=A.length/\M6.bN b/\(0:Int)<=(0:Int)/\(0:Nat)+b.length<=A.length/\A.length<=1099511627776/\M6.val A+M6.val b*1<(18446744073709551616:Nat)^A.length) (aO (M6.bN C/\C.length<=1099511627776) (some [D.s (ints u64 (M6.dg (M6.val C)))]))else none:=cJ aU
def sp(a b:List Int):Prop×List D:=(M6.cI a/\M6.cI b/\a.length<=549755813888/\b.length<=549755813888,[.s (.ints .u64 (M6.dg (M6.val a+M6.val b)))])
theorem aSD{a:List Int}{n:Nat}:cDG (a.length+n) a ++ cDH (min a.length (a.length+n)) (bZK (a.length+n) (0:Int))=a ++ bZK n 0:=by
 rw[cFG (by omega),cJK];congr 2;omega
theorem J{a b:List Int}(ha:M6.cI a)(hb:M6.cI b)(hl:a.length<=549755813888)(aRH:b.length<=a.length):J3 a b=some [.s (.ints .u64 (M6.dg (M6.val a+M6.val b)))]:=by
 have w:i64.wrap ((a.length:Int)+1)=((a.length+1:Nat):Int):=by rw[wrap_i64];omega
 have h1:=M6.cR ha.gT;have h2:=M6.cR hb.gT;have h3:=M6.pY aRH;have aQX:M6.val a+M6.val b<18446744073709551616^(a.length+1):=by rw[cCK];omega
 have hv:M6.val (a ++ bZK 1 0)=M6.val a:=by rw[M6.iE,M6.gW];omega
 rw[fB,w,cBF,aSD,aT,hv,bYB,bZY,cJD,
  gP ⟨M6.lS.2 ⟨ha.gT,M6.gM _⟩,rfl,rfl,hb.gT,by omega,by omega,by omega,aQX⟩,gP ⟨M6.lY,by rw[M6.iA aQX];omega⟩,M6.kZ]
theorem spec:eR E f241 aF (pI .u64) (pI .u64) sp:=by
 rintro a b ⟨ha,hb,h1,h2⟩;refine(start a b).trans ?_
 by_cases hl:a.length<b.length
 ·rw[aR,J hb ha h2 (by omega),cDO];rfl
 ·rw[aN,J ha hb h1 (by omega)];rfl
def aJ:dG:=orc2 (pI .u64) (pI .u64) sp
theorem fnok:qG prog E 241 f241 aF:=Hy oA mixed (mP _ _ rfl rfl (nB rU.ok wQ) (aA Ca.ok aE) (lA)) func241 rfl rfl rfl
theorem ok:lT prog base.glob 241 aJ:=fnok.jR rfl spec
end PSum
namespace Jk
def E:Env:={ ({ base with n0:=1,io:=[0] })with nt:=47,own:=[],keep:=fun k=>(tlook [(7,[0,4,6]),(2,[0,1,4,8,9])] k).getD [],cut:=tlook [] }
def aF:=bd f242
theorem aU:Nk E aF:=nk
def L2(a:List Int)(b:Nat)(c:Nat) d f g h:=nN E f242 aF 2 [(A.any,some { e:=(23:Nat),cont:=oI.ints u64 a }),(A.v (V.one (L.view 0 b c)),none),iU d,dM f,bK g,bK h]
def L7(a:List Int)(b:Nat)(c:Nat) d f:=nN E f242 aF 7 [(A.any,some { e:=(23:Nat),cont:=oI.ints u64 a }),(A.v (V.one (L.view 0 b c)),none),dM d,bK f]
theorem start al ao an b:aG E f242 aF [D.io gN u64 al ao an,D.s (ints u64 b)]=Jk.L2 al ao an b 0 (b.length:Int) 0:=eJ aU
theorem lG a b c d e f g:L2 a b c d e f g=letI A:=b+g.toNat;aD (decide (g<f)) (if 0<=g/\g<(c:Int)then if 0<=g/\g<(d.length:Int)then aO (0<=a.getD A 0/\0<=d.getD g.toNat 0/\d.getD g.toNat 0<(18446744073709551616:Int)/\0<=e/\e<=1) (if 0<=g/\g<(c:Int)then Jk.L2 (a.set A ((a.getD A 0-d.getD g.toNat 0-e)%18446744073709551616)) b c d (if a.getD A 0<d.getD g.toNat 0+e then(1:Int)else(0:Int)) f (i64.wrap (g+1))else none)else none else none) (Jk.L7 a b c e (d.length:Int)):=lJ aU
theorem yM a b c d e:L7 a b c d e=letI A:=b+e.toNat;aD (decide (0<d)) (if 0<=e/\e<(c:Int)then aO (0<=a.getD A 0/\(0:Int)<=(0:Int)/\(0:Int)<(18446744073709551616:Int)/\0<=d/\d<=1) (if 0<=e/\e<(c:Int)then Jk.L7 (a.set A ((a.getD A 0-(0:Int)-d)%18446744073709551616)) b c (if a.getD A 0<(0:Int)+d then(1:Int)else(0:Int)) (i64.wrap (e+1))else none)else none) (some [D.io 23 u64 a 0 0]):=lJ aU
def sp(x:List Int×Nat×Nat)(b:List Int):Prop×List D:=(M6.bN x.1/\x.2.1=0/\x.2.2=x.1.length/\M6.bN b/\b.length<=x.1.length/\x.1.length<=1099511627776/\M6.val b<=M6.val x.1,
 [.io gN .u64 (M6.oL x.1.length (M6.val x.1-M6.val b)) 0 0])
theorem bLY{V W N:Nat}(hN:N<=1099511627776)(hT:W<=V):∀(r j:Nat) (z:List Int) (c:Int),j+r=N+1->z.length=N->M6.bN z->0<=c->c<=1->M6.val z+W=V+18446744073709551616^j*c.toNat ->
  L7 z 0 N c j=some [.io gN .u64 (M6.oL N (V-W)) 0 0]:=by
 intro r
 induction r with
 |zero =>
  intro j z c hj hz hd h0 h1 hv;have hc:c=0:=by
   have h2:=M6.pY (show N<=j by omega);have h3:=M6.cR hd;rw[hz]at h3;rcases cJJ 0 c with h4 |h4
   ·have:c=1:=by omega
    subst this;simp at hv;omega
   ·omega
  subst hc;rw[yM,aN];simp at hv;rw[M6.oU hd hz (v:=V-W) (by omega)]
 |succ r ih =>
  intro j z c hj hz hd h0 h1 hv
  by_cases hc:c=0
  ·subst hc;rw[yM,aN];simp at hv;rw[M6.oU hd hz (v:=V-W) (by omega)]
  ·have aXU:c=1:=by omega
   subst aXU;have bTP:j<N:=by
    rcases bXZ j N with h |h
    ·exact h
    ·have h2:=M6.pY h;have h3:=M6.cR hd;rw[hz]at h3;simp at hv;omega
   have g:=hd.get j;have w2:i64.wrap ((j:Int)+1)=((j+1:Nat):Int):=by rw[wrap_i64];omega
   rw[yM,aR,aT,bXL,cBF,gP ⟨g.1,by omega,by omega,by omega,by omega⟩,aT,w2];refine ih (j+1) _ _ (by omega) (by simp[hz]) (M6.kI hd (by omega)) (by split <;> omega) (by split <;> omega) ?_;have hs:=M6.lU (a:=z) (j:=j) (by omega) ((z.getD j 0-0-1)%18446744073709551616);rw[cCK,cCN];generalize z.getD j 0=x at *;generalize M6.val (z.set j _)=U at *;generalize 18446744073709551616^j=B at *;have e:((x-0-1)%18446744073709551616).toNat+1=x.toNat+18446744073709551616*(if x<0+1 then(1:Int)else 0).toNat:=by split <;> omega
   have e2:B*((x-0-1)%18446744073709551616).toNat+B=B*x.toNat+B*(18446744073709551616*(if x<0+1 then(1:Int)else 0).toNat):=by
    rw[<-cCO,<-e,cCO,bYB]
   simp at hv;omega
theorem bMA{b:List Int}{V N:Nat}(hN:N<=1099511627776)(hb:M6.bN b)(hk:b.length<=N)(hT:M6.val b<=V):∀(r i:Nat) (z:List Int) (c:Int),i+r=b.length->z.length=N->M6.bN z->0<=c->c<=1 ->
  M6.val z+M6.val (b.take i)=V+18446744073709551616^i*c.toNat ->
  L2 z 0 N b c b.length i=some [.io gN .u64 (M6.oL N (V-M6.val b)) 0 0]:=by
 intro r
 induction r with
 |zero =>
  intro i z c hi hz hd h0 h1 hv;rw[lG,aN];have aLA:i=b.length:=by omega
  subst aLA;rw[cEH]at hv;exact bLY hN hT (N+1-b.length) b.length z c (by omega) hz hd h0 h1 hv
 |succ r ih =>
  intro i z c hi hz hd h0 h1 hv;have g:=hd.get i;have g2:=hb.get i;have w2:i64.wrap ((i:Int)+1)=((i+1:Nat):Int):=by rw[wrap_i64];omega
  rw[lG,aR,aT,aT,bXL,cBF,gP ⟨g.1,g2.1,g2.2,h0,h1⟩,aT,w2];refine ih (i+1) _ _ (by omega) (by simp[hz]) (M6.kI hd (by omega)) (by split <;> omega) (by split <;> omega) ?_;have hs:=M6.lU (a:=z) (j:=i) (by omega) ((z.getD i 0-b.getD i 0-c)%18446744073709551616);rw[M6.bR,cCK,cCN];generalize z.getD i 0=x at *;generalize b.getD i 0=y at *;generalize M6.val (z.set i _)=W at *;generalize 18446744073709551616^i=B at *;generalize M6.val (b.take i)=U at *;have e:((x-y-c)%18446744073709551616).toNat+y.toNat+c.toNat=x.toNat+18446744073709551616*(if x<y+c then(1:Int)else 0).toNat:=by split <;> omega
  have e2:B*((x-y-c)%18446744073709551616).toNat+B*y.toNat+B*c.toNat=B*x.toNat+B*(18446744073709551616*(if x<y+c then(1:Int)else 0).toNat):=by
   rw[<-cCO,<-cCO,e,cCO]
  omega
theorem spec(x:List Int×Nat×Nat)(b:List Int)(h:(sp x b).1):aG E f242 aF [(Ej gN .u64).put x,(pI .u64).put b]=some (sp x b).2/\∃rs oN,(sp x b).2=rs ++ [.io gN .u64 oN 0 0]/\oN.length=x.1.length:=by
 obtain⟨xl,xo,xn⟩:=x;obtain⟨hd,ho,hn,hb,aHR,hl,hT⟩:=h;simp only at hd ho hn hb aHR hl hT;subst ho;subst hn;refine⟨(start xl 0 xl.length b).trans ?_,[],_,rfl,M6.iA (by have:=M6.cR hd;simp only;omega)⟩;have:=bMA hl hb aHR hT b.length 0 xl 0 (by omega) rfl hd (by omega) (by omega) (by simp[M6.val]);exact this
def aJ:dG:=orc2 (Ej gN .u64) (pI .u64) sp
theorem fnok:nJ prog E 242 f242 aF:=vR oA mixed (iH _ rfl aE (lA)) func242 rfl rfl rfl rfl rfl
theorem ok:rW prog base.glob 242 aJ:=fnok.jR rfl spec
end Jk
namespace Lb
def E:Env:={ ({ base with C:=rP [(239,rU.aJ),(242,Jk.aJ)] (callsOf [(208,Ca.aJ),(240,aZN.aJ),(241,PSum.aJ),(177,oX.prec)]),ioF:=Mt [(239,rU.aJ),(242,Jk.aJ)],n0:=1,io:=[0] })with nt:=62,own:=[42],keep:=fun k=>(tlook [] k).getD [],cut:=tlook [] }
def aF:=bd f229
theorem aU:Nk E aF:=nk
theorem start al ao an b c:aG E f229 aF [D.io gN u64 al ao an,D.s (ints u64 b),D.s (ints u64 c)]=letI B:=i64.wrap ((b.length:Int)+(1:Int));letI H:=B.tdiv 2;letI F:=i64.wrap ((2:Int)*i64.wrap H);letI C:=i64.wrap H;aO (M6.cI b/\b.length<=1099511627776/\0<=i64.wrap H) (aC (M6.dg (M6.val b%(18446744073709551616:Nat)^C.toNat)) fun a=>aC (M6.dg (M6.val b/(18446744073709551616:Nat)^C.toNat)) fun d=>aO (M6.cI c/\c.length<=1099511627776/\0<=i64.wrap H) (aC (M6.dg (M6.val c%(18446744073709551616:Nat)^C.toNat)) fun e=>aC (M6.dg (M6.val c/(18446744073709551616:Nat)^C.toNat)) fun f=>aO (oX.can a e) (aC (M6.dg (M6.val a*M6.val e)) fun g=>letI A:=cDG ao al ++ (cDG an g ++ cDH (ao+min g.length an) al);aO (oX.can d f) (aC (M6.dg (M6.val d*M6.val f)) fun h=>aO (M6.cI a/\M6.cI d/\a.length<=549755813888/\d.length<=549755813888) (aC (M6.dg (M6.val a+M6.val d)) fun i=>aO (M6.cI e/\M6.cI f/\e.length<=549755813888/\f.length<=549755813888) (aC (M6.dg (M6.val e+M6.val f)) fun j=>aO (oX.can i j) (aC (M6.dg (M6.val i*M6.val j)) fun k=>aO (M6.bN k/\(0:Nat)=(0:Nat)/\k.length=k.length/\M6.bN g/\g.length<=k.length/\k.length<=1099511627776/\M6.val g<=M6.val k) (aC (M6.oL k.length (M6.val k-M6.val g)) fun l=>aO (M6.bN l/\(0:Nat)=(0:Nat)/\k.length=l.length/\M6.bN h/\h.length<=l.length/\l.length<=1099511627776/\M6.val h<=M6.val l) (aC (M6.oL l.length (M6.val l-M6.val h)) fun m=>letI G:=M6.dg (M6.val m);if u64=u64/\ao+an<=al.length then aO (M6.bN m/\m.length<=1099511627776) (aO (M6.bN A/\ao=0/\an=A.length/\M6.bN G/\0<=i64.wrap H/\C.toNat+G.length<=A.length/\A.length<=1099511627776/\M6.val A+M6.val G*(18446744073709551616:Nat)^C.toNat<(18446744073709551616:Nat)^A.length) (aC (M6.oL A.length (M6.val A+M6.val G*(18446744073709551616:Nat)^C.toNat)) fun n=>aO (M6.bN n/\ao=0/\an=n.length/\M6.bN h/\0<=i64.wrap ((2:Int)*i64.wrap H)/\F.toNat+h.length<=n.length/\n.length<=1099511627776/\M6.val n+M6.val h*(18446744073709551616:Nat)^F.toNat<(18446744073709551616:Nat)^n.length) (aC (M6.oL n.length (M6.val n+M6.val h*(18446744073709551616:Nat)^F.toNat)) fun o=>some [D.io 23 u64 o 0 0])))else none))))))))):=eJ aU
def sp(x:List Int×Nat×Nat)(a b:List Int):Prop×List D:=(M6.bN x.1/\x.2.1=0/\x.2.2=x.1.length/\M6.cI a/\M6.cI b/\x.1.length=a.length+b.length/\x.1.length<=274877906944/\M6.val x.1=0/\4<=b.length/\b.length<=a.length/\oX.less (a.length+b.length),
 [.io gN .u64 (M6.oL x.1.length (M6.val a*M6.val b)) 0 0])
theorem aWJ(a0 a1 b0 b1 K:Nat):(a0+K*a1)*(b0+K*b1)=a0*b0+(a0*b1+a1*b0)*K+a1*b1*(K*K):=by grind
theorem bHW(a0 a1 b0 b1:Nat):(a0+a1)*(b0+b1)=a0*b0+a1*b1+(a0*b1+a1*b0):=by grind
theorem Av{v n k:Nat}(h:v<18446744073709551616^n):v/18446744073709551616^k<18446744073709551616^(n-k):=by
 apply cDC;rw[<-cCH];exact bYH h (M6.pY (by omega))
theorem aDA{v k N:Nat}(hk:k<=N)(h:v*18446744073709551616^k<18446744073709551616^N):v<18446744073709551616^(N-k):=by
 have e:18446744073709551616^N=18446744073709551616^(N-k)*18446744073709551616^k:=by rw[<-cCH];congr 1;omega
 rw[e]at h;exact Nat.lt_of_mul_lt_mul_right h
theorem spec(x:List Int×Nat×Nat)(a b:List Int)(h:(sp x a b).1):aG E f229 aF [(Ej gN .u64).put x,(pI .u64).put a,(pI .u64).put b]=some (sp x a b).2/\∃rs oN,(sp x a b).2=rs ++ [.io gN .u64 oN 0 0]/\oN.length=x.1.length:=by
 obtain⟨xl,xo,xn⟩:=x;obtain⟨hd,ho,hn,ha,hb,hl,hN,hv,h4,aRH,hc⟩:=h;simp only at hd ho hn hl hN hv;subst ho;subst hn;have aDV:=M6.cR ha.gT;have bEH:=M6.cR hb.gT;have bEI:M6.val a*M6.val b<18446744073709551616^xl.length:=by rw[hl,cCH];exact cGK aDV bEH
 refine⟨(start xl 0 xl.length a b).trans ?_,[],_,rfl,M6.iA bEI⟩;obtain⟨k,hk⟩:∃k:Nat,k=(a.length+1)/2:=⟨_,rfl⟩;have w:i64.wrap ((i64.wrap ((a.length:Int)+1)).tdiv 2)=(k:Int):=by
  rw[wrap_i64 (n:=(a.length:Int)+1),cEF (by omega),wrap_i64];omega
 have w2:i64.wrap (2*(k:Int))=((2*k:Nat):Int):=by rw[wrap_i64];omega
 have Dj:xl=bZK xl.length 0:=by
  have:=M6.oU hd rfl hv;rw[M6.aLS]at this;exact this
 rw[w,w2,gP ⟨ha,by omega,by omega⟩];simp only[aB,cBF];have a0l:=M6.cU (bZR (M6.val a) (cAH (n:=k) (by omega:0<18446744073709551616)));have b0l:=M6.cU (bZR (M6.val b) (cAH (n:=k) (by omega:0<18446744073709551616)));have a1l:=M6.cU (Av (k:=k) aDV);have b1l:=M6.cU (Av (k:=k) bEH);have hA:=cJC (M6.val a) (18446744073709551616^k);have hB:=cJC (M6.val b) (18446744073709551616^k);have ea0:M6.val a%18446744073709551616^k<18446744073709551616^k:=bZR _ (cB);have eb0:M6.val b%18446744073709551616^k<18446744073709551616^k:=bZR _ (cB);have ea1:M6.val a/18446744073709551616^k<18446744073709551616^k:=bYH (Av aDV) (M6.pY (by omega));have eb1:M6.val b/18446744073709551616^k<18446744073709551616^k:=bYH (Av bEH) (M6.pY (by omega));generalize M6.val a%18446744073709551616^k=a0 at *;generalize M6.val a/18446744073709551616^k=a1 at *;generalize M6.val b%18446744073709551616^k=b0 at *;generalize M6.val b/18446744073709551616^k=b1 at *;have s6:a0+a1<18446744073709551616^(k+1):=by rw[cCK];omega
 have s7:b0+b1<18446744073709551616^(k+1):=by rw[cCK];omega
 have s6l:=M6.cU s6;have s7l:=M6.cU s7;have aDM:=aWJ a0 a1 b0 b1 (18446744073709551616^k);rw[hA,hB]at aDM;have hmid:=bHW a0 a1 b0 b1;have s8:(a0+a1)*(b0+b1)<18446744073709551616^(2*(k+1)):=by
  rw[Nat.two_mul,cCH];exact cGK s6 s7
 have s8l:=M6.cU s8;have bVI:18446744073709551616^k*18446744073709551616^k=18446744073709551616^(2*k):=by rw[<-cCH,Nat.two_mul]
 rw[bVI]at aDM;have low:a0*b0<=(a0+a1)*(b0+b1):=by omega
 have bJG:=M6.jX low;have bHS:a1*b1<=(a0+a1)*(b0+b1):=by omega
 have bJF:=M6.jX bHS;rw[gP ⟨hb,by omega,by omega⟩,gP (hc _ _ (M6.bA _) (M6.bA _) (by omega)),gP (hc _ _ (M6.bA _) (M6.bA _) (by omega)),gP ⟨M6.bA _,M6.bA _,by omega,by omega⟩,gP ⟨M6.bA _,M6.bA _,by omega,by omega⟩];simp only[M6.bD];have f9:(a0+a1)*(b0+b1)-a0*b0<18446744073709551616^(M6.dg ((a0+a1)*(b0+b1))).length:=by
  have:=M6.oK (n:=(a0+a1)*(b0+b1));omega
 have bVR:=M6.iA f9;rw[gP (hc _ _ (M6.bA _) (M6.bA _) (by omega)),gP ⟨M6.bZ _,by trivial,by trivial,M6.bZ _,bJG,by omega,low⟩,bVR,M6.kZ,
  gP ⟨M6.lY,by trivial,by trivial,M6.bZ _,bJF,by omega,by omega⟩]
 have bWE:(a0+a1)*(b0+b1)-a0*b0-a1*b1=a0*b1+a1*b0:=by omega
 rw[bWE];have f10:a0*b1+a1*b0<18446744073709551616^(M6.dg ((a0+a1)*(b0+b1))).length:=by
  have:=M6.oK (n:=(a0+a1)*(b0+b1));omega
 have Zv:a0*b0<18446744073709551616^xl.length:=by omega
 have bOA:=M6.cU Zv;have bEA:cDG 0 xl ++ (cDG xl.length (M6.dg (a0*b0)) ++ cDH (0+min (M6.dg (a0*b0)).length xl.length) xl)=M6.oL xl.length (a0*b0):=by
  rw[cBI,cBJ,cFG bOA,bXL,cDS bOA]
  conv=>lhs;rw[Dj,cJK]
  rfl
 rw[bEA,if_pos ⟨by trivial,by omega⟩,gP ⟨M6.lY,by rw[M6.iA f10];omega⟩,M6.kZ,M6.kZ,M6.iA Zv];have bTC:(a0*b1+a1*b0)*18446744073709551616^k<18446744073709551616^xl.length:=by omega
 have bNW:=M6.cU (aDA (by omega) bTC);have bCV:a0*b0+(a0*b1+a1*b0)*18446744073709551616^k<18446744073709551616^xl.length:=by omega
 rw[gP ⟨M6.lY,by trivial,by trivial,M6.bZ _,by omega,by omega,by omega,bCV⟩,M6.iA bCV,M6.kZ];have bTX:a1*b1*18446744073709551616^(2*k)<18446744073709551616^xl.length:=by omega
 have hhl:=M6.cU (aDA (by omega) bTX);rw[gP ⟨M6.lY,by trivial,by trivial,M6.bZ _,by omega,by omega,by omega,by rw[<-aDM];exact bEI⟩,<-aDM];rfl
def aJ:dG:=orc3 (Ej gN .u64) (pI .u64) (pI .u64) sp
theorem fnok:nJ prog E 229 f229 aF:=vR oA mixed (mP _ _ rfl rfl (nB rU.ok (nB Jk.ok wQ)) (aA Ca.ok (aA aZN.ok (aA PSum.ok (aA oX.Kj aE)))) (lA)) func229 rfl rfl rfl rfl rfl
theorem ok:rW prog base.glob 229 aJ:=fnok.Cq rfl spec
end Lb
namespace Rl
def E:Env:={ ({ base with C:=rP [(227,Jl.aJ),(228,Iq.aJ),(229,Lb.aJ)] (callsOf []),ioF:=Mt [(227,Jl.aJ),(228,Iq.aJ),(229,Lb.aJ)],n0:=1,io:=[0] })with nt:=36,own:=[],keep:=fun k=>(tlook [] k).getD [],cut:=tlook [(3,[0,1,2])] }
def aF:=bd f207
theorem aU:Nk E aF:=nk
def J3(a:List Int)(b:Nat)(c:Nat) d f:=lE E f207 aF 3 [(A.any,some { e:=(23:Nat),cont:=oI.ints u64 a }),(A.v (V.one (L.view 0 b c)),none),iU d,iU f]
theorem start al ao an b c:aG E f207 aF [D.io gN u64 al ao an,D.s (ints u64 b),D.s (ints u64 c)]=aD (decide ((b.length:Int)<(c.length:Int))) (Rl.J3 al ao an c b) (Rl.J3 al ao an b c):=eJ aU
theorem fB a b c d e:J3 a b c d e=letI B:=d.length+e.length;letI A:=some [D.io 23 u64 (M6.oL a.length (M6.val d*M6.val e)) 0 0];aD (decide ((e.length:Int)<(40:Int))) (aO (M6.bN a/\b=0/\c=a.length/\M6.bN d/\M6.bN e/\a.length=d.length+e.length/\a.length<=1099511627776/\M6.val a=0) A) (aD (decide (i64.wrap ((2:Int)*(e.length:Int))<=(d.length:Int))) (aO (M6.bN a/\b=0/\c=a.length/\M6.cI d/\M6.cI e/\a.length=d.length+e.length/\a.length<=549755813888/\M6.val a=0/\0<e.length/\(2:Nat)*e.length<=d.length/\oX.less B) A) (aO (M6.bN a/\b=0/\c=a.length/\M6.cI d/\M6.cI e/\a.length=d.length+e.length/\a.length<=274877906944/\M6.val a=0/\4<=e.length/\e.length<=d.length/\oX.less B) A)):=cJ aU
def sp(x:List Int×Nat×Nat)(a b:List Int):Prop×List D:=(M6.bN x.1/\x.2.1=0/\x.2.2=x.1.length/\M6.cI a/\M6.cI b/\x.1.length=a.length+b.length/\x.1.length<=274877906944/\M6.val x.1=0/\oX.less (a.length+b.length),
 [.io gN .u64 (M6.oL x.1.length (M6.val a*M6.val b)) 0 0])
theorem J{z a b:List Int}(hd:M6.bN z)(ha:M6.cI a)(hb:M6.cI b)(hl:z.length=a.length+b.length)(hN:z.length<=274877906944)(hv:M6.val z=0)(hc:oX.less (a.length+b.length))(aRH:b.length<=a.length) :
  J3 z 0 z.length a b=some [.io gN .u64 (M6.oL z.length (M6.val a*M6.val b)) 0 0]:=by
 have w:i64.wrap (2*(b.length:Int))=((2*b.length:Nat):Int):=by rw[wrap_i64];omega
 rw[fB,w]
 by_cases h1:b.length<40
 ·rw[aR,gP ⟨hd,rfl,rfl,ha.gT,hb.gT,hl,by omega,hv⟩]
 ·rw[aN]
  by_cases h2:2*b.length<=a.length
  ·rw[aR,gP ⟨hd,rfl,rfl,ha,hb,hl,by omega,hv,by omega,h2,hc⟩]
  ·rw[aN,gP ⟨hd,rfl,rfl,ha,hb,hl,by omega,hv,by omega,aRH,hc⟩]
theorem spec(x:List Int×Nat×Nat)(a b:List Int)(h:(sp x a b).1):aG E f207 aF [(Ej gN .u64).put x,(pI .u64).put a,(pI .u64).put b]=some (sp x a b).2/\∃rs oN,(sp x a b).2=rs ++ [.io gN .u64 oN 0 0]/\oN.length=x.1.length:=by
 obtain⟨xl,xo,xn⟩:=x;obtain⟨hd,ho,hn,ha,hb,hl,hN,hv,hc⟩:=h;simp only at hd ho hn hl hN hv;subst ho;subst hn;refine⟨(start xl 0 xl.length a b).trans ?_,[],_,rfl,M6.iA ?_⟩
 ·by_cases jM:a.length<b.length
  ·rw[aR,J hd hb ha (by omega) hN hv (by rw[cDO];exact hc) (by omega),cCI];rfl
  ·rw[aN,J hd ha hb hl hN hv hc (by omega)];rfl
 ·show _<18446744073709551616^xl.length;rw[hl,cCH];exact cGK (M6.cR ha.gT) (M6.cR hb.gT)
def aJ:dG:=orc3 (Ej gN .u64) (pI .u64) (pI .u64) sp
theorem fnok:nJ prog E 207 f207 aF:=vR oA mixed (mP _ _ rfl rfl (nB Jl.ok (nB Iq.ok (nB Lb.ok wQ))) aE (lA)) func207 rfl rfl rfl rfl rfl
theorem ok:rW prog base.glob 207 aJ:=fnok.Cq rfl spec
end Rl
namespace Ip
def E:Env:={ ({ base with n0:=1,io:=[0] })with nt:=22,own:=[],keep:=fun k=>(tlook [(2,[0,3])] k).getD [],cut:=tlook [] }
def aF:=bd f208
theorem aU:Nk E aF:=nk
def L2(a:List Int)(b:Nat)(c:Nat) d:=nN E f208 aF 2 [(A.any,some { e:=(23:Nat),cont:=oI.ints u64 a }),(A.v (V.one (L.view 0 b c)),none),bK d]
theorem start al ao an:aG E f208 aF [D.io gN u64 al ao an]=Ip.L2 al ao an (an:Int):=eJ aU
theorem lG a b c d:L2 a b c d=aD (decide (0<d)) (if 0<=i64.wrap (d-1)/\i64.wrap (d-1)<(c:Int)then aD (a.getD (b+(i64.wrap (d-1)).toNat) 0==(0:Int)) (Ip.L2 a b c (i64.wrap (d-1))) (if(0:Int)<=(0:Int)/\0<=d/\d<=d/\d<=(c:Int)then some [D.back 0 (b+0) (d.toNat-0),D.io 23 u64 a 0 0]else none)else none) (if(0:Int)<=(0:Int)/\0<=d/\d<=d/\d<=(c:Int)then some [D.back 0 (b+0) (d.toNat-0),D.io 23 u64 a 0 0]else none):=lJ aU
def sp(x:List Int×Nat×Nat):Prop×List D:=(M6.bN x.1/\x.2.1=0/\x.2.2=x.1.length/\x.1.length<=1099511627776,[.back 0 0 (M6.dg (M6.val x.1)).length,.io gN .u64 x.1 0 0])
theorem L{xs:List Int}(hd:M6.bN xs)(hl:xs.length<=4398046511104):∀n:Nat,n<=xs.length->L2 xs 0 xs.length n=some [.back 0 0 (M6.dg (M6.val (xs.take n))).length,.io gN .u64 xs 0 0]
 |0,h=>by
  rw[lG,aN,aT];simp[M6.val,M6.cG]
 |n+1,h=>by
  rw[lG];have e:i64.wrap (((n+1:Nat):Int)-1)=(n:Int):=by rw[wrap_i64];omega
  rw[e,aR,aT,cBF,bXL]
  by_cases hz:xs.getD n 0=0
  ·rw[cL hz,L hd hl n (by omega),M6.mQ (by omega),hz];simp
  ·rw[cO hz,aT,cBF];have:M6.cI (xs.take (n+1)):=M6.Bd (hd.take _) fun d hg=>by
    rw[M6.getLast_take (by omega)]at hg;cases hg;exact hz
   have hlen:(xs.take (n+1)).length=n+1:=by rw[bZC];omega
   rw[<-this,hlen];rfl
theorem spec(x:List Int×Nat×Nat)(h:(sp x).1):aG E f208 aF [(Ej gN .u64).put x]=some (sp x).2/\∃rs oN,(sp x).2=rs ++ [.io gN .u64 oN 0 0]/\oN.length=x.1.length:=by
 obtain⟨xl,xo,xn⟩:=x;obtain⟨hd,ho,hn,hl⟩:=h;simp only at hd ho hn hl;subst ho;subst hn;refine⟨(start xl 0 xl.length).trans ?_,[_],xl,rfl,rfl⟩;rw[L hd (by omega) xl.length (bXK _),cEH];rfl
def aJ:dG:=orc1 (Ej gN .u64) sp
theorem fnok:nJ prog E 208 f208 aF:=vR oA mixed (iH _ rfl aE (lA)) func208 rfl rfl rfl rfl rfl
theorem ok:rW prog base.glob 208 aJ:=fnok.oS rfl spec
end Ip
namespace Ot
def E:Env:={ ({ base with C:=rP [(207,Rl.aJ),(208,Ip.aJ)] (callsOf []),ioF:=Mt [(207,Rl.aJ),(208,Ip.aJ)] })with nt:=18,own:=[17],keep:=fun k=>(tlook [] k).getD [],cut:=tlook [] }
def aF:=bd f177
theorem aU:Nk E aF:=nk
theorem start a b:aG E f177 aF [D.s (ints u64 a),D.s (ints u64 b)]=letI F:=(a.length:Int);letI G:=F+(b.length:Int);letI C:=i64.wrap G;letI A:=bZK C.toNat (0:Int);letI B:=M6.oL A.length (M6.val a*M6.val b);if 0<=i64.wrap G/\i64.wrap G<=i64.wrap G/\i64.wrap G<=8796093022208 then aO (M6.bN A/\(0:Nat)=(0:Nat)/\C.toNat=A.length/\M6.cI a/\M6.cI b/\A.length=a.length+b.length/\A.length<=274877906944/\M6.val A=0/\oX.less (a.length+b.length)) (aO (M6.bN B/\(0:Nat)=(0:Nat)/\C.toNat=B.length/\B.length<=1099511627776) (some [D.own 23 u64 (cDG (M6.dg (M6.val B)).length B)]))else none:=eJ aU
theorem eval{a b:List Int}(ha:M6.cI a)(hb:M6.cI b)(hN:a.length+b.length<=274877906944)(hc:oX.less (a.length+b.length)):aG E f177 aF [(pI .u64).put a,(pI .u64).put b]=some [.own gN .u64 (M6.dg (M6.val a*M6.val b))]:=by
 refine(start a b).trans ?_;have w:i64.wrap ((a.length:Int)+(b.length:Int))=((a.length+b.length:Nat):Int):=by rw[wrap_i64];omega
 have bEI:M6.val a*M6.val b<18446744073709551616^(a.length+b.length):=by rw[cCH];exact cGK (M6.cR ha.gT) (M6.cR hb.gT)
 rw[w,aT];simp only[cBF,cJD];rw[gP ⟨M6.gM _,by trivial,by trivial,ha,hb,by trivial,hN,M6.gW _,hc⟩,gP ⟨M6.lY,by trivial,(M6.iA bEI).symm,by rw[M6.iA bEI];omega⟩,M6.kZ,M6.aLT]
theorem fnok:qG prog E 177 f177 aF:=Hy oA mixed (mP _ _ rfl rfl (nB Rl.ok (nB Ip.ok wQ)) aE (lA)) func177 rfl rfl rfl
theorem all(n:Nat)(hn:n<=274877906944):oX.less (n+1):=by
 induction n with
 |zero =>
  intro a b ha hb hl;refine fn_contract fnok.ty fnok.calls fnok.mix fnok.fnc fnok.body fnok.nt fnok.io (by exact bZF rfl) (eval ha hb (by omega) fun c d _ _ h=>by omega)
 |succ n ih =>
  intro a b ha hb hl;have ih:=ih (by omega);refine fn_contract fnok.ty fnok.calls fnok.mix fnok.fnc fnok.body fnok.nt fnok.io (by exact bZF rfl) (eval ha hb (by omega) fun c d hc hd h=>ih c d hc hd (by omega))
def sp(a b:List Int):Prop×List D:=(M6.cI a/\M6.cI b/\a.length+b.length<=274877906944,[.own gN .u64 (M6.dg (M6.val a*M6.val b))])
theorem spec:eR E f177 aF (pI .u64) (pI .u64) sp:=by
 rintro a b ⟨ha,hb,hN⟩;exact eval ha hb hN fun c d hc hd h=>all (a.length+b.length) hN c d hc hd (by omega)
def aJ:dG:=orc2 (pI .u64) (pI .u64) sp
theorem ok:lT prog base.glob 177 aJ:=fnok.jR rfl spec
end Ot
namespace aNN
def E:=mE [(147,gV.aJ),(177,Ot.aJ),(176,oX.aJ)] 20 [17] [] []
def aF:=bd f136
theorem aU:Nk E aF:=nk
theorem start a b:aG E f136 aF [D.s (ints u64 a),D.s (ints u64 b)]=letI A:=some [D.s (sc (slice none 0 0)),D.s (sc (int i64 2))];aO (a.length<=1099511627776) (aD (!gV.qO a) A (aO (b.length<=1099511627776) (aD (!gV.qO b) A (aO (M6.cI a/\M6.cI b/\a.length+b.length<=274877906944) (aC (M6.dg (M6.val a*M6.val b)) fun c=>aO True (aC (bif oX.Lj c then c else []) fun d=>aC (bif oX.Lj c then(0:Int)else(5:Int)) fun e=>some [D.s (ints u64 d),D.s (sc (int i64 e))])))))):=eJ aU
def sp(a b:List Int):Prop×List D:=(M6.cI a/\M6.cI b/\a.length<=8192/\b.length<=8192,[.s (.ints .u64 (bif dO.oM (M6.val a*M6.val b)then M6.dg (M6.val a*M6.val b)else [])),.s (.sc (.int .i64 (bif dO.oM (M6.val a*M6.val b)then 0 else 5)))])
theorem spec:eR E f136 aF (pI .u64) (pI .u64) sp:=by
 rintro a b ⟨ha,hb,h1,h2⟩;refine(start a b).trans ?_;simp only[aB];rw[gP,gP,gV.pD ha h1,gV.pD hb h2,bZH,bF,bF,gP ⟨ha,hb,by omega⟩,gP trivial];rfl
def aJ:dG:=orc2 (pI .u64) (pI .u64) sp
theorem ok:OK 136 aJ:=(dZ E aF (aA gV.ok (aA Ot.ok (aA oX.ok aE))) func136).jR rfl spec
end aNN
namespace aHC
def E:=mE [(104,fY.aJ),(136,aNN.aJ),(137,Cg.aJ)] 35 [32] [(3,[2,3,4])] [3]
def aF:=bd f93
theorem aU:Nk E aF:=nk
def J3 a b c d e:=lE E f93 aF 3 [bM 0 33 [bC a,eF b],bM 1 33 [bC c,eF d],bM 2 33 [bC e,sc (slice none 0 0)]]
theorem start a b c d:aG E f93 aF [D.agg [sc (bool a),ints u64 b],D.agg [sc (bool c),ints u64 d]]=letI A:=some [D.agg [sc (bool false),sc (slice none 0 0)],D.s (sc (int i64 2))];aO (b.length<=1099511627776) (aD (!fY.pS (a,b)) A (aO (d.length<=1099511627776) (aD (!fY.pS (c,d)) A (aHC.J3 a b c d false)))):=eJ aU
theorem fB a b c d e:J3 a b c d e=letI F:=M6.val b*M6.val d;letI B:=bif dO.oM F then(0:Int)else(5:Int);letI A:=bif dO.oM F then M6.dg F else [];letI C:=bif B==0 then zs (a !=c) (M6.val A)else(0:Int);aO (M6.cI b/\M6.cI d/\b.length<=8192/\d.length<=8192) (aO (M6.cI A/\A.length<=1099511627776) (some [D.agg [sc (bool (isNeg C)),ints u64 (M6.dg C.natAbs)],D.s (sc (int i64 B))])):=cJ aU
def sp(x y:Bool×List Int):Prop×List D:=(iY x/\iY y,wE (fit (wv x*wv y).natAbs) (wv x*wv y))
theorem spec:eR E f93 aF qN qN sp:=by
 rintro x y ⟨hx,hy⟩;refine(start x.1 x.2 y.1 y.2).trans ?_;have l1:=hx.len;have l2:=hy.len;have f1:=fY.mM hx;have f2:=fY.mM hy;have hs:wv x*wv y=zs (x.1 !=y.1) (M6.val x.2*M6.val y.2):=by
  unfold wv zs;cases x.1 <;> cases y.1 <;> simp[Int.neg_mul,cGW]
 rw[gP,f1,bZH,bF,gP,f2,bZH,bF,fB,gP ⟨hx.1,hy.1,l1,l2⟩,gP (Kp (fun h=>by rw[show dO.oM _=_ from Cu]at h;exact zG h)),Jy,show dO.oM _=_ from Cu];unfold sp
 try dsimp only
 rw[hs,nA]
def aJ:dG:=orc2 qN qN sp
theorem ok:OK 93 aJ:=(dZ E aF (aA fY.ok (aA aNN.ok (aA Cg.ok aE))) func93).jR rfl spec
end aHC
namespace fZ
def E:=mE [(84,oR.aJ),(93,aHC.aJ),(67,mD.aJ)] 38 [22,35] [(3,[2,3,4])] [3]
def aF:=bd f57
theorem aU:Nk E aF:=nk
def J3 a b c d e f g h:=lE E f57 aF 3 [bM 0 35 [bC a,eF b,cV c],bM 1 35 [bC d,eF e,cV f],bM 2 35 [bC g,sc (slice none 0 0),cV h]]
theorem start a b c d e f:aG E f57 aF [D.agg [sc (bool a),ints u64 b,sc (int i64 c)],D.agg [sc (bool d),ints u64 e,sc (int i64 f)]]=aO (aW (a,b,c)) (aO (aW (d,e,f)) (fZ.J3 a b c d e f false 0)):=eJ aU
theorem fB a b c d e f g h:J3 a b c d e f g h=letI F:=wv (a,b)*wv (d,e);letI C:=i64.wrap (c+f);letI B:=bif fit F.natAbs then wv (a,b)*wv (d,e)else(0:Int);aO (iY (a,b)/\iY (d,e)) (aC (isNeg B) fun i=>aC (M6.dg B.natAbs) fun j=>letI A:=bif jD (wv (i,j)) C then bV (wv (i,j)) C else((0:Int),(0:Int));aC (bif fit F.natAbs then(0:Int)else(5:Int)) fun k=>aD (k !=0) (some [D.agg [sc (bool false),sc (slice none 0 0),sc (int i64 0)],D.s (sc (int i64 k))]) (aO (iY (i,j)/\(-9223372036854775808:Int)<=i64.wrap (c+f)/\i64.wrap (c+f)<9223372036854775808) (aC (isNeg A.fst) fun l=>aC (M6.dg A.fst.natAbs) fun m=>aC A.snd fun n=>aC (bif jD (wv (i,j)) C then(0:Int)else(5:Int)) fun o=>some [D.agg [sc (bool l),ints u64 m,sc (int i64 n)],D.s (sc (int i64 o))]))):=cJ aU
def uG(p q:Int×Int):Bool:=fit (p.1*q.1).natAbs&&jD (p.1*q.1) (p.2+q.2)
def hI(p q:Int×Int):Int×Int:=bV (p.1*q.1) (p.2+q.2)
def sp(x y:iW):Prop×List D:=(aW x/\aW y,dE (uG (dv x) (dv y)) (hI (dv x) (dv y)))
theorem spec:Ok E f57 aF jE jE sp:=by
 rintro x y ⟨hx,hy⟩;have ex:=hx.2.1;have ey:=hy.2.1;have s:=start x.1 x.2.1 x.2.2 y.1 y.2.1 y.2.2;have w:i64.wrap (x.2.2+y.2.2)=x.2.2+y.2.2:=wrap_i64;rw[gP hx,gP hy,fB]at s;simp only[aB]at s;have hz:wv (x.1,x.2.1)*wv (y.1,y.2.1)=(dv x).1*(dv y).1:=rfl;rw[gP ⟨hx.Le,hy.Le⟩,hz]at s;have h2:x.2.2+y.2.2=(dv x).2+(dv y).2:=rfl;unfold sp uG hI
 try dsimp only
 cases hf:fit ((dv x).1*(dv y).1).natAbs with
 |false =>
  rw[hf]at s;rw[cCU];refine⟨_,s,mD.tR _⟩
 |true =>
  rw[hf,cond_true,cond_true,gG rfl,w,gP ⟨gY (zG hf),by omega,by omega⟩,tB,h2]at s;rw[cAJ];exact⟨_,s,iV.refl _⟩
def aJ:dG:=orc2 jE jE sp
theorem ok:OK 57 aJ:=(dZ E aF (aA oR.ok (aA aHC.ok (aA mD.ok aE))) func57).aHY rfl spec
end fZ
namespace Ci
def E:=mE [] 9 [] [] []
def aF:=bd f130
theorem aU:Nk E aF:=nk
theorem start a:aG E f130 aF [D.s (sc (int i64 a))]=aD (decide (1<=a)) (some [D.s (sc (bool (decide (a<=70000))))]) (some [D.s (sc (bool false))]):=eJ aU
def sp(p:Int):Prop×List D:=(True,[.s (.sc (.bool (decide (1<=p)&&decide (p<=70000))))])
theorem spec:iD E f130 aF (pN .i64) sp:=by
 intro p h;refine(start p).trans ?_;unfold sp aD;cases (decide ((1:Int)<=p)) <;> cases (decide (p<=(70000:Int))) <;> rfl
def aJ:dG:=orc1 (pN .i64) sp
theorem ok:OK 130 aJ:=(dZ E aF aE func130).oS rfl spec
end Ci
namespace aNO
def E:=mE [(167,Cb.aJ)] 18 [] [] []
def aF:=bd f169
theorem aU:Nk E aF:=nk
theorem start a:aG E f169 aF [D.s (ints u64 a)]=letI B:=M6.dg (M6.val a);letI A:=(B.length:Int);aO (M6.bN a/\a.length<=1099511627776) (aD (decide (8192<A)) (some [D.s (sc (slice none 0 0)),D.s (sc (int i64 5))]) (if 0<=A/\A<=A/\A<=(8796093022208:Int)then some [D.own 23 u64 (cDG A.toNat B ++ cDH (min B.length A.toNat) (bZK A.toNat (0:Int))),D.s (sc (int i64 0))]else none)):=eJ aU
def sp(a:List Int):Prop×List D:=(M6.bN a/\a.length<=1099511627776,[.s (.ints .u64 (bif dO.oM (M6.val a)then M6.dg (M6.val a)else [])),.s (.sc (.int .i64 (bif dO.oM (M6.val a)then 0 else 5)))])
theorem spec:aSP E f169 aF (pI .u64) sp:=by
 intro a h;have hl:=M6.lW h.1;have h2:=h.2;have e:=(start a).trans (gP h);unfold sp dO.oM;simp only;generalize M6.dg (M6.val a)=d at *
 by_cases hc:d.length<=8192
 ·rw[aN,if_pos ⟨by omega,by omega,by omega⟩]at e;rw[decide_eq_true hc];refine⟨_,e,.cons ?_ (iV.refl _)⟩;simp only[cBF,cEH,Nat.min_self,cond_true];have:cDH d.length (bZK d.length (0:Int))=[]:=List.drop_eq_nil_of_le (by simp);rw[this,cAG];exact De.own _ _ _
 ·rw[aR]at e;rw[decide_eq_false hc];exact⟨_,e,.cons (De.nil _) (iV.refl _)⟩
def aJ:dG:=orc1 (pI .u64) sp
theorem ok:OK 169 aJ:=(dZ E aF (aA Cb.ok aE) func169).bFM rfl spec
end aNO
namespace aNQ
def E:=mE [(168,Gx.aJ)] 6 [] [] []
def aF:=bd f171
theorem aU:Nk E aF:=nk
theorem start a:aG E f171 aF [D.s (sc (int u64 a))]=aO (0<=a/\a<18446744073709551616) (some [D.s (sc (int i64 (i64.wrap ((64:Int)-(↑(bl a.toNat):Int)))))]):=eJ aU
def sp(a:Int):Prop×List D:=(0<=a/\a<18446744073709551616,[.s (.sc (.int .i64 (64-(bl a.toNat:Int))))])
theorem spec:iD E f171 aF (pN .u64) sp:=by
 intro a h;refine(start a).trans ((gP h).trans ?_);obtain⟨h1,h2⟩:=h;have:bl a.toNat<=64:=dX.2 (by omega);rw[wrap_i64];rfl
def aJ:dG:=orc1 (pN .u64) sp
theorem ok:OK 171 aJ:=(dZ E aF (aA Gx.ok aE) func171).oS rfl spec
end aNQ
namespace tL
def E:=mE [(171,aNQ.aJ)] 135 [] [(24,[2,8,9,10,14,15,16,17,18]),(17,[2,8,9,10,11,13,14,15,16]),(3,[0,1,2]),(5,[0,1,2]),(18,[2,8,9,10,11,13,14,15,16]),(21,[2,8,9,10,11,13,14,15]),(25,[2,8,9,10,14,15,16,17,18]),(28,[2,8,14,15,17,18])] [3,5,18,21,25,28]
def aF:=bd f202
theorem aU:Nk E aF:=nk
def J3 a b c:=lE E f202 aF 3 [dM a,dM b,dM c]
def J5 a b c:=lE E f202 aF 5 [dM a,dM b,dM c]
def aVA a b c d e f g h i:=nN E f202 aF 17 [dM a,dM b,dM c,dM d,dM e,dM f,dM g,dM h,dM i]
def bMJ a b c d e f g h i:=lE E f202 aF 18 [dM a,dM b,dM c,dM d,dM e,dM f,dM g,dM h,dM i]
def bFJ a b c d e f g h:=lE E f202 aF 21 [dM a,dM b,dM c,dM d,dM e,dM f,dM g,dM h]
def bFF a b c d e f g h i:=nN E f202 aF 24 [dM a,dM b,dM c,dM d,dM e,dM f,dM g,dM h,dM i]
def bMI a b c d e f g h i:=lE E f202 aF 25 [dM a,dM b,dM c,dM d,dM e,dM f,dM g,dM h,dM i]
def bFI a b c d e f:=lE E f202 aF 28 [dM a,dM b,dM c,dM d,dM e,dM f]
theorem start a b c:aG E f202 aF [D.s (sc (int u64 a)),D.s (sc (int u64 b)),D.s (sc (int u64 c))]=aD (c==0) none (tL.J3 a b c):=eJ aU
theorem fB a b c:J3 a b c=aD (decide (c<=a)) none (tL.J5 a b c):=cJ aU
theorem Oy a b c:J5 a b c=letI C:=(↑(bl c.toNat):Int);letI H:=u64.wrap ((64:Int)-C);letI B:=b/(↑((2:Nat)^min (u64.wrap ((64:Int)-u64.wrap ((64:Int)-C))).toNat 64):Int);letI A:=(↑((2:Nat)^min H.toNat 64):Int);letI G:=fU BinOp.or u64 (u64.wrap (a*A)) B;letI F:=u64.wrap (c*A)/4294967296;aD (a==0) (if c=0 then none else if c=0 then none else some [D.s (sc (int u64 (u64.wrap (b.tdiv c)))),D.s (sc (int u64 (b.tmod c)))]) (aO (0<=c/\c<18446744073709551616) (if u64.wrap ((64:Int)-C)<0 then none else if u64.wrap ((64:Int)-C)<0 then none else if u64.wrap ((64:Int)-u64.wrap ((64:Int)-C))<0 then none else if u64.wrap ((64:Int)-C)<0 then none else if u64.wrap (c*A)/4294967296=(0:Int)then none else tL.aVA (u64.wrap (c*A)) H F (fU BinOp.and u64 (u64.wrap (c*A)) 4294967295) G (u64.wrap (b*A)/4294967296) (fU BinOp.and u64 (u64.wrap (b*A)) 4294967295) (u64.wrap (G.tdiv F)) (u64.wrap (fU BinOp.or u64 (u64.wrap (a*A)) B-u64.wrap (u64.wrap (G.tdiv F)*F))))):=cJ aU
theorem aZT a b c d e f g h i:aVA a b c d e f g h i=letI A:=tL.bMJ a b c d e f g h i;aD (decide (4294967296<=h)) A (aD (decide (u64.wrap (u64.wrap ((4294967296:Int)*i)+f)<u64.wrap (h*d))) A (tL.bFJ a b c d e f g h)):=lJ aU
theorem aZY a b c d e f g h i:bMJ a b c d e f g h i=aD (decide (4294967296<=u64.wrap (i+c))) (tL.bFJ a b c d e f g (u64.wrap (h-1))) (tL.aVA a b c d e f g (u64.wrap (h-1)) (u64.wrap (i+c))):=cJ aU
theorem aZX a b c d e f g h:bFJ a b c d e f g h=letI A:=u64.wrap (u64.wrap (e*4294967296)+f)-u64.wrap (h*a);letI B:=u64.wrap A;if c=0 then none else tL.bFF a b c d g h (u64.wrap (u64.wrap A-u64.wrap (u64.wrap (B.tdiv c)*c))) B (u64.wrap (B.tdiv c)):=cJ aU
theorem aZS a b c d e f g h i:bFF a b c d e f g h i=letI A:=tL.bMI a b c d e f g h i;aD (decide (4294967296<=i)) A (aD (decide (u64.wrap (u64.wrap ((4294967296:Int)*g)+e)<u64.wrap (i*d))) A (tL.bFI a b e f h i)):=lJ aU
theorem aZW a b c d e f g h i:bMI a b c d e f g h i=aD (decide (4294967296<=u64.wrap (g+c))) (tL.bFI a b e f h (u64.wrap (i-1))) (tL.bFF a b c d e f (u64.wrap (g+c)) h (u64.wrap (i-1))):=cJ aU
theorem aZV a b c d e f:bFI a b c d e f=if b<0 then none else some [D.s (sc (int u64 (u64.wrap (u64.wrap (d*4294967296)+f)))),D.s (sc (int u64 (u64.wrap (u64.wrap (u64.wrap (e*4294967296)+c)-u64.wrap (f*a))/(↑((2:Nat)^min b.toNat 64):Int))))]:=cJ aU
theorem aHX{n:Nat}(h:n<18446744073709551616):u64.wrap (n:Int)=(n:Int):=wrap_u64 (cHN _) (Int.ofNat_lt.2 h)
theorem loop{y1 y0 u u1:Nat}(aKQ:2147483648<=y1)(aWP:y1<4294967296)(aKR:y0<4294967296)(hu:u<y1*4294967296+y0)(aHM:u1<4294967296)
  (Lf Jf:Int->Int->Option (List D)) (Kf:Int->Option (List D))
  (hL:∀q r,Lf q r=aD (decide (4294967296<=q)) (Jf q r) (aD (decide (u64.wrap (u64.wrap (4294967296*r)+(u1:Int))<u64.wrap (q*(y0:Int)))) (Jf q r) (Kf q)))
  (hJ:∀q r,Jf q r=aD (decide (4294967296<=u64.wrap (r+(y1:Int)))) (Kf (u64.wrap (q-1))) (Lf (u64.wrap (q-1)) (u64.wrap (r+(y1:Int))))) :
  ∀(q r:Nat),u=q*y1+r->r<4294967296->u*4294967296+u1<(q+1)*(y1*4294967296+y0) ->
   Lf (q:Int) (r:Int)=Kf (((u*4294967296+u1)/(y1*4294967296+y0):Nat):Int):=by
 have hy:0<y1*4294967296+y0:=by omega
 intro q
 induction q with
 |zero =>
  intro r h1 h2 h3;have h0:(u*4294967296+u1)/(y1*4294967296+y0)=0:=cCW (by omega);rw[hL,aN,h0,show(((0:Nat):Int)*(y0:Int))=0 from by omega,wrap_u64 (n:=0),aN ?_];rw[wrap_u64 (n:=4294967296*(r:Int)),wrap_u64];omega
 |succ q ih =>
  intro r h1 h2 h3;have hq:q<=4294967296:=by
   refine cFW fun hc=>?_
   have:4294967297*y1<=q*y1:=cBK _ hc;rw[bZU]at h1;omega
  have w1:u64.wrap (((q+1:Nat):Int)-1)=(q:Int):=by rw[wrap_u64];omega
  have w2:u64.wrap ((r:Int)+(y1:Int))=((r+y1:Nat):Int):=by rw[wrap_u64];omega
  have hle:(q+1)*y0<=4294967297*4294967295:=cIC (by omega) (by omega);have w3:u64.wrap (((q+1:Nat):Int)*(y0:Int))=(((q+1)*y0:Nat):Int):=by
   rw[<-cDY];exact wrap_u64
  have w4:u64.wrap (u64.wrap (4294967296*(r:Int))+(u1:Int))=((4294967296*r+u1:Nat):Int):=by
   rw[wrap_u64 (n:=4294967296*(r:Int)),wrap_u64];omega
  have ex:(q+1)*(y1*4294967296+y0)=(q*y1+y1)*4294967296+(q+1)*y0:=by
   rw[cCO,<-cCN,bZU q 1 y1,cBL]
  have bVU:q*(y1*4294967296+y0)=(q*y1)*4294967296+q*y0:=by
   rw[cCO,<-cCN]
  have aDW:u=q*y1+(r+y1):=by rw[bZU]at h1;omega
  have aGC:u*4294967296+u1<(q+1)*(y1*4294967296+y0)->Jf ((q+1:Nat):Int) r=Kf (((u*4294967296+u1)/(y1*4294967296+y0):Nat):Int):=by
   intro hT;rw[hJ,w1,w2]
   by_cases hc:4294967296<=r+y1
   ·have aOT:q*y0<=4294967296*4294967295:=cIC hq (by omega);have:(u*4294967296+u1)/(y1*4294967296+y0)=q:=by
     refine cFZ ?_ hT;rw[bVU,aDW];omega
    rw[aR,this]
   ·rw[aN];exact ih (r+y1) aDW (by omega) hT
  rw[hL,w3,w4]
  by_cases hb:4294967296<=q+1
  ·rw[aR];apply aGC;have:4294967296*(y1*4294967296+y0)<=(q+1)*(y1*4294967296+y0):=cBK _ hb;omega
  ·rw[aN]
   by_cases hc:4294967296*r+u1<(q+1)*y0
   ·rw[aR];apply aGC;rw[ex];omega
   ·have:(u*4294967296+u1)/(y1*4294967296+y0)=q+1:=by
     refine cFZ ?_ h3;rw[ex,aDW];rw[bZU (q*y1)];omega
    rw[aN,this]
theorem bBM(P b Q:Int):u64.wrap (u64.wrap (u64.wrap P+b)-u64.wrap Q)=u64.wrap (P+b-Q):=by
 rw[gA,gA,gA,gA,gA];omega
theorem bCJ{u u1 y:Nat}(hy:0<y)(bIH:y<=18446744073709551616):u64.wrap ((u:Int)*4294967296+(u1:Int)-(((u*4294967296+u1)/y:Nat):Int)*(y:Int))=(((u*4294967296+u1)%y:Nat):Int):=by
 have h:=cCS (u*4294967296+u1) y;have hm:=bZR (u*4294967296+u1) hy;rw[<-cDY,cCI _ y];generalize y*((u*4294967296+u1)/y)=z at *;generalize (u*4294967296+u1)%y=m at *;rw[wrap_u64];omega
theorem bCL{y1 y0 u u1 u0 s:Nat}(aKQ:2147483648<=y1)(aWP:y1<4294967296)(aKR:y0<4294967296)(hu:u<y1*4294967296+y0)(aHM:u1<4294967296)(aUE:u0<4294967296)(hs:s<=63) :
  aVA ((y1*4294967296+y0:Nat):Int) s y1 y0 u u1 u0 ((u/y1:Nat):Int) ((u%y1:Nat):Int) =
   some [D.s (.sc (.int .u64 (((u*18446744073709551616+(u1*4294967296+u0))/(y1*4294967296+y0):Nat):Int))),D.s (.sc (.int .u64 (((u*18446744073709551616+(u1*4294967296+u0))%(y1*4294967296+y0)/2^s:Nat):Int)))]:=by
 have hy:0<y1*4294967296+y0:=by omega
 have aJD:∀v:Nat,∀w:Nat,w<4294967296->v*4294967296+w<(v/y1+1)*(y1*4294967296+y0):=by
  intro v w hw;have h:=cCS v y1;have hm:=bZR v (show 0<y1 by omega);have:(v/y1+1)*(y1*4294967296+y0)=(y1*(v/y1)+y1)*4294967296+(v/y1+1)*y0:=by
   rw[cCO,<-cCN,bZU,cBL,cCI y1]
  rw[this];omega
 have dm:∀v:Nat,v=v/y1*y1+v%y1:=by
  intro v;rw[cCI];exact(cCS v y1).symm
 obtain⟨Y,hY⟩:∃Y:Int,Y=((y1*4294967296+y0:Nat):Int):=⟨_,rfl⟩;rw[<-hY];have l1:aVA Y s y1 y0 u u1 u0 ((u/y1:Nat):Int) ((u%y1:Nat):Int)=bFJ Y s y1 y0 u u1 u0 (((u*4294967296+u1)/(y1*4294967296+y0):Nat):Int) :=
  loop aKQ aWP aKR hu aHM (aVA Y s y1 y0 u u1 u0) (bMJ Y s y1 y0 u u1 u0) (bFJ Y s y1 y0 u u1 u0) (fun q r=>aZT ..) (fun q r=>aZY ..) (u/y1) (u%y1) (dm u) (by have:=bZR u (show 0<y1 by omega);omega) (aJD u u1 aHM)
 refine l1.trans ?_;rw[aZX,bG,bBM];have m1:=bCJ (u:=u) (u1:=u1) hy (by omega);rw[<-hY]at m1;rw[m1];obtain⟨q1,Sz⟩:∃q1,(u*4294967296+u1)/(y1*4294967296+y0)=q1:=⟨_,rfl⟩;rw[Sz];have hv:=bZR (u*4294967296+u1) hy;have hT:=cCS (u*4294967296+u1) (y1*4294967296+y0);rw[Sz]at hT;obtain⟨v,bSD⟩:∃v,(u*4294967296+u1)%(y1*4294967296+y0)=v:=⟨_,rfl⟩;rw[bSD]at hv hT ⊢;have hd:v/y1<=v:=cDK _ _;have w5:u64.wrap ((v:Int).tdiv (y1:Int))=((v/y1:Nat):Int):=by
  rw[cEF (by omega),<-cDA];exact aHX (by omega)
 have w6:u64.wrap ((v:Int)-u64.wrap (((v/y1:Nat):Int)*(y1:Int)))=((v%y1:Nat):Int):=by
  have:=dm v;have hm:=bZR v (show 0<y1 by omega);rw[<-cDY];generalize v/y1*y1=z at *;generalize v%y1=m at *;rw[wrap_u64 (n:=(z:Int)),wrap_u64];omega
 have l2:bFF Y s y1 y0 u0 q1 ((v%y1:Nat):Int) v ((v/y1:Nat):Int)=bFI Y s u0 q1 v (((v*4294967296+u0)/(y1*4294967296+y0):Nat):Int) :=
  loop aKQ aWP aKR hv aUE (fun q r=>bFF Y s y1 y0 u0 q1 r v q) (fun q r=>bMI Y s y1 y0 u0 q1 r v q) (bFI Y s u0 q1 v) (fun q r=>aZS ..) (fun q r=>aZW ..) (v/y1) (v%y1) (dm v) (by have:=bZR v (show 0<y1 by omega);omega) (aJD v u0 aUE)
 rw[w5,w6,l2];rw[aZV,bG,bBM];have m2:=bCJ (u:=v) (u1:=u0) hy (by omega);rw[<-hY]at m2;rw[m2];have hw:=bZR (v*4294967296+u0) hy;have hT0:=cCS (v*4294967296+u0) (y1*4294967296+y0);have aOT:(v*4294967296+u0)/(y1*4294967296+y0)<4294967296:=cDC (by omega);have hq1':q1<4294967296:=by rw[<-Sz];exact cDC (by omega)
 obtain⟨q0,bSS⟩:∃q0,(v*4294967296+u0)/(y1*4294967296+y0)=q0:=⟨_,rfl⟩;obtain⟨w,bSA⟩:∃w,(v*4294967296+u0)%(y1*4294967296+y0)=w:=⟨_,rfl⟩;rw[bSS]at hT0 aOT ⊢;rw[bSA]at hT0 hw ⊢;have key:u*18446744073709551616+(u1*4294967296+u0)=(y1*4294967296+y0)*(q1*4294967296+q0)+w:=by
  rw[cCO,<-cCN];generalize (y1*4294967296+y0)*q1=A at *;generalize (y1*4294967296+y0)*q0=C at *;omega
 rw[key,cHM hy,cCW hw,cJR,cIZ hw,bYI,cBF,show min s 64=s from by omega];have w7:u64.wrap (u64.wrap ((q1:Int)*4294967296)+(q0:Int))=((q1*4294967296+q0:Nat):Int):=by
  rw[wrap_u64 (n:=(q1:Int)*4294967296),wrap_u64];omega
 rw[w7,<-cDA]
def sp(a b c:Int):Prop×List D:=((0<=a/\a<c)/\(0<=b/\b<18446744073709551616)/\c<18446744073709551616,[.s (.sc (.int .u64 (((a.toNat*18446744073709551616+b.toNat)/c.toNat:Nat):Int))),.s (.sc (.int .u64 (((a.toNat*18446744073709551616+b.toNat)%c.toNat:Nat):Int)))])
theorem spec:sR E f202 aF (pN .u64) (pN .u64) (pN .u64) sp:=by
 rintro a b c ⟨⟨h1,h2⟩,⟨h3,h4⟩,h5⟩;refine(start a b c).trans ?_;obtain⟨x,rfl⟩:=cCM h1;obtain⟨l,rfl⟩:=cCM h3;obtain⟨y,rfl⟩:=cCM (show 0<=c by omega);show _=some [D.s (.sc (.int .u64 ((((x:Int).toNat*18446744073709551616+(l:Int).toNat)/(y:Int).toNat:Nat):Int))),D.s (.sc (.int .u64 ((((x:Int).toNat*18446744073709551616+(l:Int).toNat)%(y:Int).toNat:Nat):Int)))];rw[cBF,cBF,cBF,cO,fB,aN,Oy]
 by_cases hx:x=0
 ·subst hx;have hd:l/y<=l:=cDK _ _;rw[cL (a:=((0:Nat):Int)) (b:=0) rfl,bG,bG,cEF (by omega),cEG (by omega),<-cDA,<-cED,aHX (by omega),cFO,bXL]
 ·have aKR:y≠0:=by omega
  have bKL:=oO aKR;have hb64:bl y<=64:=dX.2 (by omega);have Ao:=Rg aKR;have jM:=wP y;obtain⟨s,hs⟩:∃s,s=64-bl y:=⟨_,rfl⟩;have bIZ:s<=63:=by omega
  have w1:u64.wrap (64-(bl y:Int))=(s:Int):=by rw[wrap_u64];omega
  have w2:u64.wrap (64-(s:Int))=((64-s:Nat):Int):=by rw[wrap_u64];omega
  have aGM:2^(64-s)*2^s=18446744073709551616:=by rw[<-cCH,show 64-s+s=64 from by omega]
  have bEN:2^(bl y-1)*2^s=9223372036854775808:=by rw[<-cCH,show bl y-1+s=63 from by omega]
  have Ta:0<2^s:=cB;have hyp:y+1<=2^(64-s):=by rw[show 64-s=bl y from by omega];omega
  have bIG:(y+1)*2^s<=18446744073709551616:=by rw[<-aGM];exact cBK _ hyp
  have hyp2:9223372036854775808<=y*2^s:=by rw[<-bEN];exact cBK _ Ao
  have bAK:(x+1)*2^s<=y*2^s:=cBK _ (by omega);rw[bZU,cBL]at bIG bAK;have wy:u64.wrap ((y:Int)*((2^s:Nat):Int))=((y*2^s:Nat):Int):=by rw[<-cDY];exact wrap_u64
  have wx:u64.wrap ((x:Int)*((2^s:Nat):Int))=((x*2^s:Nat):Int):=by rw[<-cDY];exact wrap_u64
  have wl:u64.wrap ((l:Int)*((2^s:Nat):Int))=((l*2^s%18446744073709551616:Nat):Int):=by rw[<-cDY,gA];omega
  have Uz:l/2^(64-s)<2^s:=by
   apply cDC;rw[aGM];omega
  have aWU:=Hh l s (by omega);have bML:fU .or .u64 ((x*2^s:Nat):Int) (((l/2^(64-s):Nat)):Int)=((x*2^s+l/2^(64-s):Nat):Int):=by
   have:=Sl (n:=x) Uz;rw[aQF (by omega) (by omega) (by omega) (by omega),cBF,cBF,Nat.or_comm,cCI x,this,cDO]
  have bBN:∀z:Nat,z<18446744073709551616->fU .and .u64 (z:Int) 4294967295=((z%4294967296:Nat):Int):=by
   intro z hz;rw[kM (by omega) (by omega)];omega
  rw[cO,gP ⟨by omega,by omega⟩,cBF,w1,w2,bG,bG,bG,bG,
   cBF,cBF,show min s 64=s from by omega,show min (64-s) 64=64-s from by omega,wy,wx,wl,<-cDA l,bML]
  have hu:x*2^s+l/2^(64-s)<y*2^s:=by omega
  have hU:(x*18446744073709551616+l)*2^s=(x*2^s+l/2^(64-s))*18446744073709551616+l*2^s%18446744073709551616:=by
   rw[bZU,aWU,cIP];omega
  have bTF:l*2^s%18446744073709551616<18446744073709551616:=bZR _ (by omega);have hdiv:(x*18446744073709551616+l)/y=((x*2^s+l/2^(64-s))*18446744073709551616+l*2^s%18446744073709551616)/(y*2^s):=by
   rw[<-hU,cGU _ _ Ta]
  have bDJ:(x*18446744073709551616+l)%y=((x*2^s+l/2^(64-s))*18446744073709551616+l*2^s%18446744073709551616)%(y*2^s)/2^s:=by
   rw[<-hU,cGV,cHW _ Ta]
  rw[hdiv,bDJ];clear hdiv bDJ hU bML wl wx wy aWU Uz bAK;generalize x*2^s+l/2^(64-s)=U at *;generalize y*2^s=Y at *;generalize l*2^s%18446744073709551616=V at *;have k:=bCL (y1:=Y/4294967296) (y0:=Y%4294967296) (u:=U) (u1:=V/4294967296) (u0:=V%4294967296) (s:=s) (by omega) (by omega) (by omega) (by omega) (by omega) (by omega) bIZ;rw[show Y/4294967296*4294967296+Y%4294967296=Y from by omega,show V/4294967296*4294967296+V%4294967296=V from by omega]at k;have bUS:(Y:Int)/4294967296=((Y/4294967296:Nat):Int):=by omega
  have bOV:(V:Int)/4294967296=((V/4294967296:Nat):Int):=by omega
  have hd:U/(Y/4294967296)<=U:=cDK _ _;have bAW:=cCS U (Y/4294967296);have q1:u64.wrap ((U:Int).tdiv ((Y/4294967296:Nat):Int))=((U/(Y/4294967296):Nat):Int):=by
   rw[cEF (by omega),<-cDA];exact aHX (by omega)
  have r1:u64.wrap ((U:Int)-u64.wrap (((U/(Y/4294967296):Nat):Int)*((Y/4294967296:Nat):Int)))=((U%(Y/4294967296):Nat):Int):=by
   rw[<-cDY,cCI];generalize Y/4294967296*(U/(Y/4294967296))=z at *;generalize U%(Y/4294967296)=m at *;rw[wrap_u64 (n:=(z:Int)),wrap_u64];omega
  rw[bUS,bOV,bG,bBN _ (by omega),bBN _ bTF,q1,r1];exact k
def aJ:dG:=orc3 (pN .u64) (pN .u64) (pN .u64) sp
theorem ok:OK 202 aJ:=(dZ E aF (aA aNQ.ok aE) func202).Cq rfl spec
end tL
namespace oZ
def E:=mE [(147,gV.aJ),(149,dO.aJ),(202,tL.aJ)] 45 [34,40] [(8,[0,1,7,8,9])] []
def aF:=bd f170
theorem aU:Nk E aF:=nk
def L8 a b (c:Nat) (d:List Int) e f:=nN E f170 aF 8 [iU a,dM b,Dg 2 c 23 d,dM e,bK f]
theorem start a b:aG E f170 aF [D.s (ints u64 a),D.s (sc (int u64 b))]=letI B:=sc (slice none 0 0);letI A:=(a.length:Int);aO (a.length<=1099511627776) (aD (!gV.qO a) (some [D.s B,D.s (sc (int u64 0)),D.s (sc (int i64 2))]) (aD (b==0) (some [D.s B,D.s (sc (int u64 0)),D.s (sc (int i64 4))]) (if 0<=A/\A<=A/\A<=(8796093022208:Int)then oZ.L8 a b A.toNat (bZK A.toNat (0:Int)) 0 (i64.wrap (A-(1:Int)))else none))):=eJ aU
theorem yL a b c d e f:L8 a b c d e f=letI A:=e.toNat*18446744073709551616+(a.getD f.toNat 0).toNat;aD (decide (0<=f)) (if 0<=f/\f<(a.length:Int)then aO ((0<=e/\e<b)/\(0<=a.getD f.toNat 0/\a.getD f.toNat 0<(18446744073709551616:Int))/\b<18446744073709551616) (if 0<=f/\f<(c:Int)then oZ.L8 a b c (d.set f.toNat (↑(A/b.toNat):Int)) (↑(A%b.toNat):Int) (i64.wrap (f-1))else none)else none) (aO (M6.bN d/\d.length<=1099511627776) (some [D.s (ints u64 (bif dO.oM (M6.val d)then M6.dg (M6.val d)else [])),D.s (sc (int u64 e)),D.s (sc (int i64 0))])):=lJ aU
theorem L{a:List Int}{b:Nat}(ha:M6.cI a)(hl:a.length<=8192)(hb0:0<b)(hb:b<18446744073709551616):∀(i:Nat) (Q:List Int),i+Q.length=a.length->M6.bN Q->M6.val Q=M6.val (a.drop i)/b ->
  L8 a b a.length (bZK i 0 ++ Q) ((M6.val (a.drop i)%b:Nat):Int) ((i:Int)-1)=some [D.s (.ints .u64 (M6.dg (M6.val a/b))),D.s (.sc (.int .u64 ((M6.val a%b:Nat):Int))),D.s (.sc (.int .i64 0))]:=by
 intro i
 induction i with
 |zero =>
  intro Q hi hd hv;have Wo:dO.oM (M6.val a/b)=true:=by
   refine decide_eq_true ?_;rw[cDT]at hv;rw[<-hv];have:=M6.lW hd;omega
  rw[cDT]at hv ⊢;rw[List.replicate_zero,cBJ,yL,aN,gP ⟨hd,by omega⟩,hv,Wo];rfl
 |succ i ih =>
  intro Q hi hd hv;have g:=ha.gT.get i;have hm:=bZR (M6.val (a.drop (i+1))) hb0;have bAW:=cCS (M6.val (a.drop (i+1))) b;have w:i64.wrap ((i:Int)-1)=(i:Int)-1:=by rw[wrap_i64]
  have hs:(bZK i (0:Int) ++ 0 :: Q).set i ((((M6.val (a.drop (i+1))%b)*18446744073709551616+(a.getD i 0).toNat)/b:Nat):Int)=bZK i 0 ++ (((((M6.val (a.drop (i+1))%b)*18446744073709551616+(a.getD i 0).toNat)/b:Nat):Int) :: Q):=Hk (by simp) _ _ _;have hN:M6.val (a.drop i)=b*(18446744073709551616*(M6.val (a.drop (i+1))/b))+((M6.val (a.drop (i+1))%b)*18446744073709551616+(a.getD i 0).toNat):=by
   rw[M6.gB,cEJ];generalize b*(M6.val (a.drop (i+1))/b)=z at *;omega
  have hq:((M6.val (a.drop (i+1))%b)*18446744073709551616+(a.getD i 0).toNat)/b<18446744073709551616:=by
   apply cDC;have:(M6.val (a.drop (i+1))%b+1)*18446744073709551616<=b*18446744073709551616:=cBK _ hm;omega
  have aUQ:(0:Int)<=((M6.val (a.drop (i+1))%b:Nat):Int)/\((M6.val (a.drop (i+1))%b:Nat):Int)<(b:Int):=⟨cHN _,Int.ofNat_lt.2 hm⟩;have aUK:=ih (((((M6.val (a.drop (i+1))%b)*18446744073709551616+(a.getD i 0).toNat)/b:Nat):Int) :: Q) (by rw[List.length_cons];omega) (M6.jY.2 ⟨⟨cHN _,Int.ofNat_lt.2 hq⟩,hd⟩) (by
    show(((((M6.val (a.drop (i+1))%b)*18446744073709551616+(a.getD i 0).toNat)/b:Nat):Int)).toNat+18446744073709551616*M6.val Q=_;rw[cBF,hN,cHM hb0,hv,cDO])
  rw[yL,show(((i+1:Nat):Int)-1)=(i:Int)from by omega,aR,if_pos ⟨by omega,by omega⟩,cBF,gP ⟨aUQ,g,by omega⟩,if_pos ⟨by omega,by omega⟩,cBF,cBF,w,List.replicate_succ',bYY,cEI,hs];rw[hN,cJR]at aUK;exact aUK
def sp(a:List Int)(n:Int):Prop×List D:=(M6.cI a/\a.length<=8192/\0<n/\n<18446744073709551616,[.s (.ints .u64 (M6.dg (M6.val a/n.toNat))),.s (.sc (.int .u64 ((M6.val a%n.toNat:Nat):Int))),.s (.sc (.int .i64 0))])
theorem spec:eR E f170 aF (pI .u64) (pN .u64) sp:=by
 rintro a n ⟨ha,hl,h0,h1⟩;obtain⟨b,rfl⟩:=cCM (show 0<=n by omega);refine(start a b).trans ?_;show _=some [D.s (.ints .u64 (M6.dg (M6.val a/(b:Int).toNat))),D.s (.sc (.int .u64 ((M6.val a%(b:Int).toNat:Nat):Int))),D.s (.sc (.int .i64 0))];have w:i64.wrap ((a.length:Int)-1)=(a.length:Int)-1:=by rw[wrap_i64]
 rw[cBF,cBF,gP,gV.pD ha hl,bZH,bF,cO,if_pos ⟨by omega,by omega,by omega⟩,w];have:=L (b:=b) ha hl (by omega) (by omega) a.length [] (by simp) M6.lB (by simp[M6.val]);rw[cAG,List.drop_length]at this;simp only[M6.val,cFQ]at this;exact this
def aJ:dG:=orc2 (pI .u64) (pN .u64) sp
theorem ok:OK 170 aJ:=(dZ E aF (aA gV.ok (aA dO.ok (aA tL.ok aE))) func170).jR rfl spec
end oZ
namespace Bv
def E:=mE [] 43 [] [(7,[1,7,8,19,20])] []
def aF:=bd f172
theorem aU:Nk E aF:=nk
def L7 a (b:Nat) (c:List Int) d e f:=nN E f172 aF 7 [bK a,Dg 1 b 23 c,dM d,bK e,bK f]
theorem start a b c:aG E f172 aF [D.s (ints u64 a),D.s (sc (int i64 b)),D.s (sc (int i64 c))]=letI A:=cDG c.toNat a ++ cDH (min a.length c.toNat) (bZK c.toNat (0:Int));if 0<=c/\c<=c/\c<=8796093022208 then aD (b==0) (some [D.own 23 u64 A]) (Bv.L7 b c.toNat A 0 (c.toNat:Int) 0)else none:=eJ aU
theorem yM a b c d e f:L7 a b c d e f=aD (decide (f<e)) (if 0<=f/\f<(b:Int)then if a<0 then none else if 0<=f/\f<(b:Int)then if i64.wrap ((64:Int)-a)<0 then none else if 0<=f/\f<(b:Int)then Bv.L7 a b (c.set f.toNat (fU BinOp.or u64 (u64.wrap (c.getD f.toNat 0*(↑((2:Nat)^min a.toNat 64):Int))) d)) (c.getD f.toNat 0/(↑((2:Nat)^min (i64.wrap ((64:Int)-a)).toNat 64):Int)) e (i64.wrap (f+1))else none else none else none) (some [D.own 23 u64 c]):=lJ aU
def sp(a:List Int)(s n:Int):Prop×List D:=(M6.bN a/\0<=s/\s<64/\0<=n/\a.length<=n.toNat/\n<=549755813888/\M6.val a*2^s.toNat<18446744073709551616^n.toNat,[.own gN .u64 (M6.oL n.toNat (M6.val a*2^s.toNat))])
theorem L{A:List Int}{s n:Nat}(hA:M6.bN A)(bKY:A.length=n)(hn:n<=549755813888)(Pk:0<s)(hs:s<64)(hT:M6.val A*2^s<18446744073709551616^n):∀(r i:Nat) (P:List Int) (c:Int),i+r=n->P.length=i->M6.bN P->0<=c->c<((2^s:Nat):Int) ->
  M6.val P+18446744073709551616^i*c.toNat=M6.val (A.take i)*2^s ->
  L7 s n (P ++ A.drop i) c n i=some [.own gN .u64 (M6.oL n (M6.val A*2^s))]:=by
 have Ta:2^s<2^64:=cEE (by omega) hs;intro r
 induction r with
 |zero =>
  intro i P c hi hP hd h0 h1 hv;have Zx:i=n:=by omega
  subst Zx;rw[M6.cA (by omega)]at hv;have hc:c=0:=by
   rcases cJJ 0 c with h |h
   ·have h2:18446744073709551616^i*1<=18446744073709551616^i*c.toNat:=bZW _ (by omega);omega
   ·omega
  subst hc;simp at hv;rw[yM,aN,cJH (by omega),cAG,M6.oU hd hP hv]
 |succ r ih =>
  intro i P c hi hP hd h0 h1 hv;have g:=hA.get i;have w1:i64.wrap ((i:Int)+1)=((i+1:Nat):Int):=by rw[wrap_i64];omega
  have w3:i64.wrap (64-(s:Int))=((64-s:Nat):Int):=by rw[wrap_i64];omega
  have m1:min s 64=s:=by omega
  have m2:min (64-s) 64=64-s:=by omega
  have aLD:A.drop i=A.getD i 0 :: A.drop (i+1):=by
   rw[List.drop_eq_getElem_cons (by omega)];simp[cCQ,List.getElem?_eq_getElem (show i<A.length by omega)]
  obtain⟨x,hx⟩:=cCM g.1;have jM:x*2^s%18446744073709551616<18446744073709551616:=bZR _ (by omega);have Uz:u64.wrap ((x:Int)*((2^s:Nat):Int))=((x*2^s%18446744073709551616:Nat):Int):=by
   rw[gA,<-cDY,cED];rfl
  have aQX:c.toNat+x*2^s%18446744073709551616<18446744073709551616:=by
   rw[Kb x s hs];have hm:x%2^(64-s)<2^(64-s):=bZR _ (cB);have e:(18446744073709551616:Nat)=2^s*2^(64-s):=by rw[<-cCH,show s+(64-s)=64 from by omega]
   have h3:2^s*(x%2^(64-s)+1)<=2^s*2^(64-s):=bZW _ hm;rw[<-e,cCO]at h3;omega
  have bDA:fU .or .u64 ((x*2^s%18446744073709551616:Nat):Int) c=c+((x*2^s%18446744073709551616:Nat):Int):=by
   rw[aQF (by omega) (by omega) h0 (by omega),cBF,Nat.or_comm,Kb x s hs,Sl (by omega)];omega
  have Wv:x/2^(64-s)<2^s:=by
   apply cDC;rw[<-cCH,show 64-s+s=64 from by omega];omega
  rw[aLD,yM,aR,aT,bG,aT,w3,bG,aT,w1,cBF,cBF,cBF,m1,m2,Hx hP,Hk hP,hx,Uz,bDA];have aWU:=Hh x s hs;have:=ih (i+1) (P ++ [c+((x*2^s%18446744073709551616:Nat):Int)]) ((x/2^(64-s):Nat):Int) (by omega) (by simp[hP]) (M6.kU hd ⟨by omega,by omega⟩) (by omega) (by omega) (by
   rw[M6.kR,hP,M6.bR,hx,cBF,cBF,cCK,cCN,bZU];have e1:(c+(((x*2^s%18446744073709551616:Nat)):Int)).toNat=c.toNat+x*2^s%18446744073709551616:=by omega
   rw[e1];have e2:18446744073709551616^i*(c.toNat+x*2^s%18446744073709551616)+18446744073709551616^i*(18446744073709551616*(x/2^(64-s)))=18446744073709551616^i*c.toNat+18446744073709551616^i*x*2^s:=by
    rw[cCN,<-cCO,<-cCO];congr 1;omega
   omega)
  rw[bYY,cEI,cDA]at this;exact this
theorem spec:sR E f172 aF (pI .u64) (pN .i64) (pN .i64) sp:=by
 rintro a s n ⟨hd,Pk,hs,aHQ,hl,hn,hT⟩;obtain⟨s,rfl⟩:=cCM Pk;obtain⟨n,rfl⟩:=cCM aHQ;simp only[sp,cBF]at hl hT ⊢;refine(start a s n).trans ?_;have hA:cDG n a ++ cDH (min a.length n) (bZK n (0:Int))=a ++ bZK (n-a.length) 0:=by
  rw[cFG hl,cJK,cDS hl]
 have aDV:M6.val (a ++ bZK (n-a.length) 0)=M6.val a:=by rw[M6.iE,M6.gW];omega
 have bOZ:M6.bN (a ++ bZK (n-a.length) 0):=M6.lS.2 ⟨hd,M6.gM _⟩;have bKY:(a ++ bZK (n-a.length) 0).length=n:=by simp;omega
 rw[aT,cBF,hA]
 by_cases hz:s=0
 ·subst hz;rw[cL (by rfl),cEN,bYB,M6.oU bOZ bKY aDV]
 ·rw[cO];have hp:0<((2^s:Nat):Int):=by
   have:0<2^s:=cB;omega
  have:=L (s:=s) bOZ bKY (by omega) (by omega) (by omega) (by rw[aDV];exact hT) n 0 [] 0 (by omega) rfl M6.lB (by omega) hp (by simp[M6.val]);rw[cBJ,cDT,aDV]at this;exact this
def aJ:dG:=orc3 (pI .u64) (pN .i64) (pN .i64) sp
theorem ok:OK 172 aJ:=(dZ E aF aE func172).Cq rfl spec
end Bv
namespace aAY
def E:=mE [(202,tL.aJ)] 20 [16] [] []
def aF:=bd f203
theorem aU:Nk E aF:=nk
theorem start a b c:aG E f203 aF [D.s (sc (int u64 a)),D.s (sc (int u64 b)),D.s (sc (int u64 c))]=aD (decide (c<=a)) (some [D.s (sc (int u64 18446744073709551615))]) (aO ((0<=a/\a<c)/\(0<=b/\b<18446744073709551616)/\c<18446744073709551616) (some [D.s (sc (int u64 (↑((a.toNat*18446744073709551616+b.toNat)/c.toNat):Int)))])):=eJ aU
def sp(a b c:Int):Prop×List D:=(0<=a/\0<=b/\b<18446744073709551616/\c<18446744073709551616,[.s (.sc (.int .u64 (if c<=a then 18446744073709551615 else(((a.toNat*18446744073709551616+b.toNat)/c.toNat:Nat):Int))))])
theorem spec:sR E f203 aF (pN .u64) (pN .u64) (pN .u64) sp:=by
 rintro a b c ⟨h1,h2,h3,h4⟩;refine(start a b c).trans ?_;simp only[sp]
 by_cases hc:c<=a
 ·rw[aR hc,if_pos hc]
 ·rw[aN hc,if_neg hc,gP ⟨⟨h1,by omega⟩,⟨h2,h3⟩,h4⟩]
def aJ:dG:=orc3 (pN .u64) (pN .u64) (pN .u64) sp
theorem ok:OK 203 aJ:=(dZ E aF (aA tL.ok aE) func203).Cq rfl spec
end aAY
namespace uH
def E:Env:={ ({ base with C:=callsOf [(226,Ou.aJ)],n0:=1,io:=[0] })with nt:=66,own:=[45,61],keep:=fun k=>(tlook [(3,[0,1,2,7,8,14,15])] k).getD [],cut:=tlook [] }
def aF:=bd f204
theorem aU:Nk E aF:=nk
def L3(a:List Int)(b:Nat)(c:Nat) d f g h x7 i:=nN E f204 aF 3 [(A.any,some { e:=(23:Nat),cont:=oI.ints u64 a }),(A.v (V.one (L.view 0 b c)),none),iU d,dM f,dM g,dM h,bK x7,bK i]
theorem start al ao an b c:aG E f204 aF [D.io gN u64 al ao an,D.s (ints u64 b),D.s (sc (int u64 c))]=uH.L3 al ao an b c 0 0 (b.length:Int) 0:=eJ aU
theorem tK a b c d e f g h i:L3 a b c d e f g h i=letI C:=b+i.toNat;letI B:=(d.length:Int);letI F:=b+B.toNat;letI A:=d.getD i.toNat 0*e%18446744073709551616+f+0;aD (decide (i<h)) (if 0<=i/\i<B then aO (0<=d.getD i.toNat 0/\d.getD i.toNat 0<(18446744073709551616:Int)/\0<=e/\e<18446744073709551616) (aO (0<=d.getD i.toNat 0*e%18446744073709551616/\0<=f/\(0:Int)<=(0:Int)/\(0:Int)<=(1:Int)) (if 0<=i/\i<(c:Int)then aO (0<=a.getD C 0/\0<=A%18446744073709551616/\A%18446744073709551616<(18446744073709551616:Int)/\0<=g/\g<=1) (if 0<=i/\i<(c:Int)then uH.L3 (a.set C ((a.getD C 0-A%18446744073709551616-g)%18446744073709551616)) b c d e (u64.wrap (d.getD i.toNat 0*e/18446744073709551616+A/18446744073709551616)) (if a.getD C 0<A%18446744073709551616+g then(1:Int)else(0:Int)) h (i64.wrap (i+1))else none)else none))else none) (if 0<=B/\B<(c:Int)then aO (0<=a.getD F 0/\0<=f/\f<18446744073709551616/\0<=g/\g<=1) (if 0<=B/\B<(c:Int)then some [D.s (sc (int u64 (if a.getD F 0<f+g then(1:Int)else(0:Int)))),D.io 23 u64 (a.set F ((a.getD F 0-f-g)%18446744073709551616)) 0 0]else none)else none):=lJ aU
def Fg(v o n X:Nat):Nat:=if v/18446744073709551616^o%18446744073709551616^n<X then 1 else 0
def sp(x:List Int×Nat×Nat)(b:List Int)(w:Int):Prop×List D:=(M6.bN x.1/\x.2.2=b.length+1/\x.2.1+x.2.2<=x.1.length/\M6.bN b/\x.1.length<=1099511627776/\0<=w/\w<18446744073709551616,
 [.s (.sc (.int .u64 (Fg (M6.val x.1) x.2.1 x.2.2 (M6.val b*w.toNat)))),.io gN .u64 (M6.oL x.1.length (M6.val x.1+18446744073709551616^(x.2.1+x.2.2)*Fg (M6.val x.1) x.2.1 x.2.2 (M6.val b*w.toNat)-18446744073709551616^x.2.1*(M6.val b*w.toNat))) 0 0])
theorem fin{a z':List Int}{o n X c N:Nat}(aXU:c<=1)(hd:M6.bN a)(Bm:M6.bN z')(hl:z'.length=N)(h1:z'.take o=a.take o)(h2:z'.drop (o+n)=a.drop (o+n))(h:M6.val z'+18446744073709551616^o*X=M6.val a+18446744073709551616^(o+n)*c) :
  c=Fg (M6.val a) o n X/\z'=M6.oL N (M6.val a+18446744073709551616^(o+n)*Fg (M6.val a) o n X-18446744073709551616^o*X):=by
 obtain⟨k1,k2⟩:=M6.Au hd Bm h1 h2;have e:=M6.Ar k1 k2 h;have jM:=M6.Ea (M6.val z') o n;have hc:c=Fg (M6.val a) o n X:=by
  unfold Fg;have:c=0\/c=1:=by omega
  rcases this with rfl |rfl
  ·rw[bG]
  ·rw[aT]
 subst hc;exact⟨rfl,M6.oU Bm hl (by omega)⟩
theorem bBQ{x C s:Int}{p:Nat}(hp:p<=340282366920938463426481119284349108225)(h0:0<=x)(h1:x<18446744073709551616)(h2:0<=C)(h3:C<18446744073709551616)(h4:0<=s)(h5:s<=1) :
  (0<=(p:Int)/18446744073709551616+((p:Int)%18446744073709551616+C+0)/18446744073709551616/\(p:Int)/18446744073709551616+((p:Int)%18446744073709551616+C+0)/18446744073709551616<18446744073709551616) /\
  ((x-((p:Int)%18446744073709551616+C+0)%18446744073709551616-s)%18446744073709551616).toNat+p+C.toNat+s.toNat=x.toNat+18446744073709551616*(((p:Int)/18446744073709551616+((p:Int)%18446744073709551616+C+0)/18446744073709551616).toNat+(if x<((p:Int)%18446744073709551616+C+0)%18446744073709551616+s then(1:Int)else 0).toNat):=by
 split <;> omega
theorem L{a b:List Int}{o:Nat}{w:Int}(hN:a.length<=1099511627776)(ha:M6.bN a)(hb:M6.bN b)(ho:o+(b.length+1)<=a.length)(Zr:0<=w)(bFW:w<18446744073709551616):∀(r i:Nat) (z:List Int) (C s:Int),i+r=b.length->z.length=a.length->M6.bN z->0<=C->C<18446744073709551616->0<=s->s<=1->z.take o=a.take o->z.drop (o+(b.length+1))=a.drop (o+(b.length+1)) ->
  M6.val z+18446744073709551616^o*(M6.val (b.take i)*w.toNat)=M6.val a+18446744073709551616^(o+i)*(C.toNat+s.toNat) ->
  L3 z o (b.length+1) b w C s b.length i=some [.s (.sc (.int .u64 (Fg (M6.val a) o (b.length+1) (M6.val b*w.toNat)))),.io gN .u64 (M6.oL a.length (M6.val a+18446744073709551616^(o+(b.length+1))*Fg (M6.val a) o (b.length+1) (M6.val b*w.toNat)-18446744073709551616^o*(M6.val b*w.toNat))) 0 0]:=by
 intro r
 induction r with
 |zero =>
  intro i z C s hi hz hd h0 h1 h2 h3 ht Pp hv;have aLA:i=b.length:=by omega
  subst aLA;rw[cEH]at hv;have g:=hd.get (o+b.length);rw[tK,aN,aT,cBF,gP ⟨g.1,h0,h1,h2,h3⟩,aT];have hs:=M6.lU (a:=z) (j:=o+b.length) (by omega) ((z.getD (o+b.length) 0-C-s)%18446744073709551616);have hf:=fin (a:=a) (z':=z.set (o+b.length) ((z.getD (o+b.length) 0-C-s)%18446744073709551616)) (o:=o) (n:=b.length+1) (X:=M6.val b*w.toNat) (c:=(if z.getD (o+b.length) 0<C+s then(1:Int)else 0).toNat) (N:=a.length) (by split <;> omega) ha (M6.kI hd (by omega)) (by simp[hz]) (by rw[cJE (by omega)];exact ht) (by rw[cJF (by omega)];exact Pp) (by
   rw[<-cAY o,cCK,cCN];generalize z.getD (o+b.length) 0=x at *;generalize M6.val (z.set (o+b.length) _)=W at *;generalize 18446744073709551616^(o+b.length)=P at *;have e:((x-C-s)%18446744073709551616).toNat+(C.toNat+s.toNat)=x.toNat+18446744073709551616*(if x<C+s then(1:Int)else 0).toNat:=by split <;> omega
   have e2:P*((x-C-s)%18446744073709551616).toNat+P*(C.toNat+s.toNat)=P*x.toNat+P*(18446744073709551616*(if x<C+s then(1:Int)else 0).toNat):=by
    rw[<-cCO,e,cCO]
   omega)
  rw[<-hf.2,<-hf.1,cJS (by split <;> omega)]
 |succ r ih =>
  intro i z C s hi hz hd h0 h1 h2 h3 ht Pp hv;have g:=hd.get (o+i);have g2:=hb.get i;have w2:i64.wrap ((i:Int)+1)=((i+1:Nat):Int):=by rw[wrap_i64];omega
  obtain⟨X,hX⟩:=cCM g2.1;obtain⟨Y,hY⟩:=cCM Zr;have bGP:X*Y<=340282366920938463426481119284349108225:=by
   have h2:X<=18446744073709551615:=by omega
   have h3:Y<=18446744073709551615:=by omega
   have:=cIC h2 h3;omega
  obtain⟨k1,k2⟩:=bBQ bGP g.1 g.2 h0 h1 h2 h3;rw[tK,aR,aT,w2];simp only[cBF];have hq:b.getD i 0*w=((X*Y:Nat):Int):=by rw[hX,hY];simp
  rw[gP ⟨g2.1,g2.2,Zr,bFW⟩];simp only[hq];rw[gP ⟨by omega,by omega,by omega,by omega⟩,aT,gP ⟨g.1,by omega,by omega,h2,h3⟩,aT,wrap_u64 k1.1 k1.2];refine ih (i+1) _ _ (if z.getD (o+i) 0<(((X*Y:Nat):Int)%18446744073709551616+C+0)%18446744073709551616+s then(1:Int)else 0) (by omega) (by simp[hz]) (M6.kI hd (by omega)) k1.1 k1.2 (by split <;> omega) (by split <;> omega) (by rw[cJE (by omega)];exact ht) (by rw[cJF (by omega)];exact Pp) ?_;have hs:=M6.lU (a:=z) (j:=o+i) (by omega) ((z.getD (o+i) 0-(((X*Y:Nat):Int)%18446744073709551616+C+0)%18446744073709551616-s)%18446744073709551616);have e0:18446744073709551616^o*(M6.val (b.take (i+1))*w.toNat)=18446744073709551616^o*(M6.val (b.take i)*w.toNat)+18446744073709551616^(o+i)*(X*Y):=by
   rw[M6.bR,hX,hY,cBF,cBF,bZU,cCO,cCH,cCN,cCN]
  rw[e0,show o+(i+1)=(o+i)+1 from by omega,cCK,cCN];generalize ((z.getD (o+i) 0-(((X*Y:Nat):Int)%18446744073709551616+C+0)%18446744073709551616-s)%18446744073709551616)=d at *;generalize (((X*Y:Nat):Int)/18446744073709551616+(((X*Y:Nat):Int)%18446744073709551616+C+0)/18446744073709551616).toNat=C' at *;generalize (if z.getD (o+i) 0<(((X*Y:Nat):Int)%18446744073709551616+C+0)%18446744073709551616+s then(1:Int)else 0).toNat=s' at *;generalize X*Y=q at *;generalize 18446744073709551616^(o+i)=P at *;generalize M6.val (z.set (o+i) d)=W at *;generalize (z.getD (o+i) 0).toNat=x at *;generalize 18446744073709551616^o*(M6.val (b.take i)*w.toNat)=U at *;have e2:P*d.toNat+P*q+P*(C.toNat+s.toNat)=P*x+P*(18446744073709551616*(C'+s')):=by
   rw[<-cCO,<-cCO,<-cCO];congr 1;omega
  omega
theorem bound{v o n N X:Nat}(hv:v<18446744073709551616^N)(bNV:o+n<=N)(hX:X<18446744073709551616^n):v+18446744073709551616^(o+n)*Fg v o n X-18446744073709551616^o*X<18446744073709551616^N:=by
 have e1:=M6.qM v o n;have hW:=M6.Ea v o n;have hT:v/18446744073709551616^(o+n)<18446744073709551616^(N-(o+n)):=by
  apply cDC;rw[<-cCH,show o+n+(N-(o+n))=N from by omega];exact hv
 have hL:v%18446744073709551616^o<18446744073709551616^o:=bZR _ (cB);have s2:18446744073709551616^(o+n)*(v/18446744073709551616^(o+n)+1)<=18446744073709551616^N:=by
  have:=bZW (18446744073709551616^(o+n)) hT;rw[<-cCH,show o+n+(N-(o+n))=N from by omega]at this;exact this
 rw[cCO]at s2;unfold Fg;generalize v/18446744073709551616^o%18446744073709551616^n=W at *;generalize v%18446744073709551616^o=L at *;generalize v/18446744073709551616^(o+n)=T at *;split
 ·rename_i jM;have:18446744073709551616^o*(W+1)<=18446744073709551616^o*X:=bZW _ jM;rw[cCO]at this;omega
 ·omega
theorem spec(x:List Int×Nat×Nat)(b:List Int)(w:Int)(h:(sp x b w).1):aG E f204 aF [(Ej gN .u64).put x,(pI .u64).put b,(pN .u64).put w]=some (sp x b w).2/\∃rs oN,(sp x b w).2=rs ++ [.io gN .u64 oN 0 0]/\oN.length=x.1.length:=by
 obtain⟨xl,o,n⟩:=x;obtain⟨hd,hn,ho,hb,hN,Zr,bFW⟩:=h;simp only at hd hn ho hN;subst hn;refine⟨(start xl o (b.length+1) b w).trans ?_,[_],_,rfl,M6.iA (bound (M6.cR hd) ho ?_)⟩
 ·exact L hN hd hb ho Zr bFW b.length 0 xl 0 0 (by omega) rfl hd (by omega) (by omega) (by omega) (by omega) rfl rfl (by simp[M6.val])
 ·rw[cCK];exact cGK (M6.cR hb) (by omega)
def aJ:dG:=orc3 (Ej gN .u64) (pI .u64) (pN .u64) sp
theorem fnok:nJ prog E 204 f204 aF:=vR oA mixed (iH _ rfl (aA Ou.ok aE) (lA)) func204 rfl rfl rfl rfl rfl
theorem ok:rW prog base.glob 204 aJ:=fnok.Cq rfl spec
end uH
namespace Ak
def E:Env:={ ({ base with n0:=1,io:=[0] })with nt:=44,own:=[24,39],keep:=fun k=>(tlook [(3,[0,1,5,8,9])] k).getD [],cut:=tlook [] }
def aF:=bd f205
theorem aU:Nk E aF:=nk
def L3(a:List Int)(b:Nat)(c:Nat) d f g h:=nN E f205 aF 3 [(A.any,some { e:=(23:Nat),cont:=oI.ints u64 a }),(A.v (V.one (L.view 0 b c)),none),iU d,dM f,bK g,bK h]
theorem start al ao an b:aG E f205 aF [D.io gN u64 al ao an,D.s (ints u64 b)]=Ak.L3 al ao an b 0 (b.length:Int) 0:=eJ aU
theorem tK a b c d e f g:L3 a b c d e f g=letI G:=b+g.toNat;letI B:=a.getD G 0+d.getD g.toNat 0+e;letI A:=(d.length:Int);letI F:=b+A.toNat;letI C:=a.getD F 0+(0:Int)+e;aD (decide (g<f)) (if 0<=g/\g<(c:Int)then if 0<=g/\g<A then aO (0<=a.getD G 0/\0<=d.getD g.toNat 0/\0<=e/\e<=1) (if 0<=g/\g<(c:Int)then Ak.L3 (a.set G (B%18446744073709551616)) b c d (B/18446744073709551616) f (i64.wrap (g+1))else none)else none else none) (if 0<=A/\A<(c:Int)then aO (0<=a.getD F 0/\(0:Int)<=(0:Int)/\0<=e/\e<=1) (if 0<=A/\A<(c:Int)then some [D.s (sc (int u64 (C/18446744073709551616))),D.io 23 u64 (a.set F (C%18446744073709551616)) 0 0]else none)else none):=lJ aU
def Ha(v o n X:Nat):Nat:=(v/18446744073709551616^o%18446744073709551616^n+X)/18446744073709551616^n
def sp(x:List Int×Nat×Nat)(b:List Int):Prop×List D:=(M6.bN x.1/\x.2.2=b.length+1/\x.2.1+x.2.2<=x.1.length/\M6.bN b/\x.1.length<=1099511627776,
 [.s (.sc (.int .u64 (Ha (M6.val x.1) x.2.1 x.2.2 (M6.val b)))),.io gN .u64 (M6.oL x.1.length (M6.val x.1+18446744073709551616^x.2.1*M6.val b-18446744073709551616^(x.2.1+x.2.2)*Ha (M6.val x.1) x.2.1 x.2.2 (M6.val b))) 0 0])
theorem fin{a z':List Int}{o n X c N:Nat}(hd:M6.bN a)(Bm:M6.bN z')(hl:z'.length=N)(h1:z'.take o=a.take o)(h2:z'.drop (o+n)=a.drop (o+n))(h:M6.val z'+18446744073709551616^(o+n)*c=M6.val a+18446744073709551616^o*X) :
  c=Ha (M6.val a) o n X/\z'=M6.oL N (M6.val a+18446744073709551616^o*X-18446744073709551616^(o+n)*Ha (M6.val a) o n X):=by
 obtain⟨k1,k2⟩:=M6.Au hd Bm h1 h2;have e:=M6.Ar k1.symm k2.symm h.symm;have jM:=M6.Ea (M6.val z') o n;have hc:c=Ha (M6.val a) o n X:=by
  unfold Ha;rw[e];rw[cDI _ _ (cB),cCW jM,bXL]
 subst hc;exact⟨rfl,M6.oU Bm hl (by omega)⟩
theorem L{a b:List Int}{o:Nat}(hN:a.length<=1099511627776)(ha:M6.bN a)(hb:M6.bN b)(ho:o+(b.length+1)<=a.length):∀(r i:Nat) (z:List Int) (c:Int),i+r=b.length->z.length=a.length->M6.bN z->0<=c->c<=1->z.take o=a.take o->z.drop (o+(b.length+1))=a.drop (o+(b.length+1)) ->
  M6.val z+18446744073709551616^(o+i)*c.toNat=M6.val a+18446744073709551616^o*M6.val (b.take i) ->
  L3 z o (b.length+1) b c b.length i=some [.s (.sc (.int .u64 (Ha (M6.val a) o (b.length+1) (M6.val b)))),.io gN .u64 (M6.oL a.length (M6.val a+18446744073709551616^o*M6.val b-18446744073709551616^(o+(b.length+1))*Ha (M6.val a) o (b.length+1) (M6.val b))) 0 0]:=by
 intro r
 induction r with
 |zero =>
  intro i z c hi hz hd h0 h1 ht Pp hv;have aLA:i=b.length:=by omega
  subst aLA;rw[cEH]at hv;have g:=hd.get (o+b.length);rw[tK,aN,aT,cBF,gP ⟨g.1,by omega,h0,h1⟩,aT];have hs:=M6.lU (a:=z) (j:=o+b.length) (by omega) ((z.getD (o+b.length) 0+0+c)%18446744073709551616);have hf:=fin (a:=a) (z':=z.set (o+b.length) ((z.getD (o+b.length) 0+0+c)%18446744073709551616)) (o:=o) (n:=b.length+1) (X:=M6.val b) (c:=((z.getD (o+b.length) 0+0+c)/18446744073709551616).toNat) (N:=a.length) ha (M6.kI hd (by omega)) (by simp[hz]) (by rw[cJE (by omega)];exact ht) (by rw[cJF (by omega)];exact Pp) (by
   rw[<-cAY o,cCK,cCN];generalize z.getD (o+b.length) 0=x at *;generalize M6.val (z.set (o+b.length) _)=W at *;generalize 18446744073709551616^(o+b.length)=P at *;have e:((x+0+c)%18446744073709551616).toNat+18446744073709551616*((x+0+c)/18446744073709551616).toNat=x.toNat+c.toNat:=by omega
   have e2:P*((x+0+c)%18446744073709551616).toNat+P*(18446744073709551616*((x+0+c)/18446744073709551616).toNat)=P*x.toNat+P*c.toNat:=by
    rw[<-cCO,e,cCO]
   omega)
  rw[<-hf.2,<-hf.1,cJS (by omega)]
 |succ r ih =>
  intro i z c hi hz hd h0 h1 ht Pp hv;have g:=hd.get (o+i);have g2:=hb.get i;have w2:i64.wrap ((i:Int)+1)=((i+1:Nat):Int):=by rw[wrap_i64];omega
  rw[tK,aR,aT,aT,cBF,gP ⟨g.1,g2.1,h0,h1⟩,aT,w2];refine ih (i+1) _ _ (by omega) (by simp[hz]) (M6.kI hd (by omega)) (by omega) (by omega) (by rw[cJE (by omega)];exact ht) (by rw[cJF (by omega)];exact Pp) ?_;have hs:=M6.lU (a:=z) (j:=o+i) (by omega) ((z.getD (o+i) 0+b.getD i 0+c)%18446744073709551616);rw[M6.bR,cCO,<-cCN,<-cCH,show o+(i+1)=(o+i)+1 from by omega,cCK,cCN];generalize z.getD (o+i) 0=x at *;generalize b.getD i 0=y at *;generalize M6.val (z.set (o+i) _)=W at *;generalize 18446744073709551616^(o+i)=P at *;generalize 18446744073709551616^o*M6.val (b.take i)=U at *;have e:((x+y+c)%18446744073709551616).toNat+18446744073709551616*((x+y+c)/18446744073709551616).toNat=x.toNat+y.toNat+c.toNat:=by omega
  have e2:P*((x+y+c)%18446744073709551616).toNat+P*(18446744073709551616*((x+y+c)/18446744073709551616).toNat)=P*x.toNat+P*y.toNat+P*c.toNat:=by
   rw[<-cCO,e,cCO,cCO]
  omega
theorem bound{v o n N X:Nat}(hv:v<18446744073709551616^N)(bNV:o+n<=N):v+18446744073709551616^o*X-18446744073709551616^(o+n)*Ha v o n X<18446744073709551616^N:=by
 have e1:=M6.qM v o n;unfold Ha;generalize hW:v/18446744073709551616^o%18446744073709551616^n=W at *;have h2:=cJC (W+X) (18446744073709551616^n);have h3:(W+X)%18446744073709551616^n<18446744073709551616^n:=bZR _ (cB);generalize (W+X)/18446744073709551616^n=c at *;generalize (W+X)%18446744073709551616^n=M at *;have hL:v%18446744073709551616^o<18446744073709551616^o:=bZR _ (cB);have hT:v/18446744073709551616^(o+n)<18446744073709551616^(N-(o+n)):=by
  apply cDC;rw[<-cCH,show o+n+(N-(o+n))=N from by omega];exact hv
 generalize v%18446744073709551616^o=L at *;generalize v/18446744073709551616^(o+n)=T at *;have e3:18446744073709551616^(o+n)*c=18446744073709551616^o*(18446744073709551616^n*c):=by rw[cCH,cCN]
 have e4:18446744073709551616^o*(W+X)=18446744073709551616^o*M+18446744073709551616^o*(18446744073709551616^n*c):=by rw[<-h2,cCO]
 rw[cCO]at e4;have e5:v+18446744073709551616^o*X-18446744073709551616^(o+n)*c=L+18446744073709551616^o*M+18446744073709551616^(o+n)*T:=by omega
 rw[e5];have s1:L+18446744073709551616^o*M<18446744073709551616^(o+n):=by
  have:18446744073709551616^o*(M+1)<=18446744073709551616^o*18446744073709551616^n:=bZW _ h3;rw[<-cCH,cCO]at this;omega
 have s2:18446744073709551616^(o+n)*(T+1)<=18446744073709551616^N:=by
  have:=bZW (18446744073709551616^(o+n)) hT;rw[<-cCH,show o+n+(N-(o+n))=N from by omega]at this;exact this
 rw[cCO]at s2;omega
theorem spec(x:List Int×Nat×Nat)(b:List Int)(h:(sp x b).1):aG E f205 aF [(Ej gN .u64).put x,(pI .u64).put b]=some (sp x b).2/\∃rs oN,(sp x b).2=rs ++ [.io gN .u64 oN 0 0]/\oN.length=x.1.length:=by
 obtain⟨xl,o,n⟩:=x;obtain⟨hd,hn,ho,hb,hN⟩:=h;simp only at hd hn ho hN;subst hn;refine⟨(start xl o (b.length+1) b).trans ?_,[_],_,rfl,M6.iA (bound (M6.cR hd) ho)⟩;exact L hN hd hb ho b.length 0 xl 0 (by omega) rfl hd (by omega) (by omega) rfl rfl (by simp[M6.val])
def aJ:dG:=orc2 (Ej gN .u64) (pI .u64) sp
theorem fnok:nJ prog E 205 f205 aF:=vR oA mixed (iH _ rfl aE (lA)) func205 rfl rfl rfl rfl rfl
theorem ok:rW prog base.glob 205 aJ:=fnok.jR rfl spec
end Ak
namespace Gr
def E:Env:={ ({ base with C:=rP [(204,uH.aJ),(205,Ak.aJ)] (callsOf [(203,aAY.aJ)]),ioF:=Mt [(204,uH.aJ),(205,Ak.aJ)],n0:=1,io:=[0] })with nt:=72,own:=[],keep:=fun k=>(tlook [(10,[0,1,5,6,7,8,9]),(4,[0,1,5,6,7])] k).getD [],cut:=tlook [] }
def aF:=bd f173
theorem aU:Nk E aF:=nk
def L4(a:List Int)(b:Nat)(c:Nat) d f (g:Nat) (h:List Int) x7:=nN E f173 aF 4 [(A.any,some { e:=(23:Nat),cont:=oI.ints u64 a }),(A.v (V.one (L.view 0 b c)),none),iU d,bK f,Dg 4 g 23 h,bK x7]
def Dl(a:List Int)(b:Nat)(c:Nat) d f (g:Nat) (h:List Int) x7 i (j:Nat) (k:Nat):=nN E f173 aF 10 [(A.any,some { e:=(23:Nat),cont:=oI.ints u64 a }),(A.v (V.one (L.view 0 b c)),none),iU d,bK f,Dg 4 g 23 h,bK x7,dM i,(A.v (V.one (L.view 0 j k)),none)]
theorem start al ao an b:aG E f173 aF [D.io gN u64 al ao an,D.s (ints u64 b)]=letI B:=(an:Int);letI A:=(b.length:Int);if 0<=i64.wrap (B-A)/\i64.wrap (B-A)<=i64.wrap (B-A)/\i64.wrap (B-A)<=8796093022208 then Gr.L4 al ao an b A (i64.wrap (B-A)).toNat (bZK (i64.wrap (B-A)).toNat (0:Int)) (i64.wrap (i64.wrap (B-A)-1))else none:=eJ aU
theorem kV a b c d e f g h:L4 a b c d e f g h=letI N:=b+h.toNat;letI K:=i64.wrap (e-1);letI H:=i64.wrap (h+e)+1;letI G:=i64.wrap (h+e)-1;letI F:=b+(i64.wrap (h+e)).toNat;letI B:=b+(i64.wrap G).toNat;letI A:=i64.wrap H;letI C:=A.toNat-h.toNat;aD (decide (0<=h)) (if 0<=i64.wrap (h+e)/\i64.wrap (h+e)<(c:Int)then if 0<=i64.wrap G/\i64.wrap G<(c:Int)then if 0<=i64.wrap (e-1)/\i64.wrap (e-1)<(d.length:Int)then aO (0<=a.getD F 0/\0<=a.getD B 0/\a.getD B 0<(18446744073709551616:Int)/\d.getD K.toNat 0<(18446744073709551616:Int)) (aC (if d.getD K.toNat 0<=a.getD F 0 then(18446744073709551615:Int)else(↑(((a.getD F 0).toNat*18446744073709551616+(a.getD B 0).toNat)/(d.getD K.toNat 0).toNat):Int)) fun i=>letI I:=M6.val d*i.toNat;if 0<=h/\h<=i64.wrap H/\i64.wrap H<=(c:Int)then aO (M6.bN a/\A.toNat-h.toNat=d.length+1/\b+h.toNat+C<=a.length/\M6.bN d/\a.length<=1099511627776/\0<=i/\i<18446744073709551616) (aC (↑(uH.Fg (M6.val a) N C I):Int) fun j=>aC (M6.oL a.length (M6.val a+(18446744073709551616:Nat)^(b+h.toNat+C)*uH.Fg (M6.val a) N C I-(18446744073709551616:Nat)^N*I)) fun k=>aD (j==0) (if 0<=h/\h<(f:Int)then Gr.L4 k b c d e f (g.set h.toNat i) (i64.wrap (h-1))else none) (Gr.Dl k b c d e f g h i N C))else none)else none else none else none) (some [D.own 23 u64 g,D.io 23 u64 a 0 0]):=lJ aU
theorem qB a b c d e f g h i j k:Dl a b c d e f g h i j k=aO (M6.bN a/\k=d.length+1/\j+k<=a.length/\M6.bN d/\a.length<=1099511627776) (aC (↑(Ak.Ha (M6.val a) j k (M6.val d)):Int) fun l=>aC (M6.oL a.length (M6.val a+(18446744073709551616:Nat)^j*M6.val d-(18446744073709551616:Nat)^(j+k)*Ak.Ha (M6.val a) j k (M6.val d))) fun m=>aD (l==1) (if 0<=h/\h<(f:Int)then Gr.L4 m b c d e f (g.set h.toNat (u64.wrap (i-1))) (i64.wrap (h-1))else none) (Gr.Dl m b c d e f g h (u64.wrap (i-1)) j k)):=lJ aU
def sp(x:List Int×Nat×Nat)(b:List Int):Prop×List D:=(M6.bN x.1/\x.2.1=0/\x.2.2=x.1.length/\M6.bN b/\0<b.length/\b.length<=x.1.length/\x.1.length<=549755813888/\M6.val x.1/18446744073709551616^(x.1.length-b.length)<M6.val b,
 [.own gN .u64 (M6.oL (x.1.length-b.length) (M6.val x.1/M6.val b)),.io gN .u64 (M6.oL x.1.length (M6.val x.1%M6.val b)) 0 0])
theorem digit{z:List Int}(hd:M6.bN z)(k:Nat):(z.getD k 0).toNat=M6.val z/18446744073709551616^k%18446744073709551616:=by
 rw[<-M6.iL hd,M6.gB];have:=hd.get k;omega
theorem yS{v j n:Nat}(h:v/18446744073709551616^j<18446744073709551616^n):v/18446744073709551616^j%18446744073709551616^n=v/18446744073709551616^j:=cIZ h
theorem minus{v j R X:Nat}(hR:R=v/18446744073709551616^j)(hX:X<=R):(v-18446744073709551616^j*X)/18446744073709551616^j=R-X/\18446744073709551616^j*X<=v:=by
 have h1:=cJC v (18446744073709551616^j);have h2:v%18446744073709551616^j<18446744073709551616^j:=bZR _ (cB);rw[<-hR]at h1;obtain⟨D,rfl⟩:=bYQ hX;rw[cCO]at h1;have h3:v-18446744073709551616^j*X=v%18446744073709551616^j+18446744073709551616^j*D:=by omega
 rw[h3,cDI _ _ (cB),cCW h2];omega
theorem plus{v j n R X:Nat}(hR:R=v/18446744073709551616^j)(hX:R<X)(aLM:X<=18446744073709551616^n):(v+18446744073709551616^(j+n)-18446744073709551616^j*X)/18446744073709551616^j%18446744073709551616^n=R+18446744073709551616^n-X:=by
 have h1:=cJC v (18446744073709551616^j);have h2:v%18446744073709551616^j<18446744073709551616^j:=bZR _ (cB);rw[<-hR]at h1;have h4:18446744073709551616^j*(R+18446744073709551616^n)=18446744073709551616^j*R+18446744073709551616^(j+n):=by rw[cCO,cCH]
 obtain⟨D,hD⟩:∃D,R+18446744073709551616^n=X+D:=bYQ (by omega);rw[hD,cCO]at h4;have h3:v+18446744073709551616^(j+n)-18446744073709551616^j*X=v%18446744073709551616^j+18446744073709551616^j*D:=by omega
 rw[h3,cDI _ _ (cB),cCW h2,bXL,cIZ (by omega)];omega
theorem aIJ{R V n:Nat}{hi lo d:Int}(hn:0<n)(hV:V<18446744073709551616^n)(aYD:R<18446744073709551616*V)(Wv:hi.toNat=R/18446744073709551616^n)(Uz:lo.toNat=R/18446744073709551616^(n-1)%18446744073709551616)(hd:d.toNat=V/18446744073709551616^(n-1))(h0:0<=hi) :
  R/V<=(if d<=hi then(18446744073709551615:Int)else(((hi.toNat*18446744073709551616+lo.toNat)/d.toNat:Nat):Int)).toNat/\(0<=if d<=hi then(18446744073709551615:Int)else(((hi.toNat*18446744073709551616+lo.toNat)/d.toNat:Nat):Int))/\(if d<=hi then(18446744073709551615:Int)else(((hi.toNat*18446744073709551616+lo.toNat)/d.toNat:Nat):Int))<18446744073709551616:=by
 by_cases hc:d<=hi
 ·rw[if_pos hc];refine⟨?_,by omega,by omega⟩;have:R/V<18446744073709551616:=by
   apply cDC;rw[cCI];exact aYD
  show R/V<=18446744073709551615;omega
 ·rw[if_neg hc];obtain⟨k,rfl⟩:∃k,n=k+1:=⟨n-1,by omega⟩;rw[Nat.add_sub_cancel]at Uz hd;have e1:hi.toNat*18446744073709551616+lo.toNat=R/18446744073709551616^k:=by
   rw[Wv,Uz,cCK,<-cCT];omega
  have bUI:0<d.toNat:=by omega
  have jM:hi.toNat<d.toNat:=by omega
  refine⟨?_,cHN _,?_⟩
  ·rw[cBF,e1,cCT];apply cFT
   ·rw[hd];exact cIN _ _
   ·exact Nat.mul_pos (cB) bUI
  ·have hlo2:lo.toNat<18446744073709551616:=by rw[Uz];exact bZR _ (by omega)
   have:(hi.toNat*18446744073709551616+lo.toNat)/d.toNat<18446744073709551616:=by
    apply cDC;have:(hi.toNat+1)*18446744073709551616<=d.toNat*18446744073709551616:=cBK _ jM;omega
   exact Int.ofNat_lt.2 this
theorem bMG{u b qs:List Int}{L j R q:Nat}(hL:L<=549755813888)(hu:u.length=L)(hd:M6.bN u)(hb:M6.bN b)(hj:j+(b.length+1)<=L)(hR:R=M6.val u/18446744073709551616^j)(aAB:R<18446744073709551616^(b.length+1))(hV:0<M6.val b)(hq:q=R/M6.val b)(hqs:qs.length=L-b.length):∀(k w:Nat),w=q+(k+1)->w<18446744073709551616 ->
  Dl (M6.oL L (M6.val u+18446744073709551616^(j+(b.length+1))-18446744073709551616^j*(M6.val b*w))) 0 L b b.length (L-b.length) qs j w j (b.length+1)=L4 (M6.oL L (M6.val u-18446744073709551616^j*(M6.val b*q))) 0 L b b.length (L-b.length) (qs.set j (q:Int)) ((j:Int)-1):=by
 have aOY:=M6.cR hb;have aUG:M6.val b*q<=R:=by rw[hq];exact cIN _ _
 have aFX:R<M6.val b*(q+1):=by rw[hq];exact Nat.lt_mul_div_succ _ hV
 have aOS:=M6.cR hd;rw[hu]at aOS;intro k
 induction k with
 |zero =>
  intro w hw bAL;subst hw;have aLM:M6.val b*(q+(0+1))<=18446744073709551616^(b.length+1):=by
   rw[cCK];exact cIC (by omega) (by omega)
  have Zu:=plus (n:=b.length+1) hR (X:=M6.val b*(q+(0+1))) aFX aLM;have aXX:M6.val u+18446744073709551616^(j+(b.length+1))-18446744073709551616^j*(M6.val b*(q+(0+1)))<18446744073709551616^L:=by
   have:=uH.bound aOS hj (X:=M6.val b*(q+(0+1))) (by rw[cCK];exact cGK aOY (by omega));unfold uH.Fg at this;rw[yS (by rw[<-hR];exact aAB),<-hR,if_pos aFX,bYB]at this;exact this
  have Zy:Ak.Ha (M6.val u+18446744073709551616^(j+(b.length+1))-18446744073709551616^j*(M6.val b*(q+(0+1)))) j (b.length+1) (M6.val b)=1:=by
   unfold Ak.Ha;rw[Zu];have e:R+18446744073709551616^(b.length+1)-M6.val b*(q+(0+1))+M6.val b=18446744073709551616^(b.length+1)*1+(R-M6.val b*q):=by
    rw[cCO]at aLM ⊢;omega
   have jM:R-M6.val b*q<18446744073709551616^(b.length+1):=by omega
   rw[e,cHM (cB),cCW jM]
  have w1:u64.wrap (((q+(0+1):Nat):Int)-1)=(q:Int):=by rw[wrap_u64];omega
  have w2:i64.wrap ((j:Int)-1)=(j:Int)-1:=by rw[wrap_i64]
  rw[qB,aB,aB,M6.iA aXX,M6.kZ,Zy,gP ⟨M6.lY,by trivial,hj,hb,by omega⟩,cL (by rfl),aT,w1,w2,cBF];congr 1;congr 1;have e1:18446744073709551616^j*(M6.val b*(q+(0+1)))=18446744073709551616^j*(M6.val b*q)+18446744073709551616^j*M6.val b:=by rw[cCO,cCO];simp
  have e2:=(minus hR aUG).2;have e3:18446744073709551616^j*M6.val b<=18446744073709551616^(j+(b.length+1)):=by
   rw[cCH,cCK];exact bZW _ (by omega)
  omega
 |succ k ih =>
  intro w hw bAL;subst hw;have aKY:R<M6.val b*(q+(k+1)):=bYH aFX (bZW _ (by omega));have Wm:M6.val b*(q+(k+1+1))=M6.val b*(q+(k+1))+M6.val b:=by rw[<-cAY q,Nat.mul_succ]
  have aLM:M6.val b*(q+(k+1+1))<=18446744073709551616^(b.length+1):=by
   rw[cCK];exact cIC (by omega) (by omega)
  have Zu:=plus (n:=b.length+1) hR (X:=M6.val b*(q+(k+1+1))) (by omega) aLM;have aXX:M6.val u+18446744073709551616^(j+(b.length+1))-18446744073709551616^j*(M6.val b*(q+(k+1+1)))<18446744073709551616^L:=by
   have:=uH.bound aOS hj (X:=M6.val b*(q+(k+1+1))) (by rw[cCK];exact cGK aOY (by omega));unfold uH.Fg at this;rw[yS (by rw[<-hR];exact aAB),<-hR,aT,bYB]at this;exact this
  have Zy:Ak.Ha (M6.val u+18446744073709551616^(j+(b.length+1))-18446744073709551616^j*(M6.val b*(q+(k+1+1)))) j (b.length+1) (M6.val b)=0:=by
   unfold Ak.Ha;rw[Zu];exact cCW (by omega)
  have w1:u64.wrap (((q+(k+1+1):Nat):Int)-1)=((q+(k+1):Nat):Int):=by rw[wrap_u64];omega
  rw[qB,aB,aB,M6.iA aXX,M6.kZ,Zy,gP ⟨M6.lY,by trivial,hj,hb,by omega⟩,cO (by decide),w1];have e4:M6.val u+18446744073709551616^(j+(b.length+1))-18446744073709551616^j*(M6.val b*(q+(k+1+1)))+18446744073709551616^j*M6.val b-18446744073709551616^(j+(b.length+1))*0=M6.val u+18446744073709551616^(j+(b.length+1))-18446744073709551616^j*(M6.val b*(q+(k+1))):=by
   have e1:18446744073709551616^j*(M6.val b*(q+(k+1+1)))=18446744073709551616^j*(M6.val b*(q+(k+1)))+18446744073709551616^j*M6.val b:=by rw[Wm,cCO]
   have e3:18446744073709551616^j*(M6.val b*(q+(k+1+1)))<=18446744073709551616^(j+(b.length+1)):=by
    rw[cCH];exact bZW _ aLM
   omega
  rw[e4];exact ih _ rfl (by omega)
theorem aPI{α R:Type}{x:α}{k:α->Option R}{r:Option R}(Q:α->Prop)(hx:Q x)(hk:∀w,Q w->k w=r):aC x k=r:=hk x hx
theorem bXF{b:List Int}{L U0:Nat}(hL:L<=549755813888)(hb:M6.bN b)(hn:0<b.length)(hbL:b.length<=L):∀(t:Nat) (u qs:List Int),t<=L-b.length->u.length=L->M6.bN u->qs.length=L-b.length->M6.bN qs->M6.val u/18446744073709551616^t<M6.val b->U0=M6.val u+M6.val b*(18446744073709551616^t*M6.val (qs.drop t)) ->
  L4 u 0 L b b.length (L-b.length) qs ((t:Int)-1)=some [.own gN .u64 (M6.oL (L-b.length) (U0/M6.val b)),.io gN .u64 (M6.oL L (U0%M6.val b)) 0 0]:=by
 have aOY:=M6.cR hb;intro t
 induction t with
 |zero =>
  intro u qs _ hu hd hq aXR jM hU;rw[cEN,Nat.div_one]at jM;rw[cEN,cBL,cDT]at hU;rw[kV,aN];have e1:U0/M6.val b=M6.val qs:=by rw[hU,cDI _ _ (by omega),cCW jM,bXL]
  have e2:U0%M6.val b=M6.val u:=by rw[hU,cJP,cIZ jM]
  rw[M6.oU hd hu e2.symm,M6.oU aXR hq e1.symm]
 |succ j ih =>
  intro u qs hj hu hd hq aXR jM hU;obtain⟨R,hR⟩:∃R,R=M6.val u/18446744073709551616^j:=⟨_,rfl⟩;have hV:0<M6.val b:=cEC (Nat.zero_le _) jM;have aYD:R<18446744073709551616*M6.val b:=by
   rw[cCK,<-cCT,<-hR]at jM;rw[cCI];exact(Nat.div_lt_iff_lt_mul (by omega)).1 jM
  have aAB:R<18446744073709551616^(b.length+1):=by rw[cCK];omega
  obtain⟨q,aQZ⟩:∃q,q=R/M6.val b:=⟨_,rfl⟩;have aUG:M6.val b*q<=R:=by rw[aQZ];exact cIN _ _
  have bSU:q<18446744073709551616:=by
   rw[aQZ];apply cDC;rw[cCI];exact aYD
  have aOS:=M6.cR hd;rw[hu]at aOS;have bMW:L4 (M6.oL L (M6.val u-18446744073709551616^j*(M6.val b*q))) 0 L b b.length (L-b.length) (qs.set j (q:Int)) ((j:Int)-1)=some [.own gN .u64 (M6.oL (L-b.length) (U0/M6.val b)),.io gN .u64 (M6.oL L (U0%M6.val b)) 0 0]:=by
   obtain⟨m1,m2⟩:=minus hR aUG;refine ih _ _ (by omega) (M6.iA (by omega)) M6.lY (by simp[hq]) (M6.kI aXR ⟨by omega,by omega⟩) ?_ ?_
   ·rw[M6.kZ,m1];have h1:=cJC R (M6.val b);have h2:=bZR R hV;rw[<-aQZ]at h1;omega
   ·rw[M6.kZ,M6.nP (by omega),cBF,hU,cCK];have e1:M6.val b*(18446744073709551616^j*(q+18446744073709551616*M6.val (qs.drop (j+1))))=18446744073709551616^j*(M6.val b*q)+M6.val b*(18446744073709551616^j*18446744073709551616*M6.val (qs.drop (j+1))):=by
     rw[cCO,cCO,cEJ,cCN (18446744073709551616^j)]
    rw[e1];omega
  have hx:((j+1:Nat):Int)-1=(j:Int):=by omega
  have w1:i64.wrap ((j:Int)+(b.length:Int))=((j+b.length:Nat):Int):=by rw[wrap_i64];omega
  have w2:i64.wrap (((j+b.length:Nat):Int)-1)=((j+b.length-1:Nat):Int):=by rw[wrap_i64];omega
  have w3:i64.wrap ((b.length:Int)-1)=((b.length-1:Nat):Int):=by rw[wrap_i64];omega
  have w4:i64.wrap (((j+b.length:Nat):Int)+1)=((j+b.length+1:Nat):Int):=by rw[wrap_i64];omega
  have w5:i64.wrap ((j:Int)-1)=(j:Int)-1:=by rw[wrap_i64]
  have e5:j+b.length+1-j=b.length+1:=by omega
  have g1:=hd.get (j+b.length);have g2:=hd.get (j+b.length-1);have g3:=hb.get (b.length-1);have Wv:(u.getD (j+b.length) 0).toNat=R/18446744073709551616^b.length:=by
   rw[digit hd,cCH,<-cCT,<-hR,cIZ];apply cDC;rw[cCK]at aAB;exact aAB
  have Uz:(u.getD (j+b.length-1) 0).toNat=R/18446744073709551616^(b.length-1)%18446744073709551616:=by
   rw[digit hd,show j+b.length-1=j+(b.length-1)from by omega,cCH,<-cCT,<-hR]
  have aLF:(b.getD (b.length-1) 0).toNat=M6.val b/18446744073709551616^(b.length-1):=by
   rw[digit hb,cIZ];apply cDC;rw[<-cCK,show(b.length-1).succ=b.length from by omega];exact aOY
  have ht:=aIJ hn aOY aYD Wv Uz aLF g1.1;rw[hx,kV,aR,w1,w2,w3,w4,aT,aT,aT,cBF,cBF,cBF,bXL,bXL,gP ⟨g1.1,g2.1,g2.2,g3.2⟩];refine aPI (fun w:Int=>R/M6.val b<=w.toNat/\0<=w/\w<18446744073709551616) ht ?_;rintro w ⟨Ao,h0,h1⟩;obtain⟨w,rfl⟩:=cCM h0;rw[cBF]at Ao;rw[aT];simp only[cBF,bXL,e5];rw[hu,gP ⟨hd,by trivial,by omega,hb,by omega,h0,h1⟩,aB,aB]
  by_cases hc:M6.val b*w<=R
  ·have ho:uH.Fg (M6.val u) j (b.length+1) (M6.val b*w)=0:=by
    unfold uH.Fg;rw[yS (by rw[<-hR];exact aAB),<-hR,bG]
   have bNE:w=q:=by
    have:w<=R/M6.val b:=by rw[Nat.le_div_iff_mul_le hV,cCI];exact hc
    omega
   subst bNE;rw[ho,cL (by rfl),aT,Nat.mul_zero,bYI,w5];exact bMW
  ·have ho:uH.Fg (M6.val u) j (b.length+1) (M6.val b*w)=1:=by
    unfold uH.Fg;rw[yS (by rw[<-hR];exact aAB),<-hR,aT]
   have bNE:q<w:=by
    rcases bXZ q w with h |h
    ·exact h
    ·exact absurd (bYC (bZW _ h) aUG) hc
   rw[ho,cO (by decide),bYB];rw[bMG hL hu hd hb (by omega) hR aAB hV aQZ hq (w-q-1) w (by omega) (by omega)];exact bMW
theorem spec(x:List Int×Nat×Nat)(b:List Int)(h:(sp x b).1):aG E f173 aF [(Ej gN .u64).put x,(pI .u64).put b]=some (sp x b).2/\∃rs oN,(sp x b).2=rs ++ [.io gN .u64 oN 0 0]/\oN.length=x.1.length:=by
 obtain⟨xl,xo,xn⟩:=x;obtain⟨hd,ho,hn,hb,h0,aLK,hL,jM⟩:=h;simp only at hd ho hn aLK hL jM;subst ho;subst hn;refine⟨(start xl 0 xl.length b).trans ?_,[_],_,rfl,M6.iA ?_⟩
 ·have w1:i64.wrap ((xl.length:Int)-(b.length:Int))=((xl.length-b.length:Nat):Int):=by rw[wrap_i64];omega
  have w2:i64.wrap (((xl.length-b.length:Nat):Int)-1)=((xl.length-b.length:Nat):Int)-1:=by rw[wrap_i64]
  rw[w1,w2,aT,cBF];refine bXF hL hb h0 aLK (xl.length-b.length) xl _ (bXK _) rfl hd (by simp) (M6.gM _) jM ?_;rw[cJH (by simp)];simp[M6.val]
 ·show _<18446744073709551616^xl.length;exact cEC (Nat.mod_le _ _) (M6.cR hd)
def aJ:dG:=orc2 (Ej gN .u64) (pI .u64) sp
theorem fnok:nJ prog E 173 f173 aF:=vR oA mixed (mP _ _ rfl rfl (nB uH.ok (nB Ak.ok wQ)) (aA aAY.ok aE) (lA)) func173 rfl rfl rfl rfl rfl
theorem ok:rW prog base.glob 173 aJ:=fnok.jR rfl spec
end Gr
namespace Bz
def E:Env:={ ({ base with C:=rP [(173,Gr.aJ)] (callsOf [(147,gV.aJ),(139,Ce.aJ),(169,aNO.aJ),(170,oZ.aJ),(108,rZ.aJ),(171,aNQ.aJ),(172,Bv.aJ),(106,Gv.aJ)]),ioF:=Mt [(173,Gr.aJ)] })with nt:=98,own:=[37,49,55,68,76,88,93],keep:=fun k=>(tlook [] k).getD [],cut:=tlook [(3,[0,1])] }
def aF:=bd f133
theorem aU:Nk E aF:=nk
def J3 a b:=lE E f133 aF 3 [iU a,iU b]
theorem start a b:aG E f133 aF [D.s (ints u64 a),D.s (ints u64 b)]=letI B:=sc (slice none 0 0);letI A:=some [D.s B,D.s B,D.s (sc (int i64 2))];aO (a.length<=1099511627776) (aD (!gV.qO a) A (aO (b.length<=1099511627776) (aD (!gV.qO b) A (Bz.J3 a b)))):=eJ aU
theorem fB a b:J3 a b=letI K:=sc (int i64 0);letI H:=(a.length:Int);letI O:=H+(1:Int);letI G:=sc (slice none 0 0);letI C:=i64.wrap O;letI A:=(b.length:Int);letI N:=A-(1:Int);letI F:=i64.wrap N;aD (A==(0:Int)) (some [D.s G,D.s G,D.s (sc (int i64 4))]) (aO (M6.bN a/\M6.bN b/\a.length<=1099511627776/\b.length<=1099511627776) (aD (decide (iS (M6.val a) (M6.val b)<0)) (aO (M6.bN a/\a.length<=1099511627776) (aC (bif dO.oM (M6.val a)then M6.dg (M6.val a)else []) fun c=>some [D.s G,D.s (ints u64 c),D.s K])) (aD (A==(1:Int)) (if(0:Int)<=(0:Int)/\0<A then aO (M6.cI a/\a.length<=8192/\0<b.getD 0 0/\b.getD 0 0<(18446744073709551616:Int)) (aC (M6.dg (M6.val a/(b.getD 0 0).toNat)) fun d=>aC (↑(M6.val a%(b.getD 0 0).toNat):Int) fun e=>aO (0<=e/\e<18446744073709551616) (some [D.s (ints u64 d),D.s (ints u64 (M6.dg e.toNat)),D.s K]))else none) (if 0<=i64.wrap N/\i64.wrap N<A then aO (0<=b.getD F.toNat 0/\b.getD F.toNat 0<(18446744073709551616:Int)) (aC ((64:Int)-(↑(bl (b.getD F.toNat 0).toNat):Int)) fun f=>aO (M6.bN a/\0<=f/\f<64/\0<=i64.wrap O/\a.length<=C.toNat/\i64.wrap O<=549755813888/\M6.val a*(2:Nat)^f.toNat<(18446744073709551616:Nat)^C.toNat) (aC (M6.oL C.toNat (M6.val a*(2:Nat)^f.toNat)) fun g=>aO (M6.bN b/\0<=f/\f<64/\0<=A/\b.length<=A.toNat/\A<=(549755813888:Int)/\M6.val b*(2:Nat)^f.toNat<(18446744073709551616:Nat)^A.toNat) (aC (M6.oL A.toNat (M6.val b*(2:Nat)^f.toNat)) fun h=>letI P:=g.length-h.length;letI I:=(h.length:Int);aO (M6.bN g/\(0:Nat)=(0:Nat)/\g.length=g.length/\M6.bN h/\0<h.length/\h.length<=g.length/\g.length<=549755813888/\M6.val g/(18446744073709551616:Nat)^P<M6.val h) (aC (M6.oL P (M6.val g/M6.val h)) fun i=>aC (M6.oL g.length (M6.val g%M6.val h)) fun j=>letI B:=cDG (I.toNat-0) (cDH 0 j);if(0:Int)<=(0:Int)/\0<=I/\I<=(g.length:Int)then aO (M6.bN B/\B.length<=1099511627776) (aC (bif dO.oM (M6.val B)then M6.dg (M6.val B)else []) fun k=>aO (M6.cI k/\k.length<=8192/\0<=f/\f<4611686018427387904) (aC (M6.dg (M6.val k/(2:Nat)^f.toNat)) fun l=>aO (M6.bN i/\i.length<=1099511627776) (aC (bif dO.oM (M6.val i)then M6.dg (M6.val i)else []) fun m=>some [D.s (ints u64 m),D.s (ints u64 l),D.s K])))else none))))else none)))):=cJ aU
def sp(a b:List Int):Prop×List D:=(M6.cI a/\a.length<=8192/\M6.cI b/\1<=b.length/\b.length<=8192,[.s (.ints .u64 (M6.dg (M6.val a/M6.val b))),.s (.ints .u64 (M6.dg (M6.val a%M6.val b))),.s (.sc (.int .i64 0))])
theorem Zk{n k:Nat}(h:n<18446744073709551616^k)(hk:k<=8192):dO.oM n=true:=decide_eq_true (by have:=M6.cU h;omega)
theorem spec:Ok E f133 aF (pI .u64) (pI .u64) sp:=by
 rintro a b ⟨ha,hl,hb,h1,aLK⟩;have e:=start a b;have g:=hb.gT.get 0;have hz:M6.val b≠0:=fun h=>by have:=(M6.cX hb).2 h;omega
 rw[gP,gV.pD ha hl,bZH,bF,gP,gV.pD hb (by omega),bZH,bF,fB,cO,gP ⟨ha.gT,hb.gT,by omega,by omega⟩]at e;unfold sp;simp only
 by_cases hc:M6.val a<M6.val b
 ·have Wo:dO.oM (M6.val a)=true:=Zk (M6.cR ha.gT) hl;rw[aR (by unfold iS;rw[if_pos hc];omega),gP ⟨ha.gT,by omega⟩,aB,Wo]at e;rw[cCW hc,cIZ hc,M6.cG];exact⟨_,e,.cons (De.nil _) (iV.refl _)⟩
 have hm:=bZR (M6.val a) (show 0<M6.val b by omega);rw[aN (by unfold iS;rw[if_neg hc];split <;> omega)]at e
 by_cases aFZ:b.length=1
 ·have hv:M6.val b=(b.getD 0 0).toNat:=by
   have:=M6.bR (a:=b) 0;rw[M6.cA (by omega)]at this;simpa [M6.val] using this
  rw[cL,if_pos ⟨by omega,by omega⟩,gP ⟨ha,by omega,by omega,by omega⟩,<-hv,aB,aB,gP ⟨cHN _,by generalize M6.val a%M6.val b=m at *;omega⟩,cBF]at e;exact⟨_,e,iV.refl _⟩
 ·have w1:i64.wrap ((b.length:Int)-1)=((b.length-1:Nat):Int):=by rw[wrap_i64];omega
  have w2:i64.wrap ((a.length:Int)+1)=((a.length+1:Nat):Int):=by rw[wrap_i64];omega
  have gt:=hb.gT.get (b.length-1);have aWR:b.getD (b.length-1) 0≠0:=by
   have:=M6.getLast_take (a:=b) (n:=b.length-1) (by omega);rw[show b.length-1+1=b.length from by omega,cEH]at this;exact hb.top this
  have aUC:=M6.bR (a:=b) (b.length-1);rw[show b.length-1+1=b.length from by omega,cEH]at aUC;have bIM:=M6.fR hb.gT (b.length-1);obtain⟨x,hx⟩:=cCM gt.1;have Kt:x≠0:=by omega
  have bUO:bl x<=64:=dX.2 (by omega);have bKL:=oO Kt;have bFT:=wP x;obtain⟨s,hs⟩:∃s:Nat,s=64-bl x:=⟨_,rfl⟩;have ws:(64-(bl x:Int))=(s:Int):=by omega
  have aDV:=M6.cR ha.gT;have bEH:=M6.cR hb.gT;have Ta:2^s<18446744073709551616:=by
   have:2^s<2^64:=cEE (by omega) (by omega);omega
  have Mx:0<2^s:=cB;have bGT:M6.val a*2^s<18446744073709551616^(a.length+1):=by rw[cCK];exact cGK aDV Ta
  have bBB:M6.val b*2^s<18446744073709551616^b.length:=by
   have h2:(x+1)*2^s<=2^bl x*2^s:=cBK _ bFT;rw[<-cCH,show bl x+s=64 from by omega]at h2;have h3:M6.val b+1<=18446744073709551616^(b.length-1)*(x+1):=by
    rw[aUC,hx,cBF,cCO];omega
   have h4:(M6.val b+1)*2^s<=18446744073709551616^(b.length-1)*(x+1)*2^s:=cBK _ h3;have h5:18446744073709551616^(b.length-1)*((x+1)*2^s)<=18446744073709551616^(b.length-1)*2^64:=bZW _ h2;have h6:18446744073709551616^(b.length-1)*2^64=18446744073709551616^b.length:=by
    conv=>rhs;rw[show b.length=(b.length-1)+1 from by omega,cCK]
   rw[h6]at h5;rw[cCN]at h4;rw[bZU]at h4;omega
  have bJL:b.length<=a.length:=by
   rcases bXZ a.length b.length with h |h
   ·exact absurd (M6.nV ha.gT hb h) hc
   ·exact h
  have Ao:18446744073709551616^(b.length-1)<=M6.val b:=by
   rw[aUC,hx,cBF];have:18446744073709551616^(b.length-1)*1<=18446744073709551616^(b.length-1)*x:=bZW _ (by omega);omega
  have Qv:M6.val a*2^s/18446744073709551616^(a.length+1-b.length)<M6.val b*2^s:=by
   apply cDC;have h1:18446744073709551616^(a.length+1-b.length)*18446744073709551616^(b.length-1)<=18446744073709551616^(a.length+1-b.length)*M6.val b:=bZW _ Ao;rw[<-cCH,show a.length+1-b.length+(b.length-1)=a.length from by omega]at h1;rw[<-cCN];exact cGJ (bYH aDV h1) Mx
  have hQ:M6.val a*2^s/(M6.val b*2^s)=M6.val a/M6.val b:=cGU _ _ Mx;have hR:M6.val a*2^s%(M6.val b*2^s)=M6.val a%M6.val b*2^s:=cGV _ _ _;have bGQ:M6.val a%M6.val b*2^s<18446744073709551616^b.length:=Nat.lt_trans (cGJ hm Mx) bBB;have hRl2:M6.val a%M6.val b*2^s<18446744073709551616^(a.length+1):=bYH bGQ (M6.pY (by omega));have bVD:M6.val a/M6.val b<18446744073709551616^a.length:=cEC (cDK _ _) aDV;have bKR:M6.val a/M6.val b<18446744073709551616^(a.length+1-b.length):=by
   apply cDC;have h1:18446744073709551616^(b.length-1)*18446744073709551616^(a.length+1-b.length)<=M6.val b*18446744073709551616^(a.length+1-b.length):=cBK _ Ao;rw[<-cCH,show b.length-1+(a.length+1-b.length)=a.length from by omega]at h1;omega
  have bCU:M6.val ((M6.oL (a.length+1) (M6.val a%M6.val b*2^s)).take b.length)=M6.val a%M6.val b*2^s:=by
   rw[M6.mJ M6.lY,M6.kZ,cIZ bGQ]
  rw[cO,w1,w2,aT,cBF,cBF,cBF,gP gt,hx,cBF,ws,aB,cBF,
   gP ⟨ha.gT,by omega,by omega,by omega,by omega,by omega,bGT⟩,aB,gP ⟨hb.gT,by omega,by omega,by omega,bXK _,by omega,bBB⟩,aB,
   M6.iA bGT,M6.iA bBB,M6.kZ,M6.kZ,cBF,gP ⟨M6.lY,rfl,rfl,M6.lY,by omega,by omega,by omega,Qv⟩,aB,aB,hQ,hR,
   aT,cDT,Nat.sub_zero,bCU,gP ⟨M6.lY.take _,by rw[bZC];omega⟩,Zk bGQ aLK,cond_true,aB,
   gP ⟨M6.bA _,by have:=M6.cU bGQ;omega,by omega,by omega⟩,M6.bD,cHW _ Mx,aB,gP ⟨M6.lY,by rw[M6.iA bKR];omega⟩,M6.kZ,Zk bVD hl,cond_true,aB]at e
  exact⟨_,e,iV.refl _⟩
def aJ:dG:=orc2 (pI .u64) (pI .u64) sp
theorem fnok:qG prog E 133 f133 aF:=Hy oA mixed (mP _ _ rfl rfl (nB Gr.ok wQ) (aA gV.ok (aA Ce.ok (aA aNO.ok (aA oZ.ok (aA rZ.ok (aA aNQ.ok (aA Bv.ok (aA Gv.ok aE)))))))) (lA)) func133 rfl rfl rfl
theorem ok:lT prog base.glob 133 aJ:=fnok.aHY rfl spec
end Bz
namespace cP
def E:=mE [(130,Ci.aJ),(84,oR.aJ),(91,pO.aJ),(131,yK.aJ),(132,mF.aJ),(133,Bz.aJ),(108,rZ.aJ),(134,wL.aJ),(135,cZ.aJ)] 122 [119] [(9,[2,3,4,5,8]),(15,[2,3,4,5,8,10,13]),(16,[2,3,4,5,8,10,16])] [9,15,16]
def aF:=bd f92
theorem aU:Nk E aF:=nk
def J9 a b c d e f g h i j:=lE E f92 aF 9 [bK a,aFE b,bM 2 35 [bC c,eF d,cV e],bM 3 35 [bC f,eF g,cV h],bM 4 35 [bC i,sc (slice none 0 0),cV j]]
def aSU a b c d e f g h i j k l:=lE E f92 aF 15 [bK a,aFE b,bM 2 35 [bC c,eF d,cV e],bM 3 35 [bC f,eF g,cV h],bM 4 35 [bC i,sc (slice none 0 0),cV j],bK k,iU l]
def aST a b c d e f g h i j k l m:=lE E f92 aF 16 [bK a,aFE b,bM 2 35 [bC c,eF d,cV e],bM 3 35 [bC f,eF g,cV h],bM 4 35 [bC i,sc (slice none 0 0),cV j],bK k,bM 6 33 [bC l,eF m]]
theorem start a b e f g h c d:aG E f92 aF [D.agg [sc (bool a),ints u64 b,sc (int i64 e)],D.agg [sc (bool f),ints u64 g,sc (int i64 h)],D.s (sc (int i64 c)),D.s (sc (bool d))]=letI F:=int i64 0;letI C:=bool false;letI B:=slice none 0 0;letI A:=some [D.agg [sc C,sc B,sc F],D.s (sc (int i64 5))];aO True (aC (decide (1<=c)&&decide (c<=70000)) fun i=>aD (!i) (some [D.agg [sc C,sc B,sc F],D.s (sc (int i64 1))]) (aO (aW (a,b,e)) (aO (aW (f,g,h)) (aO True (aC ((g.length:Int)==(0:Int)) fun j=>aD j (some [D.agg [sc C,sc B,sc F],D.s (sc (int i64 4))]) (aD (decide (4096<(b.length:Int))) A (aD (decide (4096<(g.length:Int))) A (cP.J9 c d a b e f g h false 0)))))))):=eJ aU
theorem aOA a b c d e f g h i j:J9 a b c d e f g h i j=letI A:=i64.wrap (i64.wrap (a+2)+(↑(bl (M6.val g)):Int))-(↑(bl (M6.val d)):Int);aO (M6.bN g/\g.length<=1099511627776) (aO (M6.bN d/\d.length<=1099511627776) (aO (M6.cI d/\d.length<=8192/\(0<=if i64.wrap A>(0:Int)then i64.wrap A else(0:Int))/\(if i64.wrap A>(0:Int)then i64.wrap A else(0:Int))<4611686018427387904) (aC (bif mF.kT (M6.val d) (if i64.wrap A>(0:Int)then i64.wrap A else(0:Int)).toNat then M6.dg (M6.val d*(2:Nat)^(if i64.wrap A>(0:Int)then i64.wrap A else(0:Int)).toNat)else []) fun k=>aO (M6.cI k/\k.length<=8192/\M6.cI g/\1<=g.length/\g.length<=8192) (aC (M6.dg (M6.val k/M6.val g)) fun l=>aC (M6.dg (M6.val k%M6.val g)) fun m=>aO (M6.cI l/\l.length<=8192/\(0:Int)<=(1:Int)/\(1:Int)<(4611686018427387904:Int)) (aC (bif mF.kT (M6.val l) 1 then M6.dg (M6.val l*2)else []) fun n=>letI B:=M6.val n+M6.val (M6.dg 1);aD (decide (0<(m.length:Int))) (aO ((0:Int)<=(1:Int)/\(1:Int)<(18446744073709551616:Int)) (aO (M6.cI n/\M6.cI (M6.dg 1)/\n.length<=8192/\(M6.dg 1).length<=8192) (aC (bif dO.oM B then M6.dg B else []) fun o=>cP.aSU a b c d e f g h i j (if i64.wrap A>(0:Int)then i64.wrap A else(0:Int)) o))) (cP.aSU a b c d e f g h i j (if i64.wrap A>(0:Int)then i64.wrap A else(0:Int)) n)))))):=cJ aU
theorem aBG a b c d e f g h i j k l:aSU a b c d e f g h i j k l=aD (c !=f) (cP.aST a b c d e f g h i j k (decide (0<(l.length:Int))) l) (cP.aST a b c d e f g h i j k false l):=cJ aU
theorem aBF a b c d e f g h i j k l m:aST a b c d e f g h i j k l m=letI C:=i64.wrap (i64.wrap (e-h)-k)-1;letI A:=cZ.pC b (wv (l,m)) (i64.wrap C) a;letI B:=bif jD A.fst A.snd then bV A.fst A.snd else((0:Int),(0:Int));aO (iY (l,m)/\((-4611686018427387904:Int)<=i64.wrap C/\i64.wrap C<4611686018427387904)/\1<=a/\a<=70000) (aC (isNeg B.fst) fun n=>aC (M6.dg B.fst.natAbs) fun o=>aC B.snd fun p=>aC (bif jD A.fst A.snd then(0:Int)else(5:Int)) fun q=>some [D.agg [sc (bool n),ints u64 o,sc (int i64 p)],D.s (sc (int i64 q))]):=cJ aU
def Dp(p:Int)(a b:Nat):Nat:=(p+2+(bl b:Nat)-(bl a:Nat)).toNat
def Vt(a b s:Nat):Nat:=a*2^s/b*2+if a*2^s%b=0 then 0 else 1
def bBW(p:Int)(x y:Int×Int):Int×Int:=(zs (isNeg x.1 !=isNeg y.1) (Vt x.1.natAbs y.1.natAbs (Dp p x.1.natAbs y.1.natAbs)),x.2-y.2-(Dp p x.1.natAbs y.1.natAbs:Nat)-1)
def sJ(up:Bool)(p:Int)(x y:Int×Int):Int×Int:=cZ.pC up (bBW p x y).1 (bBW p x y).2 p
def sp(x y:iW)(p:Int)(up:Bool):Prop×List D:=(aW x/\aW y/\(dv y).1≠0/\x.2.1.length<=4096/\y.2.1.length<=4096/\1<=p/\p<=70000,dE (jD (sJ up p (dv x) (dv y)).1 (sJ up p (dv x) (dv y)).2) (bV (sJ up p (dv x) (dv y)).1 (sJ up p (dv x) (dv y)).2))
theorem aPH(n:Bool)(q:Nat):wv (n&&decide (0<((M6.dg q).length:Int)),M6.dg q)=zs n q/\(bl q<=524288->iY (n&&decide (0<((M6.dg q).length:Int)),M6.dg q)):=by
 have hz:=M6.fT (n:=q)
 by_cases h:q=0
 ·rw[decide_eq_false (by have:=hz.2 h;omega),cDB,h];refine⟨?_,fun _=>⟨M6.bA _,fun hf=>absurd hf (by simp),by rw[M6.cG];simp⟩⟩;unfold wv zs;rw[M6.bD];cases n <;> rfl
 ·rw[decide_eq_true (by have:=fun hl=>h (hz.1 hl);omega),Bool.and_true];refine⟨?_,fun hb=>⟨M6.bA _,fun _=>by rw[M6.bD];exact h,gD (k:=8192) (by omega)⟩⟩;unfold wv;rw[M6.bD]
theorem vU{a s n:Nat}(h:a≠0->bl a+s<=n):bl (a*2^s)<=n:=by
 by_cases h0:a=0
 ·subst h0;rw[cFO];exact bYC (by decide) (Nat.zero_le n)
 ·rw[cCI,Ny h0];have:=h h0;omega
theorem spec:Ud E f92 aF jE jE (pN .i64) pB sp:=by
 rintro x y p up ⟨hx,hy,h0,bTE,bJI,Hw,yR⟩;have ex:=hx.2.1;have ey:=hy.2.1;refine(start x.1 x.2.1 x.2.2 y.1 y.2.1 y.2.2 p up).trans ?_;have hv0:M6.val y.2.1≠0:=fun h=>h0 (aBM.2 h)
 have aRC:y.2.1.length≠0:=fun h=>hv0 ((M6.cX hy.Fh).1 h)
 have bx:=Dc hx.Fh.gT bTE;have bWJ:=Dc hy.Fh.gT bJI
 have ax:(dv x).1.natAbs=M6.val x.2.1:=iT (x.1,x.2.1);have ay:(dv y).1.natAbs=M6.val y.2.1:=iT (y.1,y.2.1);have sx:isNeg (dv x).1=x.1:=hx.Le.cells.1;have sy:isNeg (dv y).1=y.1:=hy.Le.cells.1;have w1:i64.wrap (i64.wrap (i64.wrap (p+2)+(bl (M6.val y.2.1):Int))-(bl (M6.val x.2.1):Int))=p+2+(bl (M6.val y.2.1):Int)-(bl (M6.val x.2.1):Int):=by
  rw[wrap_i64 (n:=p+2),wrap_i64 (n:=p+2+(bl (M6.val y.2.1):Int)) (by omega) (by omega),wrap_i64]
 simp only[aB];rw[gP trivial,decide_eq_true Hw,decide_eq_true yR,cAJ,bZH,bF,gP hx,gP hy,gP trivial,cO,aN,aN,aOA,w1];unfold sp sJ bBW
 try dsimp only
 rw[ax,ay,sx,sy];have hs:(if p+2+(bl (M6.val y.2.1):Int)-(bl (M6.val x.2.1):Int)>0 then p+2+(bl (M6.val y.2.1):Int)-(bl (M6.val x.2.1):Int)else 0)=((Dp p (M6.val x.2.1) (M6.val y.2.1):Nat):Int):=by
  unfold Dp;split <;> omega
 rw[hs];have bSN:M6.val x.2.1≠0->bl (M6.val x.2.1)+Dp p (M6.val x.2.1) (M6.val y.2.1)<=332200:=fun _=>by unfold Dp;omega
 have hsl:Dp p (M6.val x.2.1) (M6.val y.2.1)<=332200:=by unfold Dp;omega
 generalize Dp p (M6.val x.2.1) (M6.val y.2.1)=s at *;have Je:=vU bSN;have hX:mF.kT (M6.val x.2.1) s=true:=by rw[Ir.Kc];exact decide_eq_true (by omega)
 have lX:=gD (n:=M6.val x.2.1*2^s) (k:=8192) (by omega);have Sz:bl (M6.val x.2.1*2^s/M6.val y.2.1)<=332200:=bYC (fW (cDK _ _)) Je;have lQ:=gD (n:=M6.val x.2.1*2^s/M6.val y.2.1) (k:=8192) (by omega);have hQ:∀q,bl q<=332200->mF.kT q 1=true:=fun q hq=>by rw[Ir.Kc];exact decide_eq_true (by have:=vU (a:=q) (s:=1) (n:=332201) (fun _=>by omega);omega)
 rw[gP ⟨hy.Fh.gT,by omega⟩,gP ⟨hx.Fh.gT,by omega⟩,gP ⟨hx.Fh,hx.len,by omega,by omega⟩,cBF];simp only[aB];rw[hX,cond_true,gP ⟨M6.bA _,lX,hy.Fh,by omega,hy.len⟩,M6.bD,gP ⟨M6.bA _,lQ,by omega,by omega⟩,M6.bD];have bSO:decide (0<(((M6.dg (M6.val x.2.1*2^s%M6.val y.2.1)).length:Nat):Int))=decide (M6.val x.2.1*2^s%M6.val y.2.1≠0):=by
  have:=M6.fT (n:=M6.val x.2.1*2^s%M6.val y.2.1)
  by_cases h:M6.val x.2.1*2^s%M6.val y.2.1=0
  ·rw[decide_eq_false (by have:=this.2 h;omega),decide_eq_false (by omega)]
  ·rw[decide_eq_true (by have:=fun hl=>h (this.1 hl);omega),decide_eq_true h]
 rw[bSO];have j16:∀(b11:Bool) (q:Nat),bl q<=332202->wv (b11,M6.dg q)=zs (x.1 !=y.1) q->iY (b11,M6.dg q)->aST p up x.1 x.2.1 x.2.2 y.1 y.2.1 y.2.2 false 0 s b11 (M6.dg q)=some (dE (jD (cZ.pC up (zs (x.1 !=y.1) q) (x.2.2-y.2.2-(s:Int)-1) p).1 (cZ.pC up (zs (x.1 !=y.1) q) (x.2.2-y.2.2-(s:Int)-1) p).2) (bV (cZ.pC up (zs (x.1 !=y.1) q) (x.2.2-y.2.2-(s:Int)-1) p).1 (cZ.pC up (zs (x.1 !=y.1) q) (x.2.2-y.2.2-(s:Int)-1) p).2)):=by
  intro b11 q hq hw Wo;have w2:i64.wrap (i64.wrap (i64.wrap (x.2.2-y.2.2)-(s:Int))-1)=x.2.2-y.2.2-(s:Int)-1:=by
   rw[wrap_i64 (n:=x.2.2-y.2.2),wrap_i64 (n:=x.2.2-y.2.2-(s:Int)),wrap_i64]
  rw[aBF,w2,gP ⟨Wo,⟨by omega,by omega⟩,Hw,yR⟩,hw];simp only[aB];rfl
 have j15:∀q,bl q<=332202->aSU p up x.1 x.2.1 x.2.2 y.1 y.2.1 y.2.2 false 0 s (M6.dg q)=some (dE (jD (cZ.pC up (zs (x.1 !=y.1) q) (x.2.2-y.2.2-(s:Int)-1) p).1 (cZ.pC up (zs (x.1 !=y.1) q) (x.2.2-y.2.2-(s:Int)-1) p).2) (bV (cZ.pC up (zs (x.1 !=y.1) q) (x.2.2-y.2.2-(s:Int)-1) p).1 (cZ.pC up (zs (x.1 !=y.1) q) (x.2.2-y.2.2-(s:Int)-1) p).2)):=by
  intro q hq;obtain⟨v1,v2⟩:=aPH (x.1 !=y.1) q;have v2:=v2 (by omega);rw[aBG];cases hn:x.1 !=y.1 with
  |true =>
   rw[hn]at v1 v2;rw[bT];have:=j16 _ q hq (by rw[hn];exact v1) v2;rw[hn]at this;exact this
  |false =>
   rw[hn]at v1 v2;rw[bF];have:=j16 _ q hq (by rw[hn];exact v1) v2;rw[hn]at this;exact this
 unfold Vt;generalize M6.val x.2.1*2^s/M6.val y.2.1=Q at *;have bVG:bl (Q*2)<=332201:=vU (s:=1) (fun _=>by omega);have bRN:=gD (n:=Q*2) (k:=8192) (by omega);have bVF:bl (Q*2+1)<=332202:=by
  rw[dX]at bVG ⊢;rw[cCK];have:=cAH (n:=332201) (show 0<2 by omega);omega
 have one:=gD (n:=1) (k:=1) (dX.2 (by omega))
 by_cases hr:M6.val x.2.1*2^s%M6.val y.2.1=0
 ·rw[aN,if_pos hr,hQ _ Sz,cond_true,j15 _ (by omega)];rfl
 ·have bQW:dO.oM (Q*2+1)=true:=by rw[show dO.oM _=_ from Cu];exact decide_eq_true (by omega)
  rw[aR,if_neg hr,hQ _ Sz,cond_true,gP ⟨by omega,by omega⟩,gP ⟨M6.bA _,M6.bA _,bRN,by omega⟩,M6.bD,M6.bD,bQW,cond_true,j15 _ bVF];rfl
def aJ:dG:=orc4 jE jE (pN .i64) pB sp
theorem ok:OK 92 aJ:=(dZ E aF (aA Ci.ok (aA oR.ok (aA pO.ok (aA yK.ok (aA mF.ok (aA Bz.ok (aA rZ.ok (aA wL.ok (aA cZ.ok aE))))))))) func92).aQH rfl spec
end cP
end W
namespace M
open Go AI W
def shD(up:Bool)(p:Int×Int)(n:Int):Int×Int:=bV (cZ.pC up p.1 p.2 n).1 (cZ.pC up p.1 p.2 n).2
def wG(up:Bool)(p:Int×Int)(n:Int):Bool:=jD (cZ.pC up p.1 p.2 n).1 (cZ.pC up p.1 p.2 n).2
theorem yE{z:Int}{k:Nat}:((z/((2^k:Nat):Int):Int):Rat)*((2^k:Nat):Rat)<=(z:Rat)/\(z:Rat)<(((z/((2^k:Nat):Int):Int):Rat)+1)*((2^k:Nat):Rat):=by
 have hp:(0:Int)<((2^k:Nat):Int):=by have:=cAH (n:=k) (show 0<2 by omega);omega
 have h1:=Int.ediv_mul_le z (show((2^k:Nat):Int)≠0 by omega);have h2:=Int.lt_ediv_add_one_mul_self z hp;constructor
 ·have:(((z/((2^k:Nat):Int))*((2^k:Nat):Int):Int):Rat)<=(z:Rat):=Rat.intCast_le_intCast.2 h1;rwa [cEV,cEW]at this
 ·have:(z:Rat)<(((z/((2^k:Nat):Int)+1)*((2^k:Nat):Int):Int):Rat):=Rat.intCast_lt_intCast.2 h2;rwa [cEV,cEW,Rat.intCast_add]at this
theorem aEI(up:Bool)(z:Int)(k:Nat):(up=false->(lK.rD up z k:Rat)*((2^k:Nat):Rat)<=(z:Rat)/\(z:Rat)<(lK.rD up z k:Rat)*((2^k:Nat):Rat)+((2^k:Nat):Rat))/\(up=true->(z:Rat)<=(lK.rD up z k:Rat)*((2^k:Nat):Rat)/\(lK.rD up z k:Rat)*((2^k:Nat):Rat)<(z:Rat)+((2^k:Nat):Rat)):=by
 constructor
 ·rintro rfl;obtain⟨h1,h2⟩:=yE (z:=z) (k:=k);unfold lK.rD;rw[cond_false];generalize ((z/((2^k:Nat):Int):Int):Rat)=q at *;constructor <;> grind
 ·rintro rfl;obtain⟨h1,h2⟩:=yE (z:=-z) (k:=k);unfold lK.rD;rw[cond_true,cIX];rw[cIX]at h1 h2;generalize ((-z/((2^k:Nat):Int):Int):Rat)=q at *;constructor <;> grind
theorem nR{p:Int×Int}(h:p.1≠0):R.pz (bI p)<=R.ab (R.qz p)/\R.ab (R.qz p)<R.pz (bI p+1):=by
 have hb:=oO (n:=p.1.natAbs) (by omega);have h1:2^(bl p.1.natAbs-1)<=p.1.natAbs:=sO.1 (by omega);have h2:=wP p.1.natAbs;have e:R.ab (R.qz p)=(p.1.natAbs:Rat)*R.pz p.2:=by
  unfold R.qz;rw[R.eA,R.bW (cCJ (R.cY p.2))];congr 1;unfold R.ab
  by_cases hz:0<=p.1
  ·rw[if_pos (by exact_mod_cast hz),<-cEW];congr 1;omega
  ·rw[if_neg (by intro hc;exact hz (by exact_mod_cast hc)),<-cEW,<-cIX];congr 1;omega
 have hp:=R.cY p.2;rw[e];unfold bI;constructor
 ·rw[show p.2+(bl p.1.natAbs:Int)-1=p.2+((bl p.1.natAbs-1:Nat):Int) by omega,R.dT];have aDW:((2^(bl p.1.natAbs-1):Nat):Rat)<=(p.1.natAbs:Rat):=by exact_mod_cast h1
  have:=R.aM (cCJ hp) (show 0<=(p.1.natAbs:Rat)-((2^(bl p.1.natAbs-1):Nat):Rat) by grind);grind
 ·rw[show p.2+(bl p.1.natAbs:Int)-1+1=p.2+(bl p.1.natAbs:Int) by omega,R.dT];have aYH:(p.1.natAbs:Rat)<((2^bl p.1.natAbs:Nat):Rat):=by exact_mod_cast h2
  have:=Rat.mul_pos hp (show 0<((2^bl p.1.natAbs:Nat):Rat)-(p.1.natAbs:Rat) by grind);grind
theorem Hi(up:Bool)(p:Int×Int){n:Int}(bAO:1<=n):(up=false->R.qz (shD up p n)<=R.qz p/\R.qz p<=R.qz (shD up p n)+R.pz (1-n)*R.ab (R.qz p))/\(up=true->R.qz p<=R.qz (shD up p n)/\R.qz (shD up p n)<=R.qz p+R.pz (1-n)*R.ab (R.qz p)):=by
 have h0:0<=R.pz (1-n)*R.ab (R.qz p):=R.aM (cCJ (R.cY _)) (R.bB _);unfold shD cZ.pC;split
 ·have e:R.qz (bV p.1 p.2)=R.qz p:=rL p.1 p.2;dsimp only;rw[e];constructor <;> (intro _;constructor <;> grind)
 ·rename_i hn;obtain⟨k,hk⟩:=cCM (show 0<=(bl p.1.natAbs:Int)-n by omega);have Mx:p.1≠0:=by
   intro hz;rw[hz]at hn;have hb:bl (0:Int).natAbs=0:=rfl;rw[hb]at hn;omega
  obtain⟨c1,c2⟩:=aEI up p.1 k;dsimp only;rw[hk,cBF,rL,R.dT];have qJ:=R.cY p.2;have ht:=(nR Mx).1;have e2:R.pz p.2*((2^k:Nat):Rat)<=R.pz (1-n)*R.ab (R.qz p):=by
   have e3:R.pz p.2*((2^k:Nat):Rat)=R.pz (1-n)*R.pz (bI p):=by
    rw[<-R.dT,<-R.iG];congr 1;unfold bI;omega
   rw[e3];have:=R.aM (cCJ (R.cY (1-n))) (show 0<=R.ab (R.qz p)-R.pz (bI p) by grind);grind
  have eq:R.qz p=(p.1:Rat)*R.pz p.2:=rfl;generalize R.pz (1-n)*R.ab (R.qz p)=X at *;rw[eq];generalize (lK.rD up p.1 k:Rat)=c at *;generalize ((2^k:Nat):Rat)=K at *;constructor
  ·intro hu;obtain⟨d1,d2⟩:=c1 hu;have m1:=R.aM (cCJ qJ) (show 0<=(p.1:Rat)-c*K by grind);have m2:=R.aM (cCJ qJ) (show 0<=c*K+K-(p.1:Rat) by grind);constructor <;> grind
  ·intro hu;obtain⟨d1,d2⟩:=c2 hu;have m1:=R.aM (cCJ qJ) (show 0<=c*K-(p.1:Rat) by grind);have m2:=R.aM (cCJ qJ) (show 0<=(p.1:Rat)+K-c*K by grind);constructor <;> grind
theorem Tv(n:Nat):bl (2^n)=n+1:=by
 have h1:=dX (n:=2^n) (k:=n+1);have h2:=sO (n:=2^n) (k:=n);have:2^n<2^(n+1):=cEE (by omega) (by omega);have:=h1.2 this;have:=h2.2 (bXK _);omega
theorem Cr(z e:Int):bl (bV z e).1.natAbs<=bl z.natAbs:=fW (Wb z e)
theorem aAG(up:Bool)(z:Int)(k n:Nat)(h:bl z.natAbs<=n+k):bl (lK.rD up z k).natAbs<=n+1:=by
 have hz:=dX.1 h;rw[cCH]at hz;have hp:=cAH (n:=k) (show 0<2 by omega);have hn:=cAH (n:=n) (show 0<2 by omega);refine dX.2 ?_;rw[cCK];have fl:∀w:Int,w.natAbs<2^n*2^k->(w/((2^k:Nat):Int)).natAbs<=2^n:=by
  intro w hw;have h1:=cGY w ((2^k:Nat):Int);have h2:=cGZ w (show((2^k:Nat):Int)≠0 by omega);have h3:=cHA w (show(0:Int)<((2^k:Nat):Int) by omega);have aUB:(w.natAbs:Int)<((2^n:Nat):Int)*((2^k:Nat):Int):=by exact_mod_cast hw
  generalize w/((2^k:Nat):Int)=q at *;generalize ((2^k:Nat):Int)=K at *;generalize hN:2^n=N at *
  by_cases hq:0<=q
  ·have:q<(N:Int):=by
    refine Int.not_le.1 fun hc=>?_
    have:=cJL hc (show 0<=K by omega);rw[Int.mul_comm K (N:Int)]at this;omega
   omega
  ·have:-(N:Int)<=q:=by
    refine Int.not_lt.1 fun hc=>?_
    have:=cJL (show q<=-(N:Int)-1 by omega) (show 0<=K by omega);rw[Int.mul_sub,cGW,Int.mul_one,Int.mul_comm K (N:Int)]at this;omega
   omega
 unfold lK.rD;cases up with
 |false =>
  rw[cond_false];have:=fl z hz;omega
 |true =>
  rw[cond_true,cFM];have:=fl (-z) (by rw[cFM];exact hz);omega
def bGV(p:Int×Int):Prop:=mU p/\p.2+(bl p.1.natAbs:Nat)<=1048000
theorem Ql{up:Bool}{p:Int×Int}{n:Int}(hp:bGV p)(hn:1<=n):wG up p n=true/\mU (shD up p n):=by
 obtain⟨⟨h1,h2,h3,h4⟩,h5⟩:=hp;unfold wG shD cZ.pC;split
 ·dsimp only;have hi:jD p.1 p.2=true:=by
   unfold jD
   by_cases hz:p.1=0
   ·rw[decide_eq_true hz,cDL]
   ·have ht:=He (n:=p.1.natAbs) (by have:=h4 hz;omega);rw[ht,decide_eq_false hz,bZI,decide_eq_true (show -1048576<=p.2+((0:Nat):Int) by omega),decide_eq_true (show p.2+((0:Nat):Int)<=1048576 by omega)];rfl
  exact⟨hi,jQ hi h1⟩
 ·rename_i hk;dsimp only;have hc:=lK.aEJ up p.1 ((bl p.1.natAbs:Int)-n).toNat;have bON:=aAG up p.1 ((bl p.1.natAbs:Int)-n).toNat n.toNat (by omega);generalize lK.rD up p.1 ((bl p.1.natAbs:Int)-n).toNat=c at *;have bUN:bl c.natAbs<=bl p.1.natAbs:=fW hc;have bKG:c≠0->tz c.natAbs<bl c.natAbs:=fun h=>Qg (by omega)
  have hi:jD c (p.2+((bl p.1.natAbs:Int)-n))=true:=by
   unfold jD
   by_cases hz:c=0
   ·rw[decide_eq_true hz,cDL]
   ·have:=bKG hz;rw[decide_eq_false hz,bZI,decide_eq_true (show -1048576<=p.2+((bl p.1.natAbs:Int)-n)+(tz c.natAbs:Int) by omega),decide_eq_true (show p.2+((bl p.1.natAbs:Int)-n)+(tz c.natAbs:Int)<=1048576 by omega)];rfl
  exact⟨hi,jQ hi (bYC bUN h1)⟩
end M
namespace M
open Go AI W
theorem aJW:mU (0,0):=⟨by decide,⟨by decide,by decide⟩,fun _=>rfl,fun h=>absurd rfl h⟩
theorem Co{p q:Int×Int}(hp:mU p)(hq:mU q)(h:bY.jG p q=true):mU (bY.kB p q):=by
 unfold bY.kB;split
 ·exact hq
 ·split
  ·exact hp
  ·rename_i h1 h2;unfold bY.jG at h;rw[decide_eq_false h1,decide_eq_false h2,bZI,bZI,bXN,bXN,bXN]at h;exact jQ h.2.2.2 (of_decide_eq_true h.2.2.1)
theorem mU.top{p:Int×Int}(h:mU p):-1048577<=bI p/\bI p<=1572864:=by
 obtain⟨h1,h2,_⟩:=h;unfold bI;omega
def aHG(p:Int×Int):Int×Int:=((p.1.natAbs:Nat),1-(bl p.1.natAbs:Nat))
theorem aJX{p:Int×Int}(h:mU p)(h0:p.1≠0):mU (aHG p):=by
 obtain⟨h1,h2,h3,h4⟩:=h;have:=h4 h0;unfold aHG;refine⟨by dsimp only;rw[cDF];exact h1,by dsimp only;omega,fun h=>by dsimp only at h;omega,fun _=>by dsimp only;omega⟩
theorem Da{p q:Int×Int}:dQ p q=0↔R.qz p=R.qz q:=by
 obtain⟨h1,h2⟩:=Kz p q;have a:=R.aCT (p:=p) (q:=q) h1 h2;have b:=R.aCT (p:=q) (q:=p) h2 h1;unfold dQ;rw[aSF];constructor
 ·intro h;exact cJT (a.2 (Int.le_of_eq h)) (b.2 (Int.le_of_eq h.symm))
 ·intro h;exact Int.le_antisymm (a.1 (by rw[h];exact cDM)) (b.1 (by rw[h];exact cDM))
theorem zL{p q:Int×Int}:dQ p q<0↔R.qz p<R.qz q:=by
 have h1:=lC (p:=p) (q:=q);have h3:=Da (p:=p) (q:=q);constructor
 ·intro h;have:=h1.1 (by omega);refine Rat.not_le.1 fun hn=>?_
  have:=h3.2 (cJT this hn);omega
 ·intro h;have a:=h1.2 (cCJ h);have b:dQ p q≠0:=fun hn=>Rat.lt_irrefl ((h3.1 hn)▸h)
  omega
theorem aJB{p q:Int×Int}(h:dQ p q≠0):(bY.kB q (-p.1,p.2)).1≠0:=by
 intro h0;have h1:=Eg q (-p.1,p.2);rw[nU,R.qH h0]at h1;exact h (Da.2 (by grind))
theorem Cj{p:Int×Int}(h:p.1=0):dQ p (0,0)=0:=by
 rw[Da,R.qH h,R.qH rfl]
theorem mU.Hr{p:Int×Int}(h:mU p):mU (-p.1,p.2):=by
 obtain⟨x1,x2,x3,x4⟩:=h;exact⟨by dsimp only;rw[cFM];exact x1,x2,fun h=>x3 (by dsimp only at h;omega),fun h=>by dsimp only at h ⊢;have:=x4 (by omega);omega⟩
theorem aW.fD{x:iW}(h:aW x)(hb:bl (dv x).1.natAbs<=262144):x.2.1.length<=4096:=by
 have e:M6.dg (dv x).1.natAbs=x.2.1:=h.Le.cells.2;rw[<-e];exact gD (k:=4096) (by omega)
def aHJ(p q:Int×Int):Int×Int:=bif decide (dQ q p<0)then q else p
def aDX(p q:Int×Int):Int×Int:=bif decide (0<dQ q p)then q else p
theorem aKJ(p q:Int×Int):aHJ p q=p\/aHJ p q=q:=by unfold aHJ;cases decide (dQ q p<0);exact Or.inl rfl;exact Or.inr rfl
theorem aLP(p q:Int×Int):aDX p q=p\/aDX p q=q:=by unfold aDX;cases decide (0<dQ q p);exact Or.inl rfl;exact Or.inr rfl
theorem aWH(p q:Int×Int):R.qz (aHJ p q)<=R.qz p/\R.qz (aHJ p q)<=R.qz q:=by
 unfold aHJ
 by_cases h:dQ q p<0
 ·rw[decide_eq_true h,cond_true];exact⟨cCJ (zL.1 h),cDM⟩
 ·rw[decide_eq_false h,cond_false];exact⟨cDM,Rat.not_lt.1 fun hn=>h (zL.2 hn)⟩
end M
namespace W
open Go AI M
namespace cE
def E:=mE [] 11 [] [] []
def aF:=bd f143
theorem aU:Nk E aF:=nk
theorem start a:aG E f143 aF [D.s (sc (int i64 a))]=letI A:=int i64 0;aD (a==32) (some [D.agg [sc (int i64 32),sc (int i64 24),sc (int i64 (-149:Int)),sc (int u64 2143289345)]]) (aD (a==64) (some [D.agg [sc (int i64 64),sc (int i64 53),sc (int i64 (-1074:Int)),sc (int u64 9221120237041090561)]]) (some [D.agg [sc A,sc A,sc A,sc (int u64 0)]])):=eJ aU
def sG(f:Int):Int×Int×Int×Int:=if f=32 then(32,24,-149,2143289345)else if f=64 then(64,53,-1074,9221120237041090561)else(0,0,0,0)
def bHF(s:Int×Int×Int×Int):D:=.agg [.sc (.int .i64 s.1),.sc (.int .i64 s.2.1),.sc (.int .i64 s.2.2.1),.sc (.int .u64 s.2.2.2)]
def Two(s:Int×Int×Int×Int):Prop:=s=(32,24,-149,2143289345)\/s=(64,53,-1074,9221120237041090561)
theorem two32:Two (32,24,-149,2143289345):=.inl rfl
theorem Vh:Two (64,53,-1074,9221120237041090561):=.inr rfl
def sp(f:Int):Prop×List D:=(True,[bHF (sG f)])
theorem spec:iD E f143 aF (pN .i64) sp:=by
 intro f h;refine(start f).trans ?_;unfold sp sG
 try dsimp only
 by_cases h1:f=32
 ·rw[cL h1,if_pos h1];rfl
 ·rw[cO h1,if_neg h1]
  by_cases h2:f=64
  ·rw[cL h2,if_pos h2];rfl
  ·rw[cO h2,if_neg h2];rfl
def aJ:dG:=orc1 (pN .i64) sp
theorem ok:OK 143 aJ:=(dZ E aF aE func143).oS rfl spec
end cE
namespace jH
def E:=mE [] 7 [] [] []
def aF:=bd f144
theorem aU:Nk E aF:=nk
theorem start a b c d:aG E f144 aF [D.agg [sc (int i64 a),sc (int i64 b),sc (int i64 c),sc (int u64 d)]]=if i64.wrap (a-1)<0 then none else some [D.s (sc (int u64 (u64.wrap ((1:Int)*(↑((2:Nat)^min (i64.wrap (a-1)).toNat 64):Int)))))]:=eJ aU
def kF(s:Int×Int×Int×Int):Int:=if s.1=32 then 2147483648 else 9223372036854775808
def sp(s:Int×Int×Int×Int):Prop×List D:=(cE.Two s,[.s (.sc (.int .u64 (kF s)))])
theorem spec:iD E f144 aF (pG (.pair (sN .i64) (.pair (sN .i64) (.pair (sN .i64) (sN .u64))))) sp:=by
 intro s h;refine(start s.1 s.2.1 s.2.2.1 s.2.2.2).trans ?_;rcases h with rfl |rfl
 ·rfl
 ·rfl
def aJ:dG:=orc1 (pG (.pair (sN .i64) (.pair (sN .i64) (.pair (sN .i64) (sN .u64))))) sp
theorem ok:OK 144 aJ:=(dZ E aF aE func144).oS rfl spec
end jH
namespace gX
def E:=mE [(143,cE.aJ),(144,jH.aJ)] 36 [] [(6,[1,4,8])] [6]
def aF:=bd f102
theorem aU:Nk E aF:=nk
def J6 a b c d e f g h i:=lE E f102 aF 6 [dM a,bM 1 135 [cV b,cV c,cV d,bBP e],bM 2 135 [cV f,cV g,cV h,bBP i]]
theorem start a b:aG E f102 aF [D.s (sc (int i64 a)),D.s (sc (int u64 b))]=letI A:=cE.sG a;letI G:=int i64 A.snd.fst;letI F:=int u64 A.snd.snd.snd;letI C:=int i64 A.snd.snd.fst;letI B:=gX.J6 b 0 0 0 0 A.fst A.snd.fst A.snd.snd.fst A.snd.snd.snd;aO True (aD (A.fst==0&&(A.snd.fst==0&&(A.snd.snd.fst==0&&(A.snd.snd.snd==0&&true)))) (some [D.agg [sc (int i64 A.fst),sc G,sc C,sc F],D.s (sc (bool false)),D.s (sc (int u64 0)),D.s (sc (int i64 1))]) (aD (decide (A.fst<64)) (if A.fst<0 then none else aD (b/(↑((2:Nat)^min A.fst.toNat 64):Int) !=(0:Int)) (some [D.agg [sc (int i64 A.fst),sc G,sc C,sc F],D.s (sc (bool false)),D.s (sc (int u64 0)),D.s (sc (int i64 2))]) B) B)):=eJ aU
theorem uI a b c d e f g h i:J6 a b c d e f g h i=letI A:=(f,g,h,i);aO (cE.Two A) (aO (cE.Two A) (some [D.agg [sc (int i64 f),sc (int i64 g),sc (int i64 h),sc (int u64 i)],D.s (sc (bool (fU BinOp.and u64 a (jH.kF A) !=0))),D.s (sc (int u64 (fU BinOp.andNot u64 a (jH.kF A)))),D.s (sc (int i64 0))])):=cJ aU
theorem Xz{a b:Int}(ha:0<=a)(bGO:a<18446744073709551616)(hb:0<=b)(xJ:b<18446744073709551616):fU .andNot .u64 a b=((a.toNat &&& (2^64-(b.toNat+1)):Nat):Int):=by
 obtain⟨n,rfl⟩:=cCM ha;obtain⟨m,rfl⟩:=cCM hb;rw[tG];unfold bitsI0;simp only;have e:(BitVec.ofInt u64.bits (n:Int) &&& ~~~ BitVec.ofInt u64.bits (m:Int)).toNat=n &&& (2^64-(m+1)):=by
  show(BitVec.ofInt 64 (n:Int) &&& ~~~ BitVec.ofInt 64 (m:Int)).toNat=_;rw[BitVec.toNat_and,BitVec.toNat_not];have e1:(BitVec.ofInt 64 (n:Int)).toNat=n:=by simp;omega
  have e2:(BitVec.ofInt 64 (m:Int)).toNat=m:=by simp;omega
  rw[e1,e2];congr 1;omega
 have hle:n &&& (2^64-(m+1))<=n:=Nat.and_le_left;rw[e,wrap_u64];rfl
theorem Rd{n k:Nat}(hk:k<64)(h:n<2^(k+1)):n &&& (2^64-(2^k+1))=n%2^k:=by
 refine cIJ fun i=>?_
 have hp:2^k<2^64:=cEE (by decide) hk;rw[cIG,Nat.testBit_two_pow_sub_succ hp,Nat.testBit_mod_two_pow,cJM]
 by_cases h1:i<k
 ·have:¬k=i:=by omega
  have bKZ:i<64:=by omega
  simp[h1,this,bKZ]
 ·by_cases h2:i=k
  ·subst h2;simp
  ·have:n<2^i:=bYH h (cAI (by decide) (by omega));rw[cJV this];simp
theorem aBU{n k:Nat}(h:n<2^(k+1)):(n &&& 2^k)=if 2^k<=n then 2^k else 0:=by
 refine cIJ fun i=>?_
 rw[cIG,cJM]
 by_cases h1:2^k<=n
 ·have ht:n.testBit k=true:=by
   rw[Nat.testBit_eq_decide_div_mod_eq];have:=cFZ (k:=1) (show 1*2^k<=n by omega) (show n<(1+1)*2^k by rw[cCK]at h;omega);rw[this];rfl
  rw[if_pos h1,cJM]
  by_cases hi:k=i
  ·subst hi;simp[ht]
  ·simp[hi]
 ·rw[if_neg h1,Nat.zero_testBit]
  by_cases hi:k=i
  ·subst hi;rw[cJV (by omega)];rfl
  ·simp[hi]
def lO(f b:Int):Bool:=decide (f=64)||decide (b<4294967296)
def sp(f b:Int):Prop×List D:=((f=32\/f=64)/\0<=b/\b<18446744073709551616,[cE.bHF (cE.sG f),.s (.sc (.bool (lO f b&&decide (jH.kF (cE.sG f)<=b)))),.s (.sc (.int .u64 (bif lO f b then b%jH.kF (cE.sG f)else 0))),.s (.sc (.int .i64 (bif lO f b then 0 else 2)))])
theorem spec:eR E f102 aF (pN .i64) (pN .u64) sp:=by
 rintro f b ⟨hf,h0,h1⟩;obtain⟨n,rfl⟩:=cCM h0;refine(start f n).trans ((gP trivial).trans ?_);unfold sp
 try dsimp only
 rcases hf with rfl |rfl
 ·rw[show cE.sG 32=(32,24,-149,2143289345)from rfl]
  try dsimp only
  rw[Ii (by decide),aR (by decide),if_neg (by decide),show min (32:Int).toNat 64=32 from rfl,show jH.kF (32,24,-149,2143289345)=2147483648 from rfl]
  by_cases hc:(n:Int)<4294967296
  ·have hp:lO 32 n=true:=by unfold lO;rw[decide_eq_true hc,cDZ]
   have a1:fU .and .u64 (n:Int) 2147483648=if(2147483648:Int)<=n then 2147483648 else 0:=by
    rw[Ya (by omega) (by omega) (by omega) (by omega),cBF];have:=aBU (n:=n) (k:=31) (by omega);rw[show(2147483648:Int).toNat=2^31 from rfl,this];split <;> split <;> first |rfl |omega
   have a2:fU .andNot .u64 (n:Int) 2147483648=(n:Int)%2147483648:=by
    rw[Xz (by omega) (by omega) (by omega) (by omega),cBF,show(2147483648:Int).toNat=2^31 from rfl,Rd (by omega) (by omega)];omega
   rw[gG,uI,gP cE.two32,gP cE.two32,show jH.kF (32,24,-149,2143289345)=2147483648 from rfl,a1,a2,hp]
   by_cases hd:(2147483648:Int)<=n
   ·rw[if_pos hd,decide_eq_true hd];rfl
   ·rw[if_neg hd,decide_eq_false hd];rfl
  ·have hp:lO 32 n=false:=by unfold lO;rw[decide_eq_false hc];rfl
   rw[nD,hp];rfl
 ·rw[show cE.sG 64=(64,53,-1074,9221120237041090561)from rfl]
  try dsimp only
  have hp:lO 64 n=true:=rfl;have a1:fU .and .u64 (n:Int) 9223372036854775808=if(9223372036854775808:Int)<=n then 9223372036854775808 else 0:=by
   rw[Ya (by omega) (by omega) (by omega) (by omega),cBF];have:=aBU (n:=n) (k:=63) (by omega);rw[show(9223372036854775808:Int).toNat=2^63 from rfl,this];split <;> split <;> first |rfl |omega
  have a2:fU .andNot .u64 (n:Int) 9223372036854775808=(n:Int)%9223372036854775808:=by
   rw[Xz (by omega) (by omega) (by omega) (by omega),cBF,show(9223372036854775808:Int).toNat=2^63 from rfl,Rd (by omega) (by omega)];omega
  rw[Ii (by decide),aN (by decide),uI,gP cE.Vh,gP cE.Vh,show jH.kF (64,53,-1074,9221120237041090561)=9223372036854775808 from rfl,a1,a2,hp]
  by_cases hd:(9223372036854775808:Int)<=n
  ·rw[if_pos hd,decide_eq_true hd];rfl
  ·rw[if_neg hd,decide_eq_false hd];rfl
def aJ:dG:=orc2 (pN .i64) (pN .u64) sp
theorem ok:OK 102 aJ:=(dZ E aF (aA cE.ok (aA jH.ok aE)) func102).jR rfl spec
end gX
namespace gI
def E:=mE [] 7 [] [] []
def aF:=bd f145
theorem aU:Nk E aF:=nk
theorem start a b c d:aG E f145 aF [D.agg [sc (int i64 a),sc (int i64 b),sc (int i64 c),sc (int u64 d)]]=if i64.wrap (b-1)<0 then none else some [D.s (sc (int u64 (u64.wrap ((1:Int)*(↑((2:Nat)^min (i64.wrap (b-1)).toNat 64):Int)))))]:=eJ aU
def tD(s:Int×Int×Int×Int):Int:=if s.1=32 then 8388608 else 4503599627370496
def sp(s:Int×Int×Int×Int):Prop×List D:=(cE.Two s,[.s (.sc (.int .u64 (tD s)))])
theorem spec:iD E f145 aF (pG (.pair (sN .i64) (.pair (sN .i64) (.pair (sN .i64) (sN .u64))))) sp:=by
 intro s h;refine(start s.1 s.2.1 s.2.2.1 s.2.2.2).trans ?_;rcases h with rfl |rfl
 ·rfl
 ·rfl
def aJ:dG:=orc1 (pG (.pair (sN .i64) (.pair (sN .i64) (.pair (sN .i64) (sN .u64))))) sp
theorem ok:OK 145 aJ:=(dZ E aF aE func145).oS rfl spec
end gI
namespace yO
def E:=mE [(144,jH.aJ),(145,gI.aJ)] 8 [] [] []
def aF:=bd f146
theorem aU:Nk E aF:=nk
theorem start a b c d:aG E f146 aF [D.agg [sc (int i64 a),sc (int i64 b),sc (int i64 c),sc (int u64 d)]]=letI A:=(a,b,c,d);aO (cE.Two A) (aO (cE.Two A) (some [D.s (sc (int u64 (u64.wrap (jH.kF A-gI.tD A))))])):=eJ aU
def Di(s:Int×Int×Int×Int):Int:=if s.1=32 then 2139095040 else 9218868437227405312
def sp(s:Int×Int×Int×Int):Prop×List D:=(cE.Two s,[.s (.sc (.int .u64 (Di s)))])
theorem spec:iD E f146 aF (pG (.pair (sN .i64) (.pair (sN .i64) (.pair (sN .i64) (sN .u64))))) sp:=by
 intro s h;refine(start s.1 s.2.1 s.2.2.1 s.2.2.2).trans ((gP h).trans ((gP h).trans ?_));rcases h with rfl |rfl
 ·rfl
 ·rfl
def aJ:dG:=orc1 (pG (.pair (sN .i64) (.pair (sN .i64) (.pair (sN .i64) (sN .u64))))) sp
theorem ok:OK 146 aJ:=(dZ E aF (aA jH.ok (aA gI.ok aE)) func146).oS rfl spec
end yO
namespace Af
def E:=mE [(145,gI.aJ),(146,yO.aJ)] 23 [] [] []
def aF:=bd f103
theorem aU:Nk E aF:=nk
theorem start a c d e b:aG E f103 aF [D.agg [sc (int i64 a),sc (int i64 c),sc (int i64 d),sc (int u64 e)],D.s (sc (int u64 b))]=letI B:=(a,c,d,e);letI A:=cE.Two B;aD (b==0) (some [D.s (sc (int i64 0))]) (aO A (aD (decide (b<gI.tD B)) (some [D.s (sc (int i64 1))]) (aO A (aD (decide (b<yO.Di B)) (some [D.s (sc (int i64 2))]) (aO A (aD (b==yO.Di B) (some [D.s (sc (int i64 3))]) (some [D.s (sc (int i64 4))]))))))):=eJ aU
def zM(s:Int×Int×Int×Int)(n:Int):Int:=if n=0 then 0 else if n<gI.tD s then 1 else if n<yO.Di s then 2 else if n=yO.Di s then 3 else 4
def sp(s:Int×Int×Int×Int)(n:Int):Prop×List D:=(cE.Two s,[.s (.sc (.int .i64 (zM s n)))])
theorem spec:eR E f103 aF (pG (.pair (sN .i64) (.pair (sN .i64) (.pair (sN .i64) (sN .u64))))) (pN .u64) sp:=by
 intro s n h;obtain⟨s1,s2,s3,s4⟩:=s;have h:cE.Two (s1,s2,s3,s4):=h;refine(start s1 s2 s3 s4 n).trans ?_;show _=some [D.s (.sc (.int .i64 (zM (s1,s2,s3,s4) n)))];unfold zM
 by_cases h1:n=0
 ·rw[cL h1,if_pos h1]
 ·rw[cO h1,if_neg h1,gP h]
  by_cases h2:n<gI.tD (s1,s2,s3,s4)
  ·rw[aR h2,if_pos h2]
  ·rw[aN h2,if_neg h2,gP h]
   by_cases h3:n<yO.Di (s1,s2,s3,s4)
   ·rw[aR h3,if_pos h3]
   ·rw[aN h3,if_neg h3,gP h]
    by_cases h4:n=yO.Di (s1,s2,s3,s4)
    ·rw[cL h4,if_pos h4]
    ·rw[cO h4,if_neg h4]
def aJ:dG:=orc2 (pG (.pair (sN .i64) (.pair (sN .i64) (.pair (sN .i64) (sN .u64))))) (pN .u64) sp
theorem ok:OK 103 aJ:=(dZ E aF (aA gI.ok (aA yO.ok aE)) func103).jR rfl spec
end Af
namespace Pg
def E:=mE [(102,gX.aJ),(103,Af.aJ)] 24 [13,23] [] []
def aF:=bd f65
theorem aU:Nk E aF:=nk
theorem start a b:aG E f65 aF [D.s (sc (int i64 a)),D.s (sc (int u64 b))]=letI C:=bif gX.lO a b then(0:Int)else(2:Int);letI A:=cE.sG a;letI B:=(A.fst,A.snd.fst,A.snd.snd.fst,A.snd.snd.snd);aO ((a=32\/a=64)/\0<=b/\b<18446744073709551616) (aD (C !=0) (some [D.s (sc (int i64 0)),D.s (sc (int i64 C))]) (aO (cE.Two B) (some [D.s (sc (int i64 (Af.zM B (bif gX.lO a b then b%jH.kF A else(0:Int))))),D.s (sc (int i64 0))]))):=eJ aU
def sp(f b:Int):Prop×List D:=((f=32\/f=64)/\0<=b/\b<18446744073709551616,[.s (.sc (.int .i64 (bif gX.lO f b then Af.zM (cE.sG f) (b%jH.kF (cE.sG f))else 0))),.s (.sc (.int .i64 (bif gX.lO f b then 0 else 2)))])
theorem spec:eR E f65 aF (pN .i64) (pN .u64) sp:=by
 intro f b h;refine(start f b).trans ((gP h).trans ?_);unfold sp
 try dsimp only
 have ht:cE.Two (cE.sG f):=by
  rcases h.1 with rfl |rfl
  ·exact .inl rfl
  ·exact .inr rfl
 cases hp:gX.lO f b with
 |false=>rfl
 |true =>
  try dsimp only[cond_true]
  rw[gG rfl,gP ht]
def aJ:dG:=orc2 (pN .i64) (pN .u64) sp
theorem ok:OK 65 aJ:=(dZ E aF (aA gX.ok (aA Af.ok aE)) func65).jR rfl spec
end Pg
namespace bQ
def E:=mE [(65,Pg.aJ)] 42 [26] [(3,[1])] [3]
def aF:=bd f28
theorem aU:Nk E aF:=nk
def J3 a:=lE E f28 aF 3 [dM a]
theorem start a b c:aG E f28 aF [D.s (sc (int i64 a)),D.s (sc (int u64 b)),D.s (sc (int i64 c))]=letI A:=some [D.s (sc (bool false)),D.s (sc (int i64 1))];aD (decide (a<1)) A (aD (decide (3<a)) A (aD (decide (c<1)) A (aD (decide (66000<c)) A (bQ.J3 b)))):=eJ aU
theorem fB a:J3 a=letI A:=bif gX.lO 64 a then Af.zM (cE.sG 64) (a%9223372036854775808)else(0:Int);letI B:=some [D.s (sc (bool (A==0))),D.s (sc (int i64 6))];aO (((64:Int)=(32:Int)\/(64:Int)=(64:Int))/\0<=a/\a<18446744073709551616) (aD (A==3) B (aD (A==4) B (some [D.s (sc (bool (A==0))),D.s (sc (int i64 (bif gX.lO 64 a then(0:Int)else(2:Int))))]))):=cJ aU
def Dr(b:Int):Int:=bif gX.lO 64 b then Af.zM (cE.sG 64) (b%9223372036854775808)else 0
def pP(fn b p:Int):Int:=if fn<1 then 1 else if 3<fn then 1 else if p<1 then 1 else if 66000<p then 1 else if Dr b=3 then 6 else if Dr b=4 then 6 else bif gX.lO 64 b then 0 else 2
def Yh(fn b p:Int):Bool:=if fn<1 then false else if 3<fn then false else if p<1 then false else if 66000<p then false else Dr b==0
def sp(fn b p:Int):Prop×List D:=(0<=b/\b<18446744073709551616,[.s (.sc (.bool (Yh fn b p))),.s (.sc (.int .i64 (pP fn b p)))])
theorem spec:sR E f28 aF (pN .i64) (pN .u64) (pN .i64) sp:=by
 intro fn b p h;refine(start fn b p).trans ?_;unfold sp pP Yh;dsimp only
 by_cases c1:fn<1
 ·rw[aR c1,if_pos c1,if_pos c1]
 ·rw[aN c1,if_neg c1,if_neg c1]
  by_cases c2:3<fn
  ·rw[aR c2,if_pos c2,if_pos c2]
  ·rw[aN c2,if_neg c2,if_neg c2]
   by_cases c3:p<1
   ·rw[aR c3,if_pos c3,if_pos c3]
   ·rw[aN c3,if_neg c3,if_neg c3]
    by_cases c4:66000<p
    ·rw[aR c4,if_pos c4,if_pos c4]
    ·rw[aN c4,if_neg c4,if_neg c4,fB,gP ⟨Or.inr rfl,h.1,h.2⟩];show aD (Dr b==3) (some [_,_]) (aD (Dr b==4) (some [_,_]) (some [D.s (.sc (.bool (Dr b==0))),_]))=_
     by_cases c5:Dr b=3
     ·rw[cL c5,if_pos c5];rfl
     ·rw[cO c5,if_neg c5]
      by_cases c6:Dr b=4
      ·rw[cL c6,if_pos c6];rfl
      ·rw[cO c6,if_neg c6]
def aJ:dG:=orc3 (pN .i64) (pN .u64) (pN .i64) sp
theorem ok:OK 28 aJ:=(dZ E aF (aA Pg.ok aE) func28).Cq rfl spec
end bQ
namespace By
def E:=mE [(86,Jx.aJ)] 14 [10] [] []
def aF:=bd f49
theorem aU:Nk E aF:=nk
theorem start a b c d e f:aG E f49 aF [D.agg [sc (bool a),ints u64 b,sc (int i64 c)],D.agg [sc (bool d),ints u64 e,sc (int i64 f)]]=aO (aW (a,b,c)/\aW (d,e,f)) (some [D.s (sc (int i64 (cT (bY.pK (dv (a,b,c)) (dv (d,e,f))) (bY.pJ (dv (a,b,c)) (dv (d,e,f))))))]):=eJ aU
def sp(x y:iW):Prop×List D:=(aW x/\aW y,[.s (.sc (.int .i64 (dQ (dv x) (dv y))))])
theorem spec:eR E f49 aF jE jE sp:=by
 intro x y h;exact(start x.1 x.2.1 x.2.2 y.1 y.2.1 y.2.2).trans (gP h)
def aJ:dG:=orc2 jE jE sp
theorem ok:OK 49 aJ:=(dZ E aF (aA Jx.ok aE) func49).jR rfl spec
end By
namespace tI
def E:=mE [(84,oR.aJ),(49,By.aJ)] 19 [] [] []
def aF:=bd f46
theorem aU:Nk E aF:=nk
theorem start a b c d e f:aG E f46 aF [D.agg [sc (bool a),ints u64 b,sc (int i64 c),sc (bool d),ints u64 e,sc (int i64 f)]]=aO (aW (a,b,c)) (aO (aW (d,e,f)) (aO (aW (a,b,c)/\aW (d,e,f)) (some [D.s (sc (bool (decide (dQ (dv (a,b,c)) (dv (d,e,f))<=0))))]))):=eJ aU
def sp(s:vF):Prop×List D:=(dR s,[.s (.sc (.bool true))])
theorem spec:iD E f46 aF tN sp:=by
 rintro s ⟨h1,h2,h3⟩;refine(start s.1 s.2.1 s.2.2.1 s.2.2.2.1 s.2.2.2.2.1 s.2.2.2.2.2).trans ((gP h1).trans ((gP h2).trans ((gP ⟨h1,h2⟩).trans ?_)));show some [D.s (.sc (.bool (decide (dQ (dv (fL s)) (dv (fO s))<=0))))]=_;rw[decide_eq_true h3];rfl
def aJ:dG:=orc1 tN sp
theorem ok:OK 46 aJ:=(dZ E aF (aA oR.ok (aA By.ok aE)) func46).oS rfl spec
end tI
namespace aNL
def E:=mE [(129,Clone.aJ)] 10 [] [] []
def aF:=bd f128
theorem aU:Nk E aF:=nk
theorem start a b c:aG E f128 aF [D.agg [sc (bool a),ints u64 b,sc (int i64 c)]]=aO (b.length<=1099511627776) (some [D.agg [sc (bool a),ints u64 b,sc (int i64 c)]]):=eJ aU
def sp(x:iW):Prop×List D:=(x.2.1.length<=1099511627776,[.agg [.sc (.bool x.1),.ints .u64 x.2.1,.sc (.int .i64 x.2.2)]])
theorem spec:iD E f128 aF jE sp:=by
 intro x h;exact(start x.1 x.2.1 x.2.2).trans (gP h)
def aJ:dG:=orc1 jE sp
theorem ok:OK 128 aJ:=(dZ E aF (aA Clone.ok aE) func128).oS rfl spec
end aNL
namespace Ol
def E:=mE [(128,aNL.aJ)] 10 [] [] []
def aF:=bd f89
theorem aU:Nk E aF:=nk
theorem start a b c d e f:aG E f89 aF [D.agg [sc (bool a),ints u64 b,sc (int i64 c),sc (bool d),ints u64 e,sc (int i64 f)]]=aO (b.length<=1099511627776) (aO (e.length<=1099511627776) (some [D.agg [sc (bool a),ints u64 b,sc (int i64 c),sc (bool d),ints u64 e,sc (int i64 f)]])):=eJ aU
def sp(s:vF):Prop×List D:=(s.2.1.length<=1099511627776/\s.2.2.2.2.1.length<=1099511627776,[.agg [.sc (.bool s.1),.ints .u64 s.2.1,.sc (.int .i64 s.2.2.1),.sc (.bool s.2.2.2.1),.ints .u64 s.2.2.2.2.1,.sc (.int .i64 s.2.2.2.2.2)]])
theorem spec:iD E f89 aF tN sp:=by
 intro s h;exact(start s.1 s.2.1 s.2.2.1 s.2.2.2.1 s.2.2.2.2.1 s.2.2.2.2.2).trans ((gP h.1).trans (gP h.2))
def aJ:dG:=orc1 tN sp
theorem ok:OK 89 aJ:=(dZ E aF (aA aNL.ok aE) func89).oS rfl spec
end Ol
namespace aNM
def E:=mE [(46,tI.aJ),(89,Ol.aJ)] 16 [] [] []
def aF:=bd f66
theorem aU:Nk E aF:=nk
theorem start a b c d e f:aG E f66 aF [D.agg [sc (bool a),ints u64 b,sc (int i64 c)],D.agg [sc (bool d),ints u64 e,sc (int i64 f)]]=aO (dR (a,b,c,d,e,f)) (aO (b.length<=1099511627776/\e.length<=1099511627776) (some [D.agg [sc (bool a),ints u64 b,sc (int i64 c),sc (bool d),ints u64 e,sc (int i64 f)],D.s (sc (int i64 0))])):=eJ aU
def sp(x y:iW):Prop×List D:=(aW x/\aW y/\dQ (dv x) (dv y)<=0,[.agg [.sc (.bool x.1),.ints .u64 x.2.1,.sc (.int .i64 x.2.2),.sc (.bool y.1),.ints .u64 y.2.1,.sc (.int .i64 y.2.2)],.s (.sc (.int .i64 0))])
theorem spec:eR E f66 aF jE jE sp:=by
 rintro x y ⟨h1,h2,h3⟩;have l1:=h1.len;have l2:=h2.len;exact(start x.1 x.2.1 x.2.2 y.1 y.2.1 y.2.2).trans ((gP ⟨h1,h2,h3⟩).trans (gP ⟨by omega,by omega⟩))
def aJ:dG:=orc2 jE jE sp
theorem ok:OK 66 aJ:=(dZ E aF (aA tI.ok (aA Ol.ok aE)) func66).jR rfl spec
end aNM
namespace Om
def E:=mE [(66,aNM.aJ)] 9 [6] [] []
def aF:=bd f29
theorem aU:Nk E aF:=nk
theorem start a b c:aG E f29 aF [D.agg [sc (bool a),ints u64 b,sc (int i64 c)]]=aO (aW (a,b,c)/\aW (a,b,c)/\dQ (dv (a,b,c)) (dv (a,b,c))<=0) (some [D.agg [sc (bool a),ints u64 b,sc (int i64 c),sc (bool a),ints u64 b,sc (int i64 c)],D.s (sc (int i64 0))]):=eJ aU
def sp(x:iW):Prop×List D:=(aW x,[.agg [.sc (.bool x.1),.ints .u64 x.2.1,.sc (.int .i64 x.2.2),.sc (.bool x.1),.ints .u64 x.2.1,.sc (.int .i64 x.2.2)],.s (.sc (.int .i64 0))])
theorem spec:iD E f29 aF jE sp:=by
 intro x h;exact(start x.1 x.2.1 x.2.2).trans (gP ⟨h,h,Ib _⟩)
def aJ:dG:=orc1 jE sp
theorem ok:OK 29 aJ:=(dZ E aF (aA aNM.ok aE) func29).oS rfl spec
end Om
namespace aSR
def E:=mE [(108,rZ.aJ),(107,Fa.aJ)] 14 [] [] []
def aF:=bd f68
theorem aU:Nk E aF:=nk
theorem start a:aG E f68 aF [D.s (sc (int i64 a))]=letI B:=M6.dg (u64.wrap a).toNat;letI C:=zs false (M6.val B);letI A:=M6.dg (u64.wrap ((0:Int)-u64.wrap a)).toNat;letI F:=zs true (M6.val A);aD (decide (a<0)) (aO (0<=u64.wrap ((0:Int)-u64.wrap a)/\u64.wrap ((0:Int)-u64.wrap a)<18446744073709551616) (aO (M6.cI A/\A.length<=1099511627776) (some [D.agg [sc (bool (isNeg F)),ints u64 (M6.dg F.natAbs)]]))) (aO (0<=u64.wrap a/\u64.wrap a<18446744073709551616) (aO (M6.cI B/\B.length<=1099511627776) (some [D.agg [sc (bool (isNeg C)),ints u64 (M6.dg C.natAbs)]]))):=eJ aU
def sp(a:Int):Prop×List D:=(-9223372036854775808<=a/\a<9223372036854775808,[wD a])
theorem spec:iD E f68 aF (pN .i64) sp:=by
 rintro a ⟨h1,h2⟩;refine(start a).trans ?_;show _=some [wD a]
 by_cases hn:a<0
 ·have w1:u64.wrap (0-u64.wrap a)=(a.natAbs:Int):=by rw[gA,gA];omega
  have hl:=gD (n:=a.natAbs) (k:=1) (dX.2 (by omega));rw[aR hn,w1,cBF,gP ⟨by omega,by omega⟩,gP ⟨M6.bA _,by omega⟩,M6.bD];have:zs true a.natAbs=a:=by show -(a.natAbs:Int)=a;omega
  rw[this];rfl
 ·have w1:u64.wrap a=(a.natAbs:Int):=by rw[gA];omega
  have hl:=gD (n:=a.natAbs) (k:=1) (dX.2 (by omega));rw[aN hn,w1,cBF,gP ⟨by omega,by omega⟩,gP ⟨M6.bA _,by omega⟩,M6.bD];have:zs false a.natAbs=a:=by show((a.natAbs:Nat):Int)=a;omega
  rw[this];rfl
def aJ:dG:=orc1 (pN .i64) sp
theorem ok:OK 68 aJ:=(dZ E aF (aA rZ.ok (aA Fa.ok aE)) func68).oS rfl spec
end aSR
namespace aHE
def E:=mE [(68,aSR.aJ),(67,mD.aJ)] 12 [] [] []
def aF:=bd f30
theorem aU:Nk E aF:=nk
theorem start a:aG E f30 aF [D.s (sc (int i64 a))]=letI B:=(isNeg a,M6.dg a.natAbs);letI A:=bif jD (wv B) 0 then bV (wv B) 0 else((0:Int),(0:Int));aO ((-9223372036854775808:Int)<=a/\a<9223372036854775808) (aO (iY B/\(-9223372036854775808:Int)<=(0:Int)/\(0:Int)<(9223372036854775808:Int)) (some [D.agg [sc (bool (isNeg A.fst)),ints u64 (M6.dg A.fst.natAbs),sc (int i64 A.snd)]])):=eJ aU
def sp(n:Int):Prop×List D:=(-9223372036854775808<=n/\n<9223372036854775808,[dD (bV n 0)])
theorem aQU{n:Int}(h:bl n.natAbs<=524288):jD n 0=true:=by
 unfold jD
 by_cases hz:n=0
 ·rw[decide_eq_true hz,cDL]
 ·have:=Qg (n:=n.natAbs) (by omega);rw[decide_eq_true (show(-1048576<=0+(tz n.natAbs:Int)) by omega),decide_eq_true (show(0+(tz n.natAbs:Int)<=1048576) by omega),cAJ,cDZ]
theorem spec:iD E f30 aF (pN .i64) sp:=by
 rintro n ⟨h1,h2⟩;have hb:bl n.natAbs<=64:=dX.2 (by omega);refine(start n).trans ?_;rw[gP ⟨h1,h2⟩,gP ⟨gY (by omega),by omega,by omega⟩,tB,aQU (by omega)];rfl
def aJ:dG:=orc1 (pN .i64) sp
theorem ok:OK 30 aJ:=(dZ E aF (aA aSR.ok (aA mD.ok aE)) func30).oS rfl spec
end aHE
namespace Oj
def E:=mE [(29,Om.aJ),(30,aHE.aJ)] 12 [] [] []
def aF:=bd f159
theorem aU:Nk E aF:=nk
theorem start a:aG E f159 aF [D.s (sc (int i64 a))]=letI A:=bV a 0;letI C:=M6.dg A.fst.natAbs;letI B:=bool (isNeg A.fst);aO ((-9223372036854775808:Int)<=a/\a<9223372036854775808) (aO (aW (isNeg A.fst,M6.dg A.fst.natAbs,A.snd)) (some [D.agg [sc B,ints u64 C,sc (int i64 A.snd),sc B,ints u64 C,sc (int i64 A.snd)]])):=eJ aU
def sp(n:Int):Prop×List D:=(-1000000<=n/\n<=1000000,[Dn (bV n 0) (bV n 0)])
theorem spec:iD E f159 aF (pN .i64) sp:=by
 rintro n ⟨h1,h2⟩;have hb:bl n.natAbs<=20:=dX.2 (by have:(2:Nat)^20=1048576:=rfl;omega);exact(start n).trans ((gP ⟨by omega,by omega⟩).trans (gP (eI (jQ (mS (by decide) (by omega)) (by omega)))))
def aJ:dG:=orc1 (pN .i64) sp
theorem ok:OK 159 aJ:=(dZ E aF (aA Om.ok (aA aHE.ok aE)) func159).oS rfl spec
end Oj
namespace Ch
def E:=mE [(84,oR.aJ),(91,pO.aJ),(127,aOG.aJ)] 13 [12] [] []
def aF:=bd f87
theorem aU:Nk E aF:=nk
theorem start a b c:aG E f87 aF [D.agg [sc (bool a),ints u64 b,sc (int i64 c)]]=aO (aW (a,b,c)) (aO True (aD ((b.length:Int)==(0:Int)) (some [D.s (sc (int i64 0)),D.s (sc (int i64 4))]) (aO (aW (a,b,c)) (some [D.s (sc (int i64 (c+(↑(bl (M6.val b)):Int)-(1:Int)))),D.s (sc (int i64 0))])))):=eJ aU
def sp(x:iW):Prop×List D:=(aW x,[.s (.sc (.int .i64 (if(dv x).1=0 then 0 else x.2.2+(bl (M6.val x.2.1):Nat)-1))),.s (.sc (.int .i64 (if(dv x).1=0 then 4 else 0)))])
theorem spec:iD E f87 aF jE sp:=by
 intro x h;have h:aW x:=h;refine(start x.1 x.2.1 x.2.2).trans ?_;have hz:=M6.cX h.Fh;have ha:=iT (x.1,x.2.1)
 try dsimp only at ha
 have hd:(dv x).1=wv (x.1,x.2.1):=rfl;unfold sp
 try dsimp only
 rw[gP h,gP trivial]
 by_cases h0:x.2.1.length=0
 ·have:(dv x).1=0:=by rw[hd];have:=hz.1 h0;omega
  rw[cL,if_pos this,if_pos this]
 ·have:(dv x).1≠0:=by rw[hd];have:=fun hv=>h0 (hz.2 hv);omega
  rw[cO,if_neg this,if_neg this,gP h]
def aJ:dG:=orc1 jE sp
theorem ok:OK 87 aJ:=(dZ E aF (aA oR.ok (aA pO.ok (aA aOG.ok aE))) func87).oS rfl spec
end Ch
namespace aOI
def E:=mE [(84,oR.aJ),(90,Pd.aJ),(91,pO.aJ)] 22 [] [] []
def aF:=bd f53
theorem aU:Nk E aF:=nk
theorem start a b c:aG E f53 aF [D.agg [sc (bool a),ints u64 b,sc (int i64 c)]]=aO (aW (a,b,c)) (aO (b.length<=1099511627776) (aD (!a) (aO True (some [D.agg [sc (bool !(b.length:Int)==(0:Int)),ints u64 b,sc (int i64 c)],D.s (sc (int i64 0))])) (some [D.agg [sc (bool false),ints u64 b,sc (int i64 c)],D.s (sc (int i64 0))]))):=eJ aU
def sp(x:iW):Prop×List D:=(aW x,dE true (-(dv x).1,(dv x).2))
theorem spec:iD E f53 aF jE sp:=by
 intro x h;have h:aW x:=h;have hl:=h.len;have hc:=h.Le.cells;refine(start x.1 x.2.1 x.2.2).trans ?_;obtain⟨b,a,e⟩:=x
 try dsimp only at *
 unfold sp
 try dsimp only
 rw[gP h,gP];have hz:=M6.cX h.Fh;have ha:=iT (b,a)
 try dsimp only at ha hz
 have e1:dE true (-(dv (b,a,e)).1,(dv (b,a,e)).2)=[D.agg [.sc (.bool (isNeg (-(wv (b,a))))),.ints .u64 a,.sc (.int .i64 e)],.s (.sc (.int .i64 0))]:=by
  show [M.dD (-(wv (b,a)),e),_]=_;unfold M.dD
  try dsimp only
  rw[cFM,hc.2];rfl
 rw[e1];cases b with
 |true =>
  have:wv (true,a)=-(M6.val a:Int):=Rp (x:=(true,a)) rfl;rw[bZH,bF,fH.2 (by omega)]
 |false =>
  have hw:wv (false,a)=(M6.val a:Int):=Hd (x:=(false,a)) rfl;rw[Bool.not_false,bT,gP trivial]
  by_cases h0:a.length=0
  ·rw[beq_iff_eq.2 (show(a.length:Int)=0 by omega),fH.2 (by have:=hz.1 h0;omega)];rfl
  ·rw[beq_eq_false_iff_ne.2 (show(a.length:Int)≠0 by omega),jL.2 (by have:M6.val a≠0:=fun h=>h0 (hz.2 h);omega)];rfl
def aJ:dG:=orc1 jE sp
theorem ok:OK 53 aJ:=(dZ E aF (aA oR.ok (aA Pd.ok (aA pO.ok aE))) func53).oS rfl spec
end aOI
namespace aBJ
def E:=mE [(53,aOI.aJ),(61,bY.aJ)] 22 [10,19] [] []
def aF:=bd f50
theorem aU:Nk E aF:=nk
theorem start a b c d e f:aG E f50 aF [D.agg [sc (bool a),ints u64 b,sc (int i64 c)],D.agg [sc (bool d),ints u64 e,sc (int i64 f)]]=letI G:=dv (a,b,c);letI F:=dv (d,e,f);letI C:=bif true then(-F.fst,F.snd)else((0:Int),(0:Int));letI A:=dv (isNeg C.fst,M6.dg C.fst.natAbs,C.snd);letI B:=bif bY.jG G A then bY.kB G A else((0:Int),(0:Int));aO (aW (d,e,f)) (aO (aW (a,b,c)/\aW (isNeg (-F.fst),M6.dg (-F.fst).natAbs,F.snd)) (some [D.agg [sc (bool (isNeg B.fst)),ints u64 (M6.dg B.fst.natAbs),sc (int i64 B.snd)],D.s (sc (int i64 (bif bY.jG G A then(0:Int)else(5:Int))))])):=eJ aU
def sp(x y:iW):Prop×List D:=(aW x/\aW y,dE (bY.jG (dv x) (-(dv y).1,(dv y).2)) (bY.kB (dv x) (-(dv y).1,(dv y).2)))
theorem spec:eR E f50 aF jE jE sp:=by
 rintro x y ⟨hx,hy⟩;refine(start x.1 x.2.1 x.2.2 y.1 y.2.1 y.2.2).trans ?_;have hn:=eI hy.rB.neg;have hv:=gF (-(dv y).1,(dv y).2);rw[gP hy,gP ⟨hx,hn⟩]
 try dsimp only[cond_true]at hv ⊢
 rw[hv];rfl
def aJ:dG:=orc2 jE jE sp
theorem ok:OK 50 aJ:=(dZ E aF (aA aOI.ok (aA bY.ok aE)) func50).jR rfl spec
end aBJ
namespace Norm
def E:=mE [] 27 [] [(2,[0,3]),(4,[0,3])] [4]
def aF:=bd f74
theorem aU:Nk E aF:=nk
def L2 a b:=nN E f74 aF 2 [mK a,bK b]
def J4 a b:=lE E f74 aF 4 [mK a,bK b]
theorem start a:aG E f74 aF [D.s (ints u32 a)]=Norm.L2 a (a.length:Int):=eJ aU
theorem lG a b:L2 a b=aD (decide (0<b)) (if 0<=i64.wrap (b-1)/\i64.wrap (b-1)<(a.length:Int)then aD (a.getD (i64.wrap (b-1)).toNat 0==(0:Int)) (Norm.L2 a (i64.wrap (b-1))) (Norm.J4 a b)else none) (Norm.J4 a b):=lJ aU
theorem aOB a b:J4 a b=letI A:=cDH 0 (cDG b.toNat a);if 0<=b/\b<=b/\b<=8796093022208 then if(0:Int)<=(0:Int)/\0<=b/\b<=(a.length:Int)then some [D.own 112 u32 (cDG b.toNat A ++ cDH (min A.length b.toNat) (bZK b.toNat (0:Int)))]else none else none:=cJ aU
theorem J{xs:List Int}{n:Nat}(h:n<=xs.length)(hl:xs.length<=4398046511104):J4 xs n=some [D.own kW .u32 (xs.take n)]:=by
 rw[aOB,aT,aT];simp only[cBF];rw[aMR h]
theorem L{xs:List Int}(hd:bN xs)(hl:xs.length<=4398046511104):∀n:Nat,n<=xs.length->L2 xs n=some [D.own kW .u32 (dg (val (xs.take n)))]
 |0,h=>by
  rw[lG];simp only[aD,Int.natCast_zero,Int.lt_irrefl,decide_false,cond_false];rw[show((0:Int))=((0:Nat):Int)from rfl,J (by omega) hl];simp[val,cG]
 |n+1,h=>by
  rw[lG];have e:i64.wrap (((n+1:Nat):Int)-1)=(n:Int):=by rw[wrap_i64];omega
  rw[e];have e2:decide ((0:Int)<((n+1:Nat):Int))=true   := by simp
  simp only[aD,e2,cond_true,cBF];rw[aT];cases hz:xs.getD n 0==0 with
  |true =>
   have hz:=eq_of_beq hz;simp only[cond_true];rw[L hd hl n (by omega),mQ (by omega),hz];simp
  |false =>
   have hz:xs.getD n 0≠0:=by simpa using hz
   simp only[cond_false];rw[J h hl];have:cI (xs.take (n+1)):=Bd (hd.take _) fun d hg=>by
    rw[getLast_take (by omega)]at hg;cases hg;exact hz
   rw[<-this]
def sp(a:List Int):Prop×List D:=(bN a/\a.length<=4398046511104,[.own kW .u32 (dg (val a))])
theorem spec:iD E f74 aF (pI .u32) sp:=by
 rintro a ⟨hd,hl⟩;refine(start a).trans ?_;rw[L hd hl a.length (bXK _),cEH];rfl
def aJ:dG:=orc1 (pI .u32) sp
theorem ok:OK 74 aJ:=(dZ E aF aE func74).oS rfl spec
end Norm
namespace vV
def E:=mE [(74,Norm.aJ)] 11 [10] [] []
def aF:=bd f82
theorem aU:Nk E aF:=nk
theorem start a:aG E f82 aF [D.s (sc (int u64 a))]=letI B:=a/4294967296;letI A:=fU BinOp.and u64 a 4294967295;aO (bN [u32.wrap A,u32.wrap B]/\[u32.wrap A,u32.wrap B].length<=4398046511104) (some [D.own 112 u32 (dg (val [u32.wrap A,u32.wrap B]))]):=eJ aU
def sp(w:Int):Prop×List D:=(0<=w/\w<18446744073709551616,[.own kW .u32 (dg w.toNat)])
theorem spec:iD E f82 aF (pN .u64) sp:=by
 rintro w ⟨h,h'⟩;refine(start w).trans ?_;rw[kM h h',wrap_u32,wrap_u32,aDY]
 ·unfold sp;congr 4;simp only[val];omega
 ·refine⟨?_,by simp⟩;rw[jY,jY];exact⟨by omega,by omega,lB⟩
def aJ:dG:=orc1 (pN .u64) sp
theorem ok:OK 82 aJ:=(dZ E aF (aA Norm.ok aE) func82).oS rfl spec
end vV
namespace sA
def E:=mE [(74,Norm.aJ)] 46 [45] [(4,[0,1,7,8,9])] []
def aF:=bd f164
theorem aU:Nk E aF:=nk
def L4 a (b:Int) (c:Nat) (d:List Int) f g:=nN E f164 aF 4 [mK a,vA (sc (int u32 b)),(A.v (V.one (L.buf 2 c)),some { e:=(112:Nat),cont:=oI.ints u32 d }),dM f,bK g]
theorem start a b c:aG E f164 aF [D.s (ints u32 a),D.s (sc (int u32 b)),D.s (sc (int u32 c))]=if(0:Int)<=(0:Int)/\0<=i64.wrap ((a.length:Int)+(1:Int))/\i64.wrap ((a.length:Int)+(1:Int))<=8796093022208 then sA.L4 a b 0 (bZK 0 (0:Int)) (u64.wrap c) 0 else none:=eJ aU
theorem kV a b c d e f:L4 a b c d e f=letI C:=d ++ [u32.wrap e];letI B:=e+u64.wrap (u64.wrap (a.getD f.toNat 0)*u64.wrap b);letI A:=fU BinOp.and u64 (u64.wrap B) 4294967295;letI F:=d.length+[u32.wrap A].length;aD (decide (f<(a.length:Int))) (if 0<=f/\f<(a.length:Int)then if(0:Nat)<[u32.wrap A].length/\(F:Int)<=(8796093022208:Int)then sA.L4 a b F (d ++ [u32.wrap A]) (u64.wrap B/4294967296) (i64.wrap (f+1))else none else none) (if(0:Nat)<[u32.wrap e].length/\(↑(d.length+[u32.wrap e].length):Int)<=(8796093022208:Int)then aO (bN C/\C.length<=4398046511104) (some [D.own 112 u32 (dg (val C))])else none):=lJ aU
theorem L{a:List Int}{w:Int}(ha:bN a)(aOU:a.length<=1099511627776)(hw:0<=w)(aUB:w<4294967296){r:Nat}:∀(d i:Nat) (xs:List Int) (c:Int),bN xs->xs.length=i->0<=c->c<4294967296 ->
  i+d=a.length->val xs+4294967296^i*c.toNat=val (a.take i)*w.toNat+r ->
  L4 a w i xs c i=some [D.own kW .u32 (dg (val a*w.toNat+r))]:=by
 intro d
 induction d with
 |zero =>
  intro i xs c hx Dj h0 h1 hd hv;rw[kV,aN,if_pos ⟨by simp,by simp;omega⟩,wrap_u32,cHG h0 h1,gP ⟨kU hx ⟨h0,h1⟩,by simp;omega⟩,kR,Dj,hv,cA (by omega)]
 |succ d ih =>
  intro i xs c hx Dj h0 h1 hd hv;have g1:=ha.get i;have e':((i:Int)).toNat=i:=cBF i;have hm:a.getD i 0*w<=4294967295*4294967295:=by
   have h1:a.getD i 0*w<=4294967295*w:=bZS (by omega) hw;have h2:(4294967295:Int)*w<=4294967295*4294967295:=cJL (by omega) (by omega);omega
  have aXF:0<=a.getD i 0*w:=cJI g1.1 hw;rw[kV,aR,aT,e',wrap_u64 (n:=a.getD i 0),wrap_u64 (n:=w),wrap_u64 (n:=a.getD i 0*w),wrap_u64,
   kM (by omega) (by omega),if_pos ⟨by simp,by simp;omega⟩,wrap_u32,cJW _ (Int.dvd_refl _),wrap_i64,Dj]
  show L4 a w (i+1) _ _ ((i+1:Nat):Int)=_;refine ih (i+1) _ _ (kU hx (by omega)) (by simp[Dj]) (by omega) (by omega) (by omega) ?_;rw[kR,bR,Dj,cCK,cCN,bZU];have et:(a.getD i 0*w).toNat=(a.getD i 0).toNat*w.toNat:=Int.toNat_mul g1.1 hw;have e:4294967296*((c+a.getD i 0*w)/4294967296).toNat+((c+a.getD i 0*w)%4294967296).toNat=c.toNat+(a.getD i 0).toNat*w.toNat:=by rw[<-et];omega
  generalize a.getD i 0=x at *;generalize 4294967296^i=B at *;have e2:B*(4294967296*((c+x*w)/4294967296).toNat)+B*((c+x*w)%4294967296).toNat=B*c.toNat+B*(x.toNat*w.toNat):=by
   rw[<-cCO,e,cCO]
  rw[cCN];omega
def sp(a:List Int)(w c:Int):Prop×List D:=(bN a/\a.length<=1099511627776/\(0<=w/\w<4294967296)/\(0<=c/\c<4294967296),[.own kW .u32 (dg (val a*w.toNat+c.toNat))])
theorem spec:sR E f164 aF (pI .u32) (pN .u32) (pN .u32) sp:=by
 rintro a w c ⟨ha,h1,hw,hc⟩;refine(start a w c).trans ?_;rw[wrap_i64,if_pos ⟨by omega,by omega,by omega⟩,wrap_u64];exact L ha h1 hw.1 hw.2 a.length 0 [] c lB rfl hc.1 hc.2 (by omega) (by simp[val])
def aJ:dG:=orc3 (pI .u32) (pN .u32) (pN .u32) sp
theorem ok:OK 164 aJ:=(dZ E aF (aA Norm.ok aE) func164).Cq rfl spec
end sA
namespace aPD
def E:=mE [(74,Norm.aJ),(164,sA.aJ)] 32 [14,31] [(3,[0,1])] [3]
def aF:=bd f121
theorem aU:Nk E aF:=nk
def J3 a b:=lE E f121 aF 3 [mK a,bK b]
theorem start a b:aG E f121 aF [D.s (ints u32 a),D.s (sc (int i64 b))]=letI A:=aO (bN a/\a.length<=4398046511104) (some [D.own 112 u32 (dg (val a))]);aD (decide (b<=0)) A (aD ((a.length:Int)==(0:Int)) A (aPD.J3 a b)):=eJ aU
theorem fB a b:J3 a b=letI G:=b.tdiv 32;letI F:=i64.wrap (i64.wrap G+(a.length:Int))+1;letI C:=(↑((2:Nat)^min (b.tmod 32).toNat 32):Int);letI A:=val a*(u32.wrap ((1:Int)*C)).toNat+0;letI B:=bZK (i64.wrap G).toNat (0:Int) ++ dg A;if 0<=i64.wrap G/\i64.wrap G<=i64.wrap F/\i64.wrap F<=8796093022208 then if b.tmod 32<(0:Int)then none else aO (bN a/\a.length<=1099511627776/\(0<=u32.wrap ((1:Int)*C)/\u32.wrap ((1:Int)*C)<4294967296)/\(0:Int)<=(0:Int)/\(0:Int)<(4294967296:Int)) (if 0<(dg A).length/\(↑((bZK (i64.wrap G).toNat (0:Int)).length+(dg A).length):Int)<=(8796093022208:Int)then aO (bN B/\B.length<=4398046511104) (some [D.own 112 u32 (dg (val B))])else none)else none:=cJ aU
def sp(a:List Int)(n:Int):Prop×List D:=(cI a/\a.length<=1099511627776/\n<=1099511627776,[.own kW .u32 (dg (val a*2^n.toNat))])
theorem spec:eR E f121 aF (pI .u32) (pN .i64) sp:=by
 rintro a n ⟨ha,h1,h2⟩;refine(start a n).trans ?_;show _=some [D.own kW .u32 (dg (val a*2^n.toNat))]
 by_cases hn:n<=0
 ·rw[aR hn,gP ⟨ha.gT,by omega⟩,show n.toNat=0 from by omega,cEN,bYB]
 ·rw[aN hn]
  by_cases hz:a.length=0
  ·have hv:=(cX ha).1 hz;rw[cL,gP ⟨ha.gT,by omega⟩,hv,cFO]
  ·have hv:val a≠0:=fun h=>hz ((cX ha).2 h)
   rw[cO,fB,aIU (by omega),aIO (by omega),wrap_i64 (n:=n/32),wrap_i64 (n:=n/32+a.length),wrap_i64,if_pos ⟨by omega,by omega,by omega⟩,bG,
    Lt (by omega) (by omega),cBF]
   have e1:(n%32).toNat=n.toNat%32:=by omega
   have e2:(n/32).toNat=n.toNat/32:=by omega
   have hp:2^(n.toNat%32)<2^32:=cEE (by omega) (by omega);have Mx:0<2^(n.toNat%32):=cB;rw[e1,e2,bYI];have hm:val a*2^(n.toNat%32)≠0:=Nat.mul_ne_zero hv (by omega);have bNW:(dg (val a*2^(n.toNat%32))).length<=a.length+1:=by
    apply cU;rw[cCK];exact Nat.mul_lt_mul_of_lt_of_lt (cR ha.gT) hp
   have aXF:(dg (val a*2^(n.toNat%32))).length≠0:=fun h=>hm (fT.1 h)
   rw[gP ⟨ha.gT,h1,⟨by omega,by generalize 2^(n.toNat%32)=p at *;omega⟩,by omega,by omega⟩,if_pos ⟨by omega,by rw[cJD];omega⟩,
    gP ⟨lS.2 ⟨gM _,bZ _⟩,by rw[bZY,cJD];omega⟩,iE,gW,cJD,bD,bXL,xS n.toNat,cEJ]
def aJ:dG:=orc2 (pI .u32) (pN .i64) sp
theorem ok:OK 121 aJ:=(dZ E aF (aA Norm.ok (aA sA.ok aE)) func121).jR rfl spec
end aPD
namespace aBC
def E:=mE [(82,vV.aJ),(121,aPD.aJ)] 6 [5] [] []
def aF:=bd f210
theorem aU:Nk E aF:=nk
theorem start a:aG E f210 aF [D.s (sc (int i64 a))]=aO ((0:Int)<=(1:Int)/\(1:Int)<(18446744073709551616:Int)) (aO (cI (dg 1)/\(dg 1).length<=1099511627776/\a<=1099511627776) (some [D.own 112 u32 (dg (val (dg 1)*(2:Nat)^a.toNat))])):=eJ aU
def sp(n:Int):Prop×List D:=(n<=1099511627776,[.own kW .u32 (dg (2^n.toNat))])
theorem spec:iD E f210 aF (pN .i64) sp:=by
 intro n h;refine(start n).trans ?_;rw[gP ⟨by omega,by omega⟩,gP ⟨bA _,by simp[dg],h⟩,bD];simp[sp]
def aJ:dG:=orc1 (pN .i64) sp
theorem ok:OK 210 aJ:=(dZ E aF (aA vV.ok (aA aPD.ok aE)) func210).oS rfl spec
end aBC
namespace pA
def E:=mE [(74,Norm.aJ),(82,vV.aJ)] 46 [11,43] [(6,[0,1,6,7,8])] []
def aF:=bd f218
theorem aU:Nk E aF:=nk
def L6 a (b:Int) (c:Nat) (d:List Int) f g:=nN E f218 aF 6 [mK a,vA (sc (int u32 b)),(A.v (V.one (L.buf 2 c)),some { e:=(112:Nat),cont:=oI.ints u32 d }),dM f,bK g]
theorem start a b:aG E f218 aF [D.s (ints u32 a),D.s (sc (int u32 b))]=letI A:=(a.length:Int);aD (b==0) (aO ((0:Int)<=(0:Int)/\(0:Int)<(18446744073709551616:Int)) (some [D.own 112 u32 (dg 0),D.s (sc (int u32 0))])) (if 0<=A/\A<=A/\A<=(8796093022208:Int)then pA.L6 a b A.toNat (bZK A.toNat (0:Int)) 0 (i64.wrap (A-(1:Int)))else none):=eJ aU
theorem qW a b c d e f:L6 a b c d e f=letI A:=u64.wrap (u64.wrap (e*4294967296)+u64.wrap (a.getD f.toNat 0));aD (decide (0<=f)) (if 0<=f/\f<(a.length:Int)then if u64.wrap b=0 then none else if 0<=f/\f<(c:Int)then if u64.wrap b=0 then none else pA.L6 a b c (d.set f.toNat (u32.wrap (u64.wrap (A.tdiv (u64.wrap b))))) (A.tmod (u64.wrap b)) (i64.wrap (f-1))else none else none) (aO (bN d/\d.length<=4398046511104) (some [D.own 112 u32 (dg (val d)),D.s (sc (int u32 (u32.wrap e)))])):=lJ aU
theorem L{a:List Int}{w:Int}(ha:bN a)(aOU:a.length<=1099511627776)(hw:0<w)(aUB:w<4294967296):∀(n:Nat) (q:List Int) (l:Int),bN q->q.length=a.length->0<=l->l<w->n<=a.length ->
  L6 a w a.length q l ((n:Int)-1)=some [D.own kW .u32 (dg ((l.toNat*4294967296^n+val (a.take n))/w.toNat+4294967296^n*val (q.drop n))),D.s (.sc (.int .u32 (((l.toNat*4294967296^n+val (a.take n))%w.toNat:Nat):Int)))]:=by
 intro n
 induction n with
 |zero =>
  intro q l hq bGA h0 h1 hn;rw[qW,aN,gP ⟨hq,by omega⟩,wrap_u32];simp only[cEN,bYB,cBI,val,bYI,cDT,cBL];rw[cCW (by omega),bXL,cIZ (by omega)];have e0:l%4294967296=(l.toNat:Int):=by omega
  rw[e0]
 |succ n ih =>
  intro q l hq bGA h0 h1 hn;have g1:=ha.get n;have e:(((n+1:Nat):Int)-1)=(n:Int):=by omega
  have e':((n:Int)).toNat=n:=cBF n;have hu:wrap_u64 (n:=w)=wrap_u64 (n:=w):=rfl;rw[e,qW,aR,aT,e',wrap_u64 (n:=w),bG,aT,bG,wrap_u64 (n:=l*4294967296),
   wrap_u64 (n:=a.getD n 0),wrap_u64 (n:=l*4294967296+a.getD n 0),wrap_i64]
  have Pk:0<=l*4294967296+a.getD n 0:=by omega
  rw[cEF Pk,cEG Pk];have bNS:(l*4294967296+a.getD n 0)/w<4294967296:=Int.ediv_lt_of_lt_mul hw (by
   have:(l+1)*4294967296<=w*4294967296:=bZS (by omega) (by omega);omega)
  have aOT:0<=(l*4294967296+a.getD n 0)/w:=Int.ediv_nonneg Pk (by omega);have aXF:=cGZ (l*4294967296+a.getD n 0) (show w≠0 by omega);have bNY:=cHA (l*4294967296+a.getD n 0) hw;rw[wrap_u64 aOT (by omega),wrap_u32,cHG aOT bNS,ih _ _ (kI hq ⟨aOT,bNS⟩) (by simpa using bGA) aXF bNY (by omega),nP (by omega),bR];have bFV:0<w.toNat:=by omega
  have d1:((l*4294967296+a.getD n 0)/w).toNat=(l.toNat*4294967296+(a.getD n 0).toNat)/w.toNat:=by
   rw[Vj Pk (by omega)];congr 1;omega
  have d2:((l*4294967296+a.getD n 0)%w).toNat=(l.toNat*4294967296+(a.getD n 0).toNat)%w.toNat:=by
   rw[Vi Pk (by omega)];congr 1;omega
  rw[d1,d2,cCK];generalize (a.getD n 0).toNat=x at *;generalize l.toNat=l at *;generalize val (a.take n)=v at *;generalize 4294967296^n=B at *;have e3:l*(B*4294967296)+(v+B*x)=(l*4294967296+x)*B+v:=by
   rw[bZU,cCI B 4294967296,<-cCN,cCI B x];omega
  rw[e3,aMH bFV,aKF (l:=l) (B:=4294967296) (d:=x),cCO,cCN,cAY]
def sp(a:List Int)(w:Int):Prop×List D:=(bN a/\a.length<=1099511627776/\(0<w/\w<4294967296),[.own kW .u32 (dg (val a/w.toNat)),.s (.sc (.int .u32 ((val a%w.toNat:Nat):Int)))])
theorem spec:eR E f218 aF (pI .u32) (pN .u32) sp:=by
 rintro a w ⟨ha,h1,hw⟩;refine(start a w).trans ?_;rw[cO,if_pos ⟨by omega,by omega,by omega⟩,wrap_i64,cBF,L ha h1 hw.1 hw.2 a.length _ 0 (gM _) (by simp) (by omega) (by omega) (bXK _)];simp[sp,val]
def aJ:dG:=orc2 (pI .u32) (pN .u32) sp
theorem ok:OK 218 aJ:=(dZ E aF (aA Norm.ok (aA vV.ok aE)) func218).jR rfl spec
end pA
namespace Add
def E:=mE [(74,Norm.aJ)] 63 [62] [(4,[0,1,5,6,7]),(6,[0,1,5,6,7]),(8,[0,1,5,6,7]),(10,[0,1,5,6,7])] [6,8,10]
def aF:=bd f81
theorem aU:Nk E aF:=nk
def L4 a b (c:Nat) (d:List Int) f g:=nN E f81 aF 4 [mK a,mK b,(A.v (V.one (L.buf 2 c)),some { e:=(112:Nat),cont:=oI.ints u32 d }),dM f,bK g]
def J6 a b (c:Nat) (d:List Int) f g:=lE E f81 aF 6 [mK a,mK b,(A.v (V.one (L.buf 2 c)),some { e:=(112:Nat),cont:=oI.ints u32 d }),dM f,bK g]
def J8 a b (c:Nat) (d:List Int) f g:=lE E f81 aF 8 [mK a,mK b,(A.v (V.one (L.buf 2 c)),some { e:=(112:Nat),cont:=oI.ints u32 d }),dM f,bK g]
def Vb a b (c:Nat) (d:List Int) f g:=lE E f81 aF 10 [mK a,mK b,(A.v (V.one (L.buf 2 c)),some { e:=(112:Nat),cont:=oI.ints u32 d }),dM f,bK g]
theorem start a b:aG E f81 aF [D.s (ints u32 a),D.s (ints u32 b)]=letI A:=if(b.length:Int)>(a.length:Int)then(b.length:Int)else(a.length:Int);if(0:Int)<=(0:Int)/\0<=i64.wrap (A+1)/\i64.wrap (A+1)<=8796093022208 then Add.L4 a b 0 (bZK 0 (0:Int)) 0 0 else none:=eJ aU
theorem kV a b c d e f:L4 a b c d e f=letI A:=Add.J6 a b c d e f;aD (decide (f<(a.length:Int))) A (aD (decide (f<(b.length:Int))) A (aD (decide (0<e)) A (aO (bN d/\d.length<=4398046511104) (some [D.own 112 u32 (dg (val d))])))):=lJ aU
theorem uI a b c d e f:J6 a b c d e f=aD (decide (f<(a.length:Int))) (if 0<=f/\f<(a.length:Int)then Add.J8 a b c d (u64.wrap (e+u64.wrap (a.getD f.toNat 0))) f else none) (Add.J8 a b c d e f):=cJ aU
theorem Am a b c d e f:J8 a b c d e f=aD (decide (f<(b.length:Int))) (if 0<=f/\f<(b.length:Int)then Add.Vb a b c d (u64.wrap (e+u64.wrap (b.getD f.toNat 0))) f else none) (Add.Vb a b c d e f):=cJ aU
theorem Fc a b c d e f:Vb a b c d e f=letI A:=fU BinOp.and u64 e 4294967295;letI B:=d.length+[u32.wrap A].length;if(0:Nat)<[u32.wrap A].length/\(B:Int)<=(8796093022208:Int)then Add.L4 a b B (d ++ [u32.wrap A]) (e/4294967296) (i64.wrap (f+1))else none:=cJ aU
theorem step{a b xs:List Int}{c:Int}{i:Nat}(ha:bN a)(hb:bN b)(Dj:xs.length=i)(hi:i<4398046511104)(h0:0<=c)(h1:c<=1)(hc:i<a.length\/i<b.length\/0<c) :
  L4 a b i xs c i=L4 a b (i+1) (xs ++ [(c+a.getD i 0+b.getD i 0)%4294967296]) ((c+a.getD i 0+b.getD i 0)/4294967296) ((i+1:Nat):Int):=by
 have g1:=ha.get i;have g2:=hb.get i;have e':((i:Int)).toNat=i:=cBF i;have bEG:∀s:Int,0<=s->s<18446744073709551616->Vb a b i xs s i=L4 a b (i+1) (xs ++ [s%4294967296]) (s/4294967296) ((i+1:Nat):Int):=by
  intro s hs tW;rw[Fc,kM hs tW,if_pos ⟨by simp,by simp;omega⟩,wrap_u32,cJW _ (Int.dvd_refl _),wrap_i64,Dj];rfl
 have bOW:∀s:Int,0<=s->s<8589934592->J8 a b i xs s i=Vb a b i xs (s+b.getD i 0) i:=by
  intro s hs tW;rw[Am]
  by_cases h:i<b.length
  ·rw[aR,aT,e',wrap_u64 (n:=b.getD i 0),wrap_u64]
  ·rw[aN,getD_none (a:=b) (by omega),cJN]
 have bKV:J6 a b i xs c i=L4 a b (i+1) (xs ++ [(c+a.getD i 0+b.getD i 0)%4294967296]) ((c+a.getD i 0+b.getD i 0)/4294967296) ((i+1:Nat):Int):=by
  rw[uI]
  by_cases h:i<a.length
  ·rw[aR,aT,e',wrap_u64 (n:=a.getD i 0),wrap_u64,bOW _ (by omega) (by omega),bEG _ (by omega) (by omega)]
  ·rw[aN,getD_none (a:=a) (by omega),cJN,bOW _ (by omega) (by omega),bEG _ (by omega) (by omega)]
 rw[kV]
 by_cases h:i<a.length
 ·rw[aR,bKV]
 ·rw[aN]
  by_cases h':i<b.length
  ·rw[aR,bKV]
  ·rw[aN,aR,bKV]
theorem L{a b:List Int}(ha:bN a)(hb:bN b)(aOU:a.length<=1099511627776)(bJJ:b.length<=1099511627776):∀(d i:Nat) (xs:List Int) (c:Int),bN xs->xs.length=i->0<=c->c<=1 ->
  i+d=max a.length b.length+1->(d=0->c=0)->val xs+4294967296^i*c.toNat=val (a.take i)+val (b.take i) ->
  L4 a b i xs c i=some [D.own kW .u32 (dg (val a+val b))]:=by
 intro d
 induction d with
 |zero =>
  intro i xs c hx Dj h0 h1 hd hc hv;have hc:=hc rfl;subst hc;rw[kV,aN,aN,aN,gP ⟨hx,by omega⟩];rw[cA (by omega),cA (by omega)]at hv;simp at hv;rw[hv]
 |succ d ih =>
  intro i xs c hx Dj h0 h1 hd hc hv
  by_cases bGF:i<a.length\/i<b.length\/0<c
  ·have g1:=ha.get i;have g2:=hb.get i;rw[step ha hb Dj (by omega) h0 h1 bGF];refine ih (i+1) _ _ (kU hx (by omega)) (by simp[Dj]) (by omega) (by omega) (by omega) (fun hd0=>?_) ?_
   ·have:¬i<a.length:=by omega
    have:¬i<b.length:=by omega
    rw[getD_none (a:=a) (by omega),getD_none (a:=b) (by omega)];omega
   ·rw[kR,bR,bR,Dj,cCK,cCN];generalize a.getD i 0=x at *;generalize b.getD i 0=y at *;generalize 4294967296^i=B at *;have e:4294967296*((c+x+y)/4294967296).toNat+((c+x+y)%4294967296).toNat=c.toNat+x.toNat+y.toNat:=by omega
    have e2:B*(4294967296*((c+x+y)/4294967296).toNat)+B*((c+x+y)%4294967296).toNat=B*c.toNat+B*x.toNat+B*y.toNat:=by
     rw[<-cCO,e,cCO,cCO]
    omega
  ·have:c=0:=by omega
   subst this;rw[kV,aN,aN,aN,gP ⟨hx,by omega⟩];rw[cA (by omega),cA (by omega)]at hv;simp at hv;rw[hv]
def sp(a b:List Int):Prop×List D:=(bN a/\bN b/\a.length<=1099511627776/\b.length<=1099511627776,[.own kW .u32 (dg (val a+val b))])
theorem spec:eR E f81 aF (pI .u32) (pI .u32) sp:=by
 rintro a b ⟨ha,hb,h1,h2⟩;refine(start a b).trans ?_;rw[if_pos]
 ·exact L ha hb h1 h2 (max a.length b.length+1) 0 [] 0 lB rfl (by omega) (by omega) (by omega) (fun _=>rfl) (by simp[val])
 ·refine⟨by omega,?_,?_⟩ <;> rw[wrap_i64 ?_ ?_] <;> split <;> omega
def aJ:dG:=orc2 (pI .u32) (pI .u32) sp
theorem ok:OK 81 aJ:=(dZ E aF (aA Norm.ok aE) func81).jR rfl spec
end Add
namespace aOJ
def E:=mE [] 41 [] [(6,[0,1,5])] []
def aF:=bd f200
theorem aU:Nk E aF:=nk
def L6 a b c:=nN E f200 aF 6 [mK a,mK b,bK c]
theorem start a b:aG E f200 aF [D.s (ints u32 a),D.s (ints u32 b)]=letI A:=(a.length:Int);aD (A !=(b.length:Int)) (aD (decide (A<(b.length:Int))) (some [D.s (sc (int i64 (-1:Int)))]) (some [D.s (sc (int i64 1))])) (aOJ.L6 a b (i64.wrap (A-(1:Int)))):=eJ aU
theorem qW a b c:L6 a b c=aD (decide (0<=c)) (if 0<=c/\c<(a.length:Int)then if 0<=c/\c<(b.length:Int)then aD (decide (a.getD c.toNat 0<b.getD c.toNat 0)) (some [D.s (sc (int i64 (-1:Int)))]) (if 0<=c/\c<(a.length:Int)then if 0<=c/\c<(b.length:Int)then aD (decide (b.getD c.toNat 0<a.getD c.toNat 0)) (some [D.s (sc (int i64 1))]) (aOJ.L6 a b (i64.wrap (c-1)))else none else none)else none else none) (some [D.s (sc (int i64 0))]):=lJ aU
theorem L{a b:List Int}(ha:bN a)(hb:bN b)(hl:a.length=b.length)(hm:a.length<=4398046511104):∀n:Nat,n<=a.length->L6 a b ((n:Int)-1)=some [D.s (.sc (.int .i64 (iS (val (a.take n)) (val (b.take n)))))]
 |0,_=>by
  rw[qW,aN];simp[iS,val]
 |n+1,h=>by
  have e:(((n+1:Nat):Int)-1)=(n:Int):=by omega
  have e':((n:Int)).toNat=n:=cBF n;rw[e,qW,aR,aT,aT,aT,aT,e',wrap_i64,L ha hb hl hm n (by omega)];have h1:=ha.get n;have h2:=hb.get n;have l1:=fR ha n;have l2:=fR hb n;rw[bR,bR];generalize a.getD n 0=x at *;generalize b.getD n 0=y at *;generalize val (a.take n)=u at *;generalize val (b.take n)=v at *;generalize 4294967296^n=B at *
  by_cases aOR:x<y
  ·rw[aR aOR];have:B*x.toNat+B<=B*y.toNat:=by
    have:B*(x.toNat+1)<=B*y.toNat:=bZW _ (by omega);rw[cCO]at this;omega
   unfold iS;rw[aT]
  ·rw[aN aOR]
   by_cases bIE:y<x
   ·rw[aR bIE];have:B*y.toNat+B<=B*x.toNat:=by
     have:B*(y.toNat+1)<=B*x.toNat:=bZW _ (by omega);rw[cCO]at this;omega
    unfold iS;rw[bG,aT]
   ·rw[aN bIE];have:x=y:=by omega
    subst this;rw[Xr]
def sp(a b:List Int):Prop×List D:=(cI a/\cI b/\a.length<=4398046511104/\b.length<=4398046511104,[.s (.sc (.int .i64 (iS (val a) (val b))))])
theorem spec:eR E f200 aF (pI .u32) (pI .u32) sp:=by
 rintro a b ⟨ha,hb,h1,h2⟩;refine(start a b).trans ?_;show _=some [D.s (.sc (.int .i64 (iS (val a) (val b))))]
 by_cases hl:a.length=b.length
 ·rw[gG,wrap_i64,L ha.gT hb.gT hl h1 a.length (bXK _),cA (bXK _),cA (by omega)]
 ·rw[nD]
  by_cases jM:a.length<b.length
  ·have:=nV ha.gT hb jM;rw[aR];unfold iS;rw[if_pos this]
  ·have:=nV hb.gT ha (by omega);rw[aN];unfold iS;rw[bG,if_pos this]
def aJ:dG:=orc2 (pI .u32) (pI .u32) sp
theorem ok:OK 200 aJ:=(dZ E aF aE func200).jR rfl spec
end aOJ
namespace Sub
def E:=mE [(74,Norm.aJ),(82,vV.aJ),(200,aOJ.aJ)] 55 [14,54] [(6,[0,1,5,6,7]),(11,[0,1,5,7,8])] [11]
def aF:=bd f201
theorem aU:Nk E aF:=nk
def L6 a b (c:Nat) (d:List Int) f g:=nN E f201 aF 6 [mK a,mK b,(A.v (V.one (L.buf 2 c)),some { e:=(112:Nat),cont:=oI.ints u32 d }),dM f,bK g]
def Jw a b (c:Nat) (d:List Int) f g:=lE E f201 aF 11 [mK a,mK b,(A.v (V.one (L.buf 2 c)),some { e:=(112:Nat),cont:=oI.ints u32 d }),bK f,dM g]
theorem start a b:aG E f201 aF [D.s (ints u32 a),D.s (ints u32 b)]=aO (cI a/\cI b/\a.length<=4398046511104/\b.length<=4398046511104) (aD (decide (iS (val a) (val b)<=0)) (aO ((0:Int)<=(0:Int)/\(0:Int)<(18446744073709551616:Int)) (some [D.own 112 u32 (dg 0)])) (if(0:Int)<=(0:Int)/\0<=(a.length:Int)/\(a.length:Int)<=(8796093022208:Int)then Sub.L6 a b 0 (bZK 0 (0:Int)) 0 0 else none)):=eJ aU
theorem qW a b c d e f:L6 a b c d e f=aD (decide (f<(a.length:Int))) (aD (decide (f<(b.length:Int))) (if 0<=f/\f<(b.length:Int)then Sub.Jw a b c d f (u64.wrap (e+u64.wrap (b.getD f.toNat 0)))else none) (Sub.Jw a b c d f e)) (aO (bN d/\d.length<=4398046511104) (some [D.own 112 u32 (dg (val d))])):=lJ aU
theorem wA a b c d e f:Jw a b c d e f=letI C:=a.getD e.toNat 0;letI B:=u64.wrap (u64.wrap C-f);letI G:=d.length+[u32.wrap B].length;letI A:=u64.wrap (u64.wrap (u64.wrap C+4294967296)-f);letI F:=d.length+[u32.wrap A].length;if 0<=e/\e<(a.length:Int)then aD (decide (u64.wrap C<f)) (if(0:Nat)<[u32.wrap A].length/\(F:Int)<=(8796093022208:Int)then Sub.L6 a b F (d ++ [u32.wrap A]) 1 (i64.wrap (e+1))else none) (if(0:Nat)<[u32.wrap B].length/\(G:Int)<=(8796093022208:Int)then Sub.L6 a b G (d ++ [u32.wrap B]) 0 (i64.wrap (e+1))else none)else none:=cJ aU
theorem step{a b xs:List Int}{o:Int}{i:Nat}(ha:bN a)(hb:bN b)(Dj:xs.length=i)(hi:i<a.length)(aOU:a.length<=4398046511104)(h0:0<=o)(h1:o<=1) :
  L6 a b i xs o i=L6 a b (i+1) (xs ++ [(a.getD i 0-(o+b.getD i 0))%4294967296]) (if a.getD i 0<o+b.getD i 0 then 1 else 0) ((i+1:Nat):Int):=by
 have g1:=ha.get i;have g2:=hb.get i;have e':((i:Int)).toNat=i:=cBF i;have hJ:∀t:Int,0<=t->t<=4294967296->Jw a b i xs i t=L6 a b (i+1) (xs ++ [(a.getD i 0-t)%4294967296]) (if a.getD i 0<t then 1 else 0) ((i+1:Nat):Int):=by
  intro t ht bFZ;rw[wA,aT,e',wrap_u64 (n:=a.getD i 0),wrap_u64 (n:=a.getD i 0+4294967296)]
  by_cases h:a.getD i 0<t
  ·rw[aR h,if_pos ⟨by simp,by simp;omega⟩,if_pos h,wrap_u64 (n:=a.getD i 0+4294967296-t),wrap_u32,wrap_i64,Dj,show(a.getD i 0+4294967296-t)%4294967296=(a.getD i 0-t)%4294967296 from by omega];rfl
  ·rw[aN h,if_pos ⟨by simp,by simp;omega⟩,if_neg h,wrap_u64 (n:=a.getD i 0-t),wrap_u32,wrap_i64,Dj];rfl
 rw[qW,aR]
 by_cases h:i<b.length
 ·rw[aR,aT,e',wrap_u64 (n:=b.getD i 0),wrap_u64,hJ _ (by omega) (by omega)]
 ·rw[aN,getD_none (a:=b) (by omega),cJN,hJ _ (by omega) (by omega)]
theorem L{a b:List Int}(ha:bN a)(hb:bN b)(aOU:a.length<=4398046511104)(aLK:b.length<=a.length)(aRH:val b<=val a):∀(d i:Nat) (xs:List Int) (o:Int),bN xs->xs.length=i->0<=o->o<=1 ->
  i+d=a.length->val xs+val (b.take i)=val (a.take i)+4294967296^i*o.toNat ->
  L6 a b i xs o i=some [D.own kW .u32 (dg (val a-val b))]:=by
 intro d
 induction d with
 |zero =>
  intro i xs o hx Dj h0 h1 hd hv;rw[qW,aN,gP ⟨hx,by omega⟩];rw[cA (by omega),cA (by omega)]at hv;have aWQ:=cR hx;rw[Dj]at aWQ;have:o=0:=by
   by_cases ho:o=0
   ·exact ho
   ·exfalso;have:o=1:=by omega
    subst this;have h1:(1:Int).toNat=1:=rfl;rw[h1,bYB]at hv;omega
  subst this;simp at hv;rw[show val xs=val a-val b from by omega]
 |succ d ih =>
  intro i xs o hx Dj h0 h1 hd hv;have g1:=ha.get i;have g2:=hb.get i;rw[step ha hb Dj (by omega) aOU h0 h1];refine ih (i+1) _ _ (kU hx (by omega)) (by simp[Dj]) (by split <;> omega) (by split <;> omega) (by omega) ?_;rw[kR,bR,bR,Dj,cCK,cCN];generalize a.getD i 0=x at *;generalize b.getD i 0=y at *;have e:((x-(o+y))%4294967296).toNat+y.toNat+o.toNat=x.toNat+4294967296*(if x<o+y then 1 else 0:Int).toNat:=by split <;> omega
  generalize 4294967296^i=B at *;have e2:=congrArg (B*·) e;simp only[cCO]at e2;omega
def sp(a b:List Int):Prop×List D:=(cI a/\cI b/\a.length<=4398046511104/\b.length<=4398046511104,[.own kW .u32 (dg (val a-val b))])
theorem spec:eR E f201 aF (pI .u32) (pI .u32) sp:=by
 rintro a b ⟨ha,hb,h1,h2⟩;refine(start a b).trans ?_;show _=some [D.own kW .u32 (dg (val a-val b))];rw[gP ⟨ha,hb,h1,h2⟩]
 by_cases hc:val a<=val b
 ·rw[aR (by unfold iS;split <;> (try split) <;> omega),gP ⟨by omega,by omega⟩,show val a-val b=0 from by omega]
 ·have hl:b.length<=a.length:=by
   rcases bXZ a.length b.length with h |h
   ·have:=nV ha.gT hb h;omega
   ·exact h
  rw[aN (by unfold iS;rw[bG,aT];omega),if_pos ⟨by omega,by omega,by omega⟩];exact L ha.gT hb.gT h1 hl (by omega) a.length 0 [] 0 lB rfl (by omega) (by omega) (by omega) (by simp[val])
def aJ:dG:=orc2 (pI .u32) (pI .u32) sp
theorem ok:OK 201 aJ:=(dZ E aF (aA Norm.ok (aA vV.ok (aA aOJ.ok aE))) func201).jR rfl spec
end Sub
namespace Arctan
def E:=mE [(210,aBC.aJ),(218,pA.aJ),(82,vV.aJ),(81,Add.aJ),(201,Sub.aJ)] 61 [59] [(5,[0,6,8,9,10,11]),(11,[0,6,8,9,10,11])] [11]
def aF:=bd f230
theorem aU:Nk E aF:=nk
def L5(a:Int) b c d e (f:Int):=nN E f230 aF 5 [vA (sc (int u32 a)),mK b,mK c,mK d,bK e,vA (sc (int u32 f))]
def Jw(a:Int) b c d e (f:Int):=lE E f230 aF 11 [vA (sc (int u32 a)),mK b,mK c,mK d,bK e,vA (sc (int u32 f))]
theorem start a b:aG E f230 aF [D.s (sc (int u32 a)),D.s (sc (int i64 b))]=letI A:=dg ((2:Nat)^b.toNat);aO (b<=1099511627776) (aO (bN A/\A.length<=1099511627776/\0<a/\a<4294967296) (aO ((0:Int)<=(0:Int)/\(0:Int)<(18446744073709551616:Int)) (aO ((0:Int)<=(0:Int)/\(0:Int)<(18446744073709551616:Int)) (Arctan.L5 a (dg (val A/a.toNat)) (dg 0) (dg 0) 0 1)))):=eJ aU
theorem Dz a b c d e f:L5 a b c d e f=letI A:=dg (val b/f.toNat);aD (decide (0<(b.length:Int))) (aO (bN b/\b.length<=1099511627776/\0<f/\f<4294967296) (aD (f.tmod 4==(1:Int)) (aO (bN c/\bN A/\c.length<=1099511627776/\A.length<=1099511627776) (Arctan.Jw a b (dg (val c+val A)) d e f)) (aO (bN d/\bN A/\d.length<=1099511627776/\A.length<=1099511627776) (Arctan.Jw a b c (dg (val d+val A)) e f)))) (aO (cI c/\cI d/\c.length<=4398046511104/\d.length<=4398046511104) (some [D.own 112 u32 (dg (val c-val d)),D.s (sc (int i64 e))])):=lJ aU
theorem wA a b c d e f:Jw a b c d e f=letI A:=dg (val b/a.toNat);aO (bN b/\b.length<=1099511627776/\0<a/\a<4294967296) (aO (bN A/\A.length<=1099511627776/\0<a/\a<4294967296) (Arctan.L5 a (dg (val A/a.toNat)) c d (i64.wrap (e+1)) (u32.wrap (f+2)))):=cJ aU
def rounds(k:Nat):Nat->Nat->Nat->Nat->Nat->Nat->Nat×Nat
 |0,_,p,m,_,n=>(p-m,n)
 |f+1,t,p,m,i,n=>if t=0 then(p-m,n)else if i%4=1 then rounds k f (t/k/k) (p+t/i) m (i+2) (n+1)else rounds k f (t/k/k) p (m+t/i) (i+2) (n+1)
theorem L{k Q:Nat}(hk:2<=k)(aHS:k<4294967296)(hQ:Q<=1000000):∀(f t p m n:Nat),t<2^Q->t<4^f->f+n<=1000000->p<2^(Q+n+1)->m<2^(Q+n+1) ->
  L5 k (dg t) (dg p) (dg m) n ((2*n+1:Nat):Int)=some [D.own kW .u32 (dg (rounds k f t p m (2*n+1) n).1),D.s (.sc (.int .i64 ((rounds k f t p m (2*n+1) n).2:Nat)))]:=by
 intro f
 induction f with
 |zero =>
  intro t p m n aRJ ht hf hp hm;have:t=0:=by simpa using ht
  subst this;have lp:=mL hp;have lm:=mL hm;rw[Dz,cG,aN (by simp),gP ⟨bA _,bA _,by omega,by omega⟩,bD,bD];rfl
 |succ f ih =>
  intro t p m n aRJ ht hf hp hm;have lp:=mL hp;have lm:=mL hm;have lt:=mL aRJ;rw[Dz];unfold rounds
  by_cases hz:t=0
  ·subst hz;rw[cG,aN (by simp),gP ⟨bA _,bA _,by omega,by omega⟩,bD,bD,if_pos rfl]
  ·have aRC:(dg t).length≠0:=fun h=>hz (fT.1 h)
   have ld:=vM t (2*n+1);have lk:=vM t k;have lkk:=vM (t/k) k;have et:(((2*n+1:Nat):Int)).toNat=2*n+1:=cBF _;have ek:((k:Int)).toNat=k:=cBF _;have em:(((2*n+1:Nat):Int)).tmod 4=(((2*n+1)%4:Nat):Int):=by rw[cEG (by omega)];omega
   have hJ:∀p' m':Nat,p'<2^(Q+(n+1)+1)->m'<2^(Q+(n+1)+1)->Jw k (dg t) (dg p') (dg m') n ((2*n+1:Nat):Int)=some [D.own kW .u32 (dg (rounds k f (t/k/k) p' m' (2*n+1+2) (n+1)).1),D.s (.sc (.int .i64 ((rounds k f (t/k/k) p' m' (2*n+1+2) (n+1)).2:Nat)))]:=by
    intro p' m' hp' aXG;rw[wA,ek,bD,bD,gP ⟨bZ _,by omega,by omega,by omega⟩,gP ⟨bZ _,by omega,by omega,by omega⟩,wrap_i64,oJ (by omega)];have:=ih (t/k/k) p' m' (n+1) (cEC (cDK _ _) (cEC (cDK _ _) aRJ)) ?_ (by omega) hp' aXG
    ·rw[show 2*(n+1)+1=2*n+1+2 from by omega]at this;rw[show((2*n+1:Nat):Int)+2=((2*n+1+2:Nat):Int)from by omega,show(n:Int)+1=((n+1:Nat):Int)from by omega];exact this
    ·rw[cCT];apply cDC;have:4<=k*k:=cIC hk hk;rw[cCK,cCI]at ht;exact bYH ht (cBK _ this)
   have Yl:2^(Q+(n+1)+1)=2*2^(Q+n+1):=by rw[show Q+(n+1)+1=(Q+n+1)+1 from by omega,cCK];omega
   have hd:t/(2*n+1)<2^(Q+n+1):=cEC (cDK _ _) (bYH aRJ (fM));rw[aR,et,bD,bD,bD,bD,gP ⟨bZ _,by omega,by omega,by omega⟩,em,if_neg hz]
   by_cases hc:(2*n+1)%4=1
   ·rw[cL,gP ⟨bZ _,bZ _,by omega,by omega⟩,if_pos hc,hJ (p+t/(2*n+1)) m (by rw[Yl];omega) (by rw[Yl];omega)]
   ·rw[cO,gP ⟨bZ _,bZ _,by omega,by omega⟩,if_neg hc,hJ p (m+t/(2*n+1)) (by rw[Yl];omega) (by rw[Yl];omega)]
theorem aFN{k Q:Nat}:∀(f t p m i n:Nat),t<2^Q->p<2^(Q+n+1)->(rounds k f t p m i n).1<2^(Q+n+f+1)/\(rounds k f t p m i n).2<=n+f:=by
 intro f
 induction f with
 |zero =>
  intro t p m i n ht hp;exact⟨cEC (cDX _ _) hp,by simp[rounds]⟩
 |succ f ih =>
  intro t p m i n ht hp;have Yl:2^(Q+n+1)<=2^(Q+n+(f+1)+1):=fM;have bCW:2^(Q+(n+1)+1)=2*2^(Q+n+1):=by rw[show Q+(n+1)+1=(Q+n+1)+1 from by omega,cCK];omega
  have hd:t/i<2^(Q+n+1):=cEC (cDK _ _) (bYH ht (fM));have hk:t/k/k<2^Q:=cEC (cDK _ _) (cEC (cDK _ _) ht);unfold rounds;split
  ·refine⟨bYH (cEC (cDX _ _) hp) Yl,by simp⟩
  ·split
   ·have:=ih (t/k/k) (p+t/i) m (i+2) (n+1) hk (by rw[bCW];omega);rw[show Q+(n+1)+f+1=Q+n+(f+1)+1 from by omega]at this;exact⟨this.1,by omega⟩
   ·have:=ih (t/k/k) p (m+t/i) (i+2) (n+1) hk (by rw[bCW];omega);rw[show Q+(n+1)+f+1=Q+n+(f+1)+1 from by omega]at this;exact⟨this.1,by omega⟩
def atan(k q:Nat):Nat×Nat:=rounds k (q+2) (2^q/k) 0 0 1 0
theorem wW(k q:Nat):(atan k q).1<2^(2*q+4)/\(atan k q).2<=q+2:=by
 have hb:2^q/k<2^(q+1):=cEC (cDK _ _) (cEE (by omega) (by omega));have:=aFN (k:=k) (Q:=q+1) (q+2) (2^q/k) 0 0 1 0 hb (cB);rw[show q+1+0+(q+2)+1=2*q+4 from by omega]at this;exact⟨this.1,by have:=this.2;unfold atan;omega⟩
def sp(k q:Int):Prop×List D:=((2<=k/\k<4294967296)/\0<=q/\q<=500000,[.own kW .u32 (dg (atan k.toNat q.toNat).1),.s (.sc (.int .i64 ((atan k.toNat q.toNat).2:Nat)))])
theorem spec:eR E f230 aF (pN .u32) (pN .i64) sp:=by
 rintro k q ⟨⟨h1,h2⟩,h3,h4⟩;refine(start k q).trans ?_;obtain⟨k,rfl⟩:=cCM (show 0<=k by omega);obtain⟨q,rfl⟩:=cCM h3;have lq:=mL (n:=2^q) (k:=q+1) (cEE (by omega) (by omega));have hb:2^q/k<2^(q+1):=cEC (cDK _ _) (cEE (by omega) (by omega));rw[gP,cBF,cBF,gP ⟨bZ _,by omega,by omega,by omega⟩,gP ⟨by omega,by omega⟩,gP ⟨by omega,by omega⟩,bD];have:=L (k:=k) (Q:=q+1) (by omega) (by omega) (by omega) (q+2) (2^q/k) 0 0 0 hb (bYH hb (by rw[show(4:Nat)=2^2 from rfl,<-Nat.pow_mul];exact fM)) (by omega) (cB) (cB);exact this
def aJ:dG:=orc2 (pN .u32) (pN .i64) sp
theorem ok:OK 230 aJ:=(dZ E aF (aA aBC.ok (aA pA.ok (aA vV.ok (aA Add.ok (aA Sub.ok aE))))) func230).jR rfl spec
end Arctan
namespace aNZ
def E:=mE [(170,oZ.aJ)] 32 [12,20,27] [] []
def aF:=bd f238
theorem aU:Nk E aF:=nk
theorem start a b:aG E f238 aF [D.s (ints u64 a),D.s (sc (int u64 b))]=letI A:=M6.dg (M6.val a/b.toNat);aD (decide (b<4294967296)) (aO (M6.cI a/\a.length<=8192/\0<u64.wrap (b*b)/\u64.wrap (b*b)<18446744073709551616) (some [D.s (ints u64 (M6.dg (M6.val a/(u64.wrap (b*b)).toNat)))])) (aO (M6.cI a/\a.length<=8192/\0<b/\b<18446744073709551616) (aO (M6.cI A/\A.length<=8192/\0<b/\b<18446744073709551616) (some [D.s (ints u64 (M6.dg (M6.val A/b.toNat)))]))):=eJ aU
def sp(a:List Int)(b:Int):Prop×List D:=(M6.cI a/\a.length<=8192/\2<=b/\b<4294967296,[.s (.ints .u64 (M6.dg (M6.val a/b.toNat/b.toNat)))])
theorem spec:eR E f238 aF (pI .u64) (pN .u64) sp:=by
 rintro a b ⟨hn,hl,h0,h1⟩;obtain⟨k,rfl⟩:=cCM (show 0<=b by omega);have hk:k*k<4294967296*4294967296:=Nat.mul_lt_mul_of_lt_of_le (by omega) (by omega) (by omega);have bOE:0<k*k:=Nat.mul_pos (by omega) (by omega);have e:u64.wrap ((k:Int)*(k:Int))=((k*k:Nat):Int):=by
  rw[<-cDY];exact wrap_u64
 refine(start a k).trans ?_;rw[aR h1,e,cBF,gP ⟨hn,hl,by omega,by omega⟩];unfold sp;rw[cBF,cCT]
def aJ:dG:=orc2 (pI .u64) (pN .u64) sp
theorem ok:OK 238 aJ:=(dZ E aF (aA oZ.ok aE) func238).jR rfl spec
end aNZ
namespace fF
def E:=mE [(132,mF.aJ),(108,rZ.aJ),(170,oZ.aJ),(134,wL.aJ),(140,uZ.aJ),(238,aNZ.aJ)] 72 [67] [(6,[0,6,8,9,10,11])] []
def aF:=bd f222
theorem aU:Nk E aF:=nk
def L6 a b (c:Nat) (d:List Int) (e:Nat) (f:List Int) g x7:=nN E f222 aF 6 [dM a,iU b,Dg 2 c 23 d,Dg 3 e 23 f,dM g,dM x7]
def bLZ a b c (d:Nat) (e:List Int) f g:=nN E f222 aF 6 [dM a,iU b,iU c,Dg 3 d 23 e,dM f,dM g]
def bXD a b (c:Nat) (d:List Int) e f g:=nN E f222 aF 6 [dM a,iU b,Dg 2 c 23 d,iU e,dM f,dM g]
def bFE a b c d e f:=nN E f222 aF 6 [dM a,iU b,iU c,iU d,dM e,dM f]
theorem start a b:aG E f222 aF [D.s (sc (int u64 a)),D.s (sc (int i64 b))]=letI B:=M6.dg 1;letI A:=bif mF.kT (M6.val B) b.toNat then M6.dg (M6.val B*(2:Nat)^b.toNat)else [];aO ((0:Int)<=(1:Int)/\(1:Int)<(18446744073709551616:Int)) (aO (M6.cI B/\B.length<=8192/\0<=b/\b<4611686018427387904) (aO (M6.cI A/\A.length<=8192/\0<a/\a<18446744073709551616) (fF.L6 a (M6.dg (M6.val A/a.toNat)) 0 [] 0 [] 2 1))):=eJ aU
theorem qW a b c d e f g h:L6 a b c d e f g h=letI C:=M6.dg (M6.val b/a.toNat/a.toNat);letI B:=M6.cI b/\b.length<=8192/\2<=a/\a<4294967296;letI A:=M6.dg (M6.val b/h.toNat);letI G:=M6.val f+M6.val A;letI F:=M6.val d+M6.val A;aD (decide (0<(b.length:Int))) (aO (M6.cI b/\b.length<=8192/\0<h/\h<18446744073709551616) (aD (h.tmod 4==(1:Int)) (aO (M6.cI d/\M6.cI A/\d.length<=8192/\A.length<=8192) (aO B (fF.bLZ a C (bif dO.oM F then M6.dg F else []) e f (u64.wrap (g+3)) (u64.wrap (h+2))))) (aO (M6.cI f/\M6.cI A/\f.length<=8192/\A.length<=8192) (aO B (fF.bXD a C c d (bif dO.oM G then M6.dg G else []) (u64.wrap (g+3)) (u64.wrap (h+2))))))) (aO (M6.cI d/\M6.cI f/\d.length<=8192/\f.length<=8192) (some [D.s (ints u64 (M6.dg (M6.val d-M6.val f))),D.s (sc (int u64 g))])):=lJ aU
theorem aZR a b c d e f g:bLZ a b c d e f g=letI C:=M6.dg (M6.val b/a.toNat/a.toNat);letI B:=M6.cI b/\b.length<=8192/\2<=a/\a<4294967296;letI A:=M6.dg (M6.val b/g.toNat);letI G:=M6.val e+M6.val A;letI F:=M6.val c+M6.val A;aD (decide (0<(b.length:Int))) (aO (M6.cI b/\b.length<=8192/\0<g/\g<18446744073709551616) (aD (g.tmod 4==(1:Int)) (aO (M6.cI c/\M6.cI A/\c.length<=8192/\A.length<=8192) (aO B (fF.bLZ a C (bif dO.oM F then M6.dg F else []) d e (u64.wrap (f+3)) (u64.wrap (g+2))))) (aO (M6.cI e/\M6.cI A/\e.length<=8192/\A.length<=8192) (aO B (fF.bFE a C c (bif dO.oM G then M6.dg G else []) (u64.wrap (f+3)) (u64.wrap (g+2))))))) (aO (M6.cI c/\M6.cI e/\c.length<=8192/\e.length<=8192) (some [D.s (ints u64 (M6.dg (M6.val c-M6.val e))),D.s (sc (int u64 f))])):=lJ aU
theorem aNT a b c d e f:bFE a b c d e f=letI C:=M6.dg (M6.val b/a.toNat/a.toNat);letI B:=M6.cI b/\b.length<=8192/\2<=a/\a<4294967296;letI A:=M6.dg (M6.val b/f.toNat);letI G:=M6.val d+M6.val A;letI F:=M6.val c+M6.val A;aD (decide (0<(b.length:Int))) (aO (M6.cI b/\b.length<=8192/\0<f/\f<18446744073709551616) (aD (f.tmod 4==(1:Int)) (aO (M6.cI c/\M6.cI A/\c.length<=8192/\A.length<=8192) (aO B (fF.bFE a C (bif dO.oM F then M6.dg F else []) d (u64.wrap (e+3)) (u64.wrap (f+2))))) (aO (M6.cI d/\M6.cI A/\d.length<=8192/\A.length<=8192) (aO B (fF.bFE a C c (bif dO.oM G then M6.dg G else []) (u64.wrap (e+3)) (u64.wrap (f+2))))))) (aO (M6.cI c/\M6.cI d/\c.length<=8192/\d.length<=8192) (some [D.s (ints u64 (M6.dg (M6.val c-M6.val d))),D.s (sc (int u64 e))])):=lJ aU
open Arctan in
theorem oD {n k:Nat} (h:n<2^k) (hk:k<=524288):(M6.dg n).length<=8192:=gD (k:=8192) (bYC (dX.2 h) (by omega))
theorem aWA{n k:Nat}(h:n<2^k)(hk:k<=524288):dO.oM n=true:=decide_eq_true (oD h hk)
theorem Ld{k Q:Nat}(hk:2<=k)(aHS:k<4294967296)(hQ:Q<=200000):∀(f t p m n:Nat),t<2^Q->t<4^f->f+n<=250000->p<2^(Q+n+1)->m<2^(Q+n+1) ->
  bFE k (M6.dg t) (M6.dg p) (M6.dg m) ((2+3*n:Nat):Int) ((2*n+1:Nat):Int)=some [D.s (.ints .u64 (M6.dg (Arctan.rounds k f t p m (2*n+1) n).1)),D.s (.sc (.int .u64 ((2+3*(Arctan.rounds k f t p m (2*n+1) n).2:Nat):Int)))]:=by
 intro f
 induction f with
 |zero =>
  intro t p m n aRJ ht hf hp hm;have:t=0:=by simpa using ht
  subst this;rw[aNT,M6.cG,aN (by simp),gP ⟨M6.bA _,M6.bA _,oD hp (by omega),oD hm (by omega)⟩,M6.bD,M6.bD];rfl
 |succ f ih =>
  intro t p m n aRJ ht hf hp hm;rw[aNT];unfold Arctan.rounds
  by_cases hz:t=0
  ·subst hz;rw[M6.cG,aN (by simp),gP ⟨M6.bA _,M6.bA _,oD hp (by omega),oD hm (by omega)⟩,M6.bD,M6.bD,if_pos rfl]
  ·have aRC:(M6.dg t).length≠0:=fun h=>hz (M6.fT.1 h)
   have et:(((2*n+1:Nat):Int)).toNat=2*n+1:=cBF _;have ek:((k:Int)).toNat=k:=cBF _;have em:(((2*n+1:Nat):Int)).tmod 4=(((2*n+1)%4:Nat):Int):=by rw[cEG (by omega)];omega
   have w1:u64.wrap (((2+3*n:Nat):Int)+3)=((2+3*(n+1):Nat):Int):=by rw[wrap_u64];omega
   have w2:u64.wrap (((2*n+1:Nat):Int)+2)=((2*(n+1)+1:Nat):Int):=by rw[wrap_u64];omega
   have bFY:t/k/k<2^Q:=cEC (cDK _ _) (cEC (cDK _ _) aRJ);have bNM:t/k/k<4^f:=by
    rw[cCT];apply cDC;have:4<=k*k:=cIC hk hk;rw[cCK 4 f,cCI (4^f)]at ht;exact bYH ht (cBK _ this)
   have Yl:2^(Q+(n+1)+1)=2*2^(Q+n+1):=by rw[show Q+(n+1)+1=(Q+n+1)+1 from by omega,cCK];omega
   have hd:t/(2*n+1)<2^(Q+n+1):=cEC (cDK _ _) (bYH aRJ (fM));have lt:=oD aRJ (by omega);have ld:=oD hd (by omega);rw[aR];simp only[et,ek,em,M6.bD,w1,w2];rw[gP ⟨M6.bA _,lt,by omega,by omega⟩,if_neg hz,show 2*n+1+2=2*(n+1)+1 by omega]
   by_cases hc:(2*n+1)%4=1
   ·have hs:p+t/(2*n+1)<2^(Q+(n+1)+1):=by rw[Yl];omega
    rw[cL,gP ⟨M6.bA _,M6.bA _,oD hp (by omega),ld⟩,gP ⟨M6.bA _,lt,by omega,by omega⟩,if_pos hc,aWA hs (by omega),cond_true];exact ih _ _ _ (n+1) bFY bNM (by omega) hs (by rw[Yl];omega)
   ·have hs:m+t/(2*n+1)<2^(Q+(n+1)+1):=by rw[Yl];omega
    rw[cO,gP ⟨M6.bA _,M6.bA _,oD hm (by omega),ld⟩,gP ⟨M6.bA _,lt,by omega,by omega⟩,if_neg hc,aWA hs (by omega),cond_true];exact ih _ _ _ (n+1) bFY bNM (by omega) (by rw[Yl];omega) hs
def sp(k q:Int):Prop×List D:=((2<=k/\k<4294967296)/\0<=q/\q<=150000,[.s (.ints .u64 (M6.dg (Arctan.atan k.toNat q.toNat).1)),.s (.sc (.int .u64 ((2+3*(Arctan.atan k.toNat q.toNat).2:Nat):Int)))])
theorem spec:eR E f222 aF (pN .u64) (pN .i64) sp:=by
 rintro k q ⟨⟨h1,h2⟩,h3,h4⟩;refine(start k q).trans ?_;unfold sp;obtain⟨k,rfl⟩:=cCM (show 0<=k by omega);obtain⟨q,rfl⟩:=cCM h3;have Sz:2^q<2^(q+1):=cEE (by omega) (by omega);have hb:2^q/k<2^(q+1):=cEC (cDK _ _) Sz;have so:mF.kT 1 q=true:=by
  unfold mF.kT;rw[show bl 1=1 from rfl,decide_eq_true (show 1+q<=524288 by omega),cDZ]
 have l1:(M6.dg 1).length<=8192:=oD (k:=1) (by decide) (by decide);have nn:M6.cI ([]:List Int):=by rw[<-M6.cG];exact M6.bA 0
 have v0:M6.val ([]:List Int)=0:=rfl;simp only[M6.bD,cBF,so,cond_true,cBL];rw[gP ⟨by decide,by decide⟩,gP ⟨M6.bA _,l1,by omega,by omega⟩,gP ⟨M6.bA _,oD Sz (by omega),by omega,by omega⟩];unfold Arctan.atan;have bUC:2^q/k<4^(q+2):=bYH hb (by rw[show(4:Nat)=2^2 from rfl,<-Nat.pow_mul];exact fM);generalize 2^q/k=t at *;have e4:4^(q+2)=16*4^q:=by rw[cCH];omega
 rw[e4]at bUC;have kk:4<=k*k:=cIC (show 2<=k by omega) (show 2<=k by omega);have step:∀a X:Nat,a<4*X->a/k/k<X:=fun a X ha=>by
  rw[cCT];exact cDC (bYH ha (cBK _ kk))
 have Qz:∀a:Nat,a/k/k<=a:=fun a=>bYC (cDK _ _) (cDK _ _)
 have ht:=oD hb (by omega);rw[qW,show q+2=(q+1)+1 by omega];unfold Arctan.rounds
 by_cases z:t=0
 ·subst z;rw[M6.cG,aN (by simp),gP ⟨nn,nn,by decide,by decide⟩,if_pos rfl,v0];rfl
 ·have aRC:(M6.dg t).length≠0:=fun h=>z (M6.fT.1 h)
  rw[aR,if_neg z,if_pos (by decide)];simp only[M6.bD,v0,bXL,Int.toNat_one,Nat.div_one,cBF];have Je:=cEC (Qz t) hb;have bUD:=step t (4*4^q) (by omega);have l2:=oD Je (by omega);rw[gP ⟨M6.bA _,ht,by decide,by decide⟩,cL (by decide),gP ⟨nn,M6.bA _,by decide,ht⟩,gP ⟨M6.bA _,ht,by omega,by omega⟩,aWA hb (by omega),cond_true,aZR,show u64.wrap (2+3)=5 from wrap_u64 (by decide) (by decide),show u64.wrap (1+2)=3 from wrap_u64 (by decide) (by decide)];unfold Arctan.rounds;generalize t/k/k=u at *
  by_cases z1:u=0
  ·subst z1;rw[M6.cG,aN (by simp),gP ⟨M6.bA _,nn,ht,by decide⟩,if_pos rfl,v0,M6.bD];rfl
  ·have Jd:(M6.dg u).length≠0:=fun h=>z1 (M6.fT.1 h)
   have bNJ:u/3<2^(q+1):=cEC (cDK _ _) Je;rw[aR,if_neg z1,if_neg (by decide)];simp only[M6.bD,v0,bXL,cBF,show((3:Int)).toNat=3 from rfl];rw[gP ⟨M6.bA _,l2,by decide,by decide⟩,cO (by decide),gP ⟨nn,M6.bA _,by decide,oD bNJ (by omega)⟩,gP ⟨M6.bA _,l2,by omega,by omega⟩,aWA bNJ (by omega),cond_true,show u64.wrap (5+3)=8 from wrap_u64 (by decide) (by decide),show u64.wrap (3+2)=5 from wrap_u64 (by decide) (by decide)];have up:2^(q+1)<=2^(q+1+2+1):=fM;exact Ld (k:=k) (Q:=q+1) (by omega) (by omega) (by omega) q (u/k/k) t (u/3) 2 (cEC (Qz u) Je) (step u (4^q) bUD) (by omega) (by omega) (by omega)
def aJ:dG:=orc2 (pN .u64) (pN .i64) sp
theorem ok:OK 222 aJ:=(dZ E aF (aA mF.ok (aA rZ.ok (aA oZ.ok (aA wL.ok (aA uZ.ok (aA aNZ.ok aE)))))) func222).jR rfl spec
end fF
namespace THalvings
def E:=mE [] 13 [] [(2,[0,3])] []
def aF:=bd f196
theorem aU:Nk E aF:=nk
def L2 a b:=nN E f196 aF 2 [bK a,bK b]
theorem start a:aG E f196 aF [D.s (sc (int i64 a))]=THalvings.L2 a 4:=eJ aU
theorem lG a b:L2 a b=aD (decide (i64.wrap (i64.wrap ((4:Int)*b)*b)<a)) (THalvings.L2 a (i64.wrap (b+1))) (some [D.s (sc (int i64 b))]):=lJ aU
def hlv(w:Int):Nat->Nat->Nat
 |0,h=>h
 |f+1,h=>if 4*(h:Int)*h<w then hlv w f (h+1)else h
def sp(w:Int):Prop×List D:=(w<=150000,[.s (.sc (.int .i64 (hlv w 200 4:Nat)))])
theorem L{w:Int}(hw:w<=150000):∀f h:Nat,h+f=204->L2 w h=some [.s (.sc (.int .i64 (hlv w f h:Nat)))]:=by
 intro f
 induction f with
 |zero =>
  intro h hh;obtain rfl:h=204:=by omega
  have e:i64.wrap (i64.wrap (4*((204:Nat):Int))*((204:Nat):Int))=166464:=by decide +kernel
  rw[lG,e,aN];rfl
 |succ f ih =>
  intro h hh;have hb:(h:Int)*h<=41616:=Int.ofNat_le.2 (cIC (show h<=204 by omega) (show h<=204 by omega));have hb0:(0:Int)<=(h:Int)*h:=cJI (by omega) (by omega);have ea:4*(h:Int)*h=4*((h:Int)*h):=Int.mul_assoc _ _ _;have e:i64.wrap (i64.wrap (4*(h:Int))*(h:Int))=4*(h:Int)*h:=by rw[wrap_i64 (n:=4*(h:Int)),wrap_i64]
  have e2:i64.wrap ((h:Int)+1)=((h+1:Nat):Int):=by rw[wrap_i64];omega
  rw[lG,e,e2];unfold hlv
  by_cases c:4*(h:Int)*h<w
  ·rw[aR c,if_pos c];exact ih (h+1) (by omega)
  ·rw[aN c,if_neg c]
theorem spec:iD E f196 aF (pN .i64) sp:=fun w h=>(start w).trans (L h 200 4 rfl)
def aJ:dG:=orc1 (pN .i64) sp
theorem ok:OK 196 aJ:=(dZ E aF aE func196).oS rfl spec
end THalvings
namespace vW
def E:=mE [(99,Ir.aJ),(112,lP.aJ)] 36 [] [] []
def aF:=bd f197
theorem aU:Nk E aF:=nk
theorem start a c d b:aG E f197 aF [D.agg [sc (bool a),ints u64 c,sc (int i64 d)],D.s (sc (int i64 b))]=letI A:=(false,c);aD (decide (0<=i64.wrap (d+b))) (aO (iY A/\0<=i64.wrap (d+b)/\i64.wrap (d+b)<4611686018427387904) (some [D.s (ints u64 (M6.dg (bif fit (M6.val c*(2:Nat)^(i64.wrap (d+b)).toNat)then wv A*(↑((2:Nat)^(i64.wrap (d+b)).toNat):Int)else(0:Int)).natAbs))])) (aO (iY A/\0<=i64.wrap ((0:Int)-i64.wrap (d+b))/\i64.wrap ((0:Int)-i64.wrap (d+b))<4611686018427387904) (some [D.s (ints u64 (M6.dg (wv A/(↑((2:Nat)^(i64.wrap ((0:Int)-i64.wrap (d+b))).toNat):Int)).natAbs))])):=eJ aU
def aPB(p:Int×Int)(n:Int):Nat:=if 0<=p.2+n then p.1.natAbs*2^(p.2+n).toNat else p.1.natAbs/2^(-(p.2+n)).toNat
def sp(x:iW)(n:Int):Prop×List D:=(aW x/\-1099511627776<=n/\n<=1099511627776/\(0<=x.2.2+n->fit ((dv x).1.natAbs*2^(x.2.2+n).toNat)=true),[.s (.ints .u64 (M6.dg (aPB (dv x) n)))])
theorem spec:eR E f197 aF jE (pN .i64) sp:=by
 rintro x n ⟨hx,h1,h2,hf⟩;have he:=hx.2.1;refine(start x.1 x.2.1 x.2.2 n).trans ?_;have w1:i64.wrap (x.2.2+n)=x.2.2+n:=wrap_i64;have ha:(dv x).1.natAbs=M6.val x.2.1:=iT (x.1,x.2.1);have ok:iY (false,x.2.1):=⟨hx.1.1,fun hf=>(by cases hf),hx.1.len⟩;have vx:wv (false,x.2.1)=(M6.val x.2.1:Int):=rfl;rw[w1,vx];unfold sp aPB;dsimp only
 by_cases c:0<=x.2.2+n
 ·have aUN:=hf c;rw[ha]at aUN ⊢;rw[aR c,gP ⟨ok,c,by omega⟩,aUN,cond_true,if_pos (show 0<=(dv x).2+n from c),<-cDY,cDF];rfl
 ·have w2:i64.wrap (0-(x.2.2+n))=-(x.2.2+n):=by rw[wrap_i64];omega
  rw[ha,w2,aN c,gP ⟨ok,by omega,by omega⟩,if_neg (show ¬0<=(dv x).2+n from c),<-cDA,cDF];rfl
def aJ:dG:=orc2 jE (pN .i64) sp
theorem ok:OK 197 aJ:=(dZ E aF (aA Ir.ok (aA lP.ok aE)) func197).jR rfl spec
end vW
namespace Oi
def E:=mE [(136,aNN.aJ),(106,Gv.aJ)] 22 [12,18] [] []
def aF:=bd f199
theorem aU:Nk E aF:=nk
theorem start a b c:aG E f199 aF [D.s (ints u64 a),D.s (ints u64 b),D.s (sc (int i64 c))]=letI B:=M6.val a*M6.val b;letI A:=bif dO.oM B then M6.dg B else [];aO (M6.cI a/\M6.cI b/\a.length<=8192/\b.length<=8192) (aO (M6.cI A/\A.length<=8192/\0<=c/\c<4611686018427387904) (some [D.s (ints u64 (M6.dg (M6.val A/(2:Nat)^c.toNat)))])):=eJ aU
def sp(a b:List Int)(n:Int):Prop×List D:=(M6.cI a/\M6.cI b/\a.length<=4096/\b.length<=4096/\0<=n/\n<4611686018427387904,[.s (.ints .u64 (M6.dg (M6.val a*M6.val b/2^n.toNat)))])
theorem spec:sR E f199 aF (pI .u64) (pI .u64) (pN .i64) sp:=by
 rintro a b n ⟨h1,h2,l1,l2,n1,n2⟩;have hl:(M6.dg (M6.val a*M6.val b)).length<=8192:=by
  refine M6.cU (k:=8192) ?_;have va:=bYH (M6.cR h1.gT) (cAI (by decide) l1);have vb:=bYH (M6.cR h2.gT) (cAI (by decide) l2);rw[show(8192:Nat)=4096+4096 from rfl,cCH];generalize 18446744073709551616^4096=Q at *;exact cGK va vb
 have ok:dO.oM (M6.val a*M6.val b)=true:=decide_eq_true hl;refine(start a b n).trans ?_;rw[gP ⟨h1,h2,by omega,by omega⟩,ok];simp only[cond_true,M6.bD];exact gP ⟨M6.bA _,hl,n1,n2⟩
def aJ:dG:=orc3 (pI .u64) (pI .u64) (pN .i64) sp
theorem ok:OK 199 aJ:=(dZ E aF (aA aNN.ok (aA Gv.ok aE)) func199).Cq rfl spec
end Oi
namespace TSums
def E:Env:={ ({ base with C:=callsOf [(132,mF.aJ),(108,rZ.aJ),(134,wL.aJ),(199,Oi.aJ),(170,oZ.aJ),(140,uZ.aJ)],wide:=some .u64 })with nt:=63,own:=[50,58],keep:=fun k=>(tlook [(4,[0,1,6,7,9])] k).getD [],cut:=tlook [] }
def aF:=bd f198
theorem aU:Nk E aF:=nk
def L4 a b c d e f g h:=nN E f198 aF 4 [iU a,bK b,bM 2 236 [eF c,eF d,eF e,eF f],iU g,dM h]
theorem start a b:aG E f198 aF [D.s (ints u64 a),D.s (sc (int i64 b))]=letI A:=M6.dg 1;aO ((0:Int)<=(1:Int)/\(1:Int)<(18446744073709551616:Int)) (aO (M6.cI A/\A.length<=8192/\0<=b/\b<4611686018427387904) (aC (bif mF.kT (M6.val A) b.toNat then M6.dg (M6.val A*(2:Nat)^b.toNat)else []) fun c=>TSums.L4 a b [] [] [] [] c 0)):=eJ aU
theorem kV a b c d e f g h:L4 a b c d e f g h=letI P:=M6.val f+M6.val g;letI O:=M6.val e+M6.val g;letI N:=M6.val d+M6.val g;letI K:=M6.val c+M6.val g;letI I:=decide (h.tmod 4=(3:Int));letI H:=decide (h.tmod 4=(2:Int));letI G:=decide (h.tmod 4=(1:Int));letI F:=decide (h.tmod 4=(0:Int));letI C:=u64.wrap (h+1);letI B:=M6.dg (M6.val g*M6.val a/(2:Nat)^b.toNat);letI A:=M6.cI g/\M6.cI a/\g.length<=4096/\a.length<=4096/\0<=b/\b<4611686018427387904;aD (decide (0<(g.length:Int))) (aD F (aO (M6.cI c/\M6.cI g/\c.length<=8192/\g.length<=8192) (aC (bif dO.oM K then M6.dg K else []) fun i=>aD F (aO A (aC B fun j=>aO (M6.cI j/\j.length<=8192/\0<u64.wrap (h+1)/\u64.wrap (h+1)<18446744073709551616) (aC (M6.dg (M6.val j/C.toNat)) fun k=>TSums.L4 a b i d e f k C))) (aD G (aO A (aC B fun l=>aO (M6.cI l/\l.length<=8192/\0<u64.wrap (h+1)/\u64.wrap (h+1)<18446744073709551616) (aC (M6.dg (M6.val l/C.toNat)) fun m=>TSums.L4 a b c i e f m C))) (aD H (aO A (aC B fun n=>aO (M6.cI n/\n.length<=8192/\0<u64.wrap (h+1)/\u64.wrap (h+1)<18446744073709551616) (aC (M6.dg (M6.val n/C.toNat)) fun o=>TSums.L4 a b c d i f o C))) (aD I (aO A (aC B fun p=>aO (M6.cI p/\p.length<=8192/\0<u64.wrap (h+1)/\u64.wrap (h+1)<18446744073709551616) (aC (M6.dg (M6.val p/C.toNat)) fun q=>TSums.L4 a b c d e i q C))) none))))) (aD G (aO (M6.cI d/\M6.cI g/\d.length<=8192/\g.length<=8192) (aC (bif dO.oM N then M6.dg N else []) fun r=>aD F (aO A (aC B fun s=>aO (M6.cI s/\s.length<=8192/\0<u64.wrap (h+1)/\u64.wrap (h+1)<18446744073709551616) (aC (M6.dg (M6.val s/C.toNat)) fun t=>TSums.L4 a b r d e f t C))) (aD G (aO A (aC B fun u=>aO (M6.cI u/\u.length<=8192/\0<u64.wrap (h+1)/\u64.wrap (h+1)<18446744073709551616) (aC (M6.dg (M6.val u/C.toNat)) fun v=>TSums.L4 a b c r e f v C))) (aD H (aO A (aC B fun w=>aO (M6.cI w/\w.length<=8192/\0<u64.wrap (h+1)/\u64.wrap (h+1)<18446744073709551616) (aC (M6.dg (M6.val w/C.toNat)) fun x=>TSums.L4 a b c d r f x C))) (aD I (aO A (aC B fun y=>aO (M6.cI y/\y.length<=8192/\0<u64.wrap (h+1)/\u64.wrap (h+1)<18446744073709551616) (aC (M6.dg (M6.val y/C.toNat)) fun z=>TSums.L4 a b c d e r z C))) none))))) (aD H (aO (M6.cI e/\M6.cI g/\e.length<=8192/\g.length<=8192) (aC (bif dO.oM O then M6.dg O else []) fun aa=>aD F (aO A (aC B fun ab=>aO (M6.cI ab/\ab.length<=8192/\0<u64.wrap (h+1)/\u64.wrap (h+1)<18446744073709551616) (aC (M6.dg (M6.val ab/C.toNat)) fun ac=>TSums.L4 a b aa d e f ac C))) (aD G (aO A (aC B fun ad=>aO (M6.cI ad/\ad.length<=8192/\0<u64.wrap (h+1)/\u64.wrap (h+1)<18446744073709551616) (aC (M6.dg (M6.val ad/C.toNat)) fun ae=>TSums.L4 a b c aa e f ae C))) (aD H (aO A (aC B fun af=>aO (M6.cI af/\af.length<=8192/\0<u64.wrap (h+1)/\u64.wrap (h+1)<18446744073709551616) (aC (M6.dg (M6.val af/C.toNat)) fun ag=>TSums.L4 a b c d aa f ag C))) (aD I (aO A (aC B fun ah=>aO (M6.cI ah/\ah.length<=8192/\0<u64.wrap (h+1)/\u64.wrap (h+1)<18446744073709551616) (aC (M6.dg (M6.val ah/C.toNat)) fun ai=>TSums.L4 a b c d e aa ai C))) none))))) (aD I (aO (M6.cI f/\M6.cI g/\f.length<=8192/\g.length<=8192) (aC (bif dO.oM P then M6.dg P else []) fun aj=>aD F (aO A (aC B fun ak=>aO (M6.cI ak/\ak.length<=8192/\0<u64.wrap (h+1)/\u64.wrap (h+1)<18446744073709551616) (aC (M6.dg (M6.val ak/C.toNat)) fun al=>TSums.L4 a b aj d e f al C))) (aD G (aO A (aC B fun am=>aO (M6.cI am/\am.length<=8192/\0<u64.wrap (h+1)/\u64.wrap (h+1)<18446744073709551616) (aC (M6.dg (M6.val am/C.toNat)) fun an=>TSums.L4 a b c aj e f an C))) (aD H (aO A (aC B fun ao=>aO (M6.cI ao/\ao.length<=8192/\0<u64.wrap (h+1)/\u64.wrap (h+1)<18446744073709551616) (aC (M6.dg (M6.val ao/C.toNat)) fun ap=>TSums.L4 a b c d aj f ap C))) (aD I (aO A (aC B fun aq=>aO (M6.cI aq/\aq.length<=8192/\0<u64.wrap (h+1)/\u64.wrap (h+1)<18446744073709551616) (aC (M6.dg (M6.val aq/C.toNat)) fun ar=>TSums.L4 a b c d e aj ar C))) none))))) none)))) (aO (M6.cI c/\M6.cI e/\c.length<=8192/\e.length<=8192) (aC (M6.dg (M6.val c-M6.val e)) fun au=>aO (M6.cI d/\M6.cI f/\d.length<=8192/\f.length<=8192) (aC (M6.dg (M6.val d-M6.val f)) fun av=>some [D.s (ints u64 av),D.s (ints u64 au)]))):=lJ aU
def tay(u W:Nat):Nat->Nat->Nat->Nat->Nat->Nat->Nat×Nat×Nat×Nat
 |0,_,a,b,c,d=>(a,b,c,d)
 |f+1,k,a,b,c,d=>if R.sq u W k=0 then(a,b,c,d)else
  if k%4=0 then tay u W f (k+1) (a+R.sq u W k) b c d else if k%4=1 then tay u W f (k+1) a (b+R.sq u W k) c d
  else if k%4=2 then tay u W f (k+1) a b (c+R.sq u W k) d else tay u W f (k+1) a b c (d+R.sq u W k)
theorem xP{u W:Nat}(h:u<=W):∀k,R.sq u W k<=W
 |0=>bXK _
 |k+1=>bYC (R.Ln h k) (xP h k)
theorem L{w:Nat}{a0:List Int}(hn:M6.cI a0)(hl:a0.length<=4096)(hu:M6.val a0<=2^w)(hw:w<=150000):∀(f k a b c d:Nat),k+f<=200000->R.sq (M6.val a0) (2^w) (k+f)=0 ->
  a<=k*2^w->b<=k*2^w->c<=k*2^w->d<=k*2^w ->
  L4 a0 w (M6.dg a) (M6.dg b) (M6.dg c) (M6.dg d) (M6.dg (R.sq (M6.val a0) (2^w) k)) k=some [.s (.ints .u64 (M6.dg ((tay (M6.val a0) (2^w) f k a b c d).2.1-(tay (M6.val a0) (2^w) f k a b c d).2.2.2))),.s (.ints .u64 (M6.dg ((tay (M6.val a0) (2^w) f k a b c d).1-(tay (M6.val a0) (2^w) f k a b c d).2.2.1)))]:=by
 intro f
 induction f with
 |zero =>
  intro k a b c d hk h0 ha hb hc hd;have pw:k*2^w<2^(w+18):=by
   rw[cCH,cCI];exact cJO (by omega) (cAH (by decide))
  rw[bYI]at h0;rw[kV,h0,M6.cG,aN (by simp)];simp only[aB];rw[gP ⟨M6.bA _,M6.bA _,fF.oD (cEC ha pw) (by omega),fF.oD (cEC hc pw) (by omega)⟩,gP ⟨M6.bA _,M6.bA _,fF.oD (cEC hb pw) (by omega),fF.oD (cEC hd pw) (by omega)⟩];simp only[M6.bD];rfl
 |succ f ih =>
  intro k a b c d hk h0 ha hb hc hd;have pw:∀j,j<=200000->j*2^w<2^(w+18):=fun j hj=>by
   rw[cCH,cCI];exact cJO (by omega) (cAH (by decide))
  have hs:(k+1)*2^w=k*2^w+2^w:=by rw[bZU,cBL]
  have ht:=xP hu k;have lt:(M6.dg (R.sq (M6.val a0) (2^w) k)).length<=4096:=gD (k:=4096) (bYC (dX.2 (cEC ht (cEE (by decide) (cJG w)))) (by omega));rw[kV];unfold tay
  by_cases hz:R.sq (M6.val a0) (2^w) k=0
  ·rw[hz,M6.cG,aN (by simp),if_pos rfl];simp only[aB];rw[gP ⟨M6.bA _,M6.bA _,fF.oD (cEC ha (pw k (by omega))) (by omega),fF.oD (cEC hc (pw k (by omega))) (by omega)⟩,gP ⟨M6.bA _,M6.bA _,fF.oD (cEC hb (pw k (by omega))) (by omega),fF.oD (cEC hd (pw k (by omega))) (by omega)⟩];simp only[M6.bD]
  ·have aRC:(M6.dg (R.sq (M6.val a0) (2^w) k)).length≠0:=fun h=>hz (M6.fT.1 h)
   have em:(k:Int).tmod 4=((k%4:Nat):Int):=by rw[cEG (by omega)];omega
   have w1:u64.wrap ((k:Int)+1)=((k+1:Nat):Int):=by rw[wrap_u64];omega
   have ew:(w:Int).toNat=w:=cBF _;have ek:(((k+1:Nat)):Int).toNat=k+1:=cBF _;have es:R.sq (M6.val a0) (2^w) k*M6.val a0/2^w/(k+1)=R.sq (M6.val a0) (2^w) (k+1):=rfl;have bRJ:(M6.dg (R.sq (M6.val a0) (2^w) k*M6.val a0/2^w)).length<=8192:=by
    have:R.sq (M6.val a0) (2^w) k*M6.val a0/2^w<=R.sq (M6.val a0) (2^w) k:=Nat.div_le_of_le_mul (by rw[cCI (2^w)];exact bZW _ hu);exact fF.oD (cEC (bYC this ht) (cEE (by decide) (cJG w))) (by omega)
   rw[aR];simp only[aB,em,w1,ew,ek,M6.bD,es];rw[if_neg hz];have bGE:k+1+f=k+(f+1):=by omega
   have Rw:∀x,x<=k*2^w->x+R.sq (M6.val a0) (2^w) k<=(k+1)*2^w/\dO.oM (x+R.sq (M6.val a0) (2^w) k)=true/\(M6.dg x).length<=8192:=fun x hx=>by
    have h1:x+R.sq (M6.val a0) (2^w) k<=(k+1)*2^w:=by omega
    exact⟨h1,fF.aWA (cEC h1 (pw (k+1) (by omega))) (by omega),fF.oD (cEC hx (pw k (by omega))) (by omega)⟩
   have up:∀x,x<=k*2^w->x<=(k+1)*2^w:=fun x hx=>by omega
   have g1:M6.cI (M6.dg (R.sq (M6.val a0) (2^w) k))/\M6.cI a0/\(M6.dg (R.sq (M6.val a0) (2^w) k)).length<=4096/\a0.length<=4096/\(0:Int)<=w/\(w:Int)<4611686018427387904:=⟨M6.bA _,hn,lt,hl,by omega,by omega⟩;have g2:M6.cI (M6.dg (R.sq (M6.val a0) (2^w) k*M6.val a0/2^w))/\(M6.dg (R.sq (M6.val a0) (2^w) k*M6.val a0/2^w)).length<=8192/\(0:Int)<((k+1:Nat):Int)/\((k+1:Nat):Int)<18446744073709551616:=⟨M6.bA _,bRJ,by omega,by omega⟩;have h4:k%4<4:=bZR _ (by decide)
   by_cases c0:k%4=0
   ·obtain⟨x1,x2,x3⟩:=Rw a ha;rw[aR,gP ⟨M6.bA _,M6.bA _,x3,by omega⟩,aR,x2,cond_true,gP g1,gP g2,if_pos c0];exact ih (k+1) _ _ _ _ (by omega) (by rw[bGE];exact h0) x1 (up b hb) (up c hc) (up d hd)
   ·rw[aN,if_neg c0]
    by_cases c1:k%4=1
    ·obtain⟨x1,x2,x3⟩:=Rw b hb;rw[aR,gP ⟨M6.bA _,M6.bA _,x3,by omega⟩,aN,aR,x2,cond_true,gP g1,gP g2,if_pos c1];exact ih (k+1) _ _ _ _ (by omega) (by rw[bGE];exact h0) (up a ha) x1 (up c hc) (up d hd)
    ·rw[aN,if_neg c1]
     by_cases c2:k%4=2
     ·obtain⟨x1,x2,x3⟩:=Rw c hc;rw[aR,gP ⟨M6.bA _,M6.bA _,x3,by omega⟩,aN,aN,aR,x2,cond_true,gP g1,gP g2,if_pos c2];exact ih (k+1) _ _ _ _ (by omega) (by rw[bGE];exact h0) (up a ha) (up b hb) x1 (up d hd)
     ·obtain⟨x1,x2,x3⟩:=Rw d hd;rw[aN,aR,gP ⟨M6.bA _,M6.bA _,x3,by omega⟩,aN,aN,aN,aR,x2,cond_true,gP g1,gP g2,if_neg c2];exact ih (k+1) _ _ _ _ (by omega) (by rw[bGE];exact h0) (up a ha) (up b hb) (up c hc) x1
def xN(u w:Nat):Nat:=(tay u (2^w) (w+1) 0 0 0 0 0).2.1-(tay u (2^w) (w+1) 0 0 0 0 0).2.2.2
def xO(u w:Nat):Nat:=(tay u (2^w) (w+1) 0 0 0 0 0).1-(tay u (2^w) (w+1) 0 0 0 0 0).2.2.1
def sp(a:List Int)(w:Int):Prop×List D:=(M6.cI a/\0<=w/\w<=150000/\2*M6.val a<=2^w.toNat,[.s (.ints .u64 (M6.dg (xN (M6.val a) w.toNat))),.s (.ints .u64 (M6.dg (xO (M6.val a) w.toNat)))])
theorem spec:eR E f198 aF (pI .u64) (pN .i64) sp:=by
 rintro a w ⟨hn,w0,w1,hu⟩;refine(start a w).trans ?_;obtain⟨w,rfl⟩:=cCM w0;rw[cBF]at hu;have hl:a.length<=4096:=by
  have e:M6.dg (M6.val a)=a:=by first |exact hn |exact Eq.symm hn
  rw[<-e];exact gD (k:=4096) (bYC (dX.2 (show M6.val a<2^(w+1) by rw[cCK];have:0<2^w:=cAH (by decide);omega)) (by omega))
 have so:mF.kT 1 w=true:=by
  unfold mF.kT;rw[show bl 1=1 from rfl,decide_eq_true (show 1+w<=524288 by omega),cDZ]
 have l1:(M6.dg 1).length<=8192:=fF.oD (k:=1) (by decide) (by decide);unfold sp;simp only[M6.bD,cBF,so,cond_true,cBL,aB];rw[gP ⟨by decide,by decide⟩,gP ⟨M6.bA _,l1,by omega,by omega⟩,<-M6.cG];exact L hn hl (by omega) (by omega) (w+1) 0 0 0 0 0 (by omega) (by rw[bXL];exact R.Rx hu) (by omega) (by omega) (by omega) (by omega)
def aJ:dG:=orc2 (pI .u64) (pN .i64) sp
theorem ok:OK 198 aJ:=(dZ E aF (aA mF.ok (aA rZ.ok (aA wL.ok (aA Oi.ok (aA oZ.ok (aA uZ.ok aE)))))) func198).jR rfl spec
end TSums
namespace aZ
def E:=mE [(87,Ch.aJ),(196,THalvings.aJ),(197,vW.aJ),(198,TSums.aJ),(132,mF.aJ),(108,rZ.aJ),(199,Oi.aJ),(140,uZ.aJ)] 91 [41,56,59,74,84] [(10,[4,5,7,10,12,50,51])] []
def aF:=bd f161
theorem aU:Nk E aF:=nk
def Dl a b c d e f g:=nN E f161 aF 10 [iU a,iU b,bK c,bK d,iU e,bK f,bK g]
theorem start a c d b:aG E f161 aF [D.agg [sc (bool a),ints u64 c,sc (int i64 d)],D.s (sc (int i64 b))]=letI H:=dv (a,c,d);letI G:=M6.dg 1;aO (aW (a,c,d)) (aC (if H.fst=0 then(0:Int)else d+(↑(bl (M6.val c)):Int)-(1:Int)) fun e=>aO (i64.wrap (i64.wrap (b+80)-if 0<e then(0:Int)else e)<=150000) (aC (↑(THalvings.hlv (i64.wrap (i64.wrap (b+80)-if 0<e then(0:Int)else e)) 200 4):Int) fun f=>letI B:=i64.wrap (i64.wrap (b+80)-match BinOp.lss with |BinOp.gtr=>if(0:Int)>e then(0:Int)else e |x=>if 0<e then(0:Int)else e)+i64.wrap ((2:Int)*f);letI A:=i64.wrap (i64.wrap (b+80)-if 0<e then(0:Int)else e)+i64.wrap ((2:Int)*f);letI F:=i64.wrap A+f;letI C:=i64.wrap F;aO (aW (a,c,d)/\(-1099511627776:Int)<=i64.wrap A/\i64.wrap A<=1099511627776/\(0<=(a,c,d).snd.snd+i64.wrap B->fit (H.fst.natAbs*(2:Nat)^((a,c,d).snd.snd+i64.wrap B).toNat)=true)) (aC (M6.dg (vW.aPB H (i64.wrap A))) fun g=>aO (M6.cI g/\0<=i64.wrap F/\i64.wrap F<=150000/\(2:Nat)*M6.val g<=(2:Nat)^C.toNat) (aC (M6.dg (TSums.xN (M6.val g) C.toNat)) fun h=>aC (M6.dg (TSums.xO (M6.val g) C.toNat)) fun i=>aO ((0:Int)<=(1:Int)/\(1:Int)<(18446744073709551616:Int)) (aO (M6.cI G/\G.length<=8192/\0<=i64.wrap F/\i64.wrap F<4611686018427387904) (aC (bif mF.kT (M6.val G) C.toNat then M6.dg (M6.val G*(2:Nat)^C.toNat)else []) fun j=>aZ.Dl h i C f j f 0)))))):=eJ aU
theorem qB a b c d e f g:Dl a b c d e f g=letI B:=M6.dg 1;letI A:=i64.wrap ((2:Int)*d)+22;aD (decide (g<f)) (aO (M6.cI a/\M6.cI b/\a.length<=4096/\b.length<=4096/\0<=c/\c<4611686018427387904) (aC (M6.dg (M6.val a*M6.val b/(2:Nat)^c.toNat)) fun h=>aO (M6.cI h/\h.length<=8192/\(0:Int)<=(1:Int)/\(1:Int)<(4611686018427387904:Int)) (aC (bif mF.kT (M6.val h) 1 then M6.dg (M6.val h*2)else []) fun i=>aO (M6.cI a/\M6.cI a/\a.length<=4096/\a.length<=4096/\0<=c/\c<4611686018427387904) (aC (M6.dg (M6.val a*M6.val a/(2:Nat)^c.toNat)) fun j=>aO (M6.cI j/\j.length<=8192/\(0:Int)<=(1:Int)/\(1:Int)<(4611686018427387904:Int)) (aC (bif mF.kT (M6.val j) 1 then M6.dg (M6.val j*2)else []) fun k=>aO (M6.cI e/\M6.cI k/\e.length<=8192/\k.length<=8192) (aC (M6.dg (M6.val e-M6.val k)) fun l=>aZ.Dl i l c d e f (i64.wrap (g+1)))))))) (aO ((0:Int)<=(1:Int)/\(1:Int)<(18446744073709551616:Int)) (aO (M6.cI B/\B.length<=8192/\0<=i64.wrap A/\i64.wrap A<4611686018427387904) (aC (bif mF.kT (M6.val B) (i64.wrap A).toNat then M6.dg (M6.val B*(2:Nat)^(i64.wrap A).toNat)else []) fun m=>some [D.s (ints u64 a),D.s (ints u64 b),D.s (ints u64 m),D.s (sc (int i64 c))]))):=lJ aU
def jI(x:Int×Int):Int:=if x.1=0 then 0 else x.2+(bl x.1.natAbs:Nat)-1
def w0(x:Int×Int)(p:Int):Int:=p+80-if 0<jI x then 0 else jI x
def hv(x:Int×Int)(p:Int):Nat:=THalvings.hlv (w0 x p) 200 4
def w1(x:Int×Int)(p:Int):Int:=w0 x p+2*(hv x p:Nat)
def w2(x:Int×Int)(p:Int):Int:=w1 x p+(hv x p:Nat)
def bU(x:Int×Int)(p:Int):Nat:=vW.aPB x (w1 x p)
def Ds(x:Int×Int)(p:Int):Nat×Nat:=R.pZ (2^(w2 x p).toNat) (hv x p) (TSums.xN (bU x p) (w2 x p).toNat) (TSums.xO (bU x p) (w2 x p).toNat)
def sp(x:iW)(p:Int):Prop×List D:=(aW x/\(1<=p/\p<=70000)/\(-70000<=jI (dv x)/\jI (dv x)<=100)/\bU (dv x) p<=2^(w1 (dv x) p).toNat,
 [.s (.ints .u64 (M6.dg (Ds (dv x) p).1)),.s (.ints .u64 (M6.dg (Ds (dv x) p).2)),.s (.ints .u64 (M6.dg (2^(2*hv (dv x) p+22)))),.s (.sc (.int .i64 (w2 (dv x) p)))])
theorem Tc(w:Int):∀f h,THalvings.hlv w f h<=h+f/\h<=THalvings.hlv w f h
 |0,h=>⟨bXK _,bXK _⟩
 |f+1,h=>by
  unfold THalvings.hlv;have:=Tc w f (h+1);split <;> omega
theorem aIV{u W:Nat}(hu:u<=W):∀f k a b c d,a<=k*W->b<=k*W->c<=k*W->d<=k*W ->
  (TSums.tay u W f k a b c d).1<=(k+f)*W/\(TSums.tay u W f k a b c d).2.1<=(k+f)*W
 |0,k,a,b,c,d,ha,hb,_,_=>⟨ha,hb⟩
 |f+1,k,a,b,c,d,ha,hb,hc,hd=>by
  have hs:=TSums.xP hu k;have e:(k+1)*W=k*W+W:=by rw[bZU,cBL]
  have e2:k*W<=(k+(f+1))*W:=cBK _ (by omega);have e3:k+1+f=k+(f+1):=by omega
  have r:=fun a b c d h1 h2 h3 h4=>e3▸aIV hu f (k+1) a b c d h1 h2 h3 h4
  unfold TSums.tay;split
  ·exact⟨bYC ha e2,bYC hb e2⟩
  ·split
   ·exact r _ _ _ _ (by omega) (by omega) (by omega) (by omega)
   ·split
    ·exact r _ _ _ _ (by omega) (by omega) (by omega) (by omega)
    ·split
     ·exact r _ _ _ _ (by omega) (by omega) (by omega) (by omega)
     ·exact r _ _ _ _ (by omega) (by omega) (by omega) (by omega)
theorem L{w:Nat}(hw:w<=150000)(x3:Nat)(h3:x3<=1000):∀(d k s c:Nat),k+d=x3->s<2^(w+20*(k+1))->c<2^(w+18)->k+d<=210 ->
  Dl (M6.dg s) (M6.dg c) w x3 (M6.dg (2^w)) x3 k=some [.s (.ints .u64 (M6.dg (R.pZ (2^w) d s c).1)),.s (.ints .u64 (M6.dg (R.pZ (2^w) d s c).2)),.s (.ints .u64 (M6.dg (2^(2*x3+22)))),.s (.sc (.int .i64 w))]
 |0,k,s,c,hk,hs,hc,hb=>by
  have e1:i64.wrap (2*(x3:Int))=2*(x3:Int):=wrap_i64;have e2:i64.wrap (2*(x3:Int)+22)=((2*x3+22:Nat):Int):=by rw[wrap_i64];omega
  have so:mF.kT 1 (2*x3+22)=true:=by
   unfold mF.kT;rw[show bl 1=1 from rfl,decide_eq_true (show 1+(2*x3+22)<=524288 by omega),cDZ]
  have l1:(M6.dg 1).length<=8192:=fF.oD (k:=1) (by decide) (by decide);rw[qB,aN,e1,e2];simp only[aB,M6.bD,cBF,so,cond_true,cBL];rw[gP ⟨by decide,by decide⟩,gP ⟨M6.bA _,l1,by omega,by omega⟩];rfl
 |d+1,k,s,c,hk,hs,hc,hb=>by
  have e:i64.wrap ((k:Int)+1)=((k+1:Nat):Int):=by rw[wrap_i64];omega
  have ls:(M6.dg s).length<=4096:=gD (k:=4096) (bYC (dX.2 hs) (by omega));have lc:(M6.dg c).length<=4096:=gD (k:=4096) (bYC (dX.2 hc) (by omega));have W0:0<2^w:=cAH (by decide);have b1:s*c/2^w<2^(w+20*(k+1)+18):=by
   apply cDC;have:2^w*2^(w+20*(k+1)+18)=2^(w+20*(k+1))*2^(w+18):=by rw[<-cCH,<-cCH];congr 1;omega
   rw[this];exact cGK hs hc
  have b2:s*s/2^w<2^(w+40*(k+1)):=by
   apply cDC;have:2^w*2^(w+40*(k+1))=2^(w+20*(k+1))*2^(w+20*(k+1)):=by rw[<-cCH,<-cCH];congr 1;omega
   rw[this];exact cGK hs hs
  have so:∀n,bl n<=500000->mF.kT n 1=true:=fun n hn=>by
   unfold mF.kT;rw[decide_eq_true (show bl n+1<=524288 by omega),cDZ]
  have f1:=so _ (bYC (dX.2 b1) (by omega));have f2:=so _ (bYC (dX.2 b2) (by omega));have b3:s*s/2^w*2<2^(w+40*(k+1)+1):=by rw[cCK];omega
  have b4:s*c/2^w*2<2^(w+20*(k+1+1)):=by
   have:2^(w+20*(k+1)+18)*2<=2^(w+20*(k+1+1)):=by rw[<-cCK];exact cAI (by decide) (by omega)
   omega
  have b5:2^w-s*s/2^w*2<2^(w+18):=cEC (cDX _ _) (cEE (by decide) (by omega));rw[qB,aR];simp only[aB,M6.bD,cBF,f1,f2,cond_true,e];rw[gP ⟨M6.bA _,M6.bA _,ls,lc,by omega,by omega⟩,gP ⟨M6.bA _,fF.oD b1 (by omega),by decide,by decide⟩,gP ⟨M6.bA _,M6.bA _,ls,ls,by omega,by omega⟩,gP ⟨M6.bA _,fF.oD b2 (by omega),by decide,by decide⟩,
   gP ⟨M6.bA _,M6.bA _,fF.oD (cEE (by decide) (cJG w)) (by omega),fF.oD b3 (by omega)⟩]
  have r:=L hw x3 h3 d (k+1) (s*c/2^w*2) (2^w-s*s/2^w*2) (by omega) b4 b5 (by omega);rw[R.yD,cCI 2 (s*c/2^w),cCI 2 (s*s/2^w)];exact r
theorem spec:eR E f161 aF jE (pN .i64) sp:=by
 rintro x p ⟨hx,⟨p0,p1⟩,⟨t0,t1⟩,hu⟩;refine(start x.1 x.2.1 x.2.2 p).trans ?_;have he:=hx.2.1;have ha:(dv x).1.natAbs=M6.val x.2.1:=iT (x.1,x.2.1);have hT:(if(dv (x.1,x.2.1,x.2.2)).1=0 then 0 else x.2.2+(bl (M6.val x.2.1):Int)-1)=jI (dv x):=by rw[<-ha];rfl
 have bBA:w0 (dv x) p=p+80-if 0<jI (dv x)then 0 else jI (dv x):=rfl
 have r0:1<=w0 (dv x) p/\w0 (dv x) p<=140080:=by rw[bBA];split <;> omega
 have e1:i64.wrap (p+80)=p+80:=wrap_i64;have e2:i64.wrap (p+80-if 0<jI (dv x)then 0 else jI (dv x))=w0 (dv x) p:=by rw[<-bBA];exact wrap_i64
 have hh:=Tc (w0 (dv x) p) 200 4;have hv0:THalvings.hlv (w0 (dv x) p) 200 4=hv (dv x) p:=rfl;rw[hv0]at hh;have bEE:w1 (dv x) p=w0 (dv x) p+2*((hv (dv x) p:Nat):Int):=rfl;have bUV:w2 (dv x) p=w1 (dv x) p+((hv (dv x) p:Nat):Int):=rfl;have e3:i64.wrap (2*((hv (dv x) p:Nat):Int))=2*((hv (dv x) p:Nat):Int):=wrap_i64;have e4:i64.wrap (w0 (dv x) p+2*((hv (dv x) p:Nat):Int))=w1 (dv x) p:=by rw[bEE];exact wrap_i64
 have e5:i64.wrap (w1 (dv x) p+((hv (dv x) p:Nat):Int))=w2 (dv x) p:=by rw[bUV];exact wrap_i64
 have hU:vW.aPB (dv x) (w1 (dv x) p)=bU (dv x) p:=rfl;have aFT:(x.1,x.2.1,x.2.2)=x:=rfl;simp only[hT,aB,e1,e2,hv0,e3,e4,e5,aFT,M6.bD,hU];obtain⟨w,hw⟩:=cCM (show 0<=w2 (dv x) p by omega);have bUZ:2*bU (dv x) p<=2^w:=by
  have:2^(w1 (dv x) p).toNat*2<=2^w:=by rw[<-cCK];exact cAI (by decide) (by omega)
  omega
 have so:mF.kT 1 w=true:=by
  unfold mF.kT;rw[show bl 1=1 from rfl,decide_eq_true (show 1+w<=524288 by omega),cDZ]
 have l1:(M6.dg 1).length<=8192:=fF.oD (k:=1) (by decide) (by decide);have aXN:0<=x.2.2+w1 (dv x) p->fit ((dv x).1.natAbs*2^(x.2.2+w1 (dv x) p).toNat)=true:=fun hc=>by
  have:bU (dv x) p=(dv x).1.natAbs*2^(x.2.2+w1 (dv x) p).toNat:=by
   rw[<-hU];unfold vW.aPB;exact if_pos hc
  rw[<-this];exact decide_eq_true (bYC (dX.2 (cEC hu (cEE (by decide) (cJG _)))) (by omega))
 unfold sp Ds;dsimp only;have hwb:w<=141000:=by omega
 rw[hw];rw[cBF,so,cond_true,cBL];rw[gP hx,gP,gP ⟨hx,by omega,by omega,aXN⟩,gP ⟨M6.bA _,by omega,by omega,bUZ⟩,gP ⟨by decide,by decide⟩,gP ⟨M6.bA _,l1,by omega,by omega⟩];obtain⟨g1,g2⟩:=aIV (u:=bU (dv x) p) (W:=2^w) (by omega) (w+1) 0 0 0 0 0 (by omega) (by omega) (by omega) (by omega);have pw:(0+(w+1))*2^w<2^(w+18):=by
  rw[cCH,cCI];exact cJO (by omega) (cAH (by decide))
 have hs:TSums.xN (bU (dv x) p) w<2^(w+18):=cEC (bYC (cDX _ _) g2) pw;have hc:TSums.xO (bU (dv x) p) w<2^(w+18):=cEC (bYC (cDX _ _) g1) pw;exact L (by omega) (hv (dv x) p) (by omega) (hv (dv x) p) 0 _ _ (by omega) (bYH hs (cAI (by decide) (by omega))) hc (by omega)
def aJ:dG:=orc2 jE (pN .i64) sp
theorem ok:OK 161 aJ:=(dZ E aF (aA Ch.ok (aA THalvings.ok (aA vW.ok (aA TSums.ok (aA mF.ok (aA rZ.ok (aA Oi.ok (aA uZ.ok aE)))))))) func161).jR rfl spec
end aZ
namespace Yg
def E:=mE [(130,Ci.aJ),(84,oR.aJ),(135,cZ.aJ)] 25 [22] [] []
def aF:=bd f138
theorem aU:Nk E aF:=nk
theorem start a d e b c:aG E f138 aF [D.agg [sc (bool a),ints u64 d,sc (int i64 e)],D.s (sc (int i64 b)),D.s (sc (bool c))]=letI A:=cZ.pC c (wv (a,d)) e b;letI B:=bif jD A.fst A.snd then bV A.fst A.snd else((0:Int),(0:Int));aO True (aC (decide (1<=b)&&decide (b<=70000)) fun f=>aD (!f) (some [D.agg [sc (bool false),sc (slice none 0 0),sc (int i64 0)],D.s (sc (int i64 1))]) (aO (aW (a,d,e)) (aO (iY (a,d)/\((-4611686018427387904:Int)<=e/\e<4611686018427387904)/\1<=b/\b<=70000) (aC (isNeg B.fst) fun g=>aC (M6.dg B.fst.natAbs) fun h=>aC B.snd fun i=>aC (bif jD A.fst A.snd then(0:Int)else(5:Int)) fun j=>some [D.agg [sc (bool g),ints u64 h,sc (int i64 i)],D.s (sc (int i64 j))])))):=eJ aU
def sp(x:iW)(p:Int)(up:Bool):Prop×List D:=(aW x/\1<=p/\p<=70000,dE (jD (cZ.pC up (dv x).1 (dv x).2 p).1 (cZ.pC up (dv x).1 (dv x).2 p).2) (bV (cZ.pC up (dv x).1 (dv x).2 p).1 (cZ.pC up (dv x).1 (dv x).2 p).2))
theorem spec:sR E f138 aF jE (pN .i64) pB sp:=by
 rintro x p up ⟨hx,h1,h2⟩;have he:=hx.2.1;refine(start x.1 x.2.1 x.2.2 p up).trans ?_;simp only[aB];rw[gP trivial,decide_eq_true h1,decide_eq_true h2,cAJ,bZH,bF,gP hx,gP ⟨hx.Le,⟨by omega,by omega⟩,h1,h2⟩];rfl
def aJ:dG:=orc3 jE (pN .i64) pB sp
theorem ok:OK 138 aJ:=(dZ E aF (aA Ci.ok (aA oR.ok (aA cZ.ok aE))) func138).Cq rfl spec
end Yg
namespace Pf
def E:=mE [(138,Yg.aJ)] 11 [8] [] []
def aF:=bd f96
theorem aU:Nk E aF:=nk
theorem start a c d b:aG E f96 aF [D.agg [sc (bool a),ints u64 c,sc (int i64 d)],D.s (sc (int i64 b))]=letI A:=cZ.pC false (dv (a,c,d)).fst (dv (a,c,d)).snd b;letI B:=bif jD A.fst A.snd then bV A.fst A.snd else((0:Int),(0:Int));aO (aW (a,c,d)/\1<=b/\b<=70000) (some [D.agg [sc (bool (isNeg B.fst)),ints u64 (M6.dg B.fst.natAbs),sc (int i64 B.snd)],D.s (sc (int i64 (bif jD A.fst A.snd then(0:Int)else(5:Int))))]):=eJ aU
def sp(x:iW)(p:Int):Prop×List D:=(aW x/\1<=p/\p<=70000,dE (jD (cZ.pC false (dv x).1 (dv x).2 p).1 (cZ.pC false (dv x).1 (dv x).2 p).2) (bV (cZ.pC false (dv x).1 (dv x).2 p).1 (cZ.pC false (dv x).1 (dv x).2 p).2))
theorem spec:eR E f96 aF jE (pN .i64) sp:=by
 intro x p h;refine(start x.1 x.2.1 x.2.2 p).trans ((gP h).trans ?_);rfl
def aJ:dG:=orc2 jE (pN .i64) sp
theorem ok:OK 96 aJ:=(dZ E aF (aA Yg.ok aE) func96).jR rfl spec
end Pf
namespace bAE
def E:=mE [(138,Yg.aJ)] 11 [8] [] []
def aF:=bd f97
theorem aU:Nk E aF:=nk
theorem start a c d b:aG E f97 aF [D.agg [sc (bool a),ints u64 c,sc (int i64 d)],D.s (sc (int i64 b))]=letI A:=cZ.pC true (dv (a,c,d)).fst (dv (a,c,d)).snd b;letI B:=bif jD A.fst A.snd then bV A.fst A.snd else((0:Int),(0:Int));aO (aW (a,c,d)/\1<=b/\b<=70000) (some [D.agg [sc (bool (isNeg B.fst)),ints u64 (M6.dg B.fst.natAbs),sc (int i64 B.snd)],D.s (sc (int i64 (bif jD A.fst A.snd then(0:Int)else(5:Int))))]):=eJ aU
def sp(x:iW)(p:Int):Prop×List D:=(aW x/\1<=p/\p<=70000,dE (jD (cZ.pC true (dv x).1 (dv x).2 p).1 (cZ.pC true (dv x).1 (dv x).2 p).2) (bV (cZ.pC true (dv x).1 (dv x).2 p).1 (cZ.pC true (dv x).1 (dv x).2 p).2))
theorem spec:eR E f97 aF jE (pN .i64) sp:=by
 intro x p h;refine(start x.1 x.2.1 x.2.2 p).trans ((gP h).trans ?_);rfl
def aJ:dG:=orc2 jE (pN .i64) sp
theorem ok:OK 97 aJ:=(dZ E aF (aA Yg.ok aE) func97).jR rfl spec
end bAE
namespace cC
def E:=mE [(140,uZ.aJ),(134,wL.aJ),(67,mD.aJ),(96,Pf.aJ),(97,bAE.aJ),(86,Jx.aJ),(30,aHE.aJ)] 71 [] [] []
def aF:=bd f162
theorem aU:Nk E aF:=nk
theorem start a b c d:aG E f162 aF [D.s (ints u64 a),D.s (ints u64 b),D.s (sc (int i64 c)),D.s (sc (int i64 d))]=letI P:=M6.val a+M6.val b;letI N:=bV 1 0;letI O:=M6.dg N.fst.natAbs;letI K:=M6.cI a/\M6.cI b/\a.length<=8192/\b.length<=8192;letI I:=i64.wrap ((0:Int)-c);aO K (aC (M6.dg (M6.val a-M6.val b)) fun e=>letI C:=bif jD (wv (false,e)) I then bV (wv (false,e)) I else((0:Int),(0:Int));aO K (aC (bif dO.oM P then M6.dg P else []) fun f=>letI F:=bif jD (wv (false,f)) I then bV (wv (false,f)) I else((0:Int),(0:Int));aO (iY (false,e)/\(-9223372036854775808:Int)<=i64.wrap ((0:Int)-c)/\i64.wrap ((0:Int)-c)<9223372036854775808) (aC (isNeg C.fst) fun g=>aC (M6.dg C.fst.natAbs) fun h=>aC C.snd fun i=>letI A:=cZ.pC false (dv (g,h,i)).fst (dv (g,h,i)).snd d;letI G:=bif jD A.fst A.snd then bV A.fst A.snd else((0:Int),(0:Int));aO (iY (false,f)/\(-9223372036854775808:Int)<=i64.wrap ((0:Int)-c)/\i64.wrap ((0:Int)-c)<9223372036854775808) (aC (isNeg F.fst) fun j=>aC (M6.dg F.fst.natAbs) fun k=>aC F.snd fun l=>letI B:=cZ.pC true (dv (j,k,l)).fst (dv (j,k,l)).snd d;letI H:=bif jD B.fst B.snd then bV B.fst B.snd else((0:Int),(0:Int));aO (aW (g,h,i)/\1<=d/\d<=70000) (aC (isNeg G.fst) fun m=>aC (M6.dg G.fst.natAbs) fun n=>aC G.snd fun o=>aO (aW (j,k,l)/\1<=d/\d<=70000) (aC (isNeg H.fst) fun p=>aC (M6.dg H.fst.natAbs) fun q=>aC H.snd fun r=>aO ((-9223372036854775808:Int)<=(1:Int)/\(1:Int)<(9223372036854775808:Int)) (aC (isNeg N.fst) fun s=>aC O fun t=>aC N.snd fun u=>aO (aW (p,q,r)/\aW (s,t,u)) (aC (cT (bY.pK (dv (p,q,r)) (dv (s,t,u))) (bY.pJ (dv (p,q,r)) (dv (s,t,u)))) fun v=>aD (decide (0<v)) (aO ((-9223372036854775808:Int)<=(1:Int)/\(1:Int)<(9223372036854775808:Int)) (aC (isNeg N.fst) fun w=>aC O fun x=>aC N.snd fun y=>some [D.agg [sc (bool m),ints u64 n,sc (int i64 o),sc (bool w),ints u64 x,sc (int i64 y)]])) (some [D.agg [sc (bool m),ints u64 n,sc (int i64 o),sc (bool p),ints u64 q,sc (int i64 r)]]))))))))):=eJ aU
def Jv(a f:Nat)(w:Int):Int×Int:=bV ((a-f:Nat):Int) (-w)
def Dx(a f:Nat)(w:Int):Int×Int:=bV ((a+f:Nat):Int) (-w)
def zP(p:Int×Int):Int×Int:=bif decide (0<dQ p (1,0))then(1,0)else p
def sp(a f:List Int)(w q:Int):Prop×List D:=(M6.cI a/\M6.cI f/\bl (M6.val a)<=500000/\bl (M6.val f)<=500000/\(0<=w/\w<=500000)/\(1<=q/\q<=70000)/\wG false (Jv (M6.val a) (M6.val f) w) q=true/\wG true (Dx (M6.val a) (M6.val f) w) q=true/\mU (shD true (Dx (M6.val a) (M6.val f) w) q),
 [Dn (shD false (Jv (M6.val a) (M6.val f) w) q) (zP (shD true (Dx (M6.val a) (M6.val f) w) q))])
theorem spec:Ud E f162 aF (pI .u64) (pI .u64) (pN .i64) (pN .i64) sp:=by
 rintro a f w q ⟨ha,hf,ba,bf,⟨w0,w1⟩,⟨q0,q1⟩,i1,i2,pu⟩;refine(start a f w q).trans ?_;have la:a.length<=8192:=by
  have e:M6.dg (M6.val a)=a:=by first |exact ha |exact Eq.symm ha
  rw[<-e];exact gD (k:=8192) (by omega)
 have lf:f.length<=8192:=by
  have e:M6.dg (M6.val f)=f:=by first |exact hf |exact Eq.symm hf
  rw[<-e];exact gD (k:=8192) (by omega)
 have vN:∀n:Nat,wv (false,M6.dg n)=(n:Int):=fun n=>by show(M6.val (M6.dg n):Int)=n;rw[M6.bD]
 have wN:∀n:Nat,bl n<=524288->iY (false,M6.dg n):=fun n hn=>by
  have:=gY (z:=(n:Int)) (by rw[cDF];exact hn);rw[fH.2 (by omega),cDF]at this;exact this
 have bs:bl (M6.val a-M6.val f)<=500000:=bYC (fW (cDX _ _)) ba;have bt:bl (M6.val a+M6.val f)<=500001:=by
  have h1:=dX.1 ba;have h2:=dX.1 bf;refine dX.2 ?_;rw[cCK 2 500000];generalize 2^500000=Q at *;omega
 have ok:dO.oM (M6.val a+M6.val f)=true:=decide_eq_true (gD (k:=8192) (by omega));have ew:i64.wrap (0-w)=-w:=by rw[wrap_i64];omega
 have j1:jD ((M6.val a-M6.val f:Nat):Int) (-w)=true:=mS (by omega) (by rw[cDF];omega);have j2:jD ((M6.val a+M6.val f:Nat):Int) (-w)=true:=mS (by omega) (by rw[cDF];omega);have p1:mU (Jv (M6.val a) (M6.val f) w):=jQ j1 (by rw[cDF];omega);have p2:mU (Dx (M6.val a) (M6.val f) w):=jQ j2 (by rw[cDF];omega);have c1:=gF (Jv (M6.val a) (M6.val f) w);have c2:=gF (Dx (M6.val a) (M6.val f) w);have n1:bV 1 0=(1,0):=by decide +kernel
 have pn:mU (1,0):=⟨by decide +kernel,⟨by decide,by decide⟩,fun h=>absurd h (by decide),fun _=>by decide⟩;have d1:=eI pn;have v1:=gF ((1,0):Int×Int);rw[gP ⟨ha,hf,la,lf⟩,aB,gP ⟨ha,hf,la,lf⟩];simp only[aB,ok,cond_true,vN,ew,j1,j2,n1];rw[gP ⟨wN _ (by omega),by omega,by omega⟩,gP ⟨wN _ (by omega),by omega,by omega⟩];have eL:bV ((M6.val a-M6.val f:Nat):Int) (-w)=Jv (M6.val a) (M6.val f) w:=rfl;have eH:bV ((M6.val a+M6.val f:Nat):Int) (-w)=Dx (M6.val a) (M6.val f) w:=rfl;unfold sp zP;dsimp only;rw[eL,eH];generalize Jv (M6.val a) (M6.val f) w=L at *;generalize Dx (M6.val a) (M6.val f) w=H at *;have bIA:jD (cZ.pC false L.1 L.2 q).1 (cZ.pC false L.1 L.2 q).2=true:=i1;have bHZ:jD (cZ.pC true H.1 H.2 q).1 (cZ.pC true H.1 H.2 q).2=true:=i2;have cu:=gF (shD true H q);have du:=eI pu;have eU:bV (cZ.pC true H.1 H.2 q).1 (cZ.pC true H.1 H.2 q).2=shD true H q:=rfl;have eD:bV (cZ.pC false L.1 L.2 q).1 (cZ.pC false L.1 L.2 q).2=shD false L q:=rfl;simp only[c1,c2,bIA,bHZ,cond_true,eU,eD,cu,v1];rw[gP ⟨eI p1,q0,q1⟩,gP ⟨eI p2,q0,q1⟩,gP ⟨by decide,by decide⟩,gP ⟨du,d1⟩];show aD (decide (0<dQ (shD true H q) (1,0))) _ _=_
 by_cases g:0<dQ (shD true H q) (1,0)
 ·rw[aR g,decide_eq_true g,cond_true,gP ⟨by decide,by decide⟩];rfl
 ·rw[aN g,decide_eq_false g,cond_false];rfl
def aJ:dG:=orc4 (pI .u64) (pI .u64) (pN .i64) (pN .i64) sp
theorem ok:OK 162 aJ:=(dZ E aF (aA uZ.ok (aA wL.ok (aA mD.ok (aA Pf.ok (aA bAE.ok (aA Jx.ok (aA aHE.ok aE))))))) func162).aQH rfl spec
end cC
namespace cF
def E:=mE [(159,Oj.aJ),(87,Ch.aJ),(67,mD.aJ),(68,aSR.aJ),(50,aBJ.aJ),(30,aHE.aJ),(161,aZ.aJ),(162,cC.aJ)] 63 [] [] []
def aF:=bd f118
theorem aU:Nk E aF:=nk
theorem start a c d b:aG E f118 aF [D.agg [sc (bool a),ints u64 c,sc (int i64 d)],D.s (sc (int i64 b))]=letI Q:=wv (isNeg 1,M6.dg (cHV 1));letI N:=i64.wrap (b+32);letI I:=i64.wrap ((0:Int)-b)-3;letI H:=dv (a,c,d);letI G:=bV 1 0;letI T:=isNeg G.fst;letI K:=M6.dg G.fst.natAbs;letI A:=bif jD Q (i64.wrap I)then bV Q (i64.wrap I)else((0:Int),(0:Int));aD ((c.length:Int)==(0:Int)) (aO ((-1000000:Int)<=(1:Int)/\(1:Int)<=(1000000:Int)) (aC T fun e=>aC K fun f=>aC G.snd fun g=>aC T fun h=>aC K fun i=>aC G.snd fun j=>some [D.agg [sc (bool e),ints u64 f,sc (int i64 g),sc (bool h),ints u64 i,sc (int i64 j)]])) (aO (aW (a,c,d)) (aC (if H.fst=0 then(0:Int)else d+(↑(bl (M6.val c)):Int)-(1:Int)) fun k=>aD (decide (i64.wrap (i64.wrap ((2:Int)*k)+8)<i64.wrap ((0:Int)-b))) (aO ((-9223372036854775808:Int)<=(1:Int)/\(1:Int)<(9223372036854775808:Int)) (aO (iY (isNeg 1,M6.dg 1)/\(-9223372036854775808:Int)<=i64.wrap I/\i64.wrap I<9223372036854775808) (aC (isNeg A.fst) fun l=>aC (M6.dg A.fst.natAbs) fun m=>aC A.snd fun n=>letI U:=dv (l,m,n);aO ((-9223372036854775808:Int)<=(1:Int)/\(1:Int)<(9223372036854775808:Int)) (aC T fun o=>aC K fun p=>aC G.snd fun q=>letI B:=bif bY.jG (dv (o,p,q)) (-U.fst,U.snd)then bY.kB (dv (o,p,q)) (-U.fst,U.snd)else((0:Int),(0:Int));aO (aW (o,p,q)/\aW (l,m,n)) (aC (isNeg B.fst) fun r=>aC (M6.dg B.fst.natAbs) fun s=>aC B.snd fun t=>aO ((-9223372036854775808:Int)<=(1:Int)/\(1:Int)<(9223372036854775808:Int)) (aC T fun u=>aC K fun v=>aC G.snd fun w=>some [D.agg [sc (bool r),ints u64 s,sc (int i64 t),sc (bool u),ints u64 v,sc (int i64 w)]])))))) (aO (aW (a,c,d)/\(1<=b/\b<=70000)/\((-70000:Int)<=aZ.jI H/\aZ.jI H<=100)/\aZ.bU H b<=(2:Nat)^(aZ.w1 H b).toNat) (aC (M6.dg (aZ.Ds H b).snd) fun x=>aC (M6.dg ((2:Nat)^((2:Nat)*aZ.hv H b+22))) fun y=>aC (aZ.w2 H b) fun z=>letI P:=cC.Dx (M6.val x) (M6.val y) z;letI O:=cC.Jv (M6.val x) (M6.val y) z;letI F:=M.shD false O N;letI C:=M.shD true P N;letI W:=cC.zP C;aO (M6.cI x/\M6.cI y/\bl (M6.val x)<=500000/\bl (M6.val y)<=500000/\(0<=z/\z<=500000)/\(1<=i64.wrap (b+32)/\i64.wrap (b+32)<=70000)/\wG false O N=true/\wG true P N=true/\mU C) (aC (isNeg F.fst) fun aa=>aC (M6.dg F.fst.natAbs) fun ab=>aC F.snd fun ac=>aC (isNeg W.fst) fun ad=>aC (M6.dg W.fst.natAbs) fun ae=>aC W.snd fun af=>some [D.agg [sc (bool aa),ints u64 ab,sc (int i64 ac),sc (bool ad),ints u64 ae,sc (int i64 af)]]))))):=eJ aU
def uX(x:Int×Int)(p:Int):Int×Int:=if x.1=0 then(1,0)else if 2*aZ.jI x+8 < -p then bY.kB (1,0) (-1,-p-3)else shD false (cC.Jv (aZ.Ds x p).2 (2^(2*aZ.hv x p+22)) (aZ.w2 x p)) (p+32)
def uA(x:Int×Int)(p:Int):Int×Int:=if x.1=0 then(1,0)else if 2*aZ.jI x+8 < -p then(1,0)else cC.zP (shD true (cC.Dx (aZ.Ds x p).2 (2^(2*aZ.hv x p+22)) (aZ.w2 x p)) (p+32))
def Tu(x:Int×Int)(p:Int):Prop:=(-70000<=aZ.jI x/\aZ.jI x<=100)/\aZ.bU x p<=2^(aZ.w1 x p).toNat
def aNC(a f:Nat)(w q:Int):Prop:=bl a<=500000/\bl f<=500000/\(0<=w/\w<=500000)/\wG false (cC.Jv a f w) q=true/\wG true (cC.Dx a f w) q=true/\mU (shD true (cC.Dx a f w) q)
def aGQ(x:iW)(p:Int):Prop:=aW x/\(1<=p/\p<=67100)/\((dv x).1≠0->-600000<=aZ.jI (dv x)/\(2*aZ.jI (dv x)+8 < -p->bY.jG (1,0) (-1,-p-3)=true) /\
 (¬2*aZ.jI (dv x)+8 < -p->Tu (dv x) p/\aNC (aZ.Ds (dv x) p).2 (2^(2*aZ.hv (dv x) p+22)) (aZ.w2 (dv x) p) (p+32)))
def sp(x:iW)(p:Int):Prop×List D:=(aGQ x p,
 [Dn (uX (dv x) p) (uA (dv x) p)])
theorem spec:eR E f118 aF jE (pN .i64) sp:=by
 rintro x p ⟨hx,⟨p0,p1⟩,h⟩;refine(start x.1 x.2.1 x.2.2 p).trans ?_;have hz:=M6.cX hx.Fh;have hl:=hx.len;have he:=hx.2.1;have ha:(dv x).1.natAbs=M6.val x.2.1:=iT (x.1,x.2.1);have aFT:(x.1,x.2.1,x.2.2)=x:=rfl;have n1:bV 1 0=(1,0):=by decide +kernel
 have v1:wv (isNeg 1,M6.dg (cHV 1))=1:=tB 1;have hT:(if(dv x).1=0 then 0 else x.2.2+(bl (M6.val x.2.1):Int)-1)=aZ.jI (dv x):=by rw[<-ha];rfl
 have k1:iY (isNeg 1,M6.dg 1):=gY (z:=1) (by decide +kernel);have pn:mU (1,0):=⟨by decide +kernel,⟨by decide,by decide⟩,fun h=>absurd h (by decide),fun _=>by decide⟩;unfold sp uX uA;dsimp only
 by_cases c0:(dv x).1=0
 ·rw[cL (by have:=hz.2 (by omega);omega),gP ⟨by decide,by decide⟩,if_pos c0,if_pos c0];simp only[aB,n1];rfl
 ·obtain⟨t0,hA,hB⟩:=h c0;have tt:=hx.rB.top;have l0:x.2.1.length≠0:=fun hc=>c0 (by have:=hz.1 hc;omega)
  simp only[aFT,hT,aB,n1,v1];rw[cO,if_neg c0,if_neg c0];have tU:aZ.jI (dv x)<=1572864:=by unfold aZ.jI;rw[if_neg c0];exact tt.2
  have w1:i64.wrap (i64.wrap (2*aZ.jI (dv x))+8)=2*aZ.jI (dv x)+8:=by rw[wrap_i64 (n:=2*aZ.jI (dv x)),wrap_i64]
  have w2:i64.wrap (0-p)=-p:=by rw[wrap_i64];omega
  have w3:i64.wrap (-p-3)=-p-3:=wrap_i64;have w4:i64.wrap (p+32)=p+32:=wrap_i64;simp only[w1,w2,w3,w4];rw[gP hx]
  by_cases c1:2*aZ.jI (dv x)+8 < -p
  ·have b1:bl (cHV 1)=1:=rfl;have i1:jD 1 (-p-3)=true:=mS (by omega) (by rw[b1];omega);have m1:bV 1 (-p-3)=(1,-p-3):=by
    unfold bV;rw[if_neg (by decide),show tz (cHV 1)=0 from by decide +kernel];simp
   have pg:mU (1,-p-3):=m1▸jQ i1 (by decide +kernel);have d1:=eI pn;have d2:=eI pg;have e1:=gF ((1,0):Int×Int);have e2:=gF ((1,-p-3):Int×Int);rw[aR c1,if_pos c1,if_pos c1];simp only[i1,m1,cond_true,e1,e2,hA c1];rw[gP ⟨by decide,by decide⟩,gP ⟨k1,by omega,by omega⟩,gP ⟨by decide,by decide⟩,gP ⟨d1,d2⟩,gP ⟨by decide,by decide⟩];rfl
  ·obtain⟨⟨b1,b2⟩,a1,a2,a3,a4,a5,a6⟩:=hB c1;rw[aN c1,if_neg c1,if_neg c1];simp only[M6.bD];rw[gP ⟨hx,⟨by omega,by omega⟩,b1,b2⟩,gP ⟨M6.bA _,M6.bA _,a1,a2,a3,⟨by omega,by omega⟩,a4,a5,a6⟩];rfl
def aJ:dG:=orc2 jE (pN .i64) sp
theorem ok:OK 118 aJ:=(dZ E aF (aA Oj.ok (aA Ch.ok (aA mD.ok (aA aSR.ok (aA aBJ.ok (aA aHE.ok (aA aZ.ok (aA cC.ok aE)))))))) func118).jR rfl spec
end cF
namespace kD
def E:=mE [(46,tI.aJ),(53,aOI.aJ)] 27 [] [] []
def aF:=bd f22
theorem aU:Nk E aF:=nk
theorem start a b c d e f:aG E f22 aF [D.agg [sc (bool a),ints u64 b,sc (int i64 c),sc (bool d),ints u64 e,sc (int i64 f)]]=letI B:=dv (a,b,c);letI A:=dv (d,e,f);aO (dR (a,b,c,d,e,f)) (aO (aW (d,e,f)) (aC (isNeg (-A.fst)) fun g=>aC (M6.dg (-A.fst).natAbs) fun h=>aC A.snd fun i=>aO (aW (a,b,c)) (aC (isNeg (-B.fst)) fun j=>aC (M6.dg (-B.fst).natAbs) fun k=>aC B.snd fun l=>some [D.agg [sc (bool g),ints u64 h,sc (int i64 i),sc (bool j),ints u64 k,sc (int i64 l)],D.s (sc (int i64 0))]))):=eJ aU
def wI(p:Int×Int):Int×Int:=(-p.1,p.2)
def sp(s:vF):Prop×List D:=(dR s,[Dn (wI (dv (fO s))) (wI (dv (fL s))),.s (.sc (.int .i64 0))])
theorem spec:iD E f22 aF tN sp:=by
 intro s h;have h:dR s:=h;have hL:aW (s.1,s.2.1,s.2.2.1):=h.1;have hH:aW (s.2.2.2.1,s.2.2.2.2.1,s.2.2.2.2.2):=h.2.1;refine(start s.1 s.2.1 s.2.2.1 s.2.2.2.1 s.2.2.2.2.1 s.2.2.2.2.2).trans ?_;simp only[aB];rw[gP h,gP hH]
 (try simp only[aB])
 rw[gP hL];rfl
def aJ:dG:=orc1 tN sp
theorem ok:OK 22 aJ:=(dZ E aF (aA tI.ok (aA aOI.ok aE)) func22).oS rfl spec
end kD
namespace Im
def E:=mE [(22,kD.aJ)] 12 [] [] []
def aF:=bd f160
theorem aU:Nk E aF:=nk
theorem start a c d e f g b:aG E f160 aF [D.agg [sc (bool a),ints u64 c,sc (int i64 d),sc (bool e),ints u64 f,sc (int i64 g)],D.s (sc (bool b))]=letI A:=(a,c,d,e,f,g);letI C:=dv (fL A);letI B:=dv (fO A);aD b (aO (dR A) (some [D.agg [sc (bool (isNeg (-B.fst))),ints u64 (M6.dg (-B.fst).natAbs),sc (int i64 B.snd),sc (bool (isNeg (-C.fst))),ints u64 (M6.dg (-C.fst).natAbs),sc (int i64 C.snd)]])) (some [D.agg [sc (bool a),ints u64 c,sc (int i64 d),sc (bool e),ints u64 f,sc (int i64 g)]]):=eJ aU
def sp(s:vF)(b:Bool):Prop×List D:=(dR s,[Dn (bif b then kD.wI (dv (fO s))else dv (fL s)) (bif b then kD.wI (dv (fL s))else dv (fO s))])
theorem spec:eR E f160 aF tN pB sp:=by
 intro s b h;have h:dR s:=id h;refine(start s.1 s.2.1 s.2.2.1 s.2.2.2.1 s.2.2.2.2.1 s.2.2.2.2.2 b).trans ?_;unfold sp;cases b with
 |true =>
  show aO _ _=_;have h':dR (s.1,s.2.1,s.2.2.1,s.2.2.2.1,s.2.2.2.2.1,s.2.2.2.2.2):=h;rw[gP h'];rfl
 |false =>
  dsimp only[cond_false];rw[h.Dn]
def aJ:dG:=orc2 tN pB sp
theorem ok:OK 160 aJ:=(dZ E aF (aA kD.ok aE) func160).jR rfl spec
end Im
end W
end Go.Proofs.YtaajbopgknekmaaGreatDoor
end
