/- Contracts of functions and laws, for the claim on RefvalDoubles. -/
import Derived.Test.YtcnlagnipklcmaaGreatDoorBRefvalDoubles3
set_option linter.unusedVariables false
set_option linter.unusedSimpArgs false
set_option exponentiation.threshold 10000000
noncomputable section
open Go.IntKind(i8 i16 i32 i64 u8 u16 u32 u64)
open Go.Proofs.Tryz
open Rat renaming le_of_lt->cDU,intCast_natCast->cIW,le_refl->cEZ,intCast_mul->cJA,le_trans->cDS,intCast_neg->cJG,natCast_mul->cFK,natCast_add->cIQ,mul_assoc->cJP,intCast_sub->cMB,mul_pos->cEE,mul_comm->cKY,intCast_add->cKB,mul_le_mul_of_nonneg_right->cMI
open Nat renaming le_trans->bZJ,lt_of_le_of_lt->cFA,pow_add->cDP,pow_succ->cDL,pow_pos->cBM,div_le_self->cGV,zero_le->cEN,pow_le_pow_right->cBN,mul_comm->cDM,lt_of_lt_of_le->bZN,one_mul->cCQ,sub_le->cEV,ble->bYQ,pow_lt_pow_right->cFE,le_refl->bYN,mul_le_mul_right->cAA,zero_add->bYP,add_zero->bZO,mod_lt->cAV,beq->bYO,le_of_ble_eq_true->cAL,eq_of_beq_eq_true->bZB,div_div_eq_div_mul->cEB,div_lt_of_lt_mul->cEF,mul_le_mul->cIS,add_mul->bZH,lt_succ_self->cMD,mul_assoc->cDQ,div_add_mod->cDT,mul_lt_mul''->cGW,mul_lt_mul_of_pos_left->cME,mul_le_mul_left->cBB,zero_div->cIB,le_of_lt->cMF,mul_lt_mul_of_pos_right->cGU
open Int renaming toNat_natCast->cCJ,natAbs_natCast->cED,eq_ofNat_of_zero_le->cDO,natAbs->cIK,natAbs_neg->cGD,natAbs_mul->cEC,mul_nonneg->cKF,toNat->cMC,natCast_mul->cEW,tmod_eq_emod_of_nonneg->cGA,neg_mul->cHX,mul_le_mul_of_nonneg_right->cAX,natCast_nonneg->cIA,natCast_add->cMH
open Bool renaming not_true->cAN,or_true->cEX,false_or->cAO,not_false->cKD,true_and->cBO,true_or->cEJ,false_and->cDW,and_false->cDY,and_eq_true->bYT,and_eq_false_iff->cKR
open List renaming replicate->cAQ
open Option renaming bind_eq_some_iff->cAU
namespace Go.Proofs.YtcnlagnipklcmaaGreatDoor
open Go.Value(int bool slice)
open AI.S(sc ints)
namespace W
open Go AI M
namespace fM
def E:=mE [(122,mI.aJ),(117,sJ.aJ),(206,pD.aJ),(124,wW.aJ),(126,vK.aJ),(251,aOV.aJ)] 72 [67] [(6,[0,6,8,9,10,11])] []
def aF:=bd f229
theorem aU:Nk E aF:=nk
def L6 a b (c:Nat) (d:List Int) (e:Nat) (f:List Int) g x7:=nU E f229 aF 6 [dR a,iY b,Dg 2 c 22 d,Dg 3 e 22 f,dR g,dR x7]
def bMZ a b c (d:Nat) (e:List Int) f g:=nU E f229 aF 6 [dR a,iY b,iY c,Dg 3 d 22 e,dR f,dR g]
def bYG a b (c:Nat) (d:List Int) e f g:=nU E f229 aF 6 [dR a,iY b,Dg 2 c 22 d,iY e,dR f,dR g]
def bGD a b c d e f:=nU E f229 aF 6 [dR a,iY b,iY c,iY d,dR e,dR f]
theorem start a b:aG E f229 aF [D.s (sc (int u64 a)),D.s (sc (int i64 b))]=letI B:=M6.dg 1;letI A:=bif mI.kU (M6.val B) b.toNat then M6.dg (M6.val B*(2:Nat)^b.toNat)else [];aN ((0:Int)<=(1:Int)/\(1:Int)<(18446744073709551616:Int)) (aN (M6.cO B/\B.length<=8192/\0<=b/\b<4611686018427387904) (aN (M6.cO A/\A.length<=8192/\0<a/\a<18446744073709551616) (fM.L6 a (M6.dg (M6.val A/a.toNat)) 0 [] 0 [] 2 1))):=eJ aU
theorem qW a b c d e f g h:L6 a b c d e f g h=letI C:=M6.dg (M6.val b/a.toNat/a.toNat);letI B:=M6.cO b/\b.length<=8192/\2<=a/\a<4294967296;letI A:=M6.dg (M6.val b/h.toNat);letI G:=M6.val f+M6.val A;letI F:=M6.val d+M6.val A;aC (decide (0<(b.length:Int))) (aN (M6.cO b/\b.length<=8192/\0<h/\h<18446744073709551616) (aC (h.tmod 4==(1:Int)) (aN (M6.cO d/\M6.cO A/\d.length<=8192/\A.length<=8192) (aN B (fM.bMZ a C (bif dP.oQ F then M6.dg F else []) e f (u64.wrap (g+3)) (u64.wrap (h+2))))) (aN (M6.cO f/\M6.cO A/\f.length<=8192/\A.length<=8192) (aN B (fM.bYG a C c d (bif dP.oQ G then M6.dg G else []) (u64.wrap (g+3)) (u64.wrap (h+2))))))) (aN (M6.cO d/\M6.cO f/\d.length<=8192/\f.length<=8192) (some [D.s (ints u64 (M6.dg (M6.val d-M6.val f))),D.s (sc (int u64 g))])):=lJ aU
theorem bAK a b c d e f g:bMZ a b c d e f g=letI C:=M6.dg (M6.val b/a.toNat/a.toNat);letI B:=M6.cO b/\b.length<=8192/\2<=a/\a<4294967296;letI A:=M6.dg (M6.val b/g.toNat);letI G:=M6.val e+M6.val A;letI F:=M6.val c+M6.val A;aC (decide (0<(b.length:Int))) (aN (M6.cO b/\b.length<=8192/\0<g/\g<18446744073709551616) (aC (g.tmod 4==(1:Int)) (aN (M6.cO c/\M6.cO A/\c.length<=8192/\A.length<=8192) (aN B (fM.bMZ a C (bif dP.oQ F then M6.dg F else []) d e (u64.wrap (f+3)) (u64.wrap (g+2))))) (aN (M6.cO e/\M6.cO A/\e.length<=8192/\A.length<=8192) (aN B (fM.bGD a C c (bif dP.oQ G then M6.dg G else []) (u64.wrap (f+3)) (u64.wrap (g+2))))))) (aN (M6.cO c/\M6.cO e/\c.length<=8192/\e.length<=8192) (some [D.s (ints u64 (M6.dg (M6.val c-M6.val e))),D.s (sc (int u64 f))])):=lJ aU
theorem aOP a b c d e f:bGD a b c d e f=letI C:=M6.dg (M6.val b/a.toNat/a.toNat);letI B:=M6.cO b/\b.length<=8192/\2<=a/\a<4294967296;letI A:=M6.dg (M6.val b/f.toNat);letI G:=M6.val d+M6.val A;letI F:=M6.val c+M6.val A;aC (decide (0<(b.length:Int))) (aN (M6.cO b/\b.length<=8192/\0<f/\f<18446744073709551616) (aC (f.tmod 4==(1:Int)) (aN (M6.cO c/\M6.cO A/\c.length<=8192/\A.length<=8192) (aN B (fM.bGD a C (bif dP.oQ F then M6.dg F else []) d (u64.wrap (e+3)) (u64.wrap (f+2))))) (aN (M6.cO d/\M6.cO A/\d.length<=8192/\A.length<=8192) (aN B (fM.bGD a C c (bif dP.oQ G then M6.dg G else []) (u64.wrap (e+3)) (u64.wrap (f+2))))))) (aN (M6.cO c/\M6.cO d/\c.length<=8192/\d.length<=8192) (some [D.s (ints u64 (M6.dg (M6.val c-M6.val d))),D.s (sc (int u64 e))])):=lJ aU
open Arctan in
theorem oL {n k:Nat} (h:n<2^k) (hk:k<=524288):(M6.dg n).length<=8192:=gI (k:=8192) (bZJ (eF.2 h) (by omega))
theorem aWX{n k:Nat}(h:n<2^k)(hk:k<=524288):dP.oQ n=true:=dqT (oL h hk)
theorem Ld{k Q:Nat}(hk:2<=k)(Xt:k<4294967296)(hQ:Q<=200000):∀(f t p m n:Nat),t<2^Q->t<4^f->f+n<=250000->p<2^(Q+n+1)->m<2^(Q+n+1) ->
  bGD k (M6.dg t) (M6.dg p) (M6.dg m) ((2+3*n:Nat):Int) ((2*n+1:Nat):Int)=some [D.s (.ints .u64 (M6.dg (Arctan.rounds k f t p m (2*n+1) n).1)),D.s (.sc (.int .u64 ((2+3*(Arctan.rounds k f t p m (2*n+1) n).2:Nat):Int)))]:=by
 intro f
 induction f with
 |zero =>
  intro t p m n aSK ht hf hp hm;have:t=0:=by simpa using ht
  subst this;rw[aOP,M6.cL,aM (by simp),gP ⟨M6.bA _,M6.bA _,oL hp (by omega),oL hm (by omega)⟩,M6.bD,M6.bD];rfl
 |succ f ih =>
  intro t p m n aSK ht hf hp hm;rw[aOP];unfold Arctan.rounds
  by_cases hz:t=0
  ·subst hz;rw[M6.cL,aM (by simp),gP ⟨M6.bA _,M6.bA _,oL hp (by omega),oL hm (by omega)⟩,M6.bD,M6.bD,if_pos rfl]
  ·have aSC:(M6.dg t).length≠0:=fun h=>hz (M6.fZ.1 h)
   have et:(((2*n+1:Nat):Int)).toNat=2*n+1:=cCJ _;have ek:((k:Int)).toNat=k:=cCJ _;have em:(((2*n+1:Nat):Int)).tmod 4=(((2*n+1)%4:Nat):Int):=by rw[cGA (by omega)];omega
   have w1:u64.wrap (((2+3*n:Nat):Int)+3)=((2+3*(n+1):Nat):Int):=by rw[wrap_u64];omega
   have w2:u64.wrap (((2*n+1:Nat):Int)+2)=((2*(n+1)+1:Nat):Int):=by rw[wrap_u64];omega
   have bGX:t/k/k<2^Q:=cFA (cGV _ _) (cFA (cGV _ _) aSK);have bOO:t/k/k<4^f:=by
    rw[cEB];apply cEF;have:4<=k*k:=cIS hk hk;rw[cDL 4 f,cDM (4^f)]at ht;exact bZN ht (cAA _ this)
   have Zr:2^(Q+(n+1)+1)=2*2^(Q+n+1):=by rw[show Q+(n+1)+1=(Q+n+1)+1 from by omega,cDL];omega
   have hd:t/(2*n+1)<2^(Q+n+1):=cFA (cGV _ _) (bZN aSK (gO));have lt:=oL aSK (by omega);have ld:=oL hd (by omega);rw[aO];simp only[et,ek,em,M6.bD,w1,w2];rw[gP ⟨M6.bA _,lt,by omega,by omega⟩,if_neg hz,show 2*n+1+2=2*(n+1)+1 by omega]
   by_cases hc:(2*n+1)%4=1
   ·have hs:p+t/(2*n+1)<2^(Q+(n+1)+1):=by rw[Zr];omega
    rw[dU,gP ⟨M6.bA _,M6.bA _,oL hp (by omega),ld⟩,gP ⟨M6.bA _,lt,by omega,by omega⟩,if_pos hc,aWX hs (by omega),cond_true];exact ih _ _ _ (n+1) bGX bOO (by omega) hs (by rw[Zr];omega)
   ·have hs:m+t/(2*n+1)<2^(Q+(n+1)+1):=by rw[Zr];omega
    rw[cP,gP ⟨M6.bA _,M6.bA _,oL hm (by omega),ld⟩,gP ⟨M6.bA _,lt,by omega,by omega⟩,if_neg hc,aWX hs (by omega),cond_true];exact ih _ _ _ (n+1) bGX bOO (by omega) (by rw[Zr];omega) hs
def sp(k q:Int):Prop×List D:=((2<=k/\k<4294967296)/\0<=q/\q<=150000,[.s (.ints .u64 (M6.dg (Arctan.atan k.toNat q.toNat).1)),.s (.sc (.int .u64 ((2+3*(Arctan.atan k.toNat q.toNat).2:Nat):Int)))])
theorem spec:fF E f229 aF (pN .u64) (pN .i64) sp:=by
 rintro k q ⟨⟨h1,h2⟩,h3,h4⟩;refine(start k q).trans ?_;unfold sp;obtain⟨k,rfl⟩:=cDO (show 0<=k by omega);obtain⟨q,rfl⟩:=cDO h3;have Tx:2^q<2^(q+1):=cFE (by omega) (by omega);have hb:2^q/k<2^(q+1):=cFA (cGV _ _) Tx;have so:mI.kU 1 q=true:=by
  unfold mI.kU;rw[show bl 1=1 from rfl,dqT (show 1+q<=524288 by omega),cEX]
 have l1:(M6.dg 1).length<=8192:=oL (k:=1) (by decide) (by decide);have nn:M6.cO ([]:List Int):=by rw[<-M6.cL];exact M6.bA 0
 have v0:M6.val ([]:List Int)=0:=rfl;simp only[M6.bD,cCJ,so,cond_true,cCQ];rw[gP ⟨by decide,by decide⟩,gP ⟨M6.bA _,l1,by omega,by omega⟩,gP ⟨M6.bA _,oL Tx (by omega),by omega,by omega⟩];unfold Arctan.atan;have bVE:2^q/k<4^(q+2):=bZN hb (by rw[show(4:Nat)=2^2 from rfl,<-Nat.pow_mul];exact gO);generalize 2^q/k=t at *;have e4:4^(q+2)=16*4^q:=by rw[cDP];omega
 rw[e4]at bVE;have kk:4<=k*k:=cIS (show 2<=k by omega) (show 2<=k by omega);have step:∀a X:Nat,a<4*X->a/k/k<X:=fun a X ha=>by
  rw[cEB];exact cEF (bZN ha (cAA _ kk))
 have Rq:∀a:Nat,a/k/k<=a:=fun a=>bZJ (cGV _ _) (cGV _ _)
 have ht:=oL hb (by omega);rw[qW,show q+2=(q+1)+1 by omega];unfold Arctan.rounds
 by_cases z:t=0
 ·subst z;rw[M6.cL,aM (by simp),gP ⟨nn,nn,by decide,by decide⟩,if_pos rfl,v0];rfl
 ·have aSC:(M6.dg t).length≠0:=fun h=>z (M6.fZ.1 h)
  rw[aO,if_neg z,if_pos (by decide)];simp only[M6.bD,v0,bYP,Int.toNat_one,Nat.div_one,cCJ];have Bm:=cFA (Rq t) hb;have bVF:=step t (4*4^q) (by omega);have l2:=oL Bm (by omega);rw[gP ⟨M6.bA _,ht,by decide,by decide⟩,dU (by decide),gP ⟨nn,M6.bA _,by decide,ht⟩,gP ⟨M6.bA _,ht,by omega,by omega⟩,aWX hb (by omega),cond_true,bAK,show u64.wrap (2+3)=5 from wrap_u64 (by decide) (by decide),show u64.wrap (1+2)=3 from wrap_u64 (by decide) (by decide)];unfold Arctan.rounds;generalize t/k/k=u at *
  by_cases z1:u=0
  ·subst z1;rw[M6.cL,aM (by simp),gP ⟨M6.bA _,nn,ht,by decide⟩,if_pos rfl,v0,M6.bD];rfl
  ·have Jn:(M6.dg u).length≠0:=fun h=>z1 (M6.fZ.1 h)
   have bOM:u/3<2^(q+1):=cFA (cGV _ _) Bm;rw[aO,if_neg z1,if_neg (by decide)];simp only[M6.bD,v0,bYP,cCJ,show((3:Int)).toNat=3 from rfl];rw[gP ⟨M6.bA _,l2,by decide,by decide⟩,cP (by decide),gP ⟨nn,M6.bA _,by decide,oL bOM (by omega)⟩,gP ⟨M6.bA _,l2,by omega,by omega⟩,aWX bOM (by omega),cond_true,show u64.wrap (5+3)=8 from wrap_u64 (by decide) (by decide),show u64.wrap (3+2)=5 from wrap_u64 (by decide) (by decide)];have up:2^(q+1)<=2^(q+1+2+1):=gO;exact Ld (k:=k) (Q:=q+1) (by omega) (by omega) (by omega) q (u/k/k) t (u/3) 2 (cFA (Rq u) Bm) (step u (4^q) bVF) (by omega) (by omega) (by omega)
def aJ:dO:=orc2 (pN .u64) (pN .i64) sp
theorem ok:OK 229 aJ:=(eI E aF (aA mI.ok (aA sJ.ok (aA pD.ok (aA wW.ok (aA vK.ok (aA aOV.ok aD)))))) func229).jZ rfl spec
end fM
namespace THalvings
def E:=mE [] 13 [] [(2,[0,3])] []
def aF:=bd f221
theorem aU:Nk E aF:=nk
def L2 a b:=nU E f221 aF 2 [bJ a,bJ b]
theorem start a:aG E f221 aF [D.s (sc (int i64 a))]=THalvings.L2 a 4:=eJ aU
theorem lE a b:L2 a b=aC (decide (i64.wrap (i64.wrap ((4:Int)*b)*b)<a)) (THalvings.L2 a (i64.wrap (b+1))) (some [D.s (sc (int i64 b))]):=lJ aU
def hlv(w:Int):Nat->Nat->Nat
 |0,h=>h
 |f+1,h=>if 4*(h:Int)*h<w then hlv w f (h+1)else h
def sp(w:Int):Prop×List D:=(w<=150000,[.s (.sc (.int .i64 (hlv w 200 4:Nat)))])
theorem L{w:Int}(hw:w<=150000):∀f h:Nat,h+f=204->L2 w h=some [.s (.sc (.int .i64 (hlv w f h:Nat)))]:=by
 intro f
 induction f with
 |zero =>
  intro h hh;obtain rfl:h=204:=by omega
  have e:i64.wrap (i64.wrap (4*((204:Nat):Int))*((204:Nat):Int))=166464:=by decide +kernel
  rw[lE,e,aM];rfl
 |succ f ih =>
  intro h hh;have hb:(h:Int)*h<=41616:=Int.ofNat_le.2 (cIS (show h<=204 by omega) (show h<=204 by omega));have hb0:(0:Int)<=(h:Int)*h:=cKF (by omega) (by omega);have ea:4*(h:Int)*h=4*((h:Int)*h):=Int.mul_assoc _ _ _;have e:i64.wrap (i64.wrap (4*(h:Int))*(h:Int))=4*(h:Int)*h:=by rw[wrap_i64 (n:=4*(h:Int)),wrap_i64]
  have e2:i64.wrap ((h:Int)+1)=((h+1:Nat):Int):=by rw[wrap_i64];omega
  rw[lE,e,e2];unfold hlv
  by_cases c:4*(h:Int)*h<w
  ·rw[aO c,if_pos c];exact ih (h+1) (by omega)
  ·rw[aM c,if_neg c]
theorem spec:iH E f221 aF (pN .i64) sp:=fun w h=>(start w).trans (L h 200 4 rfl)
def aJ:dO:=orc1 (pN .i64) sp
theorem ok:OK 221 aJ:=(eI E aF aD func221).oV rfl spec
end THalvings
namespace wR
def E:=mE [(70,Iz.aJ),(148,lN.aJ)] 36 [] [] []
def aF:=bd f222
theorem aU:Nk E aF:=nk
theorem start a c d b:aG E f222 aF [D.agg [sc (bool a),ints u64 c,sc (int i64 d)],D.s (sc (int i64 b))]=letI A:=(false,c);aC (decide (0<=i64.wrap (d+b))) (aN (jA A/\0<=i64.wrap (d+b)/\i64.wrap (d+b)<4611686018427387904) (some [D.s (ints u64 (M6.dg (bif fit (M6.val c*(2:Nat)^(i64.wrap (d+b)).toNat)then wv A*(↑((2:Nat)^(i64.wrap (d+b)).toNat):Int)else(0:Int)).natAbs))])) (aN (jA A/\0<=i64.wrap ((0:Int)-i64.wrap (d+b))/\i64.wrap ((0:Int)-i64.wrap (d+b))<4611686018427387904) (some [D.s (ints u64 (M6.dg (wv A/(↑((2:Nat)^(i64.wrap ((0:Int)-i64.wrap (d+b))).toNat):Int)).natAbs))])):=eJ aU
def aPY(p:Int×Int)(n:Int):Nat:=if 0<=p.2+n then p.1.natAbs*2^(p.2+n).toNat else p.1.natAbs/2^(-(p.2+n)).toNat
def sp(x:fB)(n:Int):Prop×List D:=(aQ x/\-1099511627776<=n/\n<=1099511627776/\(0<=x.2.2+n->fit ((dv x).1.natAbs*2^(x.2.2+n).toNat)=true),[.s (.ints .u64 (M6.dg (aPY (dv x) n)))])
theorem spec:fF E f222 aF jQ (pN .i64) sp:=by
 rintro x n ⟨hx,h1,h2,hf⟩;have he:=hx.2.1;refine(start x.1 x.2.1 x.2.2 n).trans ?_;have w1:i64.wrap (x.2.2+n)=x.2.2+n:=wrap_i64;have ha:(dv x).1.natAbs=M6.val x.2.1:=iX (x.1,x.2.1);have ok:jA (false,x.2.1):=⟨hx.1.1,fun hf=>(by cases hf),hx.1.len⟩;have vx:wv (false,x.2.1)=(M6.val x.2.1:Int):=rfl;rw[w1,vx];unfold sp aPY;dsimp only
 by_cases c:0<=x.2.2+n
 ·have aVF:=hf c;rw[ha]at aVF ⊢;rw[aO c,gP ⟨ok,c,by omega⟩,aVF,cond_true,if_pos (show 0<=(dv x).2+n from c),<-cEW,cED];rfl
 ·have w2:i64.wrap (0-(x.2.2+n))=-(x.2.2+n):=by rw[wrap_i64];omega
  rw[ha,w2,aM c,gP ⟨ok,by omega,by omega⟩,if_neg (show ¬0<=(dv x).2+n from c),<-Int.natCast_ediv,cED];rfl
def aJ:dO:=orc2 jQ (pN .i64) sp
theorem ok:OK 222 aJ:=(eI E aF (aA Iz.ok (aA lN.ok aD)) func222).jZ rfl spec
end wR
namespace Ok
def E:=mE [(154,aOJ.aJ),(115,Hf.aJ)] 22 [12,18] [] []
def aF:=bd f224
theorem aU:Nk E aF:=nk
theorem start a b c:aG E f224 aF [D.s (ints u64 a),D.s (ints u64 b),D.s (sc (int i64 c))]=letI B:=M6.val a*M6.val b;letI A:=bif dP.oQ B then M6.dg B else [];aN (M6.cO a/\M6.cO b/\a.length<=8192/\b.length<=8192) (aN (M6.cO A/\A.length<=8192/\0<=c/\c<4611686018427387904) (some [D.s (ints u64 (M6.dg (M6.val A/(2:Nat)^c.toNat)))])):=eJ aU
def sp(a b:List Int)(n:Int):Prop×List D:=(M6.cO a/\M6.cO b/\a.length<=4096/\b.length<=4096/\0<=n/\n<4611686018427387904,[.s (.ints .u64 (M6.dg (M6.val a*M6.val b/2^n.toNat)))])
theorem spec:uQ E f224 aF (pI .u64) (pI .u64) (pN .i64) sp:=by
 rintro a b n ⟨h1,h2,l1,l2,n1,n2⟩;have hl:(M6.dg (M6.val a*M6.val b)).length<=8192:=by
  refine M6.cU (k:=8192) ?_;have va:=bZN (M6.cR h1.iA) (cBN (by decide) l1);have vb:=bZN (M6.cR h2.iA) (cBN (by decide) l2);rw[show(8192:Nat)=4096+4096 from rfl,cDP];generalize 18446744073709551616^4096=Q at *;exact cGW va vb
 have ok:dP.oQ (M6.val a*M6.val b)=true:=dqT hl;refine(start a b n).trans ?_;rw[gP ⟨h1,h2,by omega,by omega⟩,ok];simp only[cond_true,M6.bD];exact gP ⟨M6.bA _,hl,n1,n2⟩
def aJ:dO:=orc3 (pI .u64) (pI .u64) (pN .i64) sp
theorem ok:OK 224 aJ:=(eI E aF (aA aOJ.ok (aA Hf.ok aD)) func224).Dn rfl spec
end Ok
namespace TSums
def E:Env:={ ({ base with C:=callsOf [(122,mI.aJ),(117,sJ.aJ),(124,wW.aJ),(224,Ok.aJ),(206,pD.aJ),(126,vK.aJ)],wide:=some .u64 })with nt:=63,own:=[50,58],keep:=fun k=>(tlook [(4,[0,1,6,7,9])] k).getD [],cut:=tlook [] }
def aF:=bd f223
theorem aU:Nk E aF:=nk
def L4 a b c d e f g h:=nU E f223 aF 4 [iY a,bJ b,bK 2 250 [eR c,eR d,eR e,eR f],iY g,dR h]
theorem start a b:aG E f223 aF [D.s (ints u64 a),D.s (sc (int i64 b))]=letI A:=M6.dg 1;aN ((0:Int)<=(1:Int)/\(1:Int)<(18446744073709551616:Int)) (aN (M6.cO A/\A.length<=8192/\0<=b/\b<4611686018427387904) (aB (bif mI.kU (M6.val A) b.toNat then M6.dg (M6.val A*(2:Nat)^b.toNat)else []) fun c=>TSums.L4 a b [] [] [] [] c 0)):=eJ aU
theorem mG a b c d e f g h:L4 a b c d e f g h=letI P:=M6.val f+M6.val g;letI O:=M6.val e+M6.val g;letI N:=M6.val d+M6.val g;letI K:=M6.val c+M6.val g;letI I:=decide (h.tmod 4=(3:Int));letI H:=decide (h.tmod 4=(2:Int));letI G:=decide (h.tmod 4=(1:Int));letI F:=decide (h.tmod 4=(0:Int));letI C:=u64.wrap (h+1);letI B:=M6.dg (M6.val g*M6.val a/(2:Nat)^b.toNat);letI A:=M6.cO g/\M6.cO a/\g.length<=4096/\a.length<=4096/\0<=b/\b<4611686018427387904;aC (decide (0<(g.length:Int))) (aC F (aN (M6.cO c/\M6.cO g/\c.length<=8192/\g.length<=8192) (aB (bif dP.oQ K then M6.dg K else []) fun i=>aC F (aN A (aB B fun j=>aN (M6.cO j/\j.length<=8192/\0<u64.wrap (h+1)/\u64.wrap (h+1)<18446744073709551616) (aB (M6.dg (M6.val j/C.toNat)) fun k=>TSums.L4 a b i d e f k C))) (aC G (aN A (aB B fun l=>aN (M6.cO l/\l.length<=8192/\0<u64.wrap (h+1)/\u64.wrap (h+1)<18446744073709551616) (aB (M6.dg (M6.val l/C.toNat)) fun m=>TSums.L4 a b c i e f m C))) (aC H (aN A (aB B fun n=>aN (M6.cO n/\n.length<=8192/\0<u64.wrap (h+1)/\u64.wrap (h+1)<18446744073709551616) (aB (M6.dg (M6.val n/C.toNat)) fun o=>TSums.L4 a b c d i f o C))) (aC I (aN A (aB B fun p=>aN (M6.cO p/\p.length<=8192/\0<u64.wrap (h+1)/\u64.wrap (h+1)<18446744073709551616) (aB (M6.dg (M6.val p/C.toNat)) fun q=>TSums.L4 a b c d e i q C))) none))))) (aC G (aN (M6.cO d/\M6.cO g/\d.length<=8192/\g.length<=8192) (aB (bif dP.oQ N then M6.dg N else []) fun r=>aC F (aN A (aB B fun s=>aN (M6.cO s/\s.length<=8192/\0<u64.wrap (h+1)/\u64.wrap (h+1)<18446744073709551616) (aB (M6.dg (M6.val s/C.toNat)) fun t=>TSums.L4 a b r d e f t C))) (aC G (aN A (aB B fun u=>aN (M6.cO u/\u.length<=8192/\0<u64.wrap (h+1)/\u64.wrap (h+1)<18446744073709551616) (aB (M6.dg (M6.val u/C.toNat)) fun v=>TSums.L4 a b c r e f v C))) (aC H (aN A (aB B fun w=>aN (M6.cO w/\w.length<=8192/\0<u64.wrap (h+1)/\u64.wrap (h+1)<18446744073709551616) (aB (M6.dg (M6.val w/C.toNat)) fun x=>TSums.L4 a b c d r f x C))) (aC I (aN A (aB B fun y=>aN (M6.cO y/\y.length<=8192/\0<u64.wrap (h+1)/\u64.wrap (h+1)<18446744073709551616) (aB (M6.dg (M6.val y/C.toNat)) fun z=>TSums.L4 a b c d e r z C))) none))))) (aC H (aN (M6.cO e/\M6.cO g/\e.length<=8192/\g.length<=8192) (aB (bif dP.oQ O then M6.dg O else []) fun aa=>aC F (aN A (aB B fun ab=>aN (M6.cO ab/\ab.length<=8192/\0<u64.wrap (h+1)/\u64.wrap (h+1)<18446744073709551616) (aB (M6.dg (M6.val ab/C.toNat)) fun ac=>TSums.L4 a b aa d e f ac C))) (aC G (aN A (aB B fun ad=>aN (M6.cO ad/\ad.length<=8192/\0<u64.wrap (h+1)/\u64.wrap (h+1)<18446744073709551616) (aB (M6.dg (M6.val ad/C.toNat)) fun ae=>TSums.L4 a b c aa e f ae C))) (aC H (aN A (aB B fun af=>aN (M6.cO af/\af.length<=8192/\0<u64.wrap (h+1)/\u64.wrap (h+1)<18446744073709551616) (aB (M6.dg (M6.val af/C.toNat)) fun ag=>TSums.L4 a b c d aa f ag C))) (aC I (aN A (aB B fun ah=>aN (M6.cO ah/\ah.length<=8192/\0<u64.wrap (h+1)/\u64.wrap (h+1)<18446744073709551616) (aB (M6.dg (M6.val ah/C.toNat)) fun ai=>TSums.L4 a b c d e aa ai C))) none))))) (aC I (aN (M6.cO f/\M6.cO g/\f.length<=8192/\g.length<=8192) (aB (bif dP.oQ P then M6.dg P else []) fun aj=>aC F (aN A (aB B fun ak=>aN (M6.cO ak/\ak.length<=8192/\0<u64.wrap (h+1)/\u64.wrap (h+1)<18446744073709551616) (aB (M6.dg (M6.val ak/C.toNat)) fun al=>TSums.L4 a b aj d e f al C))) (aC G (aN A (aB B fun am=>aN (M6.cO am/\am.length<=8192/\0<u64.wrap (h+1)/\u64.wrap (h+1)<18446744073709551616) (aB (M6.dg (M6.val am/C.toNat)) fun an=>TSums.L4 a b c aj e f an C))) (aC H (aN A (aB B fun ao=>aN (M6.cO ao/\ao.length<=8192/\0<u64.wrap (h+1)/\u64.wrap (h+1)<18446744073709551616) (aB (M6.dg (M6.val ao/C.toNat)) fun ap=>TSums.L4 a b c d aj f ap C))) (aC I (aN A (aB B fun aq=>aN (M6.cO aq/\aq.length<=8192/\0<u64.wrap (h+1)/\u64.wrap (h+1)<18446744073709551616) (aB (M6.dg (M6.val aq/C.toNat)) fun ar=>TSums.L4 a b c d e aj ar C))) none))))) none)))) (aN (M6.cO c/\M6.cO e/\c.length<=8192/\e.length<=8192) (aB (M6.dg (M6.val c-M6.val e)) fun au=>aN (M6.cO d/\M6.cO f/\d.length<=8192/\f.length<=8192) (aB (M6.dg (M6.val d-M6.val f)) fun av=>some [D.s (ints u64 av),D.s (ints u64 au)]))):=lJ aU
def tay(u W:Nat):Nat->Nat->Nat->Nat->Nat->Nat->Nat×Nat×Nat×Nat
 |0,_,a,b,c,d=>(a,b,c,d)
 |f+1,k,a,b,c,d=>if R.sq u W k=0 then(a,b,c,d)else
  if k%4=0 then tay u W f (k+1) (a+R.sq u W k) b c d else if k%4=1 then tay u W f (k+1) a (b+R.sq u W k) c d
  else if k%4=2 then tay u W f (k+1) a b (c+R.sq u W k) d else tay u W f (k+1) a b c (d+R.sq u W k)
theorem xT{u W:Nat}(h:u<=W):∀k,R.sq u W k<=W
 |0=>bYN _
 |k+1=>bZJ (R.Lv h k) (xT h k)
theorem L{w:Nat}{a0:List Int}(hn:M6.cO a0)(hl:a0.length<=4096)(hu:M6.val a0<=2^w)(hw:w<=150000):∀(f k a b c d:Nat),k+f<=200000->R.sq (M6.val a0) (2^w) (k+f)=0 ->
  a<=k*2^w->b<=k*2^w->c<=k*2^w->d<=k*2^w ->
  L4 a0 w (M6.dg a) (M6.dg b) (M6.dg c) (M6.dg d) (M6.dg (R.sq (M6.val a0) (2^w) k)) k=some [.s (.ints .u64 (M6.dg ((tay (M6.val a0) (2^w) f k a b c d).2.1-(tay (M6.val a0) (2^w) f k a b c d).2.2.2))),.s (.ints .u64 (M6.dg ((tay (M6.val a0) (2^w) f k a b c d).1-(tay (M6.val a0) (2^w) f k a b c d).2.2.1)))]:=by
 intro f
 induction f with
 |zero =>
  intro k a b c d hk h0 ha hb hc hd;have pw:k*2^w<2^(w+18):=by
   rw[cDP,cDM];exact cME (by omega) (cBM (by decide))
  rw[bZO]at h0;rw[mG,h0,M6.cL,aM (by simp)];simp only[aE];rw[gP ⟨M6.bA _,M6.bA _,fM.oL (cFA ha pw) (by omega),fM.oL (cFA hc pw) (by omega)⟩,gP ⟨M6.bA _,M6.bA _,fM.oL (cFA hb pw) (by omega),fM.oL (cFA hd pw) (by omega)⟩];simp only[M6.bD];rfl
 |succ f ih =>
  intro k a b c d hk h0 ha hb hc hd;have pw:∀j,j<=200000->j*2^w<2^(w+18):=fun j hj=>by
   rw[cDP,cDM];exact cME (by omega) (cBM (by decide))
  have hs:(k+1)*2^w=k*2^w+2^w:=by rw[bZH,cCQ]
  have ht:=xT hu k;have lt:(M6.dg (R.sq (M6.val a0) (2^w) k)).length<=4096:=gI (k:=4096) (bZJ (eF.2 (cFA ht (cFE (by decide) (cMD w)))) (by omega));rw[mG];unfold tay
  by_cases hz:R.sq (M6.val a0) (2^w) k=0
  ·rw[hz,M6.cL,aM (by simp),if_pos rfl];simp only[aE];rw[gP ⟨M6.bA _,M6.bA _,fM.oL (cFA ha (pw k (by omega))) (by omega),fM.oL (cFA hc (pw k (by omega))) (by omega)⟩,gP ⟨M6.bA _,M6.bA _,fM.oL (cFA hb (pw k (by omega))) (by omega),fM.oL (cFA hd (pw k (by omega))) (by omega)⟩];simp only[M6.bD]
  ·have aSC:(M6.dg (R.sq (M6.val a0) (2^w) k)).length≠0:=fun h=>hz (M6.fZ.1 h)
   have em:(k:Int).tmod 4=((k%4:Nat):Int):=by rw[cGA (by omega)];omega
   have w1:u64.wrap ((k:Int)+1)=((k+1:Nat):Int):=by rw[wrap_u64];omega
   have ew:(w:Int).toNat=w:=cCJ _;have ek:(((k+1:Nat)):Int).toNat=k+1:=cCJ _;have es:R.sq (M6.val a0) (2^w) k*M6.val a0/2^w/(k+1)=R.sq (M6.val a0) (2^w) (k+1):=rfl;have bSO:(M6.dg (R.sq (M6.val a0) (2^w) k*M6.val a0/2^w)).length<=8192:=by
    have:R.sq (M6.val a0) (2^w) k*M6.val a0/2^w<=R.sq (M6.val a0) (2^w) k:=Nat.div_le_of_le_mul (by rw[cDM (2^w)];exact cBB _ hu);exact fM.oL (cFA (bZJ this ht) (cFE (by decide) (cMD w))) (by omega)
   rw[aO];simp only[aE,em,w1,ew,ek,M6.bD,es];rw[if_neg hz];have aYG:k+1+f=k+(f+1):=by omega
   have Sm:∀x,x<=k*2^w->x+R.sq (M6.val a0) (2^w) k<=(k+1)*2^w/\dP.oQ (x+R.sq (M6.val a0) (2^w) k)=true/\(M6.dg x).length<=8192:=fun x hx=>by
    have h1:x+R.sq (M6.val a0) (2^w) k<=(k+1)*2^w:=by omega
    exact⟨h1,fM.aWX (cFA h1 (pw (k+1) (by omega))) (by omega),fM.oL (cFA hx (pw k (by omega))) (by omega)⟩
   have up:∀x,x<=k*2^w->x<=(k+1)*2^w:=fun x hx=>by omega
   have g1:M6.cO (M6.dg (R.sq (M6.val a0) (2^w) k))/\M6.cO a0/\(M6.dg (R.sq (M6.val a0) (2^w) k)).length<=4096/\a0.length<=4096/\(0:Int)<=w/\(w:Int)<4611686018427387904:=⟨M6.bA _,hn,lt,hl,by omega,by omega⟩;have g2:M6.cO (M6.dg (R.sq (M6.val a0) (2^w) k*M6.val a0/2^w))/\(M6.dg (R.sq (M6.val a0) (2^w) k*M6.val a0/2^w)).length<=8192/\(0:Int)<((k+1:Nat):Int)/\((k+1:Nat):Int)<18446744073709551616:=⟨M6.bA _,bSO,by omega,by omega⟩;have h4:k%4<4:=cAV _ (by decide)
   by_cases c0:k%4=0
   ·obtain⟨x1,x2,x3⟩:=Sm a ha;rw[aO,gP ⟨M6.bA _,M6.bA _,x3,by omega⟩,aO,x2,cond_true,gP g1,gP g2,if_pos c0];exact ih (k+1) _ _ _ _ (by omega) (by rw[aYG];exact h0) x1 (up b hb) (up c hc) (up d hd)
   ·rw[aM,if_neg c0]
    by_cases c1:k%4=1
    ·obtain⟨x1,x2,x3⟩:=Sm b hb;rw[aO,gP ⟨M6.bA _,M6.bA _,x3,by omega⟩,aM,aO,x2,cond_true,gP g1,gP g2,if_pos c1];exact ih (k+1) _ _ _ _ (by omega) (by rw[aYG];exact h0) (up a ha) x1 (up c hc) (up d hd)
    ·rw[aM,if_neg c1]
     by_cases c2:k%4=2
     ·obtain⟨x1,x2,x3⟩:=Sm c hc;rw[aO,gP ⟨M6.bA _,M6.bA _,x3,by omega⟩,aM,aM,aO,x2,cond_true,gP g1,gP g2,if_pos c2];exact ih (k+1) _ _ _ _ (by omega) (by rw[aYG];exact h0) (up a ha) (up b hb) x1 (up d hd)
     ·obtain⟨x1,x2,x3⟩:=Sm d hd;rw[aM,aO,gP ⟨M6.bA _,M6.bA _,x3,by omega⟩,aM,aM,aM,aO,x2,cond_true,gP g1,gP g2,if_neg c2];exact ih (k+1) _ _ _ _ (by omega) (by rw[aYG];exact h0) (up a ha) (up b hb) (up c hc) x1
def xR(u w:Nat):Nat:=(tay u (2^w) (w+1) 0 0 0 0 0).2.1-(tay u (2^w) (w+1) 0 0 0 0 0).2.2.2
def xS(u w:Nat):Nat:=(tay u (2^w) (w+1) 0 0 0 0 0).1-(tay u (2^w) (w+1) 0 0 0 0 0).2.2.1
def sp(a:List Int)(w:Int):Prop×List D:=(M6.cO a/\0<=w/\w<=150000/\2*M6.val a<=2^w.toNat,[.s (.ints .u64 (M6.dg (xR (M6.val a) w.toNat))),.s (.ints .u64 (M6.dg (xS (M6.val a) w.toNat)))])
theorem spec:fF E f223 aF (pI .u64) (pN .i64) sp:=by
 rintro a w ⟨hn,w0,w1,hu⟩;refine(start a w).trans ?_;obtain⟨w,rfl⟩:=cDO w0;rw[cCJ]at hu;have hl:a.length<=4096:=by
  have e:M6.dg (M6.val a)=a:=by first |exact hn |exact Eq.symm hn
  rw[<-e];exact gI (k:=4096) (bZJ (eF.2 (show M6.val a<2^(w+1) by rw[cDL];have:0<2^w:=cBM (by decide);omega)) (by omega))
 have so:mI.kU 1 w=true:=by
  unfold mI.kU;rw[show bl 1=1 from rfl,dqT (show 1+w<=524288 by omega),cEX]
 have l1:(M6.dg 1).length<=8192:=fM.oL (k:=1) (by decide) (by decide);unfold sp;simp only[M6.bD,cCJ,so,cond_true,cCQ,aE];rw[gP ⟨by decide,by decide⟩,gP ⟨M6.bA _,l1,by omega,by omega⟩,<-M6.cL];exact L hn hl (by omega) (by omega) (w+1) 0 0 0 0 0 (by omega) (by rw[bYP];exact R.Sn hu) (by omega) (by omega) (by omega) (by omega)
def aJ:dO:=orc2 (pI .u64) (pN .i64) sp
theorem ok:OK 223 aJ:=(eI E aF (aA mI.ok (aA sJ.ok (aA wW.ok (aA Ok.ok (aA pD.ok (aA vK.ok aD)))))) func223).jZ rfl spec
end TSums
namespace aZ
def E:=mE [(153,Ck.aJ),(221,THalvings.aJ),(222,wR.aJ),(223,TSums.aJ),(122,mI.aJ),(117,sJ.aJ),(224,Ok.aJ),(126,vK.aJ)] 91 [41,56,59,74,84] [(10,[4,5,7,10,12,50,51])] []
def aF:=bd f195
theorem aU:Nk E aF:=nk
def Ja a b c d e f g:=nU E f195 aF 10 [iY a,iY b,bJ c,bJ d,iY e,bJ f,bJ g]
theorem start a c d b:aG E f195 aF [D.agg [sc (bool a),ints u64 c,sc (int i64 d)],D.s (sc (int i64 b))]=letI H:=dv (a,c,d);letI G:=M6.dg 1;aN (aQ (a,c,d)) (aB (if H.fst=0 then(0:Int)else d+(↑(bl (M6.val c)):Int)-(1:Int)) fun e=>aN (i64.wrap (i64.wrap (b+80)-if 0<e then(0:Int)else e)<=150000) (aB (↑(THalvings.hlv (i64.wrap (i64.wrap (b+80)-if 0<e then(0:Int)else e)) 200 4):Int) fun f=>letI B:=i64.wrap (i64.wrap (b+80)-match BinOp.lss with |BinOp.gtr=>if(0:Int)>e then(0:Int)else e |x=>if 0<e then(0:Int)else e)+i64.wrap ((2:Int)*f);letI A:=i64.wrap (i64.wrap (b+80)-if 0<e then(0:Int)else e)+i64.wrap ((2:Int)*f);letI F:=i64.wrap A+f;letI C:=i64.wrap F;aN (aQ (a,c,d)/\(-1099511627776:Int)<=i64.wrap A/\i64.wrap A<=1099511627776/\(0<=(a,c,d).snd.snd+i64.wrap B->fit (H.fst.natAbs*(2:Nat)^((a,c,d).snd.snd+i64.wrap B).toNat)=true)) (aB (M6.dg (wR.aPY H (i64.wrap A))) fun g=>aN (M6.cO g/\0<=i64.wrap F/\i64.wrap F<=150000/\(2:Nat)*M6.val g<=(2:Nat)^C.toNat) (aB (M6.dg (TSums.xR (M6.val g) C.toNat)) fun h=>aB (M6.dg (TSums.xS (M6.val g) C.toNat)) fun i=>aN ((0:Int)<=(1:Int)/\(1:Int)<(18446744073709551616:Int)) (aN (M6.cO G/\G.length<=8192/\0<=i64.wrap F/\i64.wrap F<4611686018427387904) (aB (bif mI.kU (M6.val G) C.toNat then M6.dg (M6.val G*(2:Nat)^C.toNat)else []) fun j=>aZ.Ja h i C f j f 0)))))):=eJ aU
theorem tI a b c d e f g:Ja a b c d e f g=letI B:=M6.dg 1;letI A:=i64.wrap ((2:Int)*d)+22;aC (decide (g<f)) (aN (M6.cO a/\M6.cO b/\a.length<=4096/\b.length<=4096/\0<=c/\c<4611686018427387904) (aB (M6.dg (M6.val a*M6.val b/(2:Nat)^c.toNat)) fun h=>aN (M6.cO h/\h.length<=8192/\(0:Int)<=(1:Int)/\(1:Int)<(4611686018427387904:Int)) (aB (bif mI.kU (M6.val h) 1 then M6.dg (M6.val h*2)else []) fun i=>aN (M6.cO a/\M6.cO a/\a.length<=4096/\a.length<=4096/\0<=c/\c<4611686018427387904) (aB (M6.dg (M6.val a*M6.val a/(2:Nat)^c.toNat)) fun j=>aN (M6.cO j/\j.length<=8192/\(0:Int)<=(1:Int)/\(1:Int)<(4611686018427387904:Int)) (aB (bif mI.kU (M6.val j) 1 then M6.dg (M6.val j*2)else []) fun k=>aN (M6.cO e/\M6.cO k/\e.length<=8192/\k.length<=8192) (aB (M6.dg (M6.val e-M6.val k)) fun l=>aZ.Ja i l c d e f (i64.wrap (g+1)))))))) (aN ((0:Int)<=(1:Int)/\(1:Int)<(18446744073709551616:Int)) (aN (M6.cO B/\B.length<=8192/\0<=i64.wrap A/\i64.wrap A<4611686018427387904) (aB (bif mI.kU (M6.val B) (i64.wrap A).toNat then M6.dg (M6.val B*(2:Nat)^(i64.wrap A).toNat)else []) fun m=>some [D.s (ints u64 a),D.s (ints u64 b),D.s (ints u64 m),D.s (sc (int i64 c))]))):=lJ aU
def jL(x:Int×Int):Int:=if x.1=0 then 0 else x.2+(bl x.1.natAbs:Nat)-1
def w0(x:Int×Int)(p:Int):Int:=p+80-if 0<jL x then 0 else jL x
def hv(x:Int×Int)(p:Int):Nat:=THalvings.hlv (w0 x p) 200 4
def w1(x:Int×Int)(p:Int):Int:=w0 x p+2*(hv x p:Nat)
def w2(x:Int×Int)(p:Int):Int:=w1 x p+(hv x p:Nat)
def bU(x:Int×Int)(p:Int):Nat:=wR.aPY x (w1 x p)
def Dr(x:Int×Int)(p:Int):Nat×Nat:=R.qD (2^(w2 x p).toNat) (hv x p) (TSums.xR (bU x p) (w2 x p).toNat) (TSums.xS (bU x p) (w2 x p).toNat)
def sp(x:fB)(p:Int):Prop×List D:=(aQ x/\(1<=p/\p<=70000)/\(-70000<=jL (dv x)/\jL (dv x)<=100)/\bU (dv x) p<=2^(w1 (dv x) p).toNat,
 [.s (.ints .u64 (M6.dg (Dr (dv x) p).1)),.s (.ints .u64 (M6.dg (Dr (dv x) p).2)),.s (.ints .u64 (M6.dg (2^(2*hv (dv x) p+22)))),.s (.sc (.int .i64 (w2 (dv x) p)))])
theorem Ua(w:Int):∀f h,THalvings.hlv w f h<=h+f/\h<=THalvings.hlv w f h
 |0,h=>⟨bYN _,bYN _⟩
 |f+1,h=>by
  unfold THalvings.hlv;have:=Ua w f (h+1);split <;> omega
theorem aJQ{u W:Nat}(hu:u<=W):∀f k a b c d,a<=k*W->b<=k*W->c<=k*W->d<=k*W ->
  (TSums.tay u W f k a b c d).1<=(k+f)*W/\(TSums.tay u W f k a b c d).2.1<=(k+f)*W
 |0,k,a,b,c,d,ha,hb,_,_=>⟨ha,hb⟩
 |f+1,k,a,b,c,d,ha,hb,hc,hd=>by
  have hs:=TSums.xT hu k;have e:(k+1)*W=k*W+W:=by rw[bZH,cCQ]
  have e2:k*W<=(k+(f+1))*W:=cAA _ (by omega);have e3:k+1+f=k+(f+1):=by omega
  have r:=fun a b c d h1 h2 h3 h4=>e3▸aJQ hu f (k+1) a b c d h1 h2 h3 h4
  unfold TSums.tay;split
  ·exact⟨bZJ ha e2,bZJ hb e2⟩
  ·split
   ·exact r _ _ _ _ (by omega) (by omega) (by omega) (by omega)
   ·split
    ·exact r _ _ _ _ (by omega) (by omega) (by omega) (by omega)
    ·split
     ·exact r _ _ _ _ (by omega) (by omega) (by omega) (by omega)
     ·exact r _ _ _ _ (by omega) (by omega) (by omega) (by omega)
theorem L{w:Nat}(hw:w<=150000)(x3:Nat)(h3:x3<=1000):∀(d k s c:Nat),k+d=x3->s<2^(w+20*(k+1))->c<2^(w+18)->k+d<=210 ->
  Ja (M6.dg s) (M6.dg c) w x3 (M6.dg (2^w)) x3 k=some [.s (.ints .u64 (M6.dg (R.qD (2^w) d s c).1)),.s (.ints .u64 (M6.dg (R.qD (2^w) d s c).2)),.s (.ints .u64 (M6.dg (2^(2*x3+22)))),.s (.sc (.int .i64 w))]
 |0,k,s,c,hk,hs,hc,hb=>by
  have e1:i64.wrap (2*(x3:Int))=2*(x3:Int):=wrap_i64;have e2:i64.wrap (2*(x3:Int)+22)=((2*x3+22:Nat):Int):=by rw[wrap_i64];omega
  have so:mI.kU 1 (2*x3+22)=true:=by
   unfold mI.kU;rw[show bl 1=1 from rfl,dqT (show 1+(2*x3+22)<=524288 by omega),cEX]
  have l1:(M6.dg 1).length<=8192:=fM.oL (k:=1) (by decide) (by decide);rw[tI,aM,e1,e2];simp only[aE,M6.bD,cCJ,so,cond_true,cCQ];rw[gP ⟨by decide,by decide⟩,gP ⟨M6.bA _,l1,by omega,by omega⟩];rfl
 |d+1,k,s,c,hk,hs,hc,hb=>by
  have e:i64.wrap ((k:Int)+1)=((k+1:Nat):Int):=by rw[wrap_i64];omega
  have ls:(M6.dg s).length<=4096:=gI (k:=4096) (bZJ (eF.2 hs) (by omega));have lc:(M6.dg c).length<=4096:=gI (k:=4096) (bZJ (eF.2 hc) (by omega));have W0:0<2^w:=cBM (by decide);have b1:s*c/2^w<2^(w+20*(k+1)+18):=by
   apply cEF;have:2^w*2^(w+20*(k+1)+18)=2^(w+20*(k+1))*2^(w+18):=by rw[<-cDP,<-cDP];congr 1;omega
   rw[this];exact cGW hs hc
  have b2:s*s/2^w<2^(w+40*(k+1)):=by
   apply cEF;have:2^w*2^(w+40*(k+1))=2^(w+20*(k+1))*2^(w+20*(k+1)):=by rw[<-cDP,<-cDP];congr 1;omega
   rw[this];exact cGW hs hs
  have so:∀n,bl n<=500000->mI.kU n 1=true:=fun n hn=>by
   unfold mI.kU;rw[dqT (show bl n+1<=524288 by omega),cEX]
  have f1:=so _ (bZJ (eF.2 b1) (by omega));have f2:=so _ (bZJ (eF.2 b2) (by omega));have b3:s*s/2^w*2<2^(w+40*(k+1)+1):=by rw[cDL];omega
  have b4:s*c/2^w*2<2^(w+20*(k+1+1)):=by
   have:2^(w+20*(k+1)+18)*2<=2^(w+20*(k+1+1)):=by rw[<-cDL];exact cBN (by decide) (by omega)
   omega
  have b5:2^w-s*s/2^w*2<2^(w+18):=cFA (cEV _ _) (cFE (by decide) (by omega));rw[tI,aO];simp only[aE,M6.bD,cCJ,f1,f2,cond_true,e];rw[gP ⟨M6.bA _,M6.bA _,ls,lc,by omega,by omega⟩,gP ⟨M6.bA _,fM.oL b1 (by omega),by decide,by decide⟩,gP ⟨M6.bA _,M6.bA _,ls,ls,by omega,by omega⟩,gP ⟨M6.bA _,fM.oL b2 (by omega),by decide,by decide⟩,
   gP ⟨M6.bA _,M6.bA _,fM.oL (cFE (by decide) (cMD w)) (by omega),fM.oL b3 (by omega)⟩]
  have r:=L hw x3 h3 d (k+1) (s*c/2^w*2) (2^w-s*s/2^w*2) (by omega) b4 b5 (by omega);rw[R.yF,cDM 2 (s*c/2^w),cDM 2 (s*s/2^w)];exact r
theorem spec:fF E f195 aF jQ (pN .i64) sp:=by
 rintro x p ⟨hx,⟨p0,p1⟩,⟨t0,t1⟩,hu⟩;refine(start x.1 x.2.1 x.2.2 p).trans ?_;have he:=hx.2.1;have ha:(dv x).1.natAbs=M6.val x.2.1:=iX (x.1,x.2.1);have hT:(if(dv (x.1,x.2.1,x.2.2)).1=0 then 0 else x.2.2+(bl (M6.val x.2.1):Int)-1)=jL (dv x):=by rw[<-ha];rfl
 have bBT:w0 (dv x) p=p+80-if 0<jL (dv x)then 0 else jL (dv x):=rfl
 have r0:1<=w0 (dv x) p/\w0 (dv x) p<=140080:=by rw[bBT];split <;> omega
 have e1:i64.wrap (p+80)=p+80:=wrap_i64;have e2:i64.wrap (p+80-if 0<jL (dv x)then 0 else jL (dv x))=w0 (dv x) p:=by rw[<-bBT];exact wrap_i64
 have hh:=Ua (w0 (dv x) p) 200 4;have hv0:THalvings.hlv (w0 (dv x) p) 200 4=hv (dv x) p:=rfl;rw[hv0]at hh;have bEZ:w1 (dv x) p=w0 (dv x) p+2*((hv (dv x) p:Nat):Int):=rfl;have bVZ:w2 (dv x) p=w1 (dv x) p+((hv (dv x) p:Nat):Int):=rfl;have e3:i64.wrap (2*((hv (dv x) p:Nat):Int))=2*((hv (dv x) p:Nat):Int):=wrap_i64;have e4:i64.wrap (w0 (dv x) p+2*((hv (dv x) p:Nat):Int))=w1 (dv x) p:=by rw[bEZ];exact wrap_i64
 have e5:i64.wrap (w1 (dv x) p+((hv (dv x) p:Nat):Int))=w2 (dv x) p:=by rw[bVZ];exact wrap_i64
 have hU:wR.aPY (dv x) (w1 (dv x) p)=bU (dv x) p:=rfl;have aGS:(x.1,x.2.1,x.2.2)=x:=rfl;simp only[hT,aE,e1,e2,hv0,e3,e4,e5,aGS,M6.bD,hU];obtain⟨w,hw⟩:=cDO (show 0<=w2 (dv x) p by omega);have bWD:2*bU (dv x) p<=2^w:=by
  have:2^(w1 (dv x) p).toNat*2<=2^w:=by rw[<-cDL];exact cBN (by decide) (by omega)
  omega
 have so:mI.kU 1 w=true:=by
  unfold mI.kU;rw[show bl 1=1 from rfl,dqT (show 1+w<=524288 by omega),cEX]
 have l1:(M6.dg 1).length<=8192:=fM.oL (k:=1) (by decide) (by decide);have aYL:0<=x.2.2+w1 (dv x) p->fit ((dv x).1.natAbs*2^(x.2.2+w1 (dv x) p).toNat)=true:=fun hc=>by
  have:bU (dv x) p=(dv x).1.natAbs*2^(x.2.2+w1 (dv x) p).toNat:=by
   rw[<-hU];unfold wR.aPY;exact if_pos hc
  rw[<-this];exact dqT (bZJ (eF.2 (cFA hu (cFE (by decide) (cMD _)))) (by omega))
 unfold sp Dr;dsimp only;have hwb:w<=141000:=by omega
 rw[hw];rw[cCJ,so,cond_true,cCQ];rw[gP hx,gP,gP ⟨hx,by omega,by omega,aYL⟩,gP ⟨M6.bA _,by omega,by omega,bWD⟩,gP ⟨by decide,by decide⟩,gP ⟨M6.bA _,l1,by omega,by omega⟩];obtain⟨g1,g2⟩:=aJQ (u:=bU (dv x) p) (W:=2^w) (by omega) (w+1) 0 0 0 0 0 (by omega) (by omega) (by omega) (by omega);have pw:(0+(w+1))*2^w<2^(w+18):=by
  rw[cDP,cDM];exact cME (by omega) (cBM (by decide))
 have hs:TSums.xR (bU (dv x) p) w<2^(w+18):=cFA (bZJ (cEV _ _) g2) pw;have hc:TSums.xS (bU (dv x) p) w<2^(w+18):=cFA (bZJ (cEV _ _) g1) pw;exact L (by omega) (hv (dv x) p) (by omega) (hv (dv x) p) 0 _ _ (by omega) (bZN hs (cBN (by decide) (by omega))) hc (by omega)
def aJ:dO:=orc2 jQ (pN .i64) sp
theorem ok:OK 195 aJ:=(eI E aF (aA Ck.ok (aA THalvings.ok (aA wR.ok (aA TSums.ok (aA mI.ok (aA sJ.ok (aA Ok.ok (aA vK.ok aD)))))))) func195).jZ rfl spec
end aZ
namespace Zj
def E:=mE [(164,Cl.aJ),(61,oU.aJ),(166,dC.aJ)] 25 [22] [] []
def aF:=bd f155
theorem aU:Nk E aF:=nk
theorem start a d e b c:aG E f155 aF [D.agg [sc (bool a),ints u64 d,sc (int i64 e)],D.s (sc (int i64 b)),D.s (sc (bool c))]=letI A:=dC.pM c (wv (a,d)) e b;letI B:=bif jR A.fst A.snd then bW A.fst A.snd else((0:Int),(0:Int));aN True (aB (decide (1<=b)&&decide (b<=70000)) fun f=>aC (!f) (some [D.agg [sc (bool false),sc (slice none 0 0),sc (int i64 0)],D.s (sc (int i64 1))]) (aN (aQ (a,d,e)) (aN (jA (a,d)/\((-4611686018427387904:Int)<=e/\e<4611686018427387904)/\1<=b/\b<=70000) (aB (isNeg B.fst) fun g=>aB (M6.dg B.fst.natAbs) fun h=>aB B.snd fun i=>aB (bif jR A.fst A.snd then(0:Int)else(5:Int)) fun j=>some [D.agg [sc (bool g),ints u64 h,sc (int i64 i)],D.s (sc (int i64 j))])))):=eJ aU
def sp(x:fB)(p:Int)(up:Bool):Prop×List D:=(aQ x/\1<=p/\p<=70000,dE (jR (dC.pM up (dv x).1 (dv x).2 p).1 (dC.pM up (dv x).1 (dv x).2 p).2) (bW (dC.pM up (dv x).1 (dv x).2 p).1 (dC.pM up (dv x).1 (dv x).2 p).2))
theorem spec:uQ E f155 aF jQ (pN .i64) pB sp:=by
 rintro x p up ⟨hx,h1,h2⟩;have he:=hx.2.1;refine(start x.1 x.2.1 x.2.2 p up).trans ?_;simp only[aE];rw[gP trivial,dqT h1,dqT h2,cBO,cAN,bF,gP hx,gP ⟨hx.Ln,⟨by omega,by omega⟩,h1,h2⟩];rfl
def aJ:dO:=orc3 jQ (pN .i64) pB sp
theorem ok:OK 155 aJ:=(eI E aF (aA Cl.ok (aA oU.ok (aA dC.ok aD))) func155).Dn rfl spec
end Zj
namespace Pk
def E:=mE [(155,Zj.aJ)] 11 [8] [] []
def aF:=bd f100
theorem aU:Nk E aF:=nk
theorem start a c d b:aG E f100 aF [D.agg [sc (bool a),ints u64 c,sc (int i64 d)],D.s (sc (int i64 b))]=letI A:=dC.pM false (dv (a,c,d)).fst (dv (a,c,d)).snd b;letI B:=bif jR A.fst A.snd then bW A.fst A.snd else((0:Int),(0:Int));aN (aQ (a,c,d)/\1<=b/\b<=70000) (some [D.agg [sc (bool (isNeg B.fst)),ints u64 (M6.dg B.fst.natAbs),sc (int i64 B.snd)],D.s (sc (int i64 (bif jR A.fst A.snd then(0:Int)else(5:Int))))]):=eJ aU
def sp(x:fB)(p:Int):Prop×List D:=(aQ x/\1<=p/\p<=70000,dE (jR (dC.pM false (dv x).1 (dv x).2 p).1 (dC.pM false (dv x).1 (dv x).2 p).2) (bW (dC.pM false (dv x).1 (dv x).2 p).1 (dC.pM false (dv x).1 (dv x).2 p).2))
theorem spec:fF E f100 aF jQ (pN .i64) sp:=by
 intro x p h;refine(start x.1 x.2.1 x.2.2 p).trans ((gP h).trans ?_);rfl
def aJ:dO:=orc2 jQ (pN .i64) sp
theorem ok:OK 100 aJ:=(eI E aF (aA Zj.ok aD) func100).jZ rfl spec
end Pk
namespace bAX
def E:=mE [(155,Zj.aJ)] 11 [8] [] []
def aF:=bd f101
theorem aU:Nk E aF:=nk
theorem start a c d b:aG E f101 aF [D.agg [sc (bool a),ints u64 c,sc (int i64 d)],D.s (sc (int i64 b))]=letI A:=dC.pM true (dv (a,c,d)).fst (dv (a,c,d)).snd b;letI B:=bif jR A.fst A.snd then bW A.fst A.snd else((0:Int),(0:Int));aN (aQ (a,c,d)/\1<=b/\b<=70000) (some [D.agg [sc (bool (isNeg B.fst)),ints u64 (M6.dg B.fst.natAbs),sc (int i64 B.snd)],D.s (sc (int i64 (bif jR A.fst A.snd then(0:Int)else(5:Int))))]):=eJ aU
def sp(x:fB)(p:Int):Prop×List D:=(aQ x/\1<=p/\p<=70000,dE (jR (dC.pM true (dv x).1 (dv x).2 p).1 (dC.pM true (dv x).1 (dv x).2 p).2) (bW (dC.pM true (dv x).1 (dv x).2 p).1 (dC.pM true (dv x).1 (dv x).2 p).2))
theorem spec:fF E f101 aF jQ (pN .i64) sp:=by
 intro x p h;refine(start x.1 x.2.1 x.2.2 p).trans ((gP h).trans ?_);rfl
def aJ:dO:=orc2 jQ (pN .i64) sp
theorem ok:OK 101 aJ:=(eI E aF (aA Zj.ok aD) func101).jZ rfl spec
end bAX
namespace cF
def E:=mE [(126,vK.aJ),(124,wW.aJ),(63,mH.aJ),(100,Pk.aJ),(101,bAX.aJ),(113,Kc.aJ),(24,aIG.aJ)] 71 [] [] []
def aF:=bd f196
theorem aU:Nk E aF:=nk
theorem start a b c d:aG E f196 aF [D.s (ints u64 a),D.s (ints u64 b),D.s (sc (int i64 c)),D.s (sc (int i64 d))]=letI P:=M6.val a+M6.val b;letI N:=bW 1 0;letI O:=M6.dg N.fst.natAbs;letI K:=M6.cO a/\M6.cO b/\a.length<=8192/\b.length<=8192;letI I:=i64.wrap ((0:Int)-c);aN K (aB (M6.dg (M6.val a-M6.val b)) fun e=>letI C:=bif jR (wv (false,e)) I then bW (wv (false,e)) I else((0:Int),(0:Int));aN K (aB (bif dP.oQ P then M6.dg P else []) fun f=>letI F:=bif jR (wv (false,f)) I then bW (wv (false,f)) I else((0:Int),(0:Int));aN (jA (false,e)/\(-9223372036854775808:Int)<=i64.wrap ((0:Int)-c)/\i64.wrap ((0:Int)-c)<9223372036854775808) (aB (isNeg C.fst) fun g=>aB (M6.dg C.fst.natAbs) fun h=>aB C.snd fun i=>letI A:=dC.pM false (dv (g,h,i)).fst (dv (g,h,i)).snd d;letI G:=bif jR A.fst A.snd then bW A.fst A.snd else((0:Int),(0:Int));aN (jA (false,f)/\(-9223372036854775808:Int)<=i64.wrap ((0:Int)-c)/\i64.wrap ((0:Int)-c)<9223372036854775808) (aB (isNeg F.fst) fun j=>aB (M6.dg F.fst.natAbs) fun k=>aB F.snd fun l=>letI B:=dC.pM true (dv (j,k,l)).fst (dv (j,k,l)).snd d;letI H:=bif jR B.fst B.snd then bW B.fst B.snd else((0:Int),(0:Int));aN (aQ (g,h,i)/\1<=d/\d<=70000) (aB (isNeg G.fst) fun m=>aB (M6.dg G.fst.natAbs) fun n=>aB G.snd fun o=>aN (aQ (j,k,l)/\1<=d/\d<=70000) (aB (isNeg H.fst) fun p=>aB (M6.dg H.fst.natAbs) fun q=>aB H.snd fun r=>aN ((-9223372036854775808:Int)<=(1:Int)/\(1:Int)<(9223372036854775808:Int)) (aB (isNeg N.fst) fun s=>aB O fun t=>aB N.snd fun u=>aN (aQ (p,q,r)/\aQ (s,t,u)) (aB (cZ (cB.pU (dv (p,q,r)) (dv (s,t,u))) (cB.pT (dv (p,q,r)) (dv (s,t,u)))) fun v=>aC (decide (0<v)) (aN ((-9223372036854775808:Int)<=(1:Int)/\(1:Int)<(9223372036854775808:Int)) (aB (isNeg N.fst) fun w=>aB O fun x=>aB N.snd fun y=>some [D.agg [sc (bool m),ints u64 n,sc (int i64 o),sc (bool w),ints u64 x,sc (int i64 y)]])) (some [D.agg [sc (bool m),ints u64 n,sc (int i64 o),sc (bool p),ints u64 q,sc (int i64 r)]]))))))))):=eJ aU
def Kb(a f:Nat)(w:Int):Int×Int:=bW ((a-f:Nat):Int) (-w)
def Dw(a f:Nat)(w:Int):Int×Int:=bW ((a+f:Nat):Int) (-w)
def zO(p:Int×Int):Int×Int:=bif decide (0<cI p (1,0))then(1,0)else p
def sp(a f:List Int)(w q:Int):Prop×List D:=(M6.cO a/\M6.cO f/\bl (M6.val a)<=500000/\bl (M6.val f)<=500000/\(0<=w/\w<=500000)/\(1<=q/\q<=70000)/\uE false (Kb (M6.val a) (M6.val f) w) q=true/\uE true (Dw (M6.val a) (M6.val f) w) q=true/\nC (shD true (Dw (M6.val a) (M6.val f) w) q),
 [Cr (shD false (Kb (M6.val a) (M6.val f) w) q) (zO (shD true (Dw (M6.val a) (M6.val f) w) q))])
theorem spec:Zg E f196 aF (pI .u64) (pI .u64) (pN .i64) (pN .i64) sp:=by
 rintro a f w q ⟨ha,hf,ba,bf,⟨w0,w1⟩,⟨q0,q1⟩,i1,i2,pu⟩;refine(start a f w q).trans ?_;have la:a.length<=8192:=by
  have e:M6.dg (M6.val a)=a:=by first |exact ha |exact Eq.symm ha
  rw[<-e];exact gI (k:=8192) (by omega)
 have lf:f.length<=8192:=by
  have e:M6.dg (M6.val f)=f:=by first |exact hf |exact Eq.symm hf
  rw[<-e];exact gI (k:=8192) (by omega)
 have vN:∀n:Nat,wv (false,M6.dg n)=(n:Int):=fun n=>by show(M6.val (M6.dg n):Int)=n;rw[M6.bD]
 have wN:∀n:Nat,bl n<=524288->jA (false,M6.dg n):=fun n hn=>by
  have:=iF (z:=(n:Int)) (by rw[cED];exact hn);rw[fN.2 (by omega),cED]at this;exact this
 have bs:bl (M6.val a-M6.val f)<=500000:=bZJ (gD (cEV _ _)) ba;have bt:bl (M6.val a+M6.val f)<=500001:=by
  have h1:=eF.1 ba;have h2:=eF.1 bf;refine eF.2 ?_;rw[cDL 2 500000];generalize 2^500000=Q at *;omega
 have ok:dP.oQ (M6.val a+M6.val f)=true:=dqT (gI (k:=8192) (by omega));have ew:i64.wrap (0-w)=-w:=by rw[wrap_i64];omega
 have j1:jR ((M6.val a-M6.val f:Nat):Int) (-w)=true:=kZ (by omega) (by rw[cED];omega);have j2:jR ((M6.val a+M6.val f:Nat):Int) (-w)=true:=kZ (by omega) (by rw[cED];omega);have p1:nC (Kb (M6.val a) (M6.val f) w):=jE j1 (by rw[cED];omega);have p2:nC (Dw (M6.val a) (M6.val f) w):=jE j2 (by rw[cED];omega);have c1:=fK (Kb (M6.val a) (M6.val f) w);have c2:=fK (Dw (M6.val a) (M6.val f) w);have n1:bW 1 0=(1,0):=by decide +kernel
 have pn:nC (1,0):=⟨by decide +kernel,⟨by decide,by decide⟩,fun h=>absurd h (by decide),fun _=>by decide⟩;have d1:=eQ pn;have v1:=fK ((1,0):Int×Int);rw[gP ⟨ha,hf,la,lf⟩,aE,gP ⟨ha,hf,la,lf⟩];simp only[aE,ok,cond_true,vN,ew,j1,j2,n1];rw[gP ⟨wN _ (by omega),by omega,by omega⟩,gP ⟨wN _ (by omega),by omega,by omega⟩];have eL:bW ((M6.val a-M6.val f:Nat):Int) (-w)=Kb (M6.val a) (M6.val f) w:=rfl;have eH:bW ((M6.val a+M6.val f:Nat):Int) (-w)=Dw (M6.val a) (M6.val f) w:=rfl;unfold sp zO;dsimp only;rw[eL,eH];generalize Kb (M6.val a) (M6.val f) w=L at *;generalize Dw (M6.val a) (M6.val f) w=H at *;have bJA:jR (dC.pM false L.1 L.2 q).1 (dC.pM false L.1 L.2 q).2=true:=i1;have bIZ:jR (dC.pM true H.1 H.2 q).1 (dC.pM true H.1 H.2 q).2=true:=i2;have cu:=fK (shD true H q);have du:=eQ pu;have eU:bW (dC.pM true H.1 H.2 q).1 (dC.pM true H.1 H.2 q).2=shD true H q:=rfl;have eD:bW (dC.pM false L.1 L.2 q).1 (dC.pM false L.1 L.2 q).2=shD false L q:=rfl;simp only[c1,c2,bJA,bIZ,cond_true,eU,eD,cu,v1];rw[gP ⟨eQ p1,q0,q1⟩,gP ⟨eQ p2,q0,q1⟩,gP ⟨by decide,by decide⟩,gP ⟨du,d1⟩];show aC (decide (0<cI (shD true H q) (1,0))) _ _=_
 by_cases g:0<cI (shD true H q) (1,0)
 ·rw[aO g,dqT g,cond_true,gP ⟨by decide,by decide⟩];rfl
 ·rw[aM g,dqF g,cond_false];rfl
def aJ:dO:=orc4 (pI .u64) (pI .u64) (pN .i64) (pN .i64) sp
theorem ok:OK 196 aJ:=(eI E aF (aA vK.ok (aA wW.ok (aA mH.ok (aA Pk.ok (aA bAX.ok (aA Kc.ok (aA aIG.ok aD))))))) func196).aUP rfl spec
end cF
namespace cE
def E:=mE [(193,Ol.aJ),(153,Ck.aJ),(63,mH.aJ),(64,aTQ.aJ),(78,aCR.aJ),(24,aIG.aJ),(195,aZ.aJ),(196,cF.aJ)] 63 [] [] []
def aF:=bd f152
theorem aU:Nk E aF:=nk
theorem start a c d b:aG E f152 aF [D.agg [sc (bool a),ints u64 c,sc (int i64 d)],D.s (sc (int i64 b))]=letI Q:=wv (isNeg 1,M6.dg (cIK 1));letI N:=i64.wrap (b+32);letI I:=i64.wrap ((0:Int)-b)-3;letI H:=dv (a,c,d);letI G:=bW 1 0;letI T:=isNeg G.fst;letI K:=M6.dg G.fst.natAbs;letI A:=bif jR Q (i64.wrap I)then bW Q (i64.wrap I)else((0:Int),(0:Int));aC ((c.length:Int)==(0:Int)) (aN ((-1000000:Int)<=(1:Int)/\(1:Int)<=(1000000:Int)) (aB T fun e=>aB K fun f=>aB G.snd fun g=>aB T fun h=>aB K fun i=>aB G.snd fun j=>some [D.agg [sc (bool e),ints u64 f,sc (int i64 g),sc (bool h),ints u64 i,sc (int i64 j)]])) (aN (aQ (a,c,d)) (aB (if H.fst=0 then(0:Int)else d+(↑(bl (M6.val c)):Int)-(1:Int)) fun k=>aC (decide (i64.wrap (i64.wrap ((2:Int)*k)+8)<i64.wrap ((0:Int)-b))) (aN ((-9223372036854775808:Int)<=(1:Int)/\(1:Int)<(9223372036854775808:Int)) (aN (jA (isNeg 1,M6.dg 1)/\(-9223372036854775808:Int)<=i64.wrap I/\i64.wrap I<9223372036854775808) (aB (isNeg A.fst) fun l=>aB (M6.dg A.fst.natAbs) fun m=>aB A.snd fun n=>letI U:=dv (l,m,n);aN ((-9223372036854775808:Int)<=(1:Int)/\(1:Int)<(9223372036854775808:Int)) (aB T fun o=>aB K fun p=>aB G.snd fun q=>letI B:=bif cB.jW (dv (o,p,q)) (-U.fst,U.snd)then cB.kI (dv (o,p,q)) (-U.fst,U.snd)else((0:Int),(0:Int));aN (aQ (o,p,q)/\aQ (l,m,n)) (aB (isNeg B.fst) fun r=>aB (M6.dg B.fst.natAbs) fun s=>aB B.snd fun t=>aN ((-9223372036854775808:Int)<=(1:Int)/\(1:Int)<(9223372036854775808:Int)) (aB T fun u=>aB K fun v=>aB G.snd fun w=>some [D.agg [sc (bool r),ints u64 s,sc (int i64 t),sc (bool u),ints u64 v,sc (int i64 w)]])))))) (aN (aQ (a,c,d)/\(1<=b/\b<=70000)/\((-70000:Int)<=aZ.jL H/\aZ.jL H<=100)/\aZ.bU H b<=(2:Nat)^(aZ.w1 H b).toNat) (aB (M6.dg (aZ.Dr H b).snd) fun x=>aB (M6.dg ((2:Nat)^((2:Nat)*aZ.hv H b+22))) fun y=>aB (aZ.w2 H b) fun z=>letI P:=cF.Dw (M6.val x) (M6.val y) z;letI O:=cF.Kb (M6.val x) (M6.val y) z;letI F:=M.shD false O N;letI C:=M.shD true P N;letI W:=cF.zO C;aN (M6.cO x/\M6.cO y/\bl (M6.val x)<=500000/\bl (M6.val y)<=500000/\(0<=z/\z<=500000)/\(1<=i64.wrap (b+32)/\i64.wrap (b+32)<=70000)/\uE false O N=true/\uE true P N=true/\nC C) (aB (isNeg F.fst) fun aa=>aB (M6.dg F.fst.natAbs) fun ab=>aB F.snd fun ac=>aB (isNeg W.fst) fun ad=>aB (M6.dg W.fst.natAbs) fun ae=>aB W.snd fun af=>some [D.agg [sc (bool aa),ints u64 ab,sc (int i64 ac),sc (bool ad),ints u64 ae,sc (int i64 af)]]))))):=eJ aU
def uN(x:Int×Int)(p:Int):Int×Int:=if x.1=0 then(1,0)else if 2*aZ.jL x+8 < -p then cB.kI (1,0) (-1,-p-3)else shD false (cF.Kb (aZ.Dr x p).2 (2^(2*aZ.hv x p+22)) (aZ.w2 x p)) (p+32)
def tY(x:Int×Int)(p:Int):Int×Int:=if x.1=0 then(1,0)else if 2*aZ.jL x+8 < -p then(1,0)else cF.zO (shD true (cF.Dw (aZ.Dr x p).2 (2^(2*aZ.hv x p+22)) (aZ.w2 x p)) (p+32))
def Ut(x:Int×Int)(p:Int):Prop:=(-70000<=aZ.jL x/\aZ.jL x<=100)/\aZ.bU x p<=2^(aZ.w1 x p).toNat
def aOA(a f:Nat)(w q:Int):Prop:=bl a<=500000/\bl f<=500000/\(0<=w/\w<=500000)/\uE false (cF.Kb a f w) q=true/\uE true (cF.Dw a f w) q=true/\nC (shD true (cF.Dw a f w) q)
def aHS(x:fB)(p:Int):Prop:=aQ x/\(1<=p/\p<=67100)/\((dv x).1≠0->-600000<=aZ.jL (dv x)/\(2*aZ.jL (dv x)+8 < -p->cB.jW (1,0) (-1,-p-3)=true) /\
 (¬2*aZ.jL (dv x)+8 < -p->Ut (dv x) p/\aOA (aZ.Dr (dv x) p).2 (2^(2*aZ.hv (dv x) p+22)) (aZ.w2 (dv x) p) (p+32)))
def sp(x:fB)(p:Int):Prop×List D:=(aHS x p,
 [Cr (uN (dv x) p) (tY (dv x) p)])
theorem spec:fF E f152 aF jQ (pN .i64) sp:=by
 rintro x p ⟨hx,⟨p0,p1⟩,h⟩;refine(start x.1 x.2.1 x.2.2 p).trans ?_;have hz:=M6.cY hx.Fi;have hl:=hx.len;have he:=hx.2.1;have ha:(dv x).1.natAbs=M6.val x.2.1:=iX (x.1,x.2.1);have aGS:(x.1,x.2.1,x.2.2)=x:=rfl;have n1:bW 1 0=(1,0):=by decide +kernel
 have v1:wv (isNeg 1,M6.dg (cIK 1))=1:=tQ 1;have hT:(if(dv x).1=0 then 0 else x.2.2+(bl (M6.val x.2.1):Int)-1)=aZ.jL (dv x):=by rw[<-ha];rfl
 have k1:jA (isNeg 1,M6.dg 1):=iF (z:=1) (by decide +kernel);have pn:nC (1,0):=⟨by decide +kernel,⟨by decide,by decide⟩,fun h=>absurd h (by decide),fun _=>by decide⟩;unfold sp uN tY;dsimp only
 by_cases c0:(dv x).1=0
 ·rw[dU (by have:=hz.2 (by omega);omega),gP ⟨by decide,by decide⟩,if_pos c0,if_pos c0];simp only[aE,n1];rfl
 ·obtain⟨t0,hA,hB⟩:=h c0;have tt:=hx.pK.top;have l0:x.2.1.length≠0:=fun hc=>c0 (by have:=hz.1 hc;omega)
  simp only[aGS,hT,aE,n1,v1];rw[cP,if_neg c0,if_neg c0];have tU:aZ.jL (dv x)<=1572864:=by unfold aZ.jL;rw[if_neg c0];exact tt.2
  have w1:i64.wrap (i64.wrap (2*aZ.jL (dv x))+8)=2*aZ.jL (dv x)+8:=by rw[wrap_i64 (n:=2*aZ.jL (dv x)),wrap_i64]
  have w2:i64.wrap (0-p)=-p:=by rw[wrap_i64];omega
  have w3:i64.wrap (-p-3)=-p-3:=wrap_i64;have w4:i64.wrap (p+32)=p+32:=wrap_i64;simp only[w1,w2,w3,w4];rw[gP hx]
  by_cases c1:2*aZ.jL (dv x)+8 < -p
  ·have b1:bl (cIK 1)=1:=rfl;have i1:jR 1 (-p-3)=true:=kZ (by omega) (by rw[b1];omega);have m1:bW 1 (-p-3)=(1,-p-3):=by
    unfold bW;rw[if_neg (by decide),show tz (cIK 1)=0 from by decide +kernel];simp
   have pg:nC (1,-p-3):=m1▸jE i1 (by decide +kernel);have d1:=eQ pn;have d2:=eQ pg;have e1:=fK ((1,0):Int×Int);have e2:=fK ((1,-p-3):Int×Int);rw[aO c1,if_pos c1,if_pos c1];simp only[i1,m1,cond_true,e1,e2,hA c1];rw[gP ⟨by decide,by decide⟩,gP ⟨k1,by omega,by omega⟩,gP ⟨by decide,by decide⟩,gP ⟨d1,d2⟩,gP ⟨by decide,by decide⟩];rfl
  ·obtain⟨⟨b1,b2⟩,a1,a2,a3,a4,a5,a6⟩:=hB c1;rw[aM c1,if_neg c1,if_neg c1];simp only[M6.bD];rw[gP ⟨hx,⟨by omega,by omega⟩,b1,b2⟩,gP ⟨M6.bA _,M6.bA _,a1,a2,a3,⟨by omega,by omega⟩,a4,a5,a6⟩];rfl
def aJ:dO:=orc2 jQ (pN .i64) sp
theorem ok:OK 152 aJ:=(eI E aF (aA Ol.ok (aA Ck.ok (aA mH.ok (aA aTQ.ok (aA aCR.ok (aA aIG.ok (aA aZ.ok (aA cF.ok aD)))))))) func152).jZ rfl spec
end cE
namespace nV
def E:=mE [(45,sE.aJ),(80,aPF.aJ)] 27 [] [] []
def aF:=bd f31
theorem aU:Nk E aF:=nk
theorem start a b c d e f:aG E f31 aF [D.agg [sc (bool a),ints u64 b,sc (int i64 c),sc (bool d),ints u64 e,sc (int i64 f)]]=letI B:=dv (a,b,c);letI A:=dv (d,e,f);aN (dW (a,b,c,d,e,f)) (aN (aQ (d,e,f)) (aB (isNeg (-A.fst)) fun g=>aB (M6.dg (-A.fst).natAbs) fun h=>aB A.snd fun i=>aN (aQ (a,b,c)) (aB (isNeg (-B.fst)) fun j=>aB (M6.dg (-B.fst).natAbs) fun k=>aB B.snd fun l=>some [D.agg [sc (bool g),ints u64 h,sc (int i64 i),sc (bool j),ints u64 k,sc (int i64 l)],D.s (sc (int i64 0))]))):=eJ aU
def Bd(p:Int×Int):Int×Int:=(-p.1,p.2)
def sp(s:uP):Prop×List D:=(dW s,[Cr (Bd (dv (fR s))) (Bd (dv (fO s))),.s (.sc (.int .i64 0))])
theorem spec:iH E f31 aF sP sp:=by
 intro s h;have h:dW s:=h;have hL:aQ (s.1,s.2.1,s.2.2.1):=h.1;have hH:aQ (s.2.2.2.1,s.2.2.2.2.1,s.2.2.2.2.2):=h.2.1;refine(start s.1 s.2.1 s.2.2.1 s.2.2.2.1 s.2.2.2.2.1 s.2.2.2.2.2).trans ?_;simp only[aE];rw[gP h,gP hH]
 (try simp only[aE])
 rw[gP hL];rfl
def aJ:dO:=orc1 sP sp
theorem ok:OK 31 aJ:=(eI E aF (aA sE.ok (aA aPF.ok aD)) func31).oV rfl spec
end nV
namespace Iw
def E:=mE [(31,nV.aJ)] 12 [] [] []
def aF:=bd f194
theorem aU:Nk E aF:=nk
theorem start a c d e f g b:aG E f194 aF [D.agg [sc (bool a),ints u64 c,sc (int i64 d),sc (bool e),ints u64 f,sc (int i64 g)],D.s (sc (bool b))]=letI A:=(a,c,d,e,f,g);letI C:=dv (fO A);letI B:=dv (fR A);aC b (aN (dW A) (some [D.agg [sc (bool (isNeg (-B.fst))),ints u64 (M6.dg (-B.fst).natAbs),sc (int i64 B.snd),sc (bool (isNeg (-C.fst))),ints u64 (M6.dg (-C.fst).natAbs),sc (int i64 C.snd)]])) (some [D.agg [sc (bool a),ints u64 c,sc (int i64 d),sc (bool e),ints u64 f,sc (int i64 g)]]):=eJ aU
def sp(s:uP)(b:Bool):Prop×List D:=(dW s,[Cr (bif b then nV.Bd (dv (fR s))else dv (fO s)) (bif b then nV.Bd (dv (fO s))else dv (fR s))])
theorem spec:fF E f194 aF sP pB sp:=by
 intro s b h;have h:dW s:=id h;refine(start s.1 s.2.1 s.2.2.1 s.2.2.2.1 s.2.2.2.2.1 s.2.2.2.2.2 b).trans ?_;unfold sp;cases b with
 |true =>
  show aN _ _=_;have h':dW (s.1,s.2.1,s.2.2.1,s.2.2.2.1,s.2.2.2.2.1,s.2.2.2.2.2):=h;rw[gP h'];rfl
 |false =>
  dsimp only[cond_false];rw[h.Cr]
def aJ:dO:=orc2 sP pB sp
theorem ok:OK 194 aJ:=(eI E aF (aA nV.ok aD) func194).jZ rfl spec
end Iw
namespace gL
def E:=mE [(193,Ol.aJ),(153,Ck.aJ),(101,bAX.aJ),(100,Pk.aJ),(63,mH.aJ),(64,aTQ.aJ),(78,aCR.aJ),(194,Iw.aJ),(195,aZ.aJ),(196,cF.aJ)] 92 [] [] []
def aF:=bd f151
theorem aU:Nk E aF:=nk
theorem start a c d b:aG E f151 aF [D.agg [sc (bool a),ints u64 c,sc (int i64 d)],D.s (sc (int i64 b))]=letI F1:=wv (isNeg 1,M6.dg (cIK 1));letI B1:=bW 0 0;letI I1:=M6.dg B1.fst.natAbs;letI A1:=dv (false,c,d);letI X:=aQ (false,c,d)/\1<=i64.wrap (b+32)/\i64.wrap (b+32)<=70000;letI W:=dv (a,c,d);letI U:=i64.wrap (b+32);letI B:=dC.pM true A1.fst A1.snd U;letI O:=bif jR B.fst B.snd then bW B.fst B.snd else((0:Int),(0:Int));letI A:=dC.pM false A1.fst A1.snd U;letI P:=bif jR A.fst A.snd then bW A.fst A.snd else((0:Int),(0:Int));aC ((c.length:Int)==(0:Int)) (aN ((-1000000:Int)<=(0:Int)/\(0:Int)<=(1000000:Int)) (aB (isNeg B1.fst) fun e=>aB I1 fun f=>aB B1.snd fun g=>aB (isNeg B1.fst) fun h=>aB I1 fun i=>aB B1.snd fun j=>some [D.agg [sc (bool e),ints u64 f,sc (int i64 g),sc (bool h),ints u64 i,sc (int i64 j)]])) (aN (aQ (a,c,d)) (aB (if W.fst=0 then(0:Int)else d+(↑(bl (M6.val c)):Int)-(1:Int)) fun k=>letI Y:=i64.wrap (k-b)-3;letI C:=bif jR F1 (i64.wrap Y)then bW F1 (i64.wrap Y)else((0:Int),(0:Int));aC (decide (i64.wrap (i64.wrap ((2:Int)*k)+8)<i64.wrap ((0:Int)-b))) (aN X (aB (isNeg O.fst) fun l=>aB (M6.dg O.fst.natAbs) fun m=>aB O.snd fun n=>aN X (aB (isNeg P.fst) fun o=>aB (M6.dg P.fst.natAbs) fun p=>aB P.snd fun q=>aN ((-9223372036854775808:Int)<=(1:Int)/\(1:Int)<(9223372036854775808:Int)) (aN (jA (isNeg 1,M6.dg 1)/\(-9223372036854775808:Int)<=i64.wrap Y/\i64.wrap Y<9223372036854775808) (aB (isNeg C.fst) fun r=>aB (M6.dg C.fst.natAbs) fun s=>aB C.snd fun t=>letI G1:=dv (r,s,t);letI F:=bif cB.jW (dv (o,p,q)) (-G1.fst,G1.snd)then cB.kI (dv (o,p,q)) (-G1.fst,G1.snd)else((0:Int),(0:Int));aN (aQ (o,p,q)/\aQ (r,s,t)) (aB (isNeg F.fst) fun u=>aB (M6.dg F.fst.natAbs) fun v=>aB F.snd fun w=>letI Z:=(u,v,w,l,m,n);letI K:=bif a then nV.Bd (dv (fO Z))else dv (fR Z);letI I:=bif a then nV.Bd (dv (fR Z))else dv (fO Z);aN (dW Z) (aB (isNeg I.fst) fun x=>aB (M6.dg I.fst.natAbs) fun y=>aB I.snd fun z=>aB (isNeg K.fst) fun aa=>aB (M6.dg K.fst.natAbs) fun ab=>aB K.snd fun ac=>some [D.agg [sc (bool x),ints u64 y,sc (int i64 z),sc (bool aa),ints u64 ab,sc (int i64 ac)]]))))))) (aN (aQ (a,c,d)/\(1<=b/\b<=70000)/\((-70000:Int)<=aZ.jL W/\aZ.jL W<=100)/\aZ.bU W b<=(2:Nat)^(aZ.w1 W b).toNat) (aB (M6.dg (aZ.Dr W b).fst) fun ad=>letI K1:=M6.val ad;aB (M6.dg ((2:Nat)^((2:Nat)*aZ.hv W b+22))) fun ae=>letI N1:=M6.val ae;aB (aZ.w2 W b) fun af=>letI D1:=cF.Dw K1 N1 af;letI C1:=cF.Kb K1 N1 af;letI N:=M.shD false C1 U;letI G:=M.shD true D1 U;letI H1:=cF.zO G;aN (M6.cO ad/\M6.cO ae/\bl K1<=500000/\bl N1<=500000/\(0<=af/\af<=500000)/\(1<=i64.wrap (b+32)/\i64.wrap (b+32)<=70000)/\uE false C1 U=true/\uE true D1 U=true/\nC G) (aB (isNeg N.fst) fun ag=>aB (M6.dg N.fst.natAbs) fun ah=>aB N.snd fun ai=>aB (isNeg H1.fst) fun aj=>aB (M6.dg H1.fst.natAbs) fun ak=>aB H1.snd fun al=>letI H:=(ag,ah,ai,aj,ak,al);letI T:=bif a then nV.Bd (dv (fO H))else dv (fR H);letI Q:=bif a then nV.Bd (dv (fR H))else dv (fO H);aN (dW H) (aB (isNeg Q.fst) fun am=>aB (M6.dg Q.fst.natAbs) fun an=>aB Q.snd fun ao=>aB (isNeg T.fst) fun ap=>aB (M6.dg T.fst.natAbs) fun aq=>aB T.snd fun ar=>some [D.agg [sc (bool am),ints u64 an,sc (int i64 ao),sc (bool ap),ints u64 aq,sc (int i64 ar)]])))))):=eJ aU
def uY(x:Int×Int)(p:Int):Int×Int:=if 2*aZ.jL x+8 < -p then cB.kI (shD false ((x.1.natAbs:Int),x.2) (p+32)) (-1,aZ.jL x-p-3)else shD false (cF.Kb (aZ.Dr x p).1 (2^(2*aZ.hv x p+22)) (aZ.w2 x p)) (p+32)
def uG(x:Int×Int)(p:Int):Int×Int:=if 2*aZ.jL x+8 < -p then shD true ((x.1.natAbs:Int),x.2) (p+32)else cF.zO (shD true (cF.Dw (aZ.Dr x p).1 (2^(2*aZ.hv x p+22)) (aZ.w2 x p)) (p+32))
def Pt(x:Int×Int)(p:Int):Int×Int:=if x.1=0 then(0,0)else bif isNeg x.1 then nV.Bd (uG x p)else uY x p
def Pu(x:Int×Int)(p:Int):Int×Int:=if x.1=0 then(0,0)else bif isNeg x.1 then nV.Bd (uY x p)else uG x p
def aQP(x:fB)(p:Int):Prop:=aQ x/\(1<=p/\p<=67100)/\((dv x).1≠0->-600000<=aZ.jL (dv x)/\nC (uY (dv x) p)/\nC (uG (dv x) p)/\cI (uY (dv x) p) (uG (dv x) p)<=0 /\
 (2*aZ.jL (dv x)+8 < -p->uE true ((((dv x).1.natAbs:Nat):Int),(dv x).2) (p+32)=true/\uE false ((((dv x).1.natAbs:Nat):Int),(dv x).2) (p+32)=true/\nC (shD false ((((dv x).1.natAbs:Nat):Int),(dv x).2) (p+32))/\cB.jW (shD false ((((dv x).1.natAbs:Nat):Int),(dv x).2) (p+32)) (-1,aZ.jL (dv x)-p-3)=true) /\
 (¬2*aZ.jL (dv x)+8 < -p->cE.Ut (dv x) p/\cE.aOA (aZ.Dr (dv x) p).1 (2^(2*aZ.hv (dv x) p+22)) (aZ.w2 (dv x) p) (p+32)))
def sp(x:fB)(p:Int):Prop×List D:=(aQP x p,
 [Cr (Pt (dv x) p) (Pu (dv x) p)])
theorem spec:fF E f151 aF jQ (pN .i64) sp:=by
 rintro x p ⟨hx,⟨p0,p1⟩,h⟩;refine(start x.1 x.2.1 x.2.2 p).trans ?_;have hz:=M6.cY hx.Fi;have he:=hx.2.1;have ha:(dv x).1.natAbs=M6.val x.2.1:=iX (x.1,x.2.1);have aGS:(x.1,x.2.1,x.2.2)=x:=rfl;have n0:bW 0 0=(0,0):=iN 0;have hT:(if(dv x).1=0 then 0 else x.2.2+(bl (M6.val x.2.1):Int)-1)=aZ.jL (dv x):=by rw[<-ha];rfl
 have hN:isNeg (dv x).1=x.1:=hx.Ln.cells.1;have v1:wv (isNeg 1,M6.dg (cIK 1))=1:=tQ 1;have k1:jA (isNeg 1,M6.dg 1):=iF (z:=1) (by decide +kernel);unfold sp Pt Pu;dsimp only
 by_cases c0:(dv x).1=0
 ·rw[dU (by have:=hz.2 (by omega);omega),gP ⟨by decide,by decide⟩,if_pos c0,if_pos c0];simp only[aE,n0];rfl
 ·obtain⟨t0,q1,q2,q3,hA,hB⟩:=h c0;have tt:=hx.pK.top;have l0:x.2.1.length≠0:=fun hc=>c0 (by have:=hz.1 hc;omega)
  have tU:aZ.jL (dv x)<=1572864:=by unfold aZ.jL;rw[if_neg c0];exact tt.2
  simp only[aGS,hT,aE,v1];rw[cP,if_neg c0,if_neg c0];have w1:i64.wrap (i64.wrap (2*aZ.jL (dv x))+8)=2*aZ.jL (dv x)+8:=by rw[wrap_i64 (n:=2*aZ.jL (dv x)),wrap_i64]
  have w2:i64.wrap (0-p)=-p:=by rw[wrap_i64];omega
  have w3:i64.wrap (i64.wrap (aZ.jL (dv x)-p)-3)=aZ.jL (dv x)-p-3:=by rw[wrap_i64 (n:=aZ.jL (dv x)-p),wrap_i64]
  have w4:i64.wrap (p+32)=p+32:=wrap_i64;simp only[w1,w2,w3,w4];rw[gP hx];have sk:dW (rB (uY (dv x) p) (uG (dv x) p)):=Cq q1 q2 q3;have eL:=mZ (uY (dv x) p) (uG (dv x) p);have eH:=nA (uY (dv x) p) (uG (dv x) p);rw[hN];unfold rB at sk eL eH
  by_cases c1:2*aZ.jL (dv x)+8 < -p
  ·obtain⟨s1,s2,s3,s4⟩:=hA c1;have ok:aQ (false,x.2.1,x.2.2):=⟨⟨hx.1.1,fun hf=>(by cases hf),hx.1.len⟩,hx.2⟩;have vx:dv (false,x.2.1,x.2.2)=((((dv x).1.natAbs:Nat):Int),(dv x).2):=by rw[ha];rfl
   have b1:bl (cIK 1)=1:=rfl;have i1:jR 1 (aZ.jL (dv x)-p-3)=true:=kZ (by omega) (by rw[b1];omega);have m1:bW 1 (aZ.jL (dv x)-p-3)=(1,aZ.jL (dv x)-p-3):=by
    unfold bW;rw[if_neg (by decide),show tz (cIK 1)=0 from by decide +kernel];simp
   have pg:nC (1,aZ.jL (dv x)-p-3):=m1▸jE i1 (by decide +kernel);have e2:=fK ((1,aZ.jL (dv x)-p-3):Int×Int);have d2:=eQ pg;have d3:=eQ s3;have e3:=fK (shD false ((((dv x).1.natAbs:Nat):Int),(dv x).2) (p+32));have bRR:jR (dC.pM true (((dv x).1.natAbs:Nat):Int) (dv x).2 (p+32)).1 (dC.pM true (((dv x).1.natAbs:Nat):Int) (dv x).2 (p+32)).2=true:=s1;have bRQ:jR (dC.pM false (((dv x).1.natAbs:Nat):Int) (dv x).2 (p+32)).1 (dC.pM false (((dv x).1.natAbs:Nat):Int) (dv x).2 (p+32)).2=true:=s2;have u1:bW (dC.pM true (((dv x).1.natAbs:Nat):Int) (dv x).2 (p+32)).1 (dC.pM true (((dv x).1.natAbs:Nat):Int) (dv x).2 (p+32)).2=shD true ((((dv x).1.natAbs:Nat):Int),(dv x).2) (p+32):=rfl;have u2:bW (dC.pM false (((dv x).1.natAbs:Nat):Int) (dv x).2 (p+32)).1 (dC.pM false (((dv x).1.natAbs:Nat):Int) (dv x).2 (p+32)).2=shD false ((((dv x).1.natAbs:Nat):Int),(dv x).2) (p+32):=rfl;have dL:uY (dv x) p=cB.kI (shD false ((((dv x).1.natAbs:Nat):Int),(dv x).2) (p+32)) (-1,aZ.jL (dv x)-p-3):=if_pos c1;have dH:uG (dv x) p=shD true ((((dv x).1.natAbs:Nat):Int),(dv x).2) (p+32):=if_pos c1;rw[aO c1];simp only[vx,bRR,bRQ,u1,u2,i1,m1,cond_true,e2,e3,s4];rw[gP ⟨ok,by omega,by omega⟩,gP ⟨ok,by omega,by omega⟩,gP ⟨by decide,by decide⟩,gP ⟨k1,by omega,by omega⟩,gP ⟨d3,d2⟩,<-dL,<-dH,gP sk,eL,eH];rfl
  ·obtain⟨⟨b1,b2⟩,a1,a2,a3,a4,a5,a6⟩:=hB c1;have dL:uY (dv x) p=shD false (cF.Kb (aZ.Dr (dv x) p).1 (2^(2*aZ.hv (dv x) p+22)) (aZ.w2 (dv x) p)) (p+32):=if_neg c1;have dH:uG (dv x) p=cF.zO (shD true (cF.Dw (aZ.Dr (dv x) p).1 (2^(2*aZ.hv (dv x) p+22)) (aZ.w2 (dv x) p)) (p+32)):=if_neg c1;rw[aM c1];simp only[M6.bD];rw[gP ⟨hx,⟨by omega,by omega⟩,b1,b2⟩,gP ⟨M6.bA _,M6.bA _,a1,a2,a3,⟨by omega,by omega⟩,a4,a5,a6⟩,<-dL,<-dH,gP sk,eL,eH];rfl
def aJ:dO:=orc2 jQ (pN .i64) sp
theorem ok:OK 151 aJ:=(eI E aF (aA Ol.ok (aA Ck.ok (aA bAX.ok (aA Pk.ok (aA mH.ok (aA aTQ.ok (aA aCR.ok (aA Iw.ok (aA aZ.ok (aA cF.ok aD)))))))))) func151).jZ rfl spec
end gL
end W
namespace R
def Rn(F D X p q p' q':Nat):Bool :=
 bYQ 9007199254740992 q'&&((bYO (p*q') (p'*q+1)||bYO (p'*q) (p*q'+1)) &&
 ((bYQ (p*(F+1)+D) (q*X)&&bYQ (q'*X) (p'*F))||(bYQ (q*X+D) (p*F)&&bYQ (p'*(F+1)) (q'*X))))
def bBW(F D X:Nat)(f:Nat):Nat->Nat->Nat->Nat->Nat->Nat->Bool:=Nat.rec (motive:=fun _=>Nat->Nat->Nat->Nat->Nat->Nat->Bool) (fun _ _ _ _ _ _=>false)
 (fun _ ih a b p q p' q'=>cond (bYQ 9007199254740992 q') (Rn F D X p q p' q') (gX (a/b) fun t=>gX (a-t*b) fun r=>gX (t*p'+p) fun p2=>gX (t*q'+q) fun q2=>ih b r p' q' p2 q2)) f
def aSR(F D:Nat)(n:Nat):Nat->Bool:=Nat.rec (motive:=fun _=>Nat->Bool) (fun _=>true) (fun _ ih X=>bBW F D X 80 X F 0 1 1 0&&gX (2*X) fun X'=>ih X') n
def bFU(w n:Nat):Bool :=
 Prod.rec (motive:=fun _=>Bool) (fun t5 s5=>Prod.rec (motive:=fun _=>Bool) (fun t239 nZ =>
  bYQ (4*nZ) (16*s5)&&(bYO t5 0&&(bYO t239 0 &&
  gX ((16*s5-4*nZ)/2^64) fun F=>gX (2^(w-64-62)) fun D=>gX (2^(w-64-53)) fun X =>
  bYO (((16*s5-4*nZ)+2^40)/2^64) F&&(bYO (((16*s5-4*nZ)-2^40)/2^64) F&&aSR F D n X))))
  (Zu 239 w 10 10)) (Zu 5 w 20 20)
theorem bSR{L L' s m k p q p' q' P X:Rat}(hL:L=q*X-p*P)(bHO:L'=q'*X-p'*P)(hs:s*s=1)(aMB:p*q'-p'*q=s):m*X-k*P=s*(k*q'-m*p')*L+s*(m*p-k*q)*L':=by
 subst hL;subst bHO;have e1:s*(k*q'-m*p')*(q*X-p*P)+s*(m*p-k*q)*(q'*X-p'*P)=s*(p*q'-p'*q)*(m*X-k*P):=by grind
 rw[e1,aMB,hs];grind
theorem Wx{a b:Bool}(h:(a||b)=true):a=true\/b=true:=by simpa using h
theorem wG{a:Int}(h:0<a):(1:Rat)<=(a:Rat):=by exact_mod_cast h
theorem aSL {F D X p q p' q' : Nat} (h : Rn F D X p q p' q' = true) {P : Rat} (h1 : (F : Rat) ≤ P) (h2 : P ≤ (F : Rat) + 1) {m k : Int} (hm : 0 < m) (aSB : m < 9007199254740992) : (D : Rat) ≤ ab ((m : Rat) * (X : Rat) - (k : Rat) * P) := by
  unfold Rn at h
  obtain ⟨c1, h⟩ := gE h
  obtain ⟨c2, c3⟩ := gE h
  have c1 := cAL c1
  obtain ⟨s, hs, aMB⟩ : ∃ s : Int, s * s = 1 ∧ (p : Int) * q' - p' * q = s := by
    rcases Wx c2 with h | h
    · have := bZB h
      exact ⟨1, rfl, by have : (p : Int) * q' = p' * q + 1 := by exact_mod_cast this
                        omega⟩
    · have := bZB h
      exact ⟨-1, rfl, by have : (p' : Int) * q = p * q' + 1 := by exact_mod_cast this
                         omega⟩
  obtain ⟨a, ha⟩ : ∃ a : Int, a = s * (k * q' - m * p') := ⟨_, rfl⟩
  obtain ⟨b, hb⟩ : ∃ b : Int, b = s * (m * p - k * q) := ⟨_, rfl⟩
  have hmab : m = a * q + b * q' := by
    have : a * q + b * q' = s * (p * q' - p' * q) * m := by rw [ha, hb]; grind
    rw [this, aMB, hs]; omega
  obtain ⟨L, hL⟩ : ∃ L : Rat, L = (q : Rat) * X - (p : Rat) * P := ⟨_, rfl⟩
  obtain ⟨L', bHO⟩ : ∃ L' : Rat, L' = (q' : Rat) * X - (p' : Rat) * P := ⟨_, rfl⟩
  have bOQ : (s : Rat) * (s : Rat) = 1 := by exact_mod_cast hs
  have Qb : (p : Rat) * q' - p' * q = (s : Rat) := by
    have := congrArg (Int.cast : Int → Rat) aMB
    rw [cMB, cJA, cJA, cIW, cIW, cIW, cIW] at this
    exact this
  have aYD := bSR (m := (m : Rat)) (k := (k : Rat)) hL bHO bOQ Qb
  have bQB : (s : Rat) * ((k : Rat) * q' - m * p') = (a : Rat) := by
    rw [ha]; push_cast; rfl
  have bQA : (s : Rat) * ((m : Rat) * p - k * q) = (b : Rat) := by
    rw [hb]; push_cast; rfl
  rw [bQB, bQA] at aYD
  rw [aYD]
  have aPQ : (0 : Int) ≤ q := by omega
  have hq'0 : (9007199254740992 : Int) ≤ q' := by omega
  have Na : (0 : Rat) ≤ (p : Rat) := by exact_mod_cast cEN p
  have bDS : (0 : Rat) ≤ (p' : Rat) := by exact_mod_cast cEN p'
  have bJY : ((D : Rat) ≤ L ∧ L' ≤ 0) ∨ ((D : Rat) ≤ -L ∧ 0 ≤ L') := by
    rcases Wx c3 with h | h
    · obtain ⟨d1, d2⟩ := gE h
      have d1 : ((p * (F + 1) + D : Nat) : Rat) ≤ ((q * X : Nat) : Rat) := by exact_mod_cast cAL d1
      have d2 : ((q' * X : Nat) : Rat) ≤ ((p' * F : Nat) : Rat) := by exact_mod_cast cAL d2
      push_cast at d1 d2
      have := aI Na (show 0 ≤ (F : Rat) + 1 - P by grind)
      have := aI bDS (show 0 ≤ P - (F : Rat) by grind)
      left
      constructor <;> grind
    · obtain ⟨d1, d2⟩ := gE h
      have d1 : ((q * X + D : Nat) : Rat) ≤ ((p * F : Nat) : Rat) := by exact_mod_cast cAL d1
      have d2 : ((p' * (F + 1) : Nat) : Rat) ≤ ((q' * X : Nat) : Rat) := by exact_mod_cast cAL d2
      push_cast at d1 d2
      have := aI Na (show 0 ≤ P - (F : Rat) by grind)
      have := aI bDS (show 0 ≤ (F : Rat) + 1 - P by grind)
      right
      constructor <;> grind
  have hD0 : (0 : Rat) ≤ (D : Rat) := by exact_mod_cast cEN D
  clear aYD bQB bQA Qb bOQ hL bHO ha hb aMB hs c2 c3
  rcases Int.lt_trichotomy b 0 with hb | hb | hb
  · have Rm : 0 < a := by
      refine Int.not_le.1 fun hn => ?_
      have := cKF (show 0 ≤ -a by omega) aPQ
      have := cKF (show 0 ≤ -b by omega) (show (0 : Int) ≤ q' by omega)
      rw [cHX] at *
      omega
    have r1 := wG Rm
    have r2 := wG (show 0 < -b by omega)
    have r2 : (1 : Rat) ≤ -(b : Rat) := by rw [← cJG]; exact r2
    rcases bJY with ⟨g1, g2⟩ | ⟨g1, g2⟩
    · have := aI (show 0 ≤ (a : Rat) - 1 by grind) (show 0 ≤ L by grind)
      have := aI (show 0 ≤ -(b : Rat) by grind) (show 0 ≤ -L' by grind)
      have := xY ((a : Rat) * L + (b : Rat) * L')
      grind
    · have := aI (show 0 ≤ (a : Rat) - 1 by grind) (show 0 ≤ -L by grind)
      have := aI (show 0 ≤ -(b : Rat) by grind) (show 0 ≤ L' by grind)
      have := mJ ((a : Rat) * L + (b : Rat) * L')
      grind
  · subst hb
    have Rm : 0 < a := by
      refine Int.not_le.1 fun hn => ?_
      have := cKF (show 0 ≤ -a by omega) aPQ
      rw [cHX] at *
      omega
    have r1 := wG Rm
    have z : ((0 : Int) : Rat) = 0 := by norm_cast
    rw [z]
    rcases bJY with ⟨g1, g2⟩ | ⟨g1, g2⟩
    · have := aI (show 0 ≤ (a : Rat) - 1 by grind) (show 0 ≤ L by grind)
      have := xY ((a : Rat) * L + 0 * L')
      grind
    · have := aI (show 0 ≤ (a : Rat) - 1 by grind) (show 0 ≤ -L by grind)
      have := mJ ((a : Rat) * L + 0 * L')
      grind
  · have Rm : a < 0 := by
      refine Int.not_le.1 fun hn => ?_
      have := cKF hn aPQ
      have := cAX (show 1 ≤ b by omega) (show (0 : Int) ≤ q' by omega)
      omega
    have r1 := wG (show 0 < -a by omega)
    have r1 : (1 : Rat) ≤ -(a : Rat) := by rw [← cJG]; exact r1
    have r2 := wG hb
    rcases bJY with ⟨g1, g2⟩ | ⟨g1, g2⟩
    · have := aI (show 0 ≤ -(a : Rat) - 1 by grind) (show 0 ≤ L by grind)
      have := aI (show 0 ≤ (b : Rat) by grind) (show 0 ≤ -L' by grind)
      have := mJ ((a : Rat) * L + (b : Rat) * L')
      grind
    · have := aI (show 0 ≤ -(a : Rat) - 1 by grind) (show 0 ≤ -L by grind)
      have := aI (show 0 ≤ (b : Rat) by grind) (show 0 ≤ L' by grind)
      have := xY ((a : Rat) * L + (b : Rat) * L')
      grind
theorem aZI{F D X:Nat}:∀(f a b p q p' q':Nat),bBW F D X f a b p q p' q'=true->∃p q p' q',Rn F D X p q p' q'=true:=by
 intro f
 induction f with
 |zero=>intro a b p q p' q' h;exact absurd h (by simp[bBW])
 |succ f ih =>
  intro a b p q p' q' h;have e:bBW F D X (f+1) a b p q p' q'=cond (bYQ 9007199254740992 q') (Rn F D X p q p' q') (gX (a/b) fun t=>gX (a-t*b) fun r=>gX (t*p'+p) fun p2=>gX (t*q'+q) fun q2=>bBW F D X f b r p' q' p2 q2):=rfl;rw[e]at h;cases hc:bYQ 9007199254740992 q' with
  |true=>rw[hc]at h;exact⟨_,_,_,_,h⟩
  |false =>
   rw[hc,cond_false,fT,fT,fT,fT]at h;exact ih _ _ _ _ _ _ h
theorem aSQ{F D:Nat}:∀(n X:Nat),aSR F D n X=true->∀i,i<n->∃p q p' q',Rn F D (2^i*X) p q p' q'=true:=by
 intro n
 induction n with
 |zero=>intro X _ i hi;omega
 |succ n ih =>
  intro X h i hi;have e:aSR F D (n+1) X=(bBW F D X 80 X F 0 1 1 0&&gX (2*X) fun X'=>aSR F D n X'):=rfl;rw[e,fT]at h;obtain⟨h1,h2⟩:=gE h;cases i with
  |zero =>
   rw[Nat.pow_zero,cCQ];exact aZI _ _ _ _ _ _ _ h1
  |succ i =>
   have:=ih _ h2 i (by omega);rw[cDL,cDQ];exact this
theorem bMP:bFU 1464 1030=true:=by kernel_rfl
theorem aRN{s5 nZ:Nat}{W a b:Rat}(hle:4*nZ<=16*s5)(h5:ab ((s5:Rat)-W*Oa 5)<=a)(Uf:ab ((nZ:Rat)-W*Oa 239)<=b):ab (((16*s5-4*nZ:Nat):Rat)-W*pi)<=16*a+4*b:=by
 have hc:((16*s5-4*nZ:Nat):Rat)+4*(nZ:Rat)=16*(s5:Rat):=by exact_mod_cast(show 16*s5-4*nZ+4*nZ=16*s5 by omega)
 unfold pi;rw[bY]at *;grind
theorem Pw{m k:Int}{i:Nat}(hi:i<1030)(hm:0<m)(aSB:m<9007199254740992):1/4611686018427387904<=ab ((m:Rat)*((2^i:Nat):Rat)/9007199254740992-(k:Rat)*pi):=by
 have h:=bMP;unfold bFU at h;have h5:=It (n:=5) (by omega) 1464 20 20 (by omega);have Uf:=It (n:=239) (by omega) 1464 10 10 (by omega);generalize hw:(1464:Nat)=w at *;generalize Zu 5 w 20 20=A at *;generalize Zu 239 w 10 10=B at *;obtain⟨t5,s5⟩:=A;obtain⟨t239,nZ⟩:=B;dsimp only at *;obtain⟨bQX,h⟩:=gE h;obtain⟨z5,h⟩:=gE h;obtain⟨aVX,h⟩:=gE h;rw[fT,fT,fT]at h;obtain⟨q1,h⟩:=gE h;obtain⟨q2,h⟩:=gE h;have q1:=bZB q1;have q2:=bZB q2;have h5:=h5 (bZB z5);have Uf:=Uf (bZB aVX);obtain⟨p,q,p',q',hg⟩:=aSQ _ _ h i hi;have aPX:ab (((16*s5-4*nZ:Nat):Rat)-((2^w:Nat):Rat)*pi)<=524288:=by
  have:=aRN (cAL bQX) h5 Uf;refine cDS this ?_;have n1:((2*(20*20):Nat):Rat)=800:=by norm_cast
  have n2:((2*(10*10):Nat):Rat)=200:=by norm_cast
  rw[n1,n2];grind
 generalize 16*s5-4*nZ=P at *;have aHO:=Wd w (by omega);have lo:((P/2^64:Nat):Rat)<=((2^(w-64):Nat):Rat)*pi:=by
  have:2^64*(P/2^64)<=P-2^40:=by
   have:=Nat.mul_div_le (P-2^40) (2^64);rwa [q2]at this
  have hz:P/2^64=0\/2^64*(P/2^64)+2^40<=P:=by omega
  rcases hz with hz |h2
  ·rw[hz];have h3:(0:Rat)<=((2^(w-64):Nat):Rat):=by exact_mod_cast cEN _
   have:=aI h3 (cDU (show 0<pi from by have:=iT.1;grind));have z:((0:Nat):Rat)=0:=by norm_cast
   rw[z];exact this
  ·have h3:((2^64:Nat):Rat)*((P/2^64:Nat):Rat)+((2^40:Nat):Rat)<=(P:Rat):=by exact_mod_cast h2
   rw[aHO,cFK,bY]at aPX;have n1:((2^64:Nat):Rat)=18446744073709551616:=by norm_cast
   have n2:((2^40:Nat):Rat)=1099511627776:=by norm_cast
   rw[n1]at aPX h3;rw[n2]at h3;refine bP (q:=18446744073709551616) (by grind) ?_;generalize ((2^(w-64):Nat):Rat)=W at *;grind
 have aER:((2^(w-64):Nat):Rat)*pi<=((P/2^64:Nat):Rat)+1:=by
  have:P+2^40<2^64*(P/2^64+1):=by
   have:=Nat.lt_mul_div_succ (P+2^40) (show 0<2^64 by omega);rwa [q1]at this
  have h3:(P:Rat)+((2^40:Nat):Rat)<((2^64:Nat):Rat)*(((P/2^64:Nat):Rat)+1):=by exact_mod_cast this
  rw[aHO,cFK,bY]at aPX;have n1:((2^64:Nat):Rat)=18446744073709551616:=by norm_cast
  have n2:((2^40:Nat):Rat)=1099511627776:=by norm_cast
  rw[n1]at aPX h3;rw[n2]at h3;refine bP (q:=18446744073709551616) (by grind) ?_;generalize ((2^(w-64):Nat):Rat)=W at *;grind
 have bHE:=aSL hg lo aER (k:=k) hm aSB;have eD:((2^(w-64):Nat):Rat)=((2^(w-64-62):Nat):Rat)*4611686018427387904:=by
  have:2^(w-64)=2^(w-64-62)*2^62:=by rw[<-cDP];congr 1;omega
  rw[this,cFK];congr 1
 have eX:((2^(w-64):Nat):Rat)=((2^(w-64-53):Nat):Rat)*9007199254740992:=by
  have:2^(w-64)=2^(w-64-53)*2^53:=by rw[<-cDP];congr 1;omega
  rw[this,cFK];congr 1
 have aMK:(0:Rat)<((2^(w-64):Nat):Rat):=by exact_mod_cast cD
 have hWp2:(0:Rat)<((2^(w-64-62):Nat):Rat):=by exact_mod_cast cD
 have e:(m:Rat)*((2^i*2^(w-64-53):Nat):Rat)-(k:Rat)*(((2^(w-64):Nat):Rat)*pi)=((2^(w-64):Nat):Rat)*((m:Rat)*((2^i:Nat):Rat)/9007199254740992-(k:Rat)*pi):=by
  rw[cFK,eX];grind
 rw[e,dV,bQ (cDU aMK)]at bHE;refine bP aMK ?_;rw[eD]at bHE ⊢;grind
end R
namespace R
def bCA(x:Rat):Prop:=∃m e:Int,0<m/\m<9007199254740992/\-53<=e/\e<=971/\(x=(m:Rat)*pz e\/x=-((m:Rat)*pz e))
theorem Xe{x:Rat}(h:bCA x){j:Nat}(hj:j=1\/j=2)(k:Int):1/4611686018427387904<=ab (((2^j:Nat):Rat)*x-(k:Rat)*pi):=by
 obtain⟨m,e,m0,m1,e0,e1,hx⟩:=h;obtain⟨i,hi⟩:=cDO (show 0<=e+53+(j:Int) by omega);have ep:((2^j:Nat):Rat)*((m:Rat)*pz e)=(m:Rat)*((2^i:Nat):Rat)/9007199254740992:=by
  have h1:pz (e+53+(j:Int))=((2^i:Nat):Rat):=by rw[hi,iS]
  rw[dZ,iK]at h1;have h2:pz 53=9007199254740992:=by rw[show(53:Int)=((53:Nat):Int)from rfl,iS];norm_cast
  rw[h2]at h1;rw[<-h1];grind
 rcases hx with rfl |rfl
 ·have:=Pw (i:=i) (k:=k) (by omega) m0 m1;rw[ep];exact this
 ·have:=Pw (i:=i) (k:=-k) (by omega) m0 m1;rw[<-ep,cJG]at this;have e2:ab (((2^j:Nat):Rat)*-((m:Rat)*pz e)-(k:Rat)*pi)=ab (((2^j:Nat):Rat)*((m:Rat)*pz e) - -(k:Rat)*pi):=by rw[<-iL];congr 1;grind
  rw[e2];exact this
def pC(x:Rat)(k:Int):Prop:=ab (x-(k:Rat)*(pi/2))<=pi/4+1/36893488147419103232
def Fit(x:Rat):Prop:=bCA x\/ab x<=3/4
theorem Sq{x:Rat}(h:ab x<=3/4){k:Int}(hk:pC x k):k=0:=by
 obtain⟨p1,p2⟩:=iT;unfold pC at hk;rw[bY]at hk h;refine Classical.byContradiction fun Fj=>?_
 by_cases c:1<=k
 ·have c1:(1:Rat)<=(k:Rat):=by exact_mod_cast c
  have:=aI (show 0<=(k:Rat)-1 by grind) (show 0<=pi by grind);grind
 ·have c1:(k:Rat)<=-1:=by
   have:(k:Rat)<=((-1:Int):Rat):=Rat.intCast_le_intCast.2 (by omega);rwa [show((-1:Int):Rat)=-1 by norm_cast]at this
  have:=aI (show 0<=-1-(k:Rat) by grind) (show 0<=pi by grind);grind
theorem aCY{x:Rat}(h:Fit x){k l:Int}(hk:pC x k)(hl:pC x l):¬k<l:=by
 intro jM;rcases h with h |h
 ·obtain⟨p1,p2⟩:=iT;unfold pC at hk hl;rw[bY]at hk hl
  by_cases e:l=k+1
  ·subst e;have c1:((k+1:Int):Rat)=(k:Rat)+1:=by norm_cast
   rw[c1]at hl;have n:=Xe h (j:=2) (Or.inr rfl) (2*k+1);have c2:((2*k+1:Int):Rat)=2*(k:Rat)+1:=by norm_cast
   have c3:((2^2:Nat):Rat)=4:=by norm_cast
   rw[c2,c3]at n;have:ab (4*x-(2*(k:Rat)+1)*pi)<=1/9223372036854775808:=by rw[bY];constructor <;> grind
   grind
  ·have c1:(k:Rat)+2<=(l:Rat):=by
    have:((k+2:Int):Rat)<=(l:Rat):=by exact_mod_cast(show k+2<=l by omega)
    rwa [show((k+2:Int):Rat)=(k:Rat)+2 by norm_cast]at this
   have:=aI (show 0<=(l:Rat)-(k:Rat)-2 by grind) (show 0<=pi by grind);grind
 ·have:=Sq h hk;have:=Sq h hl;omega
theorem Zy{x:Rat}(h:Fit x){k l:Int}(hk:pC x k)(hl:pC x l):k=l:=by
 have:=aCY h hk hl;have:=aCY h hl hk;omega
theorem aKM{x:Rat}(h:bCA x)(k:Int):1/9223372036854775808<=ab (x-(k:Rat)*(pi/2)):=by
 have n:=Xe h (j:=1) (Or.inl rfl) k;have c3:((2^1:Nat):Rat)=2:=by norm_cast
 have e:((2^1:Nat):Rat)*x-(k:Rat)*pi=2*(x-(k:Rat)*(pi/2)):=by rw[c3];grind
 rw[e,dV,bQ (show(0:Rat)<=2 by grind)]at n;grind
theorem Ge{x:Rat}{k:Int}(h:pC x k):ab (x-(k:Rat)*(pi/2))<=79/100:=by
 obtain⟨p1,p2⟩:=iT;unfold pC at h;grind
theorem aBS(r:Rat):cs (ab r)=cs r:=by
 unfold ab;split
 ·rfl
 ·rw[aBQ]
theorem aAF{r:Rat}(h:ab r<=1):sn (ab r)=ab (sn r):=by
 by_cases h0:0<=r
 ·rw[bQ h0]at *;rw[bQ (Ly h0 h)]
 ·have e:ab r=-r:=by unfold ab;rw[if_neg h0]
  rw[e]at h;rw[e,<-iL (sn r),<-Ay,bQ (Ly (by grind) h)]
theorem Yo{r:Rat}(h:ab r<=4/5):17/25<=cs r/\cs r<=1:=by
 have h0:=aT r;obtain⟨c1,c2⟩:=Gr h0 (by grind);have m:=cT h0 h h0 h;have m2:=aI h0 h0;have m3:=aI m2 (show 0<=6-ab r*ab r by grind);rw[aBS]at c1 c2;generalize ab r=a at *;constructor <;> grind
theorem aDO{r:Rat}(h0:0<=r)(h:r<=4/5):4/5*r<=sn r/\sn r<=r:=by
 have h1:r<=1:=by grind
 refine⟨?_,aDN h0 h1⟩;have c1:=(Ax h0 h1).1;have m:=cT h0 h h0 h;have m3:=aI h0 (show 0<=16/25-r*r by grind);grind
theorem aKO{a b:Int}(h:a<b):pz a<pz b:=by
 have h1:=cK (show a+1<=b by omega);have h2:=dK a;rw[iM]at h1;grind
theorem aGL{a b:Int}:pz a<=pz b↔a<=b:=by
 constructor
 ·intro h;refine Int.not_lt.1 fun hn=>?_
  have:=aKO hn;grind
 ·exact cK
theorem xU{a b:Int}:pz a<pz b↔a<b:=by
 constructor
 ·intro h;refine Int.not_le.1 fun hn=>?_
  have:=cK hn;grind
 ·exact aKO
theorem Eh:pz 1=2:=by rw[show(1:Int)=0+1 by rfl,iM,fA];grind
theorem oW(a:Int):pz (a-1)*2=pz a:=by
 have:=iM (a-1);rw[show a-1+1=a by omega]at this;grind
theorem gN(a:Int){n:Nat}{c:Rat}(hc:((2^n:Nat):Rat)=c):pz (a-(n:Int))*c=pz a:=by
 have:=dZ (a-(n:Int)) n;rw[show a-(n:Int)+(n:Int)=a by omega,hc]at this;exact this.symm
end R
namespace R
open W.TSums
theorem Fq{f:Nat->Rat}:∀{n:Nat},(∀k,k<n->f k=0)->sum f n=0
 |0,_=>rfl
 |n+1,h=>by rw[eB,Fq fun k hk=>h k (by omega),h n (by omega)];grind
theorem Ra(g:Nat->Rat)(k f:Nat):sum (fun i=>g (k+i)) (f+1)=g k+sum (fun i=>g (k+1+i)) f:=by
 rw[Nat.add_comm f 1,lI];have e:(fun i=>g (k+(1+i)))=fun i=>g (k+1+i):=funext fun i=>by rw[Nat.add_assoc]
 rw[e,eB];have z:sum (fun i=>g (k+i)) 0=0:=rfl;rw[z,bZO];grind
def gC(u W i:Nat):Rat:=cc i*(sq u W i:Rat)
def gS(u W i:Nat):Rat:=ss i*(sq u W i:Rat)
theorem Fp{u W:Nat}(hu:u<=W):∀f k a b c d,c<=a->d<=b->(k%4=1\/k%4=2->c+sq u W k<=a)->(k%4=2\/k%4=3->d+sq u W k<=b) ->
  (tay u W f k a b c d).2.2.1<=(tay u W f k a b c d).1/\(tay u W f k a b c d).2.2.2<=(tay u W f k a b c d).2.1 /\
  ((tay u W f k a b c d).1:Rat)-((tay u W f k a b c d).2.2.1:Rat)=(a:Rat)-(c:Rat)+sum (fun i=>gC u W (k+i)) f /\
  ((tay u W f k a b c d).2.1:Rat)-((tay u W f k a b c d).2.2.2:Rat)=(b:Rat)-(d:Rat)+sum (fun i=>gS u W (k+i)) f
 |0,k,a,b,c,d,h1,h2,_,_=>by
  have z1:sum (fun i=>gC u W (k+i)) 0=0:=rfl;have z2:sum (fun i=>gS u W (k+i)) 0=0:=rfl;refine⟨h1,h2,?_,?_⟩
  ·show(a:Rat)-(c:Rat)=_;rw[z1];grind
  ·show(b:Rat)-(d:Rat)=_;rw[z2];grind
 |f+1,k,a,b,c,d,h1,h2,h3,h4=>by
  have hs:=Lv hu k;have hm:k%4<4:=cAV _ (by decide);unfold tay
  by_cases hz:sq u W k=0
  ·have za:=Lx hz;rw[if_pos hz];have z1:sum (fun i=>gC u W (k+i)) (f+1)=0:=Fq fun i _=>by unfold gC;rw[za];simp
   have z2:sum (fun i=>gS u W (k+i)) (f+1)=0:=Fq fun i _=>by unfold gS;rw[za];simp
   rw[z1,z2];refine⟨h1,h2,?_,?_⟩
   ·show(a:Rat)-(c:Rat)=_;grind
   ·show(b:Rat)-(d:Rat)=_;grind
  ·rw[if_neg hz,Ra (gC u W) k f,Ra (gS u W) k f];have e4:(k+1)%4=(k%4+1)%4:=by omega
   by_cases c0:k%4=0
   ·rw[if_pos c0];obtain⟨r1,r2,r3,r4⟩:=Fp hu f (k+1) (a+sq u W k) b c d (by omega) h2 (fun _=>by omega) (fun h=>by omega);refine⟨r1,r2,?_,?_⟩
    ·rw[r3,cIQ];have:gC u W k=(sq u W k:Rat):=by unfold gC cc;rw[if_pos c0];grind
     rw[this];grind
    ·rw[r4];have:gS u W k=0:=by unfold gS ss;rw[bI,bI];grind
     rw[this];grind
   ·rw[if_neg c0]
    by_cases c1:k%4=1
    ·rw[if_pos c1];obtain⟨r1,r2,r3,r4⟩:=Fp hu f (k+1) a (b+sq u W k) c d h1 (by omega) (fun _=>by have:=h3 (Or.inl c1);omega) (fun _=>by omega);refine⟨r1,r2,?_,?_⟩
     ·rw[r3];have:gC u W k=0:=by unfold gC cc;rw[if_neg c0,bI];grind
      rw[this];grind
     ·rw[r4,cIQ];have:gS u W k=(sq u W k:Rat):=by unfold gS ss;rw[if_pos c1];grind
      rw[this];grind
    ·rw[if_neg c1]
     by_cases c2:k%4=2
     ·rw[if_pos c2];have g1:=h3 (Or.inr c2);have g2:=h4 (Or.inl c2);obtain⟨r1,r2,r3,r4⟩:=Fp hu f (k+1) a b (c+sq u W k) d (by omega) h2 (fun h=>by omega) (fun _=>by omega);refine⟨r1,r2,?_,?_⟩
      ·rw[r3,cIQ];have:gC u W k=-(sq u W k:Rat):=by unfold gC cc;rw[if_neg c0,if_pos c2];grind
       rw[this];grind
      ·rw[r4];have:gS u W k=0:=by unfold gS ss;rw[if_neg c1,bI];grind
       rw[this];grind
     ·rw[if_neg c2];have g2:=h4 (Or.inr (by omega));obtain⟨r1,r2,r3,r4⟩:=Fp hu f (k+1) a b c (d+sq u W k) h1 (by omega) (fun h=>by omega) (fun h=>by omega);refine⟨r1,r2,?_,?_⟩
      ·rw[r3];have:gC u W k=0:=by unfold gC cc;rw[if_neg c0,if_neg c2];grind
       rw[this];grind
      ·rw[r4,cIQ];have:gS u W k=-(sq u W k:Rat):=by unfold gS ss;rw[if_neg c1,aR];grind
       rw[this];grind
theorem Io{x y:Nat}(h:y<=x):((x-y:Nat):Rat)=(x:Rat)-(y:Rat):=by
 have:((x-y:Nat):Rat)+(y:Rat)=(x:Rat):=by exact_mod_cast(show x-y+y=x by omega)
 grind
theorem Lu{u w:Nat}(hu:u<=2^w):(xR u w:Rat)=sum (fun k=>ss k*(sq u (2^w) k:Rat)) (w+1)/\(xS u w:Rat)=sum (fun k=>cc k*(sq u (2^w) k:Rat)) (w+1):=by
 obtain⟨r1,r2,r3,r4⟩:=Fp hu (w+1) 0 0 0 0 0 (bYN _) (bYN _) (fun h=>by omega) (fun h=>by omega);unfold xR xS;rw[Io r1,Io r2,r3,r4];have z:((0:Nat):Rat)=0:=by norm_cast
 have e1:sum (fun i=>gC u (2^w) (0+i)) (w+1)=sum (fun k=>cc k*(sq u (2^w) k:Rat)) (w+1):=lK fun k _=>by rw[bYP];rfl
 have e2:sum (fun i=>gS u (2^w) (0+i)) (w+1)=sum (fun k=>ss k*(sq u (2^w) k:Rat)) (w+1):=lK fun k _=>by rw[bYP];rfl
 rw[e1,e2,z];constructor <;> grind
end R
namespace M
open Go AI W
theorem aFY(p:Int×Int):R.ab (R.qz p)=(p.1.natAbs:Rat)*R.pz p.2:=by
 unfold R.qz;rw[R.dV,R.bQ (cDU (R.dK p.2))];congr 1;unfold R.ab
 by_cases hz:0<=p.1
 ·rw[if_pos (by exact_mod_cast hz),<-cIW];congr 1;omega
 ·rw[if_neg (by intro hc;exact hz (by exact_mod_cast hc)),<-cIW,<-cJG];congr 1;omega
theorem Xp(w:Int)(hw:65<=w):∀f h:Nat,4<=h->(h=4\/16*(h:Int)-16<w)->THalvings.hlv w f h=4\/16*(THalvings.hlv w f h:Int)-16<w
 |0,h,_,hh=>hh
 |f+1,h,h4,hh=>by
  unfold THalvings.hlv;split
  ·rename_i hc;refine Xp w hw f (h+1) (by omega) (Or.inr ?_);have:4*(h:Int)*h>=4*4*h:=by
    have:=cAX (show(4*4:Int)<=4*h by omega) (show(0:Int)<=h by omega);omega
   omega
  ·exact hh
theorem Gv{x:Int×Int}{p:Int}(h0:x.1≠0)(h1:bG x<=0)(ht:-1200<=bG x)(hp:1<=p/\p<=67100) :
  aZ.jL x=bG x/\aZ.w0 x p=p+80-bG x/\4<=aZ.hv x p/\aZ.hv x p<=204/\(aZ.hv x p:Int)+50<=p+80-bG x/\aZ.w1 x p=p+80-bG x+2*(aZ.hv x p:Nat)/\aZ.w2 x p=p+80-bG x+3*(aZ.hv x p:Nat):=by
 have e1:aZ.jL x=bG x:=by unfold aZ.jL bG;rw[if_neg h0]
 have e2:aZ.w0 x p=p+80-bG x:=by
  unfold aZ.w0;rw[e1];split <;> omega
 obtain⟨h3,h4⟩:=aZ.Ua (aZ.w0 x p) 200 4;have h5:=Xp (aZ.w0 x p) (by omega) 200 4 (by omega) (Or.inl rfl);have eh:THalvings.hlv (aZ.w0 x p) 200 4=aZ.hv x p:=rfl;rw[eh]at h3 h4 h5;refine⟨e1,e2,h4,h3,?_,?_,?_⟩
 ·omega
 ·unfold aZ.w1;omega
 ·unfold aZ.w2 aZ.w1;omega
theorem aSO(x:Int×Int)(n:Int):(wR.aPY x n:Rat)<=R.pz n*R.ab (R.qz x)/\R.pz n*R.ab (R.qz x)<(wR.aPY x n:Rat)+1:=by
 rw[aFY];have e:R.pz n*((x.1.natAbs:Rat)*R.pz x.2)=(x.1.natAbs:Rat)*R.pz (x.2+n):=by rw[R.iK];grind
 rw[e];unfold wR.aPY;split
 ·rename_i h;obtain⟨k,hk⟩:=cDO h;rw[hk,R.iS,cCJ,cFK];constructor <;> grind
 ·rename_i h;obtain⟨k,hk⟩:=cDO (show 0<=-(x.2+n) by omega);have hp:0<2^k:=cBM (by decide);obtain⟨d1,d2⟩:=R.rT x.1.natAbs hp;rw[hk,cCJ,show x.2+n=-(k:Int) by omega,R.vZ];have h2:=R.Ih k;have h3:=R.wI k;have m1:=R.aI (cDU h3) (show 0<=(x.1.natAbs:Rat)-((2^k:Nat):Rat)*((x.1.natAbs/2^k:Nat):Rat) by grind);have m2:=cEE h3 (show 0<((2^k:Nat):Rat)*((x.1.natAbs/2^k:Nat):Rat)+((2^k:Nat):Rat)-(x.1.natAbs:Rat) by grind);generalize ((x.1.natAbs/2^k:Nat):Rat)=q at *;generalize ((2^k:Nat):Rat)=K at *;generalize (x.1.natAbs:Rat)=m at *;generalize R.hf k=g at *;have e1:g*(K*q)=q:=by rw[<-cJP,h2];grind
  constructor <;> grind
theorem Yv{x:Int×Int}{p:Int}(h0:x.1≠0)(hT:R.ab (R.qz x)<=1)(h1:bG x<=0)(ht:-1200<=bG x)(hp:1<=p/\p<=67100) :
  aZ.bU x p<=2^(aZ.w1 x p).toNat /\
  R.ab (((aZ.Dr x p).1:Rat)-R.pz (aZ.w2 x p)*R.sn (R.ab (R.qz x)))<=R.pz (2*(aZ.hv x p:Nat)+18) /\
  R.ab (((aZ.Dr x p).2:Rat)-R.pz (aZ.w2 x p)*R.cs (R.ab (R.qz x)))<=R.pz (2*(aZ.hv x p:Nat)+18):=by
 obtain⟨e1,e2,h4,h5,h6,bML,bMK⟩:=Gv h0 h1 ht hp;obtain⟨u1,u2⟩:=aSO x (aZ.w1 x p);have hT0:=R.aT (R.qz x);unfold aZ.Dr;have eU:wR.aPY x (aZ.w1 x p)=aZ.bU x p:=rfl;rw[eU]at u1 u2;generalize aZ.bU x p=u at *;generalize aZ.hv x p=h at *;generalize R.ab (R.qz x)=T at *;obtain⟨n,hn⟩:=cDO (show 0<=aZ.w1 x p by omega);have bEB:aZ.w2 x p=((n+h:Nat):Int):=by omega
 rw[hn,R.iS]at u1 u2;rw[hn,bEB,R.iS,cCJ,cCJ];have hu:u<=2^n:=by
  have hW:(0:Rat)<=((2^n:Nat):Rat):=by exact_mod_cast cEN _
  have:=R.aI hW (show 0<=1-T by grind);have:(u:Rat)<=((2^n:Nat):Rat):=by grind
  exact_mod_cast this
 have Tv:u<=2^(n+h):=bZJ hu (cBN (by decide) (by omega));obtain⟨s1,s2⟩:=R.Lu Tv;have r:=R.aFS hT0 hT u1 u2 (h:=h) (by omega) (by omega) (by omega) s1 s2;have b:((4^h*(2*(n+h)+10):Nat):Rat)<=R.pz (2*(h:Nat)+18):=by
  rw[show 2*(h:Int)+18=((2*h+18:Nat):Int) by omega,R.iS];have:4^h*(2*(n+h)+10)<=2^(2*h+18):=by
   rw[cDP,<-R.Bo];exact cBB _ (by have:(2:Nat)^18=262144:=rfl;omega)
  exact_mod_cast this
 exact⟨hu,cDS r.1 b,cDS r.2 b⟩
end M
namespace M
open Go AI W
theorem vV(up:Bool)(p:Int×Int)(n:Nat):bl (shD up p n).1.natAbs<=n+1:=by
 unfold shD dC.pM;refine bZJ (zB _ _) ?_;split
 ·dsimp only;omega
 ·rename_i h;dsimp only;exact aBO up p.1 _ n (by omega)
theorem Aq{p:Int×Int}{E:Int}(h0:p.1≠0)(h:R.ab (R.qz p)<R.pz E):bG p<E:=by
 have:=(nY h0).1;refine R.xU.1 ?_;grind
theorem yV{p:Int×Int}{E:Int}(h0:p.1≠0)(h:R.pz E<=R.ab (R.qz p)):E<=bG p:=by
 have:=(nY h0).2;have:R.pz E<R.pz (bG p+1):=by grind
 have:=R.xU.1 this;omega
theorem qK{p:Int×Int}{E:Int}(h0:p.1≠0)(h:R.ab (R.qz p)<=R.pz E):bG p<=E:=by
 have:=(nY h0).1;refine R.aGL.1 ?_;grind
theorem aUJ{p:Int×Int}(h:p.1≠0):R.qz p≠0:=by
 intro hz;have h1:=(nY h).1;have h2:=R.dK (bG p);rw[hz,R.bQ (by grind)]at h1;grind
theorem Gf{p:Int×Int}(h:R.qz p≠0):p.1≠0:=fun hz=>h (R.pO hz)
theorem Ee{p:Int×Int}:0<R.qz p↔0<p.1:=by
 have h:=R.dK p.2;unfold R.qz;constructor
 ·intro hp;refine Int.not_le.1 fun hn=>?_
  have c:(p.1:Rat)<=0:=by exact_mod_cast hn
  have:=R.aI (show 0<=-(p.1:Rat) by grind) (cDU h);grind
 ·intro hp;have c:(0:Rat)<(p.1:Rat):=by exact_mod_cast hp
  exact cEE c h
theorem Me{p:Int×Int}:R.qz p<0↔p.1<0:=by
 have h:=Ee (p:=(-p.1,p.2));rw[rP]at h;constructor
 ·intro hp;have:=h.1 (by grind);dsimp only at this;omega
 ·intro hp;have:=h.2 (by dsimp only;omega);grind
theorem Va{p q:Int×Int}{E:Int}{n:Nat}(hp:nC p)(hq:nC q)(h1:E<=p.2)(h2:E<=q.2)(v1:R.ab (R.qz p)<=R.pz (E+n))(v2:R.ab (R.qz q)<=R.pz (E+n))(hn:n<=500000)(hE:-1048576<=E)(hE2:E+n<=1048000):cB.jW p q=true:=by
 unfold cB.jW
 by_cases z1:p.1=0
 ·rw[dqT z1,cEJ]
 by_cases z2:q.1=0
 ·rw[dqT z2,cEJ,cEX]
 rw[dqF z1,dqF z2,cAO,cAO];obtain⟨m1,m2⟩:=Lg p q;have hm:E<=cB.iV p q:=by unfold cB.iV;split <;> omega
 have aSB:cB.iV p q<=1048576/\-1048576<=cB.iV p q:=by have:=hp.2.1;have:=hq.2.1;unfold cB.iV;split <;> omega
 have qX:R.qz (cB.pU p q,cB.iV p q)=R.qz p:=by
  unfold cB.pU R.qz;dsimp only;have e1:R.pz p.2=R.pz (cB.iV p q)*((2^(p.2-cB.iV p q).toNat:Nat):Rat):=by rw[<-R.dZ];congr 1;omega
  rw[e1,cJA,cIW];grind
 have qY:R.qz (cB.pT p q,cB.iV p q)=R.qz q:=by
  unfold cB.pT R.qz;dsimp only;have e1:R.pz q.2=R.pz (cB.iV p q)*((2^(q.2-cB.iV p q).toNat:Nat):Rat):=by rw[<-R.dZ];congr 1;omega
  rw[e1,cJA,cIW];grind
 have qS:R.qz (cB.pU p q+cB.pT p q,cB.iV p q)=R.qz p+R.qz q:=by
  rw[<-qX,<-qY];unfold R.qz;dsimp only;rw[cKB];grind
 have vS:R.ab (R.qz (cB.pU p q+cB.pT p q,cB.iV p q))<=R.pz (E+n+1):=by
  rw[qS,R.iM];have:=R.xM (R.qz p) (R.qz q);grind
 rw[<-qX]at v1;rw[<-qY]at v2;generalize cB.pU p q=X at *;generalize cB.pT p q=Y at *;generalize cB.iV p q=m at *;have bits:∀(z:Int) (F:Int),R.ab (R.qz (z,m))<=R.pz F->bl z.natAbs=0\/m+(bl z.natAbs:Nat)<=F+1:=by
  intro z F hv
  by_cases hz:z=0
  ·left;rw[hz];rfl
  ·right;have:=qK (p:=(z,m)) hz hv;unfold bG at this;dsimp only at this;omega
 have b1:=bits X _ v1;have b2:=bits Y _ v2;have b3:=bits (X+Y) _ vS;have f:∀z:Int,bl z.natAbs<=524288->fit z.natAbs=true:=fun z h=>dqT h
 rw[f X (by omega),f Y (by omega),f (X+Y) (by omega),kZ (by omega) (by omega)];rfl
theorem zA{p:Int×Int}(h:nC p):nC ((p.1.natAbs:Int),p.2):=by
 obtain⟨h1,h2,h3,h4⟩:=h;exact⟨by dsimp only;rw[cED];exact h1,h2,fun hz=>h3 (by dsimp only at hz;omega),fun hz=>by dsimp only at hz ⊢;have:=h4 (by omega);omega⟩
theorem Eg(p:Int×Int):R.qz ((p.1.natAbs:Int),p.2)=R.ab (R.qz p):=by
 rw[aFY];unfold R.qz;dsimp only;rw[cIW]
theorem aQH(p:Int×Int):bG ((p.1.natAbs:Int),p.2)=bG p:=by
 unfold bG;dsimp only;rw[cED]
theorem oA:R.qz (1,0)=1:=by
 unfold R.qz;dsimp only;rw[R.fA];have:((1:Int):Rat)=1:=by norm_cast
 rw[this];grind
theorem Ct:nC (1,0):=⟨by decide +kernel,⟨by decide,by decide⟩,fun h=>absurd h (by decide),fun _=>by decide⟩
theorem aMY{a f:Nat}{w q:Int}{V E:Rat}(hq:1<=q)(hE:R.ab ((a:Rat)-R.pz w*V)<=E)(hf:E<=(f:Rat))(hfa:(f:Rat)+E<=R.pz w*V)(hV:0<=V) :
  f<=a/\R.qz (shD false (cF.Kb a f w) q)<=V-R.pz (-w)*f+R.pz (-w)*E/\V-R.pz (-w)*f-R.pz (-w)*E-R.pz (1-q)*V<=R.qz (shD false (cF.Kb a f w) q) /\
  V+R.pz (-w)*f-R.pz (-w)*E<=R.qz (shD true (cF.Dw a f w) q)/\R.qz (shD true (cF.Dw a f w) q)<=V+R.pz (-w)*f+R.pz (-w)*E+R.pz (1-q)*(2*V):=by
 rw[R.bY]at hE;have bES:f<=a:=by
  have:(f:Rat)<=(a:Rat):=by grind
  exact_mod_cast this
 refine⟨bES,?_⟩;have g:=R.dK (-w);have gi:=R.Ta w;have n1:=(Hs false (cF.Kb a f w) hq).1 rfl;have n2:=(Hs true (cF.Dw a f w) hq).2 rfl;have q1:R.qz (cF.Kb a f w)=((a:Rat)-(f:Rat))*R.pz (-w):=by
  unfold cF.Kb;rw[qB,cIW,R.Io bES]
 have q2:R.qz (cF.Dw a f w)=((a:Rat)+(f:Rat))*R.pz (-w):=by
  unfold cF.Dw;rw[qB,cIW,cIQ]
 rw[q1]at n1;rw[q2]at n2;have a0:(0:Rat)<=(a:Rat)-(f:Rat):=by grind
 have f0:(0:Rat)<=(f:Rat):=by exact_mod_cast cEN f
 rw[R.bQ (R.aI a0 (cDU g))]at n1;rw[R.bQ (R.aI (show(0:Rat)<=(a:Rat)+(f:Rat) by grind) (cDU g))]at n2;have eV:R.pz (-w)*(R.pz w*V)=V:=by rw[<-cJP,cKY (R.pz (-w)),gi];grind
 have m1:=R.aI (cDU g) (show 0<=E-((a:Rat)-R.pz w*V) by grind);have m2:=R.aI (cDU g) (show 0<=E+((a:Rat)-R.pz w*V) by grind);have m3:=R.aI (cDU g) (show 0<=R.pz w*V-((f:Rat)+E) by grind);have m4:=R.aI (cDU g) (show 0<=(f:Rat)-E by grind);have e0:R.pz w*V=R.pz w*V:=rfl;generalize R.pz w*V=U at *;generalize R.pz (-w)=G at *;have h0:=R.dK (1-q);generalize R.pz (1-q)=H at *;have k1:=R.aI (cDU h0) (show 0<=V-((a:Rat)-(f:Rat))*G by grind);have k2:=R.aI (cDU h0) (show 0<=2*V-((a:Rat)+(f:Rat))*G by grind);refine⟨?_,?_,?_,?_⟩ <;> grind
theorem aFR(p:Int×Int):R.qz (cF.zO p)<=1/\R.qz (cF.zO p)<=R.qz p/\(R.qz (cF.zO p)=R.qz p\/R.qz (cF.zO p)=1)/\(∀v,v<=R.qz p->v<=1->v<=R.qz (cF.zO p)):=by
 unfold cF.zO
 by_cases h:0<cI p (1,0)
 ·rw[dqT h,cond_true,oA];have:=rU.1 h;rw[oA]at this;exact⟨cEZ,cDU this,Or.inr rfl,fun v _ h=>h⟩
 ·rw[dqF h,cond_false];have:R.qz p<=1:=by rw[<-oA];exact Rat.not_lt.1 fun hn=>h (rU.2 hn)
  exact⟨this,cEZ,Or.inl rfl,fun v h _=>h⟩
theorem aEC{p:Int×Int}(h:nC p):nC (cF.zO p):=by
 unfold cF.zO;cases decide (0<cI p (1,0))
 ·exact h
 ·exact Ct
theorem aNW{p:Int×Int}{n:Nat}(hn:1<=n)(h:bl p.1.natAbs<=n):bl (cF.zO p).1.natAbs<=n:=by
 unfold cF.zO;cases decide (0<cI p (1,0))
 ·exact h
 ·exact hn
theorem bFZ{x:Int×Int}{p:Int}{V:Rat}{a:Nat}(h0:x.1≠0)(h1:bG x<=0)(ht:-1200<=bG x)(hp:1<=p/\p<=67100)(hV:R.pz (bG x-1)<=V)(bPS:V<=1)
  (ha:R.ab ((a:Rat)-R.pz (aZ.w2 x p)*V)<=R.pz (2*(aZ.hv x p:Nat)+18)) :
  cE.aOA a (2^(2*aZ.hv x p+22)) (aZ.w2 x p) (p+32) /\
  nC (shD false (cF.Kb a (2^(2*aZ.hv x p+22)) (aZ.w2 x p)) (p+32)) /\
  R.qz (shD false (cF.Kb a (2^(2*aZ.hv x p+22)) (aZ.w2 x p)) (p+32))<=V-R.pz (bG x-p-270) /\
  V-R.pz (bG x-p-61)-R.pz (-p-31)*V<=R.qz (shD false (cF.Kb a (2^(2*aZ.hv x p+22)) (aZ.w2 x p)) (p+32)) /\
  V+R.pz (bG x-p-270)<=R.qz (shD true (cF.Dw a (2^(2*aZ.hv x p+22)) (aZ.w2 x p)) (p+32)) /\
  R.qz (shD true (cF.Dw a (2^(2*aZ.hv x p+22)) (aZ.w2 x p)) (p+32))<=V+R.pz (bG x-p-61)+R.pz (-p-31)*(2*V):=by
 obtain⟨e1,e2,h4,h5,h6,bML,bMK⟩:=Gv h0 h1 ht hp;generalize aZ.hv x p=h at *;generalize aZ.w2 x p=w at *;have tp:=R.dK (bG x-1);have V0:0<=V:=by grind
 have fE:((2^(2*h+22):Nat):Rat)=R.pz (2*(h:Nat)+22):=by rw[show 2*(h:Int)+22=((2*h+22:Nat):Int) by omega,R.iS]
 have l1:R.pz (2*(h:Nat)+18)<=R.pz (2*(h:Nat)+22):=R.cK (by omega);have l2:R.pz (2*(h:Nat)+22)+R.pz (2*(h:Nat)+18)<=R.pz w*V:=by
  have b1:R.pz (2*(h:Nat)+23)<=R.pz w*R.pz (bG x-1):=by rw[<-R.iK];exact R.cK (by omega)
  have b2:R.pz (2*(h:Nat)+23)=2*R.pz (2*(h:Nat)+22):=by rw[<-R.iM];congr 1
  have b3:=R.aI (cDU (R.dK w)) (show 0<=V-R.pz (bG x-1) by grind);grind
 have r:=aMY (a:=a) (f:=2^(2*h+22)) (w:=w) (q:=p+32) (V:=V) (E:=R.pz (2*(h:Nat)+18)) (by omega) ha (by rw[fE];exact l1) (by rw[fE];exact l2) V0;obtain⟨r0,r1,r2,r3,r4⟩:=r;rw[fE,<-R.iK,<-R.iK]at r1 r2 r3 r4;rw[show(1:Int)-(p+32)=-p-31 by omega]at r2 r4;have d1:R.pz (-w+(2*(h:Nat)+18))=R.pz (-w+(2*(h:Nat)+22))/16:=by
  have:=R.gN (-w+(2*(h:Nat)+22)) (n:=4) (c:=16) (by norm_cast);rw[show -w+(2*(h:Int)+22)-((4:Nat):Int)=-w+(2*(h:Nat)+18) by omega]at this;grind
 have d2:R.pz (bG x-p-270)<=R.pz (-w+(2*(h:Nat)+22))/16:=by rw[<-d1];exact R.cK (by omega)
 have d3:R.pz (-w+(2*(h:Nat)+22))*2<=R.pz (bG x-p-61):=by
  rw[cKY,<-R.iM];exact R.cK (by omega)
 rw[d1]at r1 r2 r3 r4;have dp:=R.dK (-w+(2*(h:Nat)+22));have ba:bl a<=70000:=by
  have:(a:Rat)<=R.pz (w+1):=by
   rw[R.bY]at ha;rw[R.iM];have b3:=R.aI (cDU (R.dK w)) (show 0<=1-V by grind);have:R.pz (2*(h:Nat)+18)<=R.pz w:=R.cK (by omega);grind
  obtain⟨n,hn⟩:=cDO (show 0<=w+1 by omega);rw[hn,R.iS]at this;have:a<=2^n:=by exact_mod_cast this
  refine bZJ (gD this) ?_;rw[Uu];omega
 have bf:bl (2^(2*h+22))<=500:=by rw[Uu];omega
 have bs:bl (a-2^(2*h+22))<=70000:=bZJ (gD (cEV _ _)) ba;have bt:bl (a+2^(2*h+22))<=70001:=bZJ (qV _ _) (by omega);have j1:jR ((a-2^(2*h+22):Nat):Int) (-w)=true:=kZ (by omega) (by rw[cED];omega);have j2:jR ((a+2^(2*h+22):Nat):Int) (-w)=true:=kZ (by omega) (by rw[cED];omega);have p1:nC (cF.Kb a (2^(2*h+22)) w):=jE j1 (by rw[cED];omega);have p2:nC (cF.Dw a (2^(2*h+22)) w):=jE j2 (by rw[cED];omega);have aUR:∀{z:Nat},bl z<=70001->nC (bW (z:Int) (-w))->bHS (bW (z:Int) (-w)):=by
  intro z hz hP;refine⟨hP,?_⟩;have hb:=zB (z:Int) (-w);rw[cED]at hb
  by_cases z0:(z:Int)=0
  ·rw[z0,iN];show(0:Int)+((bl (0:Int).natAbs:Nat):Int)<=1048000;decide +kernel
  ·have h2:=(xW (e:=-w) z0).2;have h3:=Qw (n:=z) (by omega);rw[cED]at h2;omega
 obtain⟨s1,s2⟩:=Rc (up:=false) (n:=p+32) (aUR (by omega) p1) (by omega);obtain⟨s3,s4⟩:=Rc (up:=true) (n:=p+32) (aUR bt p2) (by omega);refine⟨⟨by omega,by omega,⟨by omega,by omega⟩,s1,s3,s4⟩,s2,?_,?_,?_,?_⟩ <;> grind
end M
namespace M
open Go AI W
theorem aWL(up:Bool)(p:Int×Int){n:Int}(hn:bG p+1-n<=0):bG p+1-n<=(shD up p n).2:=by
 have key:∀z e:Int,bG p+1-n<=e->bG p+1-n<=(bW z e).2:=by
  intro z e he
  by_cases hz:z=0
  ·rw[hz,iN];exact hn
  ·have:=vB (e:=e) hz;omega
 unfold shD dC.pM;unfold bG at *;split
 ·exact key _ _ (by omega)
 ·exact key _ _ (by omega)
theorem aDS{up:Bool}{p:Int×Int}{n:Int}(h:(shD up p n).1≠0):bG p+1-n<=(shD up p n).2:=by
 have key:∀z e:Int,(bW z e).1≠0->bG p+1-n<=e->bG p+1-n<=(bW z e).2:=by
  intro z e h0 he;have:=vB (e:=e) (fun hz=>h0 (tK.2 hz));omega
 unfold shD at *;refine key _ _ h ?_;unfold dC.pM bG at *;split <;> (dsimp only;omega)
theorem aFX{p q:Int×Int}{E:Int}(h1:E<=p.2)(h2:E<=q.2)(h0:E<=0):E<=(cB.kI p q).2:=by
 have hm:E<=cB.iV p q:=by unfold cB.iV;split <;> omega
 unfold cB.kI;split
 ·exact h2
 ·split
  ·exact h1
  ·by_cases hz:cB.pU p q+cB.pT p q=0
   ·rw[hz,iN];exact h0
   ·have:=vB (e:=cB.iV p q) hz;omega
theorem aNY{p:Int×Int}{E F:Int}(h1:E<=p.2)(h2:R.ab (R.qz p)<=R.pz F):(bl p.1.natAbs:Int)<=F+1-E\/bl p.1.natAbs=0:=by
 by_cases h0:p.1=0
 ·right;rw[h0];rfl
 ·left;have:=qK h0 h2;unfold bG at this;omega
theorem Kk(k:Int):R.qz (-1,k)=-R.pz k:=by
 unfold R.qz;dsimp only;have:((-1:Int):Rat)=-1:=by norm_cast
 rw[this];grind
theorem Wu{k:Int}(h:-1048576<=k/\k<=1048576):nC (-1,k):=⟨by show bl (-1:Int).natAbs<=524288;decide +kernel,h,fun h=>absurd (show(-1:Int)=0 from h) (by decide),fun _=>by show(-1:Int)%2=1;decide⟩
theorem aDB{x:Int×Int}(h0:x.1≠0)(hT:R.ab (R.qz x)<=4/5):bG x<=-1:=by
 have:R.ab (R.qz x)<R.pz 0:=by rw[R.fA];grind
 have:=Aq h0 this;omega
structure bBZ(x:Int×Int)(p:Int):Prop where
 pl:nC (gL.uY x p)
 ph:nC (gL.uG x p)
 bl:bl (gL.uY x p).1.natAbs<=80000
 bh:M.bl (gL.uG x p).1.natAbs<=80000
 lo:R.qz (gL.uY x p)<=R.sn (R.ab (R.qz x))-R.pz (bG x-p-270)
 hi:R.sn (R.ab (R.qz x))<=R.qz (gL.uG x p)
 wd:R.qz (gL.uG x p)-R.qz (gL.uY x p)<=R.pz (-p-1)*R.ab (R.qz x)
 one:R.qz (gL.uG x p)<=1
 mh:¬2*bG x+8 < -p->R.sn (R.ab (R.qz x))+R.pz (bG x-p-270)<=R.qz (gL.uG x p)
 pos:0<R.qz (gL.uY x p)
 bIL:2*bG x+8 < -p->uE true ((x.1.natAbs:Int),x.2) (p+32)=true/\uE false ((x.1.natAbs:Int),x.2) (p+32)=true/\nC (shD false ((x.1.natAbs:Int),x.2) (p+32))/\cB.jW (shD false ((x.1.natAbs:Int),x.2) (p+32)) (-1,bG x-p-3)=true
 okB:¬2*bG x+8 < -p->cE.Ut x p/\cE.aOA (aZ.Dr x p).1 (2^(2*aZ.hv x p+22)) (aZ.w2 x p) (p+32)
theorem aUK{p:Int}(hp:1<=p):R.pz (-p-1)<=1/4:=by
 have h:=R.cK (show -p-1<=-2 by omega);have h2:=R.vZ 2;rw[show -((2:Nat):Int)=-2 by rfl]at h2;rw[h2]at h;have h3:R.hf 2=1/4:=by simp[R.hf];grind
 grind
theorem Wl{x:Int×Int}{p:Int}(hx:nC x)(h0:x.1≠0)(hT:R.ab (R.qz x)<=4/5)(ht:-1200<=bG x)(hp:1<=p/\p<=67100):bBZ x p:=by
 have h1:=aDB h0 hT;obtain⟨e1,e2,h4,h5,h6,bML,bMK⟩:=Gv h0 (by omega) ht hp;obtain⟨t1,t2⟩:=nY h0;have tp:=R.dK (bG x);have T0:0<R.ab (R.qz x):=by grind
 obtain⟨v1,v2⟩:=R.aDO (cDU T0) hT;obtain⟨z,hz⟩:∃z,z=R.pz (-p-31):=⟨_,rfl⟩;have z0:=R.dK (-p-31);have q1:R.pz (-p-1)=1073741824*z:=by
  have:=R.gN (-p-1) (n:=30) (c:=1073741824) (by norm_cast);rw[show -p-1-((30:Nat):Int)=-p-31 by omega,<-hz]at this;grind
 have q2:R.pz (bG x-p-61)=z*R.pz (bG x)/1073741824:=by
  have:=R.gN (-p-31+bG x) (n:=30) (c:=1073741824) (by norm_cast);rw[show -p-31+bG x-((30:Nat):Int)=bG x-p-61 by omega,R.iK,<-hz]at this;grind
 have q3:R.pz (bG x-p-3)=268435456*(z*R.pz (bG x)):=by
  have:=R.gN (bG x-p-3) (n:=28) (c:=268435456) (by norm_cast);rw[show bG x-p-3-((28:Nat):Int)=-p-31+bG x by omega,R.iK,<-hz]at this;grind
 have sm:=aUK hp.1;rw[q1]at sm;rw[<-hz]at z0;have zt:=R.aI (cDU z0) (show 0<=R.ab (R.qz x)-R.pz (bG x) by grind);have zT:=R.aI (cDU T0) (show 0<=1/4-1073741824*z by grind);have aRO:R.pz (bG x-p-270)<=R.pz (bG x-p-61):=R.cK (by omega);have p270:=R.dK (bG x-p-270)
 by_cases c:2*bG x+8 < -p
 ·have dL:gL.uY x p=cB.kI (shD false ((x.1.natAbs:Int),x.2) (p+32)) (-1,bG x-p-3):=by unfold gL.uY;rw[e1,if_pos c]
  have dH:gL.uG x p=shD true ((x.1.natAbs:Int),x.2) (p+32):=by unfold gL.uG;rw[e1,if_pos c]
  have pX:=zA hx;have vX:=Eg x;have tX:=aQH x;have n1:=(Hs false ((x.1.natAbs:Int),x.2) (n:=p+32) (by omega)).1 rfl;have n2:=(Hs true ((x.1.natAbs:Int),x.2) (n:=p+32) (by omega)).2 rfl;rw[vX,show(1:Int)-(p+32)=-p-31 by omega,<-hz,R.bQ (cDU T0)]at n1 n2;have aUR:bHS ((x.1.natAbs:Int),x.2):=⟨pX,by unfold bG at tX h1;dsimp only at *;omega⟩;obtain⟨s1,s2⟩:=Rc (up:=false) (n:=p+32) aUR (by omega);obtain⟨s3,s4⟩:=Rc (up:=true) (n:=p+32) aUR (by omega);have x1:=aWL false ((x.1.natAbs:Int),x.2) (n:=p+32) (by rw[tX];omega);have x2:=vV true ((x.1.natAbs:Int),x.2) (p+32).toNat;rw[tX]at x1;rw[show(((p+32).toNat:Nat):Int)=p+32 by omega]at x2;have pm:=Wu (k:=bG x-p-3) (by omega);have T1:R.ab (R.qz x)<=R.pz (bG x+1):=cDU t2;have L0:0<=R.qz (shD false ((x.1.natAbs:Int),x.2) (p+32)):=by grind
  have bGA:cB.jW (shD false ((x.1.natAbs:Int),x.2) (p+32)) (-1,bG x-p-3)=true:=by
   refine Va (E:=bG x-p-40) (n:=(p+41).toNat) s2 pm (by omega) (by dsimp only;omega) ?_ ?_ (by omega) (by omega) (by omega)
   ·rw[show bG x-p-40+(((p+41).toNat:Nat):Int)=bG x+1 by omega,R.bQ L0];grind
   ·rw[Kk,R.iL,R.bQ (cDU (R.dK _))];exact R.cK (by omega)
  have pl:=Cu s2 pm bGA;have xl:=aFX (p:=shD false ((x.1.natAbs:Int),x.2) (p+32)) (q:=(-1,bG x-p-3)) (E:=bG x-p-40) (by omega) (by dsimp only;omega) (by omega);have ql:=Ef (shD false ((x.1.natAbs:Int),x.2) (p+32)) (-1,bG x-p-3);rw[Kk,q3]at ql;rw[<-dL]at pl xl ql;rw[<-dH]at s4 x2 n2;have cube:R.ab (R.qz x)-z*R.pz (bG x)*268435456/16<=R.sn (R.ab (R.qz x)):=by
   have s:=(R.Ax (cDU T0) (show R.ab (R.qz x)<=1 by grind)).1;have a1:R.ab (R.qz x)*R.ab (R.qz x)<=R.pz (bG x+1)*R.pz (bG x+1):=R.cT (cDU T0) T1 (cDU T0) T1;rw[<-R.iK]at a1;have a2:R.pz (bG x+1+(bG x+1))<=R.pz (-p-7):=R.cK (by omega);have a3:R.pz (-p-7)=16777216*z:=by
    have:=R.gN (-p-7) (n:=24) (c:=16777216) (by norm_cast);rw[show -p-7-((24:Nat):Int)=-p-31 by omega,<-hz]at this;grind
   have a4:=R.aI (show 0<=16777216*z-R.ab (R.qz x)*R.ab (R.qz x) by grind) (cDU T0);rw[R.iM]at T1;have a5:=R.aI (cDU z0) (show 0<=2*R.pz (bG x)-R.ab (R.qz x) by grind);generalize R.ab (R.qz x)=T at *;grind
  have bQV:=cEE z0 tp;refine⟨pl,s4,?_,by omega,?_,?_,?_,?_,fun h=>absurd c h,?_,fun _=>⟨s3,s1,s2,bGA⟩,fun h=>absurd c h⟩
  ·have v:R.ab (R.qz (gL.uY x p))<=R.pz (bG x+1):=by
    rw[R.bQ (by grind)];grind
   have:=aNY xl v;omega
  ·rw[q2]at aRO;grind
  ·grind
  ·rw[q1];grind
  ·grind
  ·grind
 ·have dL:gL.uY x p=shD false (cF.Kb (aZ.Dr x p).1 (2^(2*aZ.hv x p+22)) (aZ.w2 x p)) (p+32):=by unfold gL.uY;rw[e1,if_neg c]
  have dH:gL.uG x p=cF.zO (shD true (cF.Dw (aZ.Dr x p).1 (2^(2*aZ.hv x p+22)) (aZ.w2 x p)) (p+32)):=by unfold gL.uG;rw[e1,if_neg c]
  obtain⟨b1,b2,b3⟩:=Yv h0 (by grind) (by omega) ht hp;have hV:R.pz (bG x-1)<=R.sn (R.ab (R.qz x)):=by
   have:=R.oW (bG x);grind
  obtain⟨a1,a2,a3,a4,a5,a6⟩:=bFZ h0 (by omega) ht hp hV (by grind) b2;have a7:=a1.2.2.2.2.2;have c1:=vV false (cF.Kb (aZ.Dr x p).1 (2^(2*aZ.hv x p+22)) (aZ.w2 x p)) (p+32).toNat;have c2:=vV true (cF.Dw (aZ.Dr x p).1 (2^(2*aZ.hv x p+22)) (aZ.w2 x p)) (p+32).toNat;rw[show(((p+32).toNat:Nat):Int)=p+32 by omega]at c1 c2;obtain⟨k1,k2,k3,k4⟩:=aFR (shD true (cF.Dw (aZ.Dr x p).1 (2^(2*aZ.hv x p+22)) (aZ.w2 x p)) (p+32));have c3:=aNW (n:=80000) (by omega) (show bl (shD true (cF.Dw (aZ.Dr x p).1 (2^(2*aZ.hv x p+22)) (aZ.w2 x p)) (p+32)).1.natAbs<=80000 by omega);have c4:=aEC a7;rw[<-dL]at a2 a3 a4 c1;rw[<-dH]at k1 k2 k3 k4 c3 c4;generalize shD true (cF.Dw (aZ.Dr x p).1 (2^(2*aZ.hv x p+22)) (aZ.w2 x p)) (p+32)=hi at *;rw[<-hz]at a4 a6;have zV:=R.aI (cDU z0) (show 0<=R.ab (R.qz x)-R.sn (R.ab (R.qz x)) by grind);have hm:R.sn (R.ab (R.qz x))+R.pz (bG x-p-270)<=R.qz (gL.uG x p):=by
   refine k4 _ a5 ?_;rw[q2]at aRO;grind
  refine⟨a2,c4,by omega,c3,a3,by grind,?_,k1,fun _=>hm,?_,fun h=>absurd h c,fun _=>⟨⟨⟨by omega,by omega⟩,b1⟩,a1⟩⟩
  ·rw[q1];rw[q2]at a4 a6;grind
  ·rw[q2]at a4;grind
structure bHX(x:Int×Int)(p:Int):Prop where
 pl:nC (cE.uN x p)
 ph:nC (cE.tY x p)
 bl:bl (cE.uN x p).1.natAbs<=80000
 bh:M.bl (cE.tY x p).1.natAbs<=80000
 lo:R.qz (cE.uN x p)<=R.cs (R.ab (R.qz x))
 hi:R.cs (R.ab (R.qz x))<=R.qz (cE.tY x p)
 wd:R.qz (cE.tY x p)-R.qz (cE.uN x p)<=R.pz (-p-1)
 one:R.qz (cE.tY x p)<=1
 ml:x.1≠0->R.qz (cE.uN x p)<=R.cs (R.ab (R.qz x))-R.pz (bG x-p-270)
 mh:x.1≠0->¬2*bG x+8 < -p->R.cs (R.ab (R.qz x))+R.pz (bG x-p-270)<=R.qz (cE.tY x p)
 bIL:x.1≠0->2*bG x+8 < -p->cB.jW (1,0) (-1,-p-3)=true
 okB:x.1≠0->¬2*bG x+8 < -p->cE.Ut x p/\cE.aOA (aZ.Dr x p).2 (2^(2*aZ.hv x p+22)) (aZ.w2 x p) (p+32)
theorem Nt{x:Int×Int}{p:Int}(hT:R.ab (R.qz x)<=4/5)(ht:x.1≠0->-1200<=bG x)(hp:1<=p/\p<=67100):bHX x p:=by
 obtain⟨z,hz⟩:∃z,z=R.pz (-p-31):=⟨_,rfl⟩;have z0:=R.dK (-p-31);have q1:R.pz (-p-1)=1073741824*z:=by
  have:=R.gN (-p-1) (n:=30) (c:=1073741824) (by norm_cast);rw[show -p-1-((30:Nat):Int)=-p-31 by omega,<-hz]at this;grind
 have sm:=aUK hp.1;rw[q1]at sm;rw[<-hz]at z0
 by_cases h0:x.1=0
 ·have dL:cE.uN x p=(1,0):=by unfold cE.uN;rw[if_pos h0]
  have dH:cE.tY x p=(1,0):=by unfold cE.tY;rw[if_pos h0]
  have c1:R.cs (R.ab (R.qz x))=1:=by rw[R.pO h0,R.bQ (cEZ),R.aFL]
  refine⟨by rw[dL];exact Ct,by rw[dH];exact Ct,by rw[dL];decide +kernel,by rw[dH];decide +kernel,by rw[dL,oA,c1];exact cEZ,by rw[dH,oA,c1];exact cEZ,?_,by rw[dH,oA];exact cEZ,fun h=>absurd h0 h,fun h=>absurd h0 h,fun h=>absurd h0 h,fun h=>absurd h0 h⟩;rw[dL,dH,q1];grind
 ·have ht:=ht h0;have h1:=aDB h0 hT;obtain⟨e1,e2,h4,h5,h6,bML,bMK⟩:=Gv h0 (by omega) ht hp;obtain⟨t1,t2⟩:=nY h0;have tp:=R.dK (bG x);have T0:0<R.ab (R.qz x):=by grind
  obtain⟨v1,v2⟩:=R.Yo (r:=R.ab (R.qz x)) (by rw[R.bQ (cDU T0)];exact hT);have T1:R.ab (R.qz x)<=R.pz (bG x+1):=cDU t2;have pt:R.pz (bG x)<=1/2:=by
   have:=R.cK (show bG x+1<=0 by omega);rw[R.iM,R.fA]at this;grind
  have q2:R.pz (bG x-p-61)=z*R.pz (bG x)/1073741824:=by
   have:=R.gN (-p-31+bG x) (n:=30) (c:=1073741824) (by norm_cast);rw[show -p-31+bG x-((30:Nat):Int)=bG x-p-61 by omega,R.iK,<-hz]at this;grind
  have zt:=R.aI (cDU z0) (show 0<=1/2-R.pz (bG x) by grind);have bQV:=cEE z0 tp;have aRO:R.pz (bG x-p-270)<=R.pz (bG x-p-61):=R.cK (by omega);rw[q2]at aRO;have cs2:=R.Gr (cDU T0) (show R.ab (R.qz x)<=1 by grind)
  by_cases c:2*bG x+8 < -p
  ·have dL:cE.uN x p=cB.kI (1,0) (-1,-p-3):=by unfold cE.uN;rw[e1,if_neg h0,if_pos c]
   have dH:cE.tY x p=(1,0):=by unfold cE.tY;rw[e1,if_neg h0,if_pos c]
   have pm:=Wu (k:=-p-3) (by omega);have o1:R.ab (R.qz (1,0))<=R.pz 0:=by rw[oA,R.fA,R.bQ (by grind)];exact cEZ
   have bGA:cB.jW (1,0) (-1,-p-3)=true:=by
    refine Va (E:=-p-3) (n:=(p+3).toNat) Ct pm (by dsimp only;omega) (by dsimp only;omega) ?_ ?_ (by omega) (by omega) (by omega)
    ·rw[show -p-3+(((p+3).toNat:Nat):Int)=0 by omega];exact o1
    ·rw[Kk,R.iL,R.bQ (cDU (R.dK _))];exact R.cK (by omega)
   have pl:=Cu Ct pm bGA;have xl:=aFX (p:=(1,0)) (q:=(-1,-p-3)) (E:=-p-3) (by dsimp only;omega) (by dsimp only;omega) (by omega);have ql:=Ef (1,0) (-1,-p-3);have q3:R.pz (-p-3)=268435456*z:=by
    have:=R.gN (-p-3) (n:=28) (c:=268435456) (by norm_cast);rw[show -p-3-((28:Nat):Int)=-p-31 by omega,<-hz]at this;grind
   rw[Kk,oA,q3]at ql;rw[<-dL]at pl xl ql;have lo:R.qz (cE.uN x p)<=R.cs (R.ab (R.qz x))-R.pz (bG x-p-270):=by
    have a1:R.ab (R.qz x)*R.ab (R.qz x)<=R.pz (bG x+1)*R.pz (bG x+1):=R.cT (cDU T0) T1 (cDU T0) T1;rw[<-R.iK]at a1;have a2:R.pz (bG x+1+(bG x+1))<=R.pz (-p-7):=R.cK (by omega);have a3:R.pz (-p-7)=16777216*z:=by
     have:=R.gN (-p-7) (n:=24) (c:=16777216) (by norm_cast);rw[show -p-7-((24:Nat):Int)=-p-31 by omega,<-hz]at this;grind
    grind
   refine⟨pl,by rw[dH];exact Ct,?_,by rw[dH];decide +kernel,?_,by rw[dH,oA];exact v2,?_,by rw[dH,oA];exact cEZ,fun _=>lo,fun _ h=>absurd c h,fun _ _=>bGA,fun _ h=>absurd c h⟩
   ·have v:R.ab (R.qz (cE.uN x p))<=R.pz 0:=by
     rw[R.fA,R.bQ (by grind)];grind
    have:=aNY xl v;omega
   ·have:=R.dK (bG x-p-270);grind
   ·rw[dH,oA,q1];grind
  ·have dL:cE.uN x p=shD false (cF.Kb (aZ.Dr x p).2 (2^(2*aZ.hv x p+22)) (aZ.w2 x p)) (p+32):=by unfold cE.uN;rw[e1,if_neg h0,if_neg c]
   have dH:cE.tY x p=cF.zO (shD true (cF.Dw (aZ.Dr x p).2 (2^(2*aZ.hv x p+22)) (aZ.w2 x p)) (p+32)):=by unfold cE.tY;rw[e1,if_neg h0,if_neg c]
   obtain⟨b1,b2,b3⟩:=Yv h0 (by grind) (by omega) ht hp;have hV:R.pz (bG x-1)<=R.cs (R.ab (R.qz x)):=by
    have:=R.oW (bG x);grind
   obtain⟨a1,a2,a3,a4,a5,a6⟩:=bFZ h0 (by omega) ht hp hV v2 b3;have a7:=a1.2.2.2.2.2;have c1:=vV false (cF.Kb (aZ.Dr x p).2 (2^(2*aZ.hv x p+22)) (aZ.w2 x p)) (p+32).toNat;have c2:=vV true (cF.Dw (aZ.Dr x p).2 (2^(2*aZ.hv x p+22)) (aZ.w2 x p)) (p+32).toNat;rw[show(((p+32).toNat:Nat):Int)=p+32 by omega]at c1 c2;obtain⟨k1,k2,k3,k4⟩:=aFR (shD true (cF.Dw (aZ.Dr x p).2 (2^(2*aZ.hv x p+22)) (aZ.w2 x p)) (p+32));have c3:=aNW (n:=80000) (by omega) (show bl (shD true (cF.Dw (aZ.Dr x p).2 (2^(2*aZ.hv x p+22)) (aZ.w2 x p)) (p+32)).1.natAbs<=80000 by omega);have c4:=aEC a7;rw[<-dL]at a2 a3 a4 c1;rw[<-dH]at k1 k2 k3 k4 c3 c4;generalize shD true (cF.Dw (aZ.Dr x p).2 (2^(2*aZ.hv x p+22)) (aZ.w2 x p)) (p+32)=hi at *;rw[<-hz]at a4 a6;have zV:=R.aI (cDU z0) (show 0<=1-R.cs (R.ab (R.qz x)) by grind);have m9:=R.dK (bG x-p-270);have room:R.cs (R.ab (R.qz x))+R.pz (bG x-p-270)<=1:=by
    have a1:R.pz (bG x)*R.pz (bG x)<=R.ab (R.qz x)*R.ab (R.qz x):=R.cT (cDU tp) t1 (cDU tp) t1;rw[<-R.iK]at a1;have a2:R.pz (-p-9)<=R.pz (bG x+bG x):=R.cK (by omega);have a3:R.pz (-p-9)=4194304*z:=by
     have:=R.gN (-p-9) (n:=22) (c:=4194304) (by norm_cast);rw[show -p-9-((22:Nat):Int)=-p-31 by omega,<-hz]at this;grind
    have a5:=R.cT (cDU T0) hT (cDU T0) hT;have a6:=R.aI (show 0<=R.ab (R.qz x)*R.ab (R.qz x) by grind) (show 0<=16/25-R.ab (R.qz x)*R.ab (R.qz x) by grind);generalize R.ab (R.qz x)=T at *;grind
   have hm:R.cs (R.ab (R.qz x))+R.pz (bG x-p-270)<=R.qz (cE.tY x p):=k4 _ a5 room;rw[q2]at a4 a6;refine⟨a2,c4,by omega,c3,by grind,by grind,?_,k1,fun _=>a3,fun _ _=>hm,fun _ h=>absurd h c,fun _ _=>⟨⟨⟨by omega,by omega⟩,b1⟩,a1⟩⟩;rw[q1];grind
end M
namespace W
open Go AI M
namespace iQ
def E:=mE [(118,iE.aJ),(119,yP.aJ)] 33 [15] [] []
def aF:=bd f65
theorem aU:Nk E aF:=nk
theorem start a b:aG E f65 aF [D.s (sc (int i64 a)),D.s (sc (int u64 b))]=letI F:=bif iE.lM a b then(0:Int)else(2:Int);letI B:=cG.sR a;letI I:=int i64 B.snd.fst;letI H:=int u64 B.snd.snd.snd;letI G:=int i64 B.snd.snd.fst;letI C:=(B.fst,B.snd.fst,B.snd.snd.fst,B.snd.snd.snd);letI A:=some [D.agg [sc (int i64 B.fst),sc I,sc G,sc H],D.s (sc (bool (iE.lM a b&&decide (jK.kJ B<=b)))),D.s (sc (int u64 (bif iE.lM a b then b%jK.kJ B else(0:Int)))),D.s (sc (int i64 F))];aN ((a=32\/a=64)/\0<=b/\b<18446744073709551616) (aC (F==0) (aN (cG.Qt C) (aC (decide (yP.Di C<=bif iE.lM a b then b%jK.kJ B else(0:Int))) (some [D.agg [sc (int i64 B.fst),sc I,sc G,sc H],D.s (sc (bool false)),D.s (sc (int u64 0)),D.s (sc (int i64 6))]) A)) A):=eJ aU
def uM(f b:Int):Bool:=decide (b%jK.kJ (cG.sR f)<yP.Di (cG.sR f))
theorem aDA{f:Int}(h:f=32\/f=64):cG.Qt (cG.sR f):=by
 rcases h with rfl |rfl
 ·exact .inl rfl
 ·exact .inr rfl
def sp(f b:Int):Prop×List D:=((f=32\/f=64)/\0<=b/\b<18446744073709551616,[cG.bID (cG.sR f),.s (.sc (.bool (iE.lM f b&&(uM f b&&decide (jK.kJ (cG.sR f)<=b))))),.s (.sc (.int .u64 (bif iE.lM f b&&uM f b then b%jK.kJ (cG.sR f)else 0))),.s (.sc (.int .i64 (bif iE.lM f b then(bif uM f b then 0 else 6)else 2)))])
theorem spec:fF E f65 aF (pN .i64) (pN .u64) sp:=by
 intro f b h;refine(start f b).trans ((gP h).trans ?_);unfold sp uM
 try dsimp only
 have ht:=aDA h.1;generalize cG.sR f=s at *;obtain⟨s1,s2,s3,s4⟩:=s;cases hp:iE.lM f b with
 |false=>rfl
 |true =>
  try dsimp only[cond_true,cBO]
  rw[dU rfl,gP ht]
  by_cases hc:b%jK.kJ (s1,s2,s3,s4)<yP.Di (s1,s2,s3,s4)
  ·rw[aM,dqT hc];rfl
  ·rw[aO,dqF hc];rfl
def aJ:dO:=orc2 (pN .i64) (pN .u64) sp
theorem ok:OK 65 aJ:=(eI E aF (aA iE.ok (aA yP.ok aD)) func65).jZ rfl spec
end iQ
namespace jV
def E:=mE [(120,gJ.aJ)] 31 [] [] []
def aF:=bd f66
theorem aU:Nk E aF:=nk
theorem start a c d e b:aG E f66 aF [D.agg [sc (int i64 a),sc (int i64 c),sc (int i64 d),sc (int u64 e)],D.s (sc (int u64 b))]=letI B:=(a,c,d,e);letI C:=cG.Qt B;letI A:=gJ.tF B;aN C (if gJ.tF B=0 then none else aN C (if gJ.tF B=0 then none else aC (u64.wrap (b.tdiv A)==0) (some [D.s (sc (int u64 (b.tmod A))),D.s (sc (int i64 d))]) (aN C (some [D.s (sc (int u64 (u64.wrap (gJ.tF B+b.tmod A)))),D.s (sc (int i64 (i64.wrap (i64.wrap (d+i64.wrap (u64.wrap (b.tdiv A)))-1))))])))):=eJ aU
def Em(s:Int×Int×Int×Int)(n:Int):Int:=if n/gJ.tF s=0 then n%gJ.tF s else gJ.tF s+n%gJ.tF s
def Ik(s:Int×Int×Int×Int)(n:Int):Int:=if n/gJ.tF s=0 then s.2.2.1 else s.2.2.1+n/gJ.tF s-1
def sp(s:Int×Int×Int×Int)(n:Int):Prop×List D:=(cG.Qt s/\0<=n/\n<9223372036854775808,[.s (.sc (.int .u64 (Em s n))),.s (.sc (.int .i64 (Ik s n)))])
theorem spec:fF E f66 aF (pG (.pair (sN .i64) (.pair (sN .i64) (.pair (sN .i64) (sN .u64))))) (pN .u64) sp:=by
 rintro s n ⟨ht,h0,h1⟩;obtain⟨s1,s2,s3,s4⟩:=s;refine(start s1 s2 s3 s4 n).trans ?_;have hh:gJ.tF (s1,s2,s3,s4)=8388608\/gJ.tF (s1,s2,s3,s4)=4503599627370496:=by
  unfold gJ.tF;split <;> simp
 have hs:-1074<=s3/\s3<=0:=by rcases ht with ht |ht <;> (cases ht;omega)
 unfold sp Em Ik
 try dsimp only
 rw[gP ht,gP ht,gP ht];generalize gJ.tF (s1,s2,s3,s4)=d at *;have t1:n.tdiv d=n/d:=Int.tdiv_eq_ediv_of_nonneg h0;have t2:n.tmod d=n%d:=cGA h0;have b1:0<=n/d/\n/d<9223372036854775808:=by rcases hh with rfl |rfl <;> omega
 have b2:0<=n%d/\n%d<4503599627370496:=by rcases hh with rfl |rfl <;> omega
 rw[t1,t2,bI,bI,wrap_u64 (n:=n/d)]
 by_cases hz:n/d=0
 ·rw[dU hz,if_pos hz,if_pos hz]
 ·rw[cP hz,if_neg hz,if_neg hz,wrap_u64,wrap_i64 (n:=n/d),wrap_i64 (n:=s3+n/d),wrap_i64]
def aJ:dO:=orc2 (pG (.pair (sN .i64) (.pair (sN .i64) (.pair (sN .i64) (sN .u64))))) (pN .u64) sp
theorem ok:OK 66 aJ:=(eI E aF (aA gJ.ok aD) func66).jZ rfl spec
end jV
namespace Vs
def E:=mE [(117,sJ.aJ),(63,mH.aJ)] 20 [17] [] []
def aF:=bd f67
theorem aU:Nk E aF:=nk
theorem start a b c:aG E f67 aF [D.s (sc (bool a)),D.s (sc (int u64 b)),D.s (sc (int i64 c))]=letI G:=(b !=0,M6.dg b.toNat);letI F:=wv (bif true then b !=0 else false,M6.dg b.toNat);letI C:=(false,M6.dg b.toNat);letI B:=bif jR (wv C) c then bW (wv C) c else((0:Int),(0:Int));letI A:=bif jR F c then bW F c else((0:Int),(0:Int));aC a (aN (0<=b/\b<18446744073709551616) (aN (jA G/\(-9223372036854775808:Int)<=c/\c<9223372036854775808) (some [D.agg [sc (bool (isNeg A.fst)),ints u64 (M6.dg A.fst.natAbs),sc (int i64 A.snd)],D.s (sc (int i64 (bif jR (wv G) c then(0:Int)else(5:Int))))]))) (aN (0<=b/\b<18446744073709551616) (aN (jA C/\(-9223372036854775808:Int)<=c/\c<9223372036854775808) (some [D.agg [sc (bool (isNeg B.fst)),ints u64 (M6.dg B.fst.natAbs),sc (int i64 B.snd)],D.s (sc (int i64 (bif jR (wv C) c then(0:Int)else(5:Int))))]))):=eJ aU
def sp(a:Bool)(b c:Int):Prop×List D:=((0<=b/\b<18446744073709551616)/\-9223372036854775808<=c/\c<9223372036854775808,dE (jR (zs a b.toNat) c) (bW (zs a b.toNat) c))
theorem spec:uQ E f67 aF pB (pN .u64) (pN .i64) sp:=by
 rintro a b c ⟨hb,hc⟩;refine(start a b c).trans ?_;have hl:=gI (n:=b.toNat) (k:=1) (eF.2 (by omega));have aTY:∀s:Bool,wv (s,M6.dg b.toNat)=zs s b.toNat:=fun s=>by show zs s (M6.val (M6.dg b.toNat))=_;rw[M6.bD]
 have h0:jA (false,M6.dg b.toNat):=⟨M6.bA _,fun h=>Bool.noConfusion h,(by omega:(M6.dg b.toNat).length<=8192)⟩;cases a with
 |false =>
  rw[bF,gP hb,gP ⟨h0,hc⟩,aTY];rfl
 |true =>
  have h1:jA (b !=0,M6.dg b.toNat):=⟨M6.bA _,fun h=>by
   have hb0:b≠0:=bne_iff_ne.1 h;show M6.val (M6.dg b.toNat)≠0;rw[M6.bD];omega,by show(M6.dg b.toNat).length<=8192;omega⟩
  have e:zs (b !=0) b.toNat=zs true b.toNat:=by
   by_cases hb0:b=0
   ·subst hb0;rfl
   ·rw[bne_iff_ne.2 hb0]
  rw[bT]
  try dsimp only[cond_true]
  rw[gP hb,gP ⟨h1,hc⟩,aTY,e];rfl
def aJ:dO:=orc3 pB (pN .u64) (pN .i64) sp
theorem ok:OK 67 aJ:=(eI E aF (aA sJ.ok (aA mH.ok aD)) func67).Dn rfl spec
end Vs
namespace gW
def E:=mE [(65,iQ.aJ),(66,jV.aJ),(67,Vs.aJ)] 36 [15,33] [] []
def aF:=bd f25
theorem aU:Nk E aF:=nk
theorem start a b:aG E f25 aF [D.s (sc (int i64 a)),D.s (sc (int u64 b))]=letI H:=bif iE.lM a b then bif iQ.uM a b then(0:Int)else(6:Int)else(2:Int);letI C:=cG.sR a;letI F:=(C.fst,C.snd.fst,C.snd.snd.fst,C.snd.snd.snd);letI B:=bif iE.lM a b&&iQ.uM a b then b%jK.kJ C else(0:Int);letI I:=jV.Ik F B;letI G:=zs (iE.lM a b&&(iQ.uM a b&&decide (jK.kJ C<=b))) (jV.Em F B).toNat;letI A:=bif jR G I then bW G I else((0:Int),(0:Int));aN ((a=32\/a=64)/\0<=b/\b<18446744073709551616) (aC (H !=0) (some [D.agg [sc (bool false),sc (slice none 0 0),sc (int i64 0)],D.s (sc (int i64 H))]) (aN (cG.Qt F/\(0<=bif iE.lM a b&&iQ.uM a b then b%jK.kJ C else(0:Int))/\B<9223372036854775808) (aN ((0<=jV.Em F B/\jV.Em F B<18446744073709551616)/\(-9223372036854775808:Int)<=jV.Ik F B/\jV.Ik F B<9223372036854775808) (some [D.agg [sc (bool (isNeg A.fst)),ints u64 (M6.dg A.fst.natAbs),sc (int i64 A.snd)],D.s (sc (int i64 (bif jR G I then(0:Int)else(5:Int))))])))):=eJ aU
def wU(f b:Int):Int:=zs (decide (jK.kJ (cG.sR f)<=b)) (jV.Em (cG.sR f) (b%jK.kJ (cG.sR f))).toNat
def xD(f b:Int):Int:=jV.Ik (cG.sR f) (b%jK.kJ (cG.sR f))
def sp(f b:Int):Prop×List D:=((f=32\/f=64)/\0<=b/\b<18446744073709551616,[dD (bif iE.lM f b&&iQ.uM f b then bW (wU f b) (xD f b)else(0,0)),.s (.sc (.int .i64 (bif iE.lM f b then(bif iQ.uM f b then 0 else 6)else 2)))])
theorem aXH{s:Int×Int×Int×Int}{n:Int}(_:cG.Qt s)(_:0<=n):0<=jV.Em s n/\jV.Em s n<9007199254740992:=by
 unfold jV.Em gJ.tF;split <;> split <;> omega
theorem aZH{s:Int×Int×Int×Int}{n:Int}(ht:cG.Qt s)(h0:0<=n)(h1:n<yP.Di s):-1074<=jV.Ik s n/\jV.Ik s n<1024:=by
 rcases ht with rfl |rfl
 ·unfold jV.Ik;have:n<2139095040:=h1;rw[show gJ.tF (32,24,-149,2143289345)=8388608 from rfl]
  try dsimp only
  split <;> omega
 ·unfold jV.Ik;have:n<9218868437227405312:=h1;rw[show gJ.tF (64,53,-1074,9221120237041090561)=4503599627370496 from rfl]
  try dsimp only
  split <;> omega
theorem aXK{z e:Int}(hz:z.natAbs<9007199254740992)(h0:-1074<=e)(h1:e<1024):jR z e=true:=by
 unfold jR
 by_cases hc:z=0
 ·rw[dqT hc,cEJ]
 ·have h2:=Qw (n:=z.natAbs) (by omega);have h3:bl z.natAbs<=53:=eF.2 (by omega);rw[dqT (show -1048576<=e+(tz z.natAbs:Int) by omega),dqT (show e+(tz z.natAbs:Int)<=1048576 by omega),cBO,cEX]
theorem spec:Om E f25 aF (pN .i64) (pN .u64) sp:=by
 intro f b h;have e:=(start f b).trans (gP h);have ht:=iQ.aDA h.1;have hb0:0<=b:=h.2.1;unfold sp
 try dsimp only
 cases hp:iE.lM f b with
 |false =>
  rw[hp]at e;refine⟨_,e,.cons ?_ (iZ.refl _)⟩;unfold dD;rw[cDW,cond_false,show((0,0):Int×Int).1.natAbs=0 from rfl,M6.cL];exact Df.agg (.cons (Ez.refl _) (.cons (Ez.nil _) (Ab.refl _)))
 |true =>
  rw[hp]at e;cases hq:iQ.uM f b with
  |false =>
   rw[hq]at e;refine⟨_,e,.cons ?_ (iZ.refl _)⟩;unfold dD;rw[cDY,cond_false,show((0,0):Int×Int).1.natAbs=0 from rfl,M6.cL];exact Df.agg (.cons (Ez.refl _) (.cons (Ez.nil _) (Ab.refl _)))
  |true =>
   rw[hq]at e;have aEP:0<=b%jK.kJ (cG.sR f):=by
    unfold jK.kJ;split <;> omega
   have wV:b%jK.kJ (cG.sR f)<yP.Di (cG.sR f):=of_decide_eq_true hq;have hinf:yP.Di (cG.sR f)<=9218868437227405312:=by unfold yP.Di;split <;> omega
   have hm:=aXH ht aEP;have hx:=aZH ht aEP wV;rw[show(true&&true)=true from rfl]at e
   try dsimp only[cond_true]at e
   rw[show((cG.sR f).1,(cG.sR f).2.1,(cG.sR f).2.2.1,(cG.sR f).2.2.2)=cG.sR f from rfl]at e;rw[gA rfl,gP ⟨ht,aEP,by omega⟩,gP ⟨⟨hm.1,by omega⟩,by omega,by omega⟩]at e;refine⟨_,e,?_⟩;have hi:jR (wU f b) (xD f b)=true:=aXK (by unfold wU;rw[nM];omega) hx.1 hx.2;unfold wU xD at hi;unfold wU xD;rw[show(true&&(true&&decide (jK.kJ (cG.sR f)<=b)))=decide (jK.kJ (cG.sR f)<=b)from rfl,hi];exact iZ.refl _
def aJ:dO:=orc2 (pN .i64) (pN .u64) sp
theorem ok:OK 25 aJ:=(eI E aF (aA iQ.ok (aA jV.ok (aA Vs.ok aD))) func25).aIW rfl spec
end gW
namespace Vq
def E:=mE [(25,gW.aJ)] 8 [5] [] []
def aF:=bd f145
theorem aU:Nk E aF:=nk
theorem start a:aG E f145 aF [D.s (sc (int u64 a))]=letI A:=bif iE.lM 64 a&&iQ.uM 64 a then bW (gW.wU 64 a) (gW.xD 64 a)else((0:Int),(0:Int));aN (((64:Int)=(32:Int)\/(64:Int)=(64:Int))/\0<=a/\a<18446744073709551616) (some [D.agg [sc (bool (isNeg A.fst)),ints u64 (M6.dg A.fst.natAbs),sc (int i64 A.snd)],D.s (sc (int i64 (bif iE.lM 64 a then bif iQ.uM 64 a then(0:Int)else(6:Int)else(2:Int))))]):=eJ aU
def sp(b:Int):Prop×List D:=(0<=b/\b<18446744073709551616,[dD (bif iE.lM 64 b&&iQ.uM 64 b then bW (gW.wU 64 b) (gW.xD 64 b)else(0,0)),.s (.sc (.int .i64 (bif iE.lM 64 b then(bif iQ.uM 64 b then 0 else 6)else 2)))])
theorem spec:iH E f145 aF (pN .u64) sp:=fun b h=>(start b).trans (gP ⟨Or.inr rfl,h.1,h.2⟩)
def aJ:dO:=orc1 (pN .u64) sp
theorem ok:OK 145 aJ:=(eI E aF (aA gW.ok aD) func145).oV rfl spec
end Vq
namespace Ff
def E:=mE [(64,aTQ.aJ)] 5 [] [] []
def aF:=bd f149
theorem aU:Nk E aF:=nk
theorem start a:aG E f149 aF [D.s (sc (int i64 a))]=aN ((-9223372036854775808:Int)<=a/\a<9223372036854775808) (some [D.agg [sc (bool (isNeg a)),ints u64 (M6.dg a.natAbs)]]):=eJ aU
def sp(a:Int):Prop×List D:=(-9223372036854775808<=a/\a<9223372036854775808,[wD a])
theorem spec:iH E f149 aF (pN .i64) sp:=fun a h=>(start a).trans (gP h)
def aJ:dO:=orc1 (pN .i64) sp
theorem ok:OK 149 aJ:=(eI E aF (aA aTQ.ok aD) func149).oV rfl spec
end Ff
namespace uS
def E:=mE [(149,Ff.aJ),(63,mH.aJ),(113,Kc.aJ)] 22 [] [] []
def aF:=bd f146
theorem aU:Nk E aF:=nk
theorem start a b c:aG E f146 aF [D.agg [sc (bool a),ints u64 b,sc (int i64 c)]]=letI F:=(false,b,c);letI C:=wv (isNeg 3,M6.dg (cIK 3));letI A:=bif jR C (-2:Int)then bW C (-2:Int)else((0:Int),(0:Int));letI B:=(isNeg A.fst,M6.dg A.fst.natAbs,A.snd);aN ((-9223372036854775808:Int)<=(3:Int)/\(3:Int)<(9223372036854775808:Int)) (aN (jA (isNeg 3,M6.dg 3)/\(-9223372036854775808:Int)<=(-2:Int)/\(-2:Int)<(9223372036854775808:Int)) (aN (aQ F/\aQ B) (some [D.s (sc (bool (decide (cZ (cB.pU (dv F) (dv B)) (cB.pT (dv F) (dv B))<=0))))]))):=eJ aU
def aPI(p:Int×Int):Bool:=decide (cI ((p.1.natAbs:Int),p.2) (3,-2)<=0)
def sp(x:fB):Prop×List D:=(aQ x,[.s (.sc (.bool (aPI (dv x))))])
theorem spec:iH E f146 aF jQ sp:=by
 intro x h;have hx:aQ x:=h;refine(start x.1 x.2.1 x.2.2).trans ?_;have e3:wv (isNeg 3,M6.dg (cIK 3))=3:=tQ 3;have i3:jR 3 (-2)=true:=by decide +kernel
 have n3:bW 3 (-2)=(3,-2):=by decide +kernel
 have p3:nC (3,-2):=by
  have:=jE (z:=3) (e:=-2) i3 (by decide +kernel);rw[n3]at this;exact this
 have d3:=eQ p3;have v3:=fK (3,-2);dsimp only at d3 v3;have ok:aQ (false,x.2.1,x.2.2):=⟨⟨hx.1.1,fun hf=>(by cases hf),hx.1.len⟩,hx.2⟩;have vx:dv (false,x.2.1,x.2.2)=((((dv x).1.natAbs:Nat):Int),(dv x).2):=by
  rw[show(dv x).1.natAbs=M6.val x.2.1 from iX (x.1,x.2.1)];rfl
 rw[gP ⟨by decide,by decide⟩,gP ⟨iF (z:=3) (by decide +kernel),by decide,by decide⟩];simp only[e3,i3,n3,cond_true];rw[gP ⟨ok,d3⟩,v3,vx];rfl
def aJ:dO:=orc1 jQ sp
theorem ok:OK 146 aJ:=(eI E aF (aA Ff.ok (aA mH.ok (aA Kc.ok aD))) func146).oV rfl spec
end uS
end W
namespace R
open W.Arctan
theorem Ed{k w:Nat}(hk:2<=k):∀f j p m,2^w/k^(2*j+1)<4^f->m<=p->(j%2=1->m+iR k w j<=p) ->
  ∃N J,rounds k f (2^w/k^(2*j+1)) p m (2*j+1) j=(N,J)/\J<=j+f/\(N:Rat)=(p:Rat)-(m:Rat)+(sum (fun i=>sg i*(iR k w i:Rat)) J-sum (fun i=>sg i*(iR k w i:Rat)) j)/\iR k w J=0
 |0,j,p,m,h,hm,_=>by
  have h0:2^w/k^(2*j+1)=0:=by simpa using h
  refine⟨p-m,j,rfl,bYN _,?_,by unfold iR;rw[h0,cIB]⟩;have:((p-m:Nat):Rat)=(p:Rat)-(m:Rat):=by
   have e:p-m+m=p:=by omega
   have e2:((p-m:Nat):Rat)+(m:Rat)=(p:Rat):=by exact_mod_cast e
   grind
  rw[this];grind
 |f+1,j,p,m,h,hm,ho=>by
  by_cases h0:2^w/k^(2*j+1)=0
  ·refine⟨p-m,j,by unfold rounds;rw[if_pos h0],by omega,?_,by unfold iR;rw[h0,cIB]⟩;have:((p-m:Nat):Rat)=(p:Rat)-(m:Rat):=by
    have e:p-m+m=p:=by omega
    have e2:((p-m:Nat):Rat)+(m:Rat)=(p:Rat):=by exact_mod_cast e
    grind
   rw[this];grind
  ·have e1:2^w/k^(2*j+1)/k/k=2^w/k^(2*(j+1)+1):=by
    rw[cEB,cEB,show 2*(j+1)+1=2*j+1+1+1 by omega,cDL k (2*j+1+1),cDL k (2*j+1),cDQ]
   have e2:2^w/k^(2*(j+1)+1)<4^f:=by
    rw[<-e1,cEB];apply cEF;have:4<=k*k:=cIS hk hk;rw[cDL 4 f,cDM (4^f)]at h;exact bZN h (cAA _ this)
   have e3:iR k w (j+1)<=iR k w j:=by
    unfold iR;rw[<-e1];refine bZJ (Nat.div_le_div_left (by omega) (by omega)) (Nat.div_le_div_right ?_);exact bZJ (cGV _ _) (cGV _ _)
   have es:sum (fun i=>sg i*(iR k w i:Rat)) (j+1)=sum (fun i=>sg i*(iR k w i:Rat)) j+sg j*(iR k w j:Rat):=eB _ _;have ea:2^w/k^(2*j+1)/(2*j+1)=iR k w j:=rfl;unfold rounds;rw[if_neg h0,e1,ea,show 2*j+1+2=2*(j+1)+1 by omega]
   by_cases hc:(2*j+1)%4=1
   ·rw[if_pos hc];obtain⟨N,J,r1,r2,r3,r4⟩:=Ed hk f (j+1) (p+iR k w j) m e2 (by omega) (fun _=>by omega);refine⟨N,J,r1,by omega,?_,r4⟩;have:sg j=1:=by unfold sg;rw[aR]
    rw[es,this]at r3;rw[cIQ]at r3;grind
   ·rw[if_neg hc];have hj:=ho (by omega);obtain⟨N,J,r1,r2,r3,r4⟩:=Ed hk f (j+1) p (m+iR k w j) e2 (by omega) (fun h=>by omega);refine⟨N,J,r1,by omega,?_,r4⟩;have:sg j=-1:=by unfold sg;rw[bI]
    rw[es,this]at r3;rw[cIQ]at r3;grind
theorem Br{k:Nat}(hk:2<=k){w:Nat}(hw:w<=1000000):(atan k w).2<=w+2/\ab (((atan k w).1:Rat)-((2^w:Nat):Rat)*Oa k)<=((atan k w).2:Rat)+2:=by
 have h:2^w/k^(2*0+1)<4^(w+2):=by
  rw[Bo];exact cFA (cGV _ _) (cFE (by omega) (by omega))
 obtain⟨N,J,r1,r2,r3,r4⟩:=Ed (w:=w) hk (w+2) 0 0 0 h (bYN _) (fun h=>by omega);have e:atan k w=(N,J):=by
  unfold atan;rw[<-r1];simp
 rw[e];have hJ:J<=1048576:=by omega
 have:=aFW hk w hJ r4;refine⟨by dsimp only;omega,?_⟩;dsimp only;have e0:sum (fun i=>sg i*(iR k w i:Rat)) 0=0:=rfl;rw[e0]at r3;have e1:(N:Rat)=sum (fun i=>sg i*(iR k w i:Rat)) J:=by
  have z:((0:Nat):Rat)=0:=by norm_cast
  rw[z]at r3;grind
 rw[e1];exact this
end R
namespace W
open Go AI M
namespace Cg
def E:=mE [(167,iC.aJ),(171,dP.aJ),(252,Ox.aJ)] 55 [52] [(6,[0,1,6,7,20,21])] []
def aF:=bd f230
theorem aU:Nk E aF:=nk
def L6 a b (c:Nat) (d:List Int) e f g:=nU E f230 aF 6 [iY a,dR b,Dg 2 c 22 d,dR e,bJ f,bJ g]
theorem start a b:aG E f230 aF [D.s (ints u64 a),D.s (sc (int u64 b))]=letI A:=(a.length:Int);letI B:=A+(1:Int);aN (a.length<=1099511627776) (aC (!iC.qR a) (some [D.s (sc (slice none 0 0)),D.s (sc (int i64 2))]) (if 0<=i64.wrap B/\i64.wrap B<=i64.wrap B/\i64.wrap B<=8796093022208 then Cg.L6 a b (i64.wrap B).toNat (cAQ (i64.wrap B).toNat (0:Int)) 0 A 0 else none)):=eJ aU
theorem qW a b c d e f g:L6 a b c d e f g=letI C:=a.getD g.toNat 0*b%18446744073709551616+e+0;letI B:=(a.length:Int);letI A:=d.set B.toNat e;aC (decide (g<f)) (if 0<=g/\g<B then aN (0<=a.getD g.toNat 0/\a.getD g.toNat 0<(18446744073709551616:Int)/\0<=b/\b<18446744073709551616) (aN (0<=a.getD g.toNat 0*b%18446744073709551616/\0<=e/\(0:Int)<=(0:Int)/\(0:Int)<=(1:Int)) (if 0<=g/\g<(c:Int)then Cg.L6 a b c (d.set g.toNat (C%18446744073709551616)) (u64.wrap (a.getD g.toNat 0*b/18446744073709551616+C/18446744073709551616)) f (i64.wrap (g+1))else none))else none) (if 0<=B/\B<(c:Int)then aN (M6.bM A/\A.length<=1099511627776) (some [D.s (ints u64 (bif dP.oQ (M6.val A)then M6.dg (M6.val A)else [])),D.s (sc (int i64 (bif dP.oQ (M6.val A)then(0:Int)else(5:Int))))])else none):=lJ aU
theorem L{a:List Int}{b:Nat}(ha:M6.bM a)(hl:a.length<=8192)(hb:b<18446744073709551616):∀(k i:Nat) (pre:List Int) (c:Nat),i+k=a.length->pre.length=i->M6.bM pre->c<18446744073709551616 ->
  M6.val pre+18446744073709551616^i*c=M6.val (a.take i)*b ->
  L6 a b (a.length+1) (pre ++ cAQ (k+1) 0) c a.length i=some [D.s (.ints .u64 (bif dP.oQ (M6.val a*b)then M6.dg (M6.val a*b)else [])),D.s (.sc (.int .i64 (bif dP.oQ (M6.val a*b)then 0 else 5)))]:=by
 intro k
 induction k with
 |zero =>
  intro i pre c hi hp hd hc hv;rw[M6.cC (by omega)]at hv;have hs:(pre ++ cAQ (0+1) 0).set a.length (c:Int)=pre ++ [(c:Int)]:=by
   have:=Ba (pre:=pre) (i:=a.length) (k:=0) (by omega) (c:Int);simpa using this
  have hval:M6.val (pre ++ [(c:Int)])=M6.val a*b:=by
   rw[M6.kT,hp,cCJ];exact hv
  have bLD:M6.bM (pre ++ [(c:Int)]):=M6.kV hd ⟨cIA _,by omega⟩;rw[qW,aM,if_pos ⟨by omega,by omega⟩,cCJ,hs,gP ⟨bLD,by simp;omega⟩,hval]
 |succ k ih =>
  intro i pre c hi hp hd hc hv;have g:=ha.get i;obtain⟨x,hx⟩:=cDO g.1;have Dp:x<18446744073709551616:=by omega
  have bGQ:x*b<=18446744073709551615*18446744073709551615:=cIS (by omega) (by omega);have e1:((x:Int)*(b:Int))=((x*b:Nat):Int):=by rw[cEW]
  have uL:M6.val (pre ++ [(((x*b%18446744073709551616+c)%18446744073709551616:Nat):Int)])+18446744073709551616^(i+1)*(x*b/18446744073709551616+(x*b%18446744073709551616+c)/18446744073709551616)=M6.val (a.take (i+1))*b:=by
   rw[M6.kT,hp,M6.bR,hx,cCJ,cCJ,bZH,<-hv,cDL,cDQ (18446744073709551616^i) x b,cDQ (18446744073709551616^i) 18446744073709551616];have e:(x*b%18446744073709551616+c)%18446744073709551616+18446744073709551616*(x*b/18446744073709551616+(x*b%18446744073709551616+c)/18446744073709551616)=x*b+c:=by omega
   have e2:=congrArg (18446744073709551616^i*·) e;simp only[Nat.mul_add]at e2 ⊢;omega
  have bPL:x*b/18446744073709551616+(x*b%18446744073709551616+c)/18446744073709551616<18446744073709551616:=by omega
  have w1:u64.wrap ((x:Int)*(b:Int)/18446744073709551616+((x:Int)*(b:Int)%18446744073709551616+(c:Int)+0)/18446744073709551616)=((x*b/18446744073709551616+(x*b%18446744073709551616+c)/18446744073709551616:Nat):Int):=by
   rw[e1,wrap_u64];omega
  have w2:((x:Int)*(b:Int)%18446744073709551616+(c:Int)+0)%18446744073709551616=(((x*b%18446744073709551616+c)%18446744073709551616:Nat):Int):=by rw[e1];omega
  rw[qW,aO,if_pos ⟨by omega,by omega⟩,cCJ,hx,gP ⟨by omega,by omega,by omega,by omega⟩,gP ⟨by rw[e1];omega,by omega,by omega,by omega⟩,if_pos ⟨by omega,by omega⟩,Ba hp,w1,w2,wrap_i64 (n:=(i:Int)+1),show(i:Int)+1=((i+1:Nat):Int)from rfl];exact ih (i+1) _ _ (by omega) (by simp[hp]) (M6.kV hd ⟨cIA _,by omega⟩) bPL uL
def sp(a:List Int)(b:Int):Prop×List D:=(M6.cO a/\a.length<=8192/\0<=b/\b<18446744073709551616,[.s (.ints .u64 (bif dP.oQ (M6.val a*b.toNat)then M6.dg (M6.val a*b.toNat)else [])),.s (.sc (.int .i64 (bif dP.oQ (M6.val a*b.toNat)then 0 else 5)))])
theorem spec:fF E f230 aF (pI .u64) (pN .u64) sp:=by
 rintro a b ⟨ha,hl,h0,h1⟩;obtain⟨n,rfl⟩:=cDO h0;refine(start a n).trans ?_;have w:i64.wrap ((a.length:Int)+1)=((a.length+1:Nat):Int):=by rw[wrap_i64];rfl
 have:=L (b:=n) ha.iA hl (by omega) a.length 0 [] 0 (by omega) rfl M6.lC (by omega) (by simp[M6.val]);rw[gP,iC.pP ha hl,cAN,bF,w,if_pos ⟨by omega,by omega,by omega⟩,cCJ];rw[List.nil_append]at this;exact this
def aJ:dO:=orc2 (pI .u64) (pN .u64) sp
theorem ok:OK 230 aJ:=(eI E aF (aA iC.ok (aA dP.ok (aA Ox.ok aD))) func230).jZ rfl spec
end Cg
namespace Vk
def E:=mE [(126,vK.aJ),(124,wW.aJ),(117,sJ.aJ)] 26 [14,21] [] []
def aF:=bd f231
theorem aU:Nk E aF:=nk
theorem start a b:aG E f231 aF [D.s (ints u64 a),D.s (sc (int u64 b))]=letI B:=M6.dg b.toNat;letI C:=M6.val a+M6.val B;letI A:=M6.cO a/\M6.cO B/\a.length<=8192/\B.length<=8192;aN (0<=b/\b<18446744073709551616) (aN A (aN (0<=b/\b<18446744073709551616) (aN A (some [D.s (ints u64 (M6.dg (M6.val a-M6.val B))),D.s (ints u64 (bif dP.oQ C then M6.dg C else []))])))):=eJ aU
theorem aWY{v n:Nat}(hv:v<18446744073709551616^8000)(hn:n<18446744073709551616):dP.oQ (v+n)=true:=by
 unfold dP.oQ;refine dqT (bZJ (M6.cU (k:=8001) ?_) (by decide));rw[cDL];have h1:1<=18446744073709551616^8000:=cBM (by decide);generalize 18446744073709551616^8000=X at *;omega
def sp(a:List Int)(b:Int):Prop×List D:=(M6.cO a/\a.length<=8000/\0<=b/\b<18446744073709551616,[.s (.ints .u64 (M6.dg (M6.val a-b.toNat))),.s (.ints .u64 (M6.dg (M6.val a+b.toNat)))])
theorem spec:fF E f231 aF (pI .u64) (pN .u64) sp:=by
 rintro a b ⟨hn,hl,h0,h1⟩;have hb:b.toNat<18446744073709551616:=by omega
 have lb:(M6.dg b.toNat).length<=1:=M6.cU (k:=1) (by rw[Nat.pow_one];exact hb);refine(start a b).trans ?_;have lv:=M6.cR hn.iA;have ok:dP.oQ (M6.val a+b.toNat)=true:=aWY (bZN lv (cBN (by decide) hl)) hb;rw[gP ⟨h0,h1⟩,gP ⟨hn,M6.bA _,by omega,by omega⟩,gP ⟨h0,h1⟩,gP ⟨hn,M6.bA _,by omega,by omega⟩,M6.bD,ok];rfl
def aJ:dO:=orc2 (pI .u64) (pN .u64) sp
theorem ok:OK 231 aJ:=(eI E aF (aA vK.ok (aA wW.ok (aA sJ.ok aD))) func231).jZ rfl spec
end Vk
namespace nJ
def E:=mE [(229,fM.aJ),(230,Cg.aJ),(126,vK.aJ),(231,Vk.aJ)] 45 [42] [] []
def aF:=bd f203
theorem aU:Nk E aF:=nk
theorem start a:aG E f203 aF [D.s (sc (int i64 a))]=letI K:=Arctan.atan (cMC 5) a.toNat;letI I:=Arctan.atan (cMC 239) a.toNat;letI F:=M6.dg K.fst;letI G:=bif dP.oQ (M6.val F*16)then M6.dg (M6.val F*16)else [];letI C:=M6.dg I.fst;letI H:=bif dP.oQ (M6.val C*4)then M6.dg (M6.val C*4)else [];letI B:=u64.wrap ((16:Int)*(↑((2:Nat)+(3:Nat)*K.snd):Int))+u64.wrap ((4:Int)*(↑((2:Nat)+(3:Nat)*I.snd):Int));letI A:=M6.dg (M6.val G-M6.val H);aN (((2:Int)<=(5:Int)/\(5:Int)<(4294967296:Int))/\0<=a/\a<=150000) (aN (((2:Int)<=(239:Int)/\(239:Int)<(4294967296:Int))/\0<=a/\a<=150000) (aN (M6.cO F/\F.length<=8192/\(0:Int)<=(16:Int)/\(16:Int)<(18446744073709551616:Int)) (aN (M6.cO C/\C.length<=8192/\(0:Int)<=(4:Int)/\(4:Int)<(18446744073709551616:Int)) (aN (M6.cO G/\M6.cO H/\G.length<=8192/\H.length<=8192) (aN (M6.cO A/\A.length<=8000/\0<=u64.wrap B/\u64.wrap B<18446744073709551616) (some [D.s (ints u64 (M6.dg (M6.val A-(u64.wrap B).toNat))),D.s (ints u64 (M6.dg (M6.val A+(u64.wrap B).toNat)))])))))):=eJ aU
def mX(w:Nat):Nat:=(Arctan.atan 5 w).1*16-(Arctan.atan 239 w).1*4
def mO(w:Nat):Nat:=16*(2+3*(Arctan.atan 5 w).2)+4*(2+3*(Arctan.atan 239 w).2)
theorem aUU(w:Nat):mO w<=60*w+160:=by
 have h1:=(Arctan.xA 5 w).2;have h2:=(Arctan.xA 239 w).2;unfold mO;omega
def sp(w:Int):Prop×List D:=(0<=w/\w<=150000,[.s (.ints .u64 (M6.dg (mX w.toNat-mO w.toNat))),.s (.ints .u64 (M6.dg (mX w.toNat+mO w.toNat)))])
theorem spec:iH E f203 aF (pN .i64) sp:=by
 rintro w ⟨h0,h1⟩;refine(start w).trans ?_;obtain⟨q,rfl⟩:=cDO h0;have a1:=Arctan.xA 5 q;have a2:=Arctan.xA 239 q;have hO:=aUU q;unfold sp;have k1:cMC 5=5:=rfl;have k2:cMC 239=239:=rfl;simp only[cCJ,k1,k2,M6.bD];have eO:u64.wrap (u64.wrap (16*((2+3*(Arctan.atan 5 q).2:Nat):Int))+u64.wrap (4*((2+3*(Arctan.atan 239 q).2:Nat):Int)))=((mO q:Nat):Int):=by
  rw[wrap_u64 (n:=16*_),wrap_u64 (n:=4*_),wrap_u64];unfold mO;omega
 rw[eO];have hX:mX q<=(Arctan.atan 5 q).1*16:=cEV _ _;unfold mX at hX ⊢;generalize (Arctan.atan 5 q).1=a at *;generalize (Arctan.atan 239 q).1=b at *;have hp:2^(2*q+4+4)=16*2^(2*q+4):=by rw[cDP];omega
 have b1:a*16<2^(2*q+4+4):=by rw[hp];omega
 have b2:b*4<2^(2*q+4+4):=by rw[hp];omega
 have b3:a*16-b*4<2^(2*q+4+4):=by omega
 have l3:(M6.dg (a*16-b*4)).length<=8000:=gI (k:=8000) (bZJ (eF.2 b3) (by omega));rw[gP ⟨⟨by decide,by decide⟩,by omega,by omega⟩,gP ⟨⟨by decide,by decide⟩,by omega,by omega⟩,gP ⟨M6.bA _,fM.oL a1.1 (by omega),by decide,by decide⟩,gP ⟨M6.bA _,fM.oL a2.1 (by omega),by decide,by decide⟩,
  fM.aWX b1 (by omega),fM.aWX b2 (by omega),cond_true,cond_true]
 simp only[M6.bD,cCJ];rw[gP ⟨M6.bA _,M6.bA _,fM.oL b1 (by omega),fM.oL b2 (by omega)⟩,gP ⟨M6.bA _,l3,by omega,by omega⟩]
open R in
theorem num {w:Nat} (bPX:40<=w) (hw:w<=1000000):R.ab ((mX w:Rat)-((2^w:Nat):Rat)*R.pi)<=(mO w:Rat):=by
 obtain⟨j1,e1⟩:=R.Br (k:=5) (by decide) hw;obtain⟨j2,e2⟩:=R.Br (k:=239) (by decide) hw;have hp:=R.iT.1;have hW:(1099511627776:Rat)<=((2^w:Nat):Rat):=by
  have:2^40<=2^w:=cBN (by decide) bPX;exact_mod_cast this
 have hO:(mO w:Rat)=16*(2+3*((Arctan.atan 5 w).2:Rat))+4*(2+3*((Arctan.atan 239 w).2:Rat)):=by
  unfold mO
  push_cast
  rfl
 have hJ1:((Arctan.atan 5 w).2:Rat)<=1000002:=by exact_mod_cast bZJ j1 (by omega)
 have hJ2:((Arctan.atan 239 w).2:Rat)<=1000002:=by exact_mod_cast bZJ j2 (by omega)
 have aPR:(0:Rat)<=((Arctan.atan 5 w).2:Rat):=by exact_mod_cast cEN _
 have bEB:(0:Rat)<=((Arctan.atan 239 w).2:Rat):=by exact_mod_cast cEN _
 rw[hO];clear hO;have h3:0<=R.pi-3:=by grind
 have hm:=R.aI (cDS (by decide:(0:Rat)<=1099511627776) hW) h3;have bDR:((2^w:Nat):Rat)*R.pi=16*(((2^w:Nat):Rat)*R.Oa 5)-4*(((2^w:Nat):Rat)*R.Oa 239):=by
  rw[show R.pi=16*R.Oa 5-4*R.Oa 239 from rfl];grind
 have hm2:3*((2^w:Nat):Rat)<=((2^w:Nat):Rat)*R.pi:=by grind
 rw[R.bY]at e1 e2 ⊢;have bVX:(mX w:Rat)=((mX w:Nat):Rat):=rfl;unfold mX;generalize ((2^w:Nat):Rat)*R.pi=WP at *;generalize ((2^w:Nat):Rat)*R.Oa 5=W5 at *;generalize ((2^w:Nat):Rat)*R.Oa 239=W2 at *;generalize ((2^w:Nat):Rat)=W at *;clear hm h3 hp bVX;generalize ((Arctan.atan 5 w).2:Rat)=J1 at *;generalize ((Arctan.atan 239 w).2:Rat)=J2 at *;generalize (Arctan.atan 5 w).1=a at *;generalize (Arctan.atan 239 w).1=b at *;have hle:b*4<=a*16:=by
  have:(b:Rat)*4<=(a:Rat)*16:=by
   obtain⟨e3,e4⟩:=e1;obtain⟨e5,e6⟩:=e2;grind
  exact_mod_cast this
 have hX:((a*16-b*4:Nat):Rat)=(a:Rat)*16-(b:Rat)*4:=by
  have e:(a*16-b*4)+b*4=a*16:=by omega
  have e':((a*16-b*4:Nat):Rat)+(b:Rat)*4=(a:Rat)*16:=by exact_mod_cast e
  grind
 rw[hX];obtain⟨e3,e4⟩:=e1;obtain⟨e5,e6⟩:=e2;constructor <;> grind
def aJ:dO:=orc1 (pN .i64) sp
theorem ok:OK 203 aJ:=(eI E aF (aA fM.ok (aA Cg.ok (aA vK.ok (aA Vk.ok aD)))) func203).oV rfl spec
end nJ
namespace yO
def E:=mE [(203,nJ.aJ),(115,Hf.aJ),(125,Ch.aJ)] 39 [19,25] [(5,[0,4]),(3,[0])] [3]
def aF:=bd f162
theorem aU:Nk E aF:=nk
def J3 a:=lP E f162 aF 3 [bJ a]
def L5 a b:=nU E f162 aF 5 [bJ a,bJ b]
theorem start a:aG E f162 aF [D.s (sc (int i64 a))]=letI A:=some [D.s (sc (slice none 0 0)),D.s (sc (int i64 1))];aC (decide (a<1)) A (aC (decide (70000<a)) A (yO.J3 a)):=eJ aU
theorem fH a:J3 a=yO.L5 a 48:=cJ aU
theorem Dx a b:L5 a b=letI G:=i64.wrap (a+b);letI B:=M6.dg (nJ.mX G.toNat+nJ.mO G.toNat);letI F:=M6.dg (M6.val B/(2:Nat)^b.toNat);letI A:=M6.dg (nJ.mX G.toNat-nJ.mO G.toNat);letI C:=M6.dg (M6.val A/(2:Nat)^b.toNat);aN (0<=i64.wrap (a+b)/\i64.wrap (a+b)<=150000) (aN (M6.cO A/\A.length<=8192/\0<=b/\b<4611686018427387904) (aN (M6.cO B/\B.length<=8192/\0<=b/\b<4611686018427387904) (aN (M6.bM C/\M6.bM F/\C.length<=1099511627776/\F.length<=1099511627776) (aC (iW (M6.val C) (M6.val F)==0) (some [D.s (ints u64 C),D.s (sc (int i64 0))]) (yO.L5 a (i64.wrap (b*2))))))):=lJ aU
def sp(p:Int):Prop×List D:=(1<=p/\p<=70000,[.s (.ints .u64 (M6.dg (R.pF p.toNat))),.s (.sc (.int .i64 0))])
theorem bDB(w:Nat):nJ.mX w<2^(2*w+8):=by
 have a1:=Arctan.xA 5 w;have hp:2^(2*w+8)=16*2^(2*w+4):=by rw[show 2*w+8=2*w+4+4 by omega,cDP];omega
 have:nJ.mX w<=(Arctan.atan 5 w).1*16:=cEV _ _;omega
theorem spec:iH E f162 aF (pN .i64) sp:=by
 rintro p ⟨h0,h1⟩;refine(start p).trans ?_;obtain⟨q,rfl⟩:=cDO (show 0<=p by omega);have hX:=nJ.num (w:=q+48) (by omega) (by omega);have hO:=nJ.aUU (q+48);have lX:=bDB (q+48);have bWO:2*nJ.mO (q+48)<=2^(48-24):=by
  have:2^(48-24)=16777216:=by decide
  omega
 obtain⟨o1,o2,o3⟩:=R.aUO (q:=q) (g:=48) (by omega) (by omega) bWO hX;have ew:i64.wrap ((q:Int)+48)=((q+48:Nat):Int):=by rw[wrap_i64];omega
 unfold sp;rw[aM,aM,fH,Dx,ew,cCJ,cCJ];have hp:2^(2*(q+48)+9)=2*2^(2*(q+48)+8):=by rw[cDL];omega
 have bPX:2^40<=2^(2*(q+48)+8):=gO;have l1:=fM.oL (n:=nJ.mX (q+48)-nJ.mO (q+48)) (k:=2*(q+48)+8) (by omega) (by omega);have l2:=fM.oL (n:=nJ.mX (q+48)+nJ.mO (q+48)) (k:=2*(q+48)+9) (by omega) (by omega);rw[gP ⟨by omega,by omega⟩,gP ⟨M6.bA _,l1,by decide,by decide⟩,gP ⟨M6.bA _,l2,by decide,by decide⟩];simp only[M6.bD,show cMC 48=48 from rfl,o2,o3];have l3:(M6.dg (R.pF q)).length<=8192:=by
  rw[<-o2];exact fM.oL (k:=2*(q+48)+8) (cFA (cGV _ _) (by omega)) (by omega)
 rw[gP ⟨M6.cA _,M6.cA _,by omega,by omega⟩,dU (by unfold iW;simp)]
def aJ:dO:=orc1 (pN .i64) sp
theorem ok:OK 162 aJ:=(eI E aF (aA nJ.ok (aA Hf.ok (aA Ch.ok aD))) func162).oV rfl spec
end yO
namespace uT
def E:=mE [(70,Iz.aJ),(148,lN.aJ)] 37 [] [] []
def aF:=bd f187
theorem aU:Nk E aF:=nk
theorem start a c d b:aG E f187 aF [D.agg [sc (bool a),ints u64 c,sc (int i64 d)],D.s (sc (int i64 b))]=letI C:=i64.wrap ((0:Int)-d)-b;letI B:=wv (a,c)/(↑((2:Nat)^(i64.wrap C).toNat):Int);letI A:=bif fit (M6.val c*(2:Nat)^(i64.wrap (d+b)).toNat)then wv (a,c)*(↑((2:Nat)^(i64.wrap (d+b)).toNat):Int)else(0:Int);aC (decide (0<=i64.wrap (d+b))) (aN (jA (a,c)/\0<=i64.wrap (d+b)/\i64.wrap (d+b)<4611686018427387904) (some [D.agg [sc (bool (isNeg A)),ints u64 (M6.dg A.natAbs)]])) (aN (jA (a,c)/\0<=i64.wrap C/\i64.wrap C<4611686018427387904) (some [D.agg [sc (bool (isNeg B)),ints u64 (M6.dg B.natAbs)]])):=eJ aU
def aMM(p:Int×Int)(n:Int):Int:=if 0<=p.2+n then p.1*((2^(p.2+n).toNat:Nat):Int)else p.1/((2^(-p.2-n).toNat:Nat):Int)
def sp(x:fB)(n:Int):Prop×List D:=(aQ x/\-1099511627776<=n/\n<=1099511627776/\(0<=x.2.2+n->fit ((dv x).1.natAbs*2^(x.2.2+n).toNat)=true),[wD (aMM (dv x) n)])
theorem spec:fF E f187 aF jQ (pN .i64) sp:=by
 rintro x n ⟨hx,h1,h2,hf⟩;have he:=hx.2.1;refine(start x.1 x.2.1 x.2.2 n).trans ?_;have w1:i64.wrap (x.2.2+n)=x.2.2+n:=wrap_i64;have w2:i64.wrap (i64.wrap (0-x.2.2)-n)=-x.2.2-n:=by rw[wrap_i64 (n:=0-x.2.2),wrap_i64];omega
 have ha:(dv x).1.natAbs=M6.val x.2.1:=iX (x.1,x.2.1);unfold sp aMM
 by_cases c:0<=x.2.2+n
 ·have aVF:=hf c;rw[ha]at aVF;rw[w1,aO c,gP ⟨hx.Ln,c,by omega⟩,aVF,cond_true];dsimp only;rw[if_pos (show 0<=(dv x).2+n from c)];rfl
 ·rw[w1,w2,aM c,gP ⟨hx.Ln,by omega,by omega⟩];dsimp only;rw[if_neg (show ¬0<=(dv x).2+n from c)];rfl
def aJ:dO:=orc2 jQ (pN .i64) sp
theorem ok:OK 187 aJ:=(eI E aF (aA Iz.ok (aA lN.ok aD)) func187).jZ rfl spec
end uT
namespace uR
def E:=mE [(112,gF.aJ),(165,Cb.aJ),(126,vK.aJ),(125,Ch.aJ),(211,Zh.aJ)] 66 [31,43,63] [(3,[0,4,5,6])] [3]
def aF:=bd f219
theorem aU:Nk E aF:=nk
def J3 a b c d e f:=lP E f219 aF 3 [bJ a,bK 1 27 [bC b,eR c],bK 2 27 [bC d,eR e],bK 3 27 [bC f,sc (slice none 0 0)]]
theorem start a b c d e:aG E f219 aF [D.s (sc (int i64 a)),D.agg [sc (bool b),ints u64 c],D.agg [sc (bool d),ints u64 e]]=letI A:=some [D.agg [sc (bool false),sc (slice none 0 0)],D.s (sc (int i64 2))];aN (c.length<=1099511627776) (aB (gF.pW (b,c)) fun f=>aC (!f) A (aN (e.length<=1099511627776) (aB (gF.pW (d,e)) fun g=>aC (!g) A (uR.J3 a b c d e false)))):=eJ aU
theorem fH a b c d e f:J3 a b c d e f=aC ((e.length:Int)==(0:Int)) (some [D.agg [sc (bool false),sc (slice none 0 0)],D.s (sc (int i64 4))]) (aN (M6.cO c/\c.length<=8192/\M6.cO e/\1<=e.length/\e.length<=8192) (aB (M6.dg (M6.val c/M6.val e)) fun g=>aB (M6.dg (M6.val c%M6.val e)) fun h=>aN (M6.cO e/\M6.cO h/\e.length<=8192/\h.length<=8192) (aB (M6.dg (M6.val e-M6.val h)) fun i=>letI A:=M6.val g+bif qJ.qH a (b !=d) (decide (M6.val g%2=(1:Nat))) (decide (0<(h.length:Int))) (iW (M6.val h) (M6.val i))then(1:Nat)else(0:Nat);letI B:=bif fit A then zs (b !=d) A else(0:Int);aB (if M6.val e<M6.val h then(3:Int)else(0:Int)) fun j=>aC (j !=0) (some [D.agg [sc (bool false),sc (slice none 0 0)],D.s (sc (int i64 j))]) (aN (M6.bM h/\M6.bM i/\h.length<=1099511627776/\i.length<=1099511627776) (aN (M6.cO g/\g.length<=8192) (aB (isNeg B) fun k=>aB (M6.dg B.natAbs) fun l=>aB (bif fit A then(0:Int)else(5:Int)) fun m=>some [D.agg [sc (bool k),ints u64 l],D.s (sc (int i64 m))])))))):=cJ aU
def wL(w:Int)(neg:Bool)(u v:Nat):Nat:=u/v+bif qJ.qH w neg (decide (u/v%2=1)) (decide (u%v≠0)) (iW (u%v) (v-u%v))then 1 else 0
def sp(w:Int)(x y:Bool×List Int):Prop×List D:=(jA x/\jA y/\wv y≠0,wE (fit (wL w (x.1 !=y.1) (M6.val x.2) (M6.val y.2))) (zs (x.1 !=y.1) (wL w (x.1 !=y.1) (M6.val x.2) (M6.val y.2))))
theorem spec:uQ E f219 aF (pN .i64) qQ qQ sp:=by
 rintro w x y ⟨hx,hy,h0⟩;refine(start w x.1 x.2 y.1 y.2).trans ?_;have l1:=hx.len;have l2:=hy.len;have f1:=gF.mS hx;have f2:=gF.mS hy;have hv0:M6.val y.2≠0:=fun h=>h0 (aCU.2 h)
 have aSC:y.2.length≠0:=fun h=>hv0 ((M6.cY hy.1).1 h)
 have hm:=cAV (M6.val x.2) (show 0<M6.val y.2 by omega);have b1:=hx.bl;have b2:=hy.bl;have q1:=gI (n:=M6.val x.2/M6.val y.2) (k:=8192) (bZJ (gD (cGV _ _)) b1);have q2:=gI (n:=M6.val x.2%M6.val y.2) (k:=8192) (bZJ (gD (cMF hm)) b2);have q3:=gI (n:=M6.val y.2-M6.val x.2%M6.val y.2) (k:=8192) (bZJ (gD (cEV _ _)) b2);have hd:decide (0<(((M6.dg (M6.val x.2%M6.val y.2)).length:Nat):Int))=decide (M6.val x.2%M6.val y.2≠0):=by
  have:=M6.fZ (n:=M6.val x.2%M6.val y.2)
  by_cases h:M6.val x.2%M6.val y.2=0
  ·rw[dqF (by have:=this.2 h;omega),dqF (by omega)]
  ·rw[dqT (by have:=fun hl=>h (this.1 hl);omega),dqT h]
 simp only[aE];rw[gP,f1,cAN,bF,gP,f2,cAN,bF,fH];simp only[aE];rw[cP,gP ⟨hx.1,l1,hy.1,by omega,l2⟩,gP ⟨hy.1,M6.bA _,l2,by omega⟩,M6.bD,bI,gA rfl,gP ⟨M6.cA _,M6.cA _,by omega,by omega⟩,gP ⟨M6.bA _,by omega⟩,hd];simp only[M6.bD];rfl
def aJ:dO:=orc3 (pN .i64) qQ qQ sp
theorem ok:OK 219 aJ:=(eI E aF (aA gF.ok (aA Cb.ok (aA vK.ok (aA Ch.ok (aA Zh.ok aD))))) func219).Dn rfl spec
end uR
namespace Oy
def E:=mE [(219,uR.aJ)] 11 [8] [] []
def aF:=bd f188
theorem aU:Nk E aF:=nk
theorem start a b c d:aG E f188 aF [D.agg [sc (bool a),ints u64 b],D.agg [sc (bool c),ints u64 d]]=letI A:=uR.wL 2 (a !=c) (M6.val b) (M6.val d);letI B:=bif fit A then zs (a !=c) A else(0:Int);aN (jA (a,b)/\jA (c,d)/\wv (c,d)≠0) (some [D.agg [sc (bool (isNeg B)),ints u64 (M6.dg B.natAbs)],D.s (sc (int i64 (bif fit A then(0:Int)else(5:Int))))]):=eJ aU
def sp(x y:Bool×List Int):Prop×List D:=(jA x/\jA y/\wv y≠0/\fit (uR.wL 2 false (M6.val x.2) (M6.val y.2))=true,[wD (zs (x.1 !=y.1) (uR.wL 2 false (M6.val x.2) (M6.val y.2))),.s (.sc (.int .i64 0))])
theorem spec:fF E f188 aF qQ qQ sp:=by
 rintro x y ⟨hx,hy,h0,hf⟩;refine(start x.1 x.2 y.1 y.2).trans ((gP ⟨hx,hy,h0⟩).trans ?_);have e:uR.wL 2 (x.1 !=y.1) (M6.val x.2) (M6.val y.2)=uR.wL 2 false (M6.val x.2) (M6.val y.2):=rfl;unfold sp
 try dsimp only
 rw[e,hf];rfl
def aJ:dO:=orc2 qQ qQ sp
theorem ok:OK 188 aJ:=(eI E aF (aA uR.ok aD) func188).jZ rfl spec
end Oy
namespace aIC
def E:=mE [(112,gF.aJ),(116,Fc.aJ),(71,Hg.aJ)] 25 [22] [(3,[2,3,4])] [3]
def aF:=bd f189
theorem aU:Nk E aF:=nk
def J3 a b c d e:=lP E f189 aF 3 [bK 0 27 [bC a,eR b],bK 1 27 [bC c,eR d],bK 2 27 [bC e,sc (slice none 0 0)]]
theorem start a b c d:aG E f189 aF [D.agg [sc (bool a),ints u64 b],D.agg [sc (bool c),ints u64 d]]=letI A:=some [D.agg [sc (bool false),sc (slice none 0 0)],D.s (sc (int i64 2))];aN (b.length<=1099511627776) (aC (!gF.pW (a,b)) A (aN (d.length<=1099511627776) (aC (!gF.pW (c,d)) A (aIC.J3 a b c d false)))):=eJ aU
theorem fH a b c d e:J3 a b c d e=letI C:=zs (!c) (M6.val d);letI A:=(isNeg C,M6.dg C.natAbs);letI B:=bif fit (wv (a,b)+wv A).natAbs then wv (a,b)+wv A else(0:Int);aN (M6.cO d/\d.length<=1099511627776) (aN (jA (a,b)/\jA A) (some [D.agg [sc (bool (isNeg B)),ints u64 (M6.dg B.natAbs)],D.s (sc (int i64 (bif fit (wv (a,b)+wv A).natAbs then(0:Int)else(5:Int))))])):=cJ aU
def sp(x y:Bool×List Int):Prop×List D:=(jA x/\jA y,wE (fit (wv x-wv y).natAbs) (wv x-wv y))
theorem spec:fF E f189 aF qQ qQ sp:=by
 rintro x y ⟨hx,hy⟩;refine(start x.1 x.2 y.1 y.2).trans ?_;have l1:=hx.len;have l2:=hy.len;have f1:=gF.mS hx;have f2:=gF.mS hy;have e1:zs (!y.1) (M6.val y.2)=-(wv y):=by unfold wv zs;cases y.1 <;> simp
 have b2:bl (-(wv y)).natAbs<=524288:=by rw[cGD,iX];exact hy.bl
 rw[gP,f1,cAN,bF,gP,f2,cAN,bF,fH,gP ⟨hy.1,by omega⟩,e1,gP ⟨hx,iF b2⟩,tQ];rfl
def aJ:dO:=orc2 qQ qQ sp
theorem ok:OK 189 aJ:=(eI E aF (aA gF.ok (aA Fc.ok (aA Hg.ok aD))) func189).jZ rfl spec
end aIC
namespace aCT
def E:=mE [(189,aIC.aJ),(148,lN.aJ)] 22 [] [] []
def aF:=bd f190
theorem aU:Nk E aF:=nk
theorem start a b d e c:aG E f190 aF [D.agg [sc (bool a),ints u64 b],D.agg [sc (bool d),ints u64 e],D.s (sc (int i64 c))]=letI A:=bif fit (wv (a,b)-wv (d,e)).natAbs then wv (a,b)-wv (d,e)else(0:Int);letI C:=(isNeg A,M6.dg A.natAbs);letI B:=wv C/(↑((2:Nat)^c.toNat):Int);aN (jA (a,b)/\jA (d,e)) (aN (jA C/\0<=c/\c<4611686018427387904) (some [D.agg [sc (bool (isNeg B)),ints u64 (M6.dg B.natAbs)]])):=eJ aU
def sp(x y:Bool×List Int)(n:Int):Prop×List D:=(jA x/\jA y/\fit (wv x-wv y).natAbs=true/\0<=n/\n<4611686018427387904,[wD ((wv x-wv y)/((2^n.toNat:Nat):Int))])
theorem spec:uQ E f190 aF qQ qQ (pN .i64) sp:=by
 rintro x y n ⟨h1,h2,h3,h4,h5⟩;have aZD:fit (wv (x.1,x.2)-wv (y.1,y.2)).natAbs=true:=h3;refine(start x.1 x.2 y.1 y.2 n).trans ?_;rw[gP ⟨h1,h2⟩];simp only[aZD,cond_true,tQ];exact gP ⟨iF (zH h3),h4,h5⟩
def aJ:dO:=orc3 qQ qQ (pN .i64) sp
theorem ok:OK 190 aJ:=(eI E aF (aA aIC.ok (aA lN.ok aD)) func190).Dn rfl spec
end aCT
namespace aIE
def E:=mE [(112,gF.aJ),(125,Ch.aJ)] 43 [37,42] [(3,[2,3])] [3]
def aF:=bd f220
theorem aU:Nk E aF:=nk
def J3 a b c d:=lP E f220 aF 3 [bK 0 27 [bC a,eR b],bK 1 27 [bC c,eR d]]
theorem start a b c d:aG E f220 aF [D.agg [sc (bool a),ints u64 b],D.agg [sc (bool c),ints u64 d]]=letI A:=some [D.s (sc (int i64 0)),D.s (sc (int i64 2))];aN (b.length<=1099511627776) (aC (!gF.pW (a,b)) A (aN (d.length<=1099511627776) (aC (!gF.pW (c,d)) A (aIE.J3 a b c d)))):=eJ aU
theorem fH a b c d:J3 a b c d=letI C:=sc (int i64 0);letI A:=aC a (aN (M6.bM d/\M6.bM b/\d.length<=1099511627776/\b.length<=1099511627776) (some [D.s (sc (int i64 (iW (M6.val d) (M6.val b)))),D.s C])) (aN (M6.bM b/\M6.bM d/\b.length<=1099511627776/\d.length<=1099511627776) (some [D.s (sc (int i64 (iW (M6.val b) (M6.val d)))),D.s C]));letI B:=aC (!a) (aC c (some [D.s (sc (int i64 1)),D.s C]) A) A;aC a (aC (!c) (some [D.s (sc (int i64 (-1:Int))),D.s C]) B) B:=cJ aU
def cZ(a b:Int):Int:=if a<b then -1 else if b<a then 1 else 0
def sp(x y:Bool×List Int):Prop×List D:=(jA x/\jA y,[.s (.sc (.int .i64 (cZ (wv x) (wv y)))),.s (.sc (.int .i64 0))])
theorem spec:fF E f220 aF qQ qQ sp:=by
 rintro x y ⟨hx,hy⟩;refine(start x.1 x.2 y.1 y.2).trans ?_;have l1:=hx.len;have l2:=hy.len;have f1:=gF.mS hx;have f2:=gF.mS hy;have d1:=hx.1.iA;have d2:=hy.1.iA;have z1:=hx.2.1;have z2:=hy.2.1;rw[gP,f1,cAN,bF,gP,f2,cAN,bF,fH];unfold sp cZ wv zs;obtain⟨p,a⟩:=x;obtain⟨q,b⟩:=y
 try dsimp only at *
 have g1:M6.bM b/\M6.bM a/\b.length<=1099511627776/\a.length<=1099511627776:=⟨d2,d1,by omega,by omega⟩;have g2:M6.bM a/\M6.bM b/\a.length<=1099511627776/\b.length<=1099511627776:=⟨d1,d2,by omega,by omega⟩;simp only[gP g1,gP g2];cases p with
 |true =>
  have:=z1 rfl;cases q with
  |true =>
   simp only[aC,cAN,cond_true,cond_false];have e:∀z:Int,z=(if -(M6.val a:Int) < -(M6.val b:Int)then -1 else if -(M6.val b:Int) < -(M6.val a:Int)then 1 else 0)->some [D.s (.sc (.int .i64 z)),D.s (.sc (.int .i64 0))]=some [D.s (.sc (.int .i64 (if -(M6.val a:Int) < -(M6.val b:Int)then -1 else if -(M6.val b:Int) < -(M6.val a:Int)then 1 else 0))),D.s (.sc (.int .i64 0))]:=fun z h=>by rw[h]
   refine e _ ?_;unfold iW
   (repeat' split) <;> omega
  |false =>
   simp only[aC,cKD,cond_true,cond_false];rw[aR]
 |false =>
  cases q with
  |true =>
   have:=z2 rfl;simp only[aC,cKD,cond_true,cond_false];rw[bI,aR]
  |false =>
   simp only[aC,cKD,cond_true,cond_false];have e:∀z:Int,z=(if(M6.val a:Int)<(M6.val b:Int)then -1 else if(M6.val b:Int)<(M6.val a:Int)then 1 else 0)->some [D.s (.sc (.int .i64 z)),D.s (.sc (.int .i64 0))]=some [D.s (.sc (.int .i64 (if(M6.val a:Int)<(M6.val b:Int)then -1 else if(M6.val b:Int)<(M6.val a:Int)then 1 else 0))),D.s (.sc (.int .i64 0))]:=fun z h=>by rw[h]
   refine e _ ?_;unfold iW
   (repeat' split) <;> omega
def aJ:dO:=orc2 qQ qQ sp
theorem ok:OK 220 aJ:=(eI E aF (aA gF.ok (aA Ch.ok aD)) func220).jZ rfl spec
end aIE
namespace sO
def E:=mE [(70,Iz.aJ),(71,Hg.aJ),(220,aIE.aJ)] 39 [] [] []
def aF:=bd f191
theorem aU:Nk E aF:=nk
theorem start a b c d e f:aG E f191 aF [D.agg [sc (bool a),ints u64 b],D.agg [sc (bool c),ints u64 d],D.agg [sc (bool e),ints u64 f]]=letI B:=bif fit (M6.val d*4)then wv (c,d)*4 else(0:Int);aN (jA (c,d)/\(0:Int)<=(2:Int)/\(2:Int)<(4611686018427387904:Int)) (aB (isNeg B) fun g=>aB (M6.dg B.natAbs) fun h=>letI A:=bif fit (wv (false,b)+wv (g,h)).natAbs then wv (false,b)+wv (g,h)else(0:Int);aN (jA (false,b)/\jA (g,h)) (aB (isNeg A) fun i=>aB (M6.dg A.natAbs) fun j=>letI C:=bif fit (M6.val j*2)then wv (i,j)*2 else(0:Int);aN (jA (i,j)/\(0:Int)<=(1:Int)/\(1:Int)<(4611686018427387904:Int)) (aB (isNeg C) fun k=>aB (M6.dg C.natAbs) fun l=>aN (jA (k,l)/\jA (e,f)) (aB (aIE.cZ (wv (k,l)) (wv (e,f))) fun m=>some [D.s (sc (bool (decide (m<0))))])))):=eJ aU
theorem aTG{n k:Nat}(h:bl n<=k):bl (n*4)<=k+2:=eF.2 (by rw[cDP];exact cGU (eF.1 h) (by decide))
theorem Le{n k:Nat}(h:bl n<=k):bl (n*2)<=k+1:=eF.2 (by rw[cDL];exact cGU (eF.1 h) (by decide))
theorem Bq{a b:Int}{n k:Nat}(ha:bl a.natAbs<=k)(hb:bl b.natAbs<=k)(hn:n=(a+b).natAbs):bl n<=k+1:=eF.2 (by
 have h1:=eF.1 ha;have h2:=eF.1 hb;rw[cDL];generalize 2^k=Q at *;omega)
def aNS(r off pi:Int):Bool:=decide (aIE.cZ (((r.natAbs:Int)+off*4)*2) pi<0)
def sp(x y z:Bool×List Int):Prop×List D:=(jA x/\jA y/\jA z/\0<=wv y/\bl (wv x).natAbs<=524000/\bl (wv y).natAbs<=524000,[.s (.sc (.bool (aNS (wv x) (wv y) (wv z))))])
theorem spec:uQ E f191 aF qQ qQ qQ sp:=by
 rintro x y z ⟨h1,h2,h3,h0,b1,b2⟩;refine(start x.1 x.2 y.1 y.2 z.1 z.2).trans ?_;have ex:(x.1,x.2)=x:=rfl;have ey:(y.1,y.2)=y:=rfl;have ez:(z.1,z.2)=z:=rfl;have vy:(wv y).natAbs=M6.val y.2:=iX y;have vx:(wv x).natAbs=M6.val x.2:=iX x;have wx:wv (false,x.2)=(((wv x).natAbs:Nat):Int):=by rw[vx];rfl
 have bRX:jA (false,x.2):=⟨h1.1,fun hf=>(by cases hf),h1.len⟩;have c1:bl (wv y*4).natAbs<=524002:=by
  rw[cEC];exact aTG b2
 have f1:fit (M6.val y.2*4)=true:=dqT (by
  rw[cEC,vy]at c1;exact bZJ c1 (by decide))
 rw[gP ⟨h2,by decide,by decide⟩];simp only[aE,ex,ey,ez,f1,cond_true];have oV:jA (isNeg (wv y*4),M6.dg (wv y*4).natAbs):=iF (bZJ c1 (by decide));have c2:bl ((((wv x).natAbs:Nat):Int)+wv y*4).natAbs<=524003:=Bq (k:=524002) (by rw[cED];exact bZJ b1 (by decide)) c1 rfl;have f2:fit ((((wv x).natAbs:Nat):Int)+wv y*4).natAbs=true:=dqT (bZJ c2 (by decide));rw[gP ⟨bRX,oV⟩];simp only[wx,tQ,f2,cond_true,M6.bD];have jZ:jA (isNeg ((((wv x).natAbs:Nat):Int)+wv y*4),M6.dg ((((wv x).natAbs:Nat):Int)+wv y*4).natAbs):=iF (bZJ c2 (by decide));have c3:bl (((((wv x).natAbs:Nat):Int)+wv y*4).natAbs*2)<=524004:=Le c2;have f3:fit (((((wv x).natAbs:Nat):Int)+wv y*4).natAbs*2)=true:=dqT (bZJ c3 (by decide));rw[gP ⟨jZ,by decide,by decide⟩,f3,cond_true,gP ⟨iF (by rw[cEC];exact bZJ c3 (by decide)),h3⟩];rfl
def aJ:dO:=orc3 qQ qQ qQ sp
theorem ok:OK 191 aJ:=(eI E aF (aA Iz.ok (aA Hg.ok (aA aIE.ok aD))) func191).Dn rfl spec
end sO
namespace cN
def E:=mE [(127,yL.aJ),(162,yO.aJ),(187,uT.aJ),(70,Iz.aJ),(188,Oy.aJ),(99,aID.aJ),(189,aIC.aJ),(71,Hg.aJ),(149,Ff.aJ),(190,aCT.aJ),(191,sO.aJ)] 90 [89] [] []
def aF:=bd f147
theorem aU:Nk E aF:=nk
theorem start a c d b:aG E f147 aF [D.agg [sc (bool a),ints u64 c,sc (int i64 d)],D.s (sc (int i64 b))]=letI U:=(isNeg 3,M6.dg 3);letI C:=d+(↑(bl (M6.val c)):Int);letI B:=i64.wrap (b+match BinOp.gtr with |BinOp.gtr=>if(0:Int)>i64.wrap C then(0:Int)else i64.wrap C |x=>if 0<i64.wrap C then(0:Int)else i64.wrap C)+8;letI A:=i64.wrap (b+if(0:Int)>i64.wrap C then(0:Int)else i64.wrap C)+8;letI P:=uT.aMM (dv (a,c,d)) (i64.wrap A);letI I:=i64.wrap (i64.wrap A-b)+1;letI Q:=(↑((2:Nat)^(i64.wrap I).toNat):Int);aN (M6.bM c/\c.length<=1099511627776) (aN (1<=i64.wrap A/\i64.wrap A<=70000) (aB (M6.dg (R.pF (i64.wrap A).toNat)) fun e=>letI O:=(false,e);aN (aQ (a,c,d)/\(-1099511627776:Int)<=i64.wrap A/\i64.wrap A<=1099511627776/\(0<=(a,c,d).snd.snd+i64.wrap B->fit ((dv (a,c,d)).fst.natAbs*(2:Nat)^((a,c,d).snd.snd+i64.wrap B).toNat)=true)) (aB (isNeg P) fun f=>aB (M6.dg P.natAbs) fun g=>letI N:=bif fit (M6.val g*2)then wv (f,g)*2 else(0:Int);aN (jA (f,g)/\(0:Int)<=(1:Int)/\(1:Int)<(4611686018427387904:Int)) (aB (isNeg N) fun h=>aB (M6.dg N.natAbs) fun i=>letI G:=uR.wL 2 false (M6.val i) (M6.val e);aN (jA (h,i)/\jA O/\wv O≠0/\fit G=true) (aB (isNeg (zs (h !=false) G)) fun j=>aB (M6.dg (zs (h !=false) G).natAbs) fun k=>letI H:=bif fit (wv (j,k)*wv O).natAbs then wv (j,k)*wv O else(0:Int);letI F:=bif fit (wv (false,k)+wv U).natAbs then wv (false,k)+wv U else(0:Int);aN (jA (j,k)/\jA O) (aB (isNeg H) fun l=>aB (M6.dg H.natAbs) fun m=>letI K:=bif fit (wv (h,i)-wv (l,m)).natAbs then wv (h,i)-wv (l,m)else(0:Int);aN (jA (h,i)/\jA (l,m)) (aB (isNeg K) fun n=>aB (M6.dg K.natAbs) fun o=>aN ((-9223372036854775808:Int)<=(3:Int)/\(3:Int)<(9223372036854775808:Int)) (aN (jA (false,k)/\jA U) (aB (isNeg F) fun p=>aB (M6.dg F.natAbs) fun q=>letI T:=wv (n,o)-wv (p,q);aN (jA (n,o)/\jA (p,q)/\fit T.natAbs=true/\0<=i64.wrap I/\i64.wrap I<4611686018427387904) (aB (isNeg (T/Q)) fun r=>aB (M6.dg (T/Q).natAbs) fun s=>aN (jA (n,o)/\jA (p,q)/\jA O/\0<=wv (p,q)/\bl (wv (n,o)).natAbs<=524000/\bl (wv (p,q)).natAbs<=524000) (aB (sO.aNS (wv (n,o)) (wv (p,q)) (wv O)) fun t=>some [D.agg [sc (bool j),ints u64 k],D.agg [sc (bool r),ints u64 s],D.s (sc (bool t))]))))))))))):=eJ aU
def rN(p:Int×Int):Int:=if 0>p.2+(bl p.1.natAbs:Nat)then 0 else p.2+(bl p.1.natAbs:Nat)
def rG(p:Int×Int)(w:Int):Int:=w+rN p+8
def rF(p:Int×Int)(w:Int):Nat:=R.pF (rG p w).toNat
def rX(p:Int×Int)(w:Int):Int:=uT.aMM p (rG p w)*2
def nK(X:Int)(f:Nat):Int:=zs (isNeg X) (uR.wL 2 false X.natAbs f)
def rK(p:Int×Int)(w:Int):Int:=nK (rX p w) (rF p w)
def rR(p:Int×Int)(w:Int):Int:=rX p w-rK p w*(rF p w:Nat)
def rO(p:Int×Int)(w:Int):Int:=((rK p w).natAbs:Nat)+3
def rM(p:Int×Int)(w:Int):Int:=(rR p w-rO p w)/((2^(rG p w-w+1).toNat:Nat):Int)
def sp(x:fB)(w:Int):Prop×List D:=(aQ x/\bl (dv x).1.natAbs<=64/\(-1200<=(dv x).2/\(dv x).2<=1200)/\1<=w/\w<=66600,[wD (rK (dv x) w),wD (rM (dv x) w),.s (.sc (.bool (sO.aNS (rR (dv x) w) (rO (dv x) w) (rF (dv x) w:Nat))))])
theorem Dd{n k m:Nat}(h:bl n<=m):bl (n*2^k)<=m+k:=eF.2 (by rw[cDP];exact cGU (eF.1 h) (cBM (by decide)))
theorem aSW(X f:Nat):uR.wL 2 false X f<=X/f+1:=by
 unfold uR.wL;cases qJ.qH 2 false (decide (X/f%2=1)) (decide (X%f≠0)) (iW (X%f) (f-X%f)) <;> simp
theorem aDR{X:Int}{f B:Nat}(hX:bl X.natAbs<=B)(hf:bl f<=B)(hB:2<=B) :
  bl (uR.wL 2 false X.natAbs f)<=B+1/\bl (nK X f*(f:Int)).natAbs<=B+1/\bl (X-nK X f*(f:Int)).natAbs<=B+2/\bl (((nK X f).natAbs:Int)+3).natAbs<=B+2/\bl (X-nK X f*(f:Int)-(((nK X f).natAbs:Int)+3)).natAbs<=B+3:=by
 have h1:=eF.1 hX;have h2:=eF.1 hf;have h3:=aSW X.natAbs f;have h4:X.natAbs/f*f<=X.natAbs:=Nat.div_mul_le_self _ _;have h5:X.natAbs/f<=X.natAbs:=cGV _ _;have h6:uR.wL 2 false X.natAbs f*f<=X.natAbs+f:=bZJ (cAA f h3) (by rw[bZH,cCQ];omega);have ek:(nK X f).natAbs=uR.wL 2 false X.natAbs f:=nM _ _;have h7:(nK X f*(f:Int)).natAbs<=X.natAbs+f:=by rw[cEC,ek,cED];exact h6
 have e4:4<=2^B:=bZJ (show 4<=2^2 by decide) (cBN (by decide) hB);have p1:2^(B+1)=2*2^B:=by rw[cDL];omega
 have p2:2^(B+2)=4*2^B:=by rw[cDP];omega
 have p3:2^(B+3)=8*2^B:=by rw[cDP];omega
 generalize nK X f*(f:Int)=kf at *;rw[ek];generalize uR.wL 2 false X.natAbs f=d at *;generalize 2^B=Q at *;refine⟨eF.2 ?_,eF.2 ?_,eF.2 ?_,eF.2 ?_,eF.2 ?_⟩
 ·rw[p1];omega
 ·rw[p1];omega
 ·rw[p2];omega
 ·rw[p2];omega
 ·rw[p3];omega
theorem Cv{g:Nat}(hg:g<=136000):bl (R.pF g)<=g+2/\R.pF g≠0:=by
 obtain⟨h1,h2⟩:=R.Ga hg;obtain⟨q1,q2⟩:=R.iT;have hW:(1:Rat)<=((2^g:Nat):Rat):=by exact_mod_cast cBM (by decide)
 constructor
 ·refine eF.2 ?_;rw[cDP];have:(R.pF g:Rat)<((2^g:Nat):Rat)*4:=by
   have:=R.aI (cDS (by decide:(0:Rat)<=1) hW) (show 0<=3142/1000-R.pi by grind);generalize ((2^g:Nat):Rat)=W at *;grind
  exact_mod_cast this
 ·intro h0;rw[h0]at h2;have z:((0:Nat):Rat)=0:=by norm_cast
  rw[z]at h2;have:=R.aI (cDS (by decide:(0:Rat)<=1) hW) (show 0<=R.pi-3 by grind);generalize ((2^g:Nat):Rat)=W at *;grind
theorem aDY{p:Int×Int}{w:Int}(hz:bl p.1.natAbs<=64)(e1:-1200<=p.2)(e2:p.2<=1200)(w1:1<=w)(w2:w<=66600):bl (rM p w).natAbs<=80004/\bl (rK p w).natAbs<=80002:=by
 have t0:0<=rN p/\rN p<=1264:=by unfold rN;split <;> omega
 have g1:1<=rG p w/\rG p w<=70000:=by unfold rG;omega
 have bFF:bl (uT.aMM p (rG p w)).natAbs<=80000:=by
  unfold uT.aMM;split
  ·rw[cEC,cED];exact bZJ (Dd hz) (by omega)
  ·exact bZJ (gD (qL (cBM (by decide)))) (by omega)
 have Xs:bl (rX p w).natAbs<=80001:=by
  unfold rX;rw[cEC];exact sO.Le bFF
 obtain⟨Fs,F0⟩:=Cv (g:=(rG p w).toNat) (by omega);have hF:R.pF (rG p w).toNat=rF p w:=rfl;rw[hF]at Fs F0;obtain⟨s1,s2,s3,s4,s5⟩:=aDR (X:=rX p w) (f:=rF p w) (B:=80001) Xs (by omega) (by decide);refine⟨bZJ (gD (qL (cBM (by decide)))) s5,?_⟩;show bl (zs _ _).natAbs<=_;rw[nM];exact s1
theorem spec:fF E f147 aF jQ (pN .i64) sp:=by
 rintro x w ⟨hx,hz,⟨e1,e2⟩,w1,w2⟩;refine(start x.1 x.2.1 x.2.2 w).trans ?_;have ha:(dv x).1.natAbs=M6.val x.2.1:=iX (x.1,x.2.1);have aEM:x.2.2=(dv x).2:=rfl;have aGS:(x.1,x.2.1,x.2.2)=x:=rfl;have len:=hx.len;unfold sp;dsimp only;simp only[aGS,aEM,<-ha];have hT:rN (dv x)=if 0>(dv x).2+(bl (dv x).1.natAbs:Nat)then 0 else(dv x).2+(bl (dv x).1.natAbs:Nat):=rfl
 have wt:i64.wrap ((dv x).2+((bl (dv x).1.natAbs:Nat):Int))=(dv x).2+((bl (dv x).1.natAbs:Nat):Int):=wrap_i64;have t0:0<=rN (dv x)/\rN (dv x)<=1264:=by rw[hT];split <;> omega
 have t1:(dv x).2+(bl (dv x).1.natAbs:Nat)<=rN (dv x):=by rw[hT];split <;> omega
 have hG:rG (dv x) w=w+rN (dv x)+8:=rfl;have wg:i64.wrap (i64.wrap (w+rN (dv x))+8)=rG (dv x) w:=by rw[wrap_i64 (n:=w+rN (dv x)),wrap_i64,hG]
 have wl:i64.wrap (i64.wrap (rG (dv x) w-w)+1)=rG (dv x) w-w+1:=by rw[wrap_i64 (n:=rG (dv x) w-w),wrap_i64]
 simp only[wt,<-hT,wg,wl,aE];have g1:1<=rG (dv x) w/\rG (dv x) w<=70000:=by omega
 have bFF:bl (uT.aMM (dv x) (rG (dv x) w)).natAbs<=80000:=by
  unfold uT.aMM;split
  ·rw[cEC,cED];exact bZJ (Dd hz) (by omega)
  ·exact bZJ (gD (qL (cBM (by decide)))) (by omega)
 have Xs:bl (rX (dv x) w).natAbs<=80001:=by
  unfold rX;rw[cEC];exact sO.Le bFF
 obtain⟨Fs,F0⟩:=Cv (g:=(rG (dv x) w).toNat) (by omega);have hF:R.pF (rG (dv x) w).toNat=rF (dv x) w:=rfl;rw[hF]at Fs F0;obtain⟨s1,s2,s3,s4,s5⟩:=aDR (X:=rX (dv x) w) (f:=rF (dv x) w) (B:=80001) Xs (by omega) (by decide);have aYL:(0:Int)<=x.2.2+rG (dv x) w->fit ((dv x).1.natAbs*2^(x.2.2+rG (dv x) w).toNat)=true:=fun _=>dqT (bZJ (Dd hz) (by omega))
 rw[gP ⟨hx.Fi.iA,by omega⟩,gP g1,gP ⟨hx,by omega,by omega,aYL⟩];have aPO:(x.1,x.2.1,(dv x).2)=x:=rfl;have f1:fit ((uT.aMM (dv x) (rG (dv x) w)).natAbs*2)=true:=dqT (bZJ (sO.Le bFF) (by decide));have eX:uT.aMM (dv x) (rG (dv x) w)*2=rX (dv x) w:=rfl;have eK:zs (isNeg (rX (dv x) w)) (uR.wL 2 false (rX (dv x) w).natAbs (rF (dv x) w))=rK (dv x) w:=rfl;have vN:∀n:Nat,wv (false,M6.dg n)=(n:Int):=fun n=>by show(M6.val (M6.dg n):Int)=n;rw[M6.bD]
 have wN:∀n:Nat,bl n<=524288->jA (false,M6.dg n):=fun n hn=>by
  have:=iF (z:=(n:Int)) (by rw[cED];exact hn);rw[fN.2 (by omega),cED]at this;exact this
 have v3:wv (isNeg 3,M6.dg 3)=3:=tQ 3;have k3:jA (isNeg 3,M6.dg 3):=iF (z:=3) (by decide +kernel);have kK:(rK (dv x) w).natAbs=uR.wL 2 false (rX (dv x) w).natAbs (rF (dv x) w):=nM _ _;rw[show nK (rX (dv x) w) (rF (dv x) w)=rK (dv x) w from rfl]at s2 s3 s4 s5;have f2:fit (rK (dv x) w*(rF (dv x) w:Nat)).natAbs=true:=dqT (bZJ s2 (by decide));have f3:fit (rX (dv x) w-rK (dv x) w*(rF (dv x) w:Nat)).natAbs=true:=dqT (bZJ s3 (by decide));have f4:fit (((rK (dv x) w).natAbs:Int)+3).natAbs=true:=dqT (bZJ s4 (by decide));have f5:fit (rX (dv x) w-rK (dv x) w*(rF (dv x) w:Nat)-(((rK (dv x) w).natAbs:Int)+3)).natAbs=true:=dqT (bZJ s5 (by decide));simp only[aPO,hF,tQ,M6.bD,f1,cond_true,eX,Bool.bne_false,eK,vN,v3,f2,f3,f4];rw[gP ⟨iF (bZJ bFF (by decide)),by decide,by decide⟩,gP ⟨iF (bZJ Xs (by decide)),wN _ (by omega),by omega,dqT (bZJ s1 (by decide))⟩,
  gP ⟨iF (by rw[kK];exact bZJ s1 (by decide)),wN _ (by omega)⟩,gP ⟨iF (bZJ Xs (by decide)),iF (bZJ s2 (by decide))⟩,gP ⟨by decide,by decide⟩,
  gP ⟨wN _ (by rw[kK];exact bZJ s1 (by decide)),k3⟩,gP ⟨iF (bZJ s3 (by decide)),iF (bZJ s4 (by decide)),f5,by omega,by omega⟩,
  gP ⟨iF (bZJ s3 (by decide)),iF (bZJ s4 (by decide)),wN _ (by omega),by omega,bZJ s3 (by decide),bZJ s4 (by decide)⟩]
 rfl
def aJ:dO:=orc2 jQ (pN .i64) sp
theorem ok:OK 147 aJ:=(eI E aF (aA yL.ok (aA yO.ok (aA uT.ok (aA Iz.ok (aA Oy.ok (aA aID.ok (aA aIC.ok (aA Hg.ok (aA Ff.ok (aA aCT.ok (aA sO.ok aD))))))))))) func147).jZ rfl spec
end cN
namespace aTR
def E:=mE [(112,gF.aJ),(165,Cb.aJ),(126,vK.aJ),(123,Ci.aJ)] 60 [28,50,57] [(3,[2,3,4])] [3]
def aF:=bd f131
theorem aU:Nk E aF:=nk
def J3 a b c d e:=lP E f131 aF 3 [bK 0 27 [bC a,eR b],bK 1 27 [bC c,eR d],bK 2 27 [bC e,sc (slice none 0 0)]]
theorem start a b c d:aG E f131 aF [D.agg [sc (bool a),ints u64 b],D.agg [sc (bool c),ints u64 d]]=letI A:=some [D.agg [sc (bool false),sc (slice none 0 0)],D.s (sc (int i64 2))];aN (b.length<=1099511627776) (aC (!gF.pW (a,b)) A (aN (d.length<=1099511627776) (aC (!gF.pW (c,d)) A (aTR.J3 a b c d false)))):=eJ aU
theorem fH a b c d e:J3 a b c d e=letI A:=M6.dg (M6.val b%M6.val d);letI F:=M6.dg (M6.val d-M6.val A);letI C:=bif (if M6.val d<M6.val A then(3:Int)else(0:Int))==0 then zs c (M6.val F)else(0:Int);letI B:=aN (M6.cO A/\A.length<=1099511627776) (some [D.agg [sc (bool (isNeg (zs c (M6.val A)))),ints u64 (M6.dg (zs c (M6.val A)).natAbs)],D.s (sc (int i64 0))]);aC ((d.length:Int)==(0:Int)) (some [D.agg [sc (bool false),sc (slice none 0 0)],D.s (sc (int i64 4))]) (aN (M6.cO b/\b.length<=8192/\M6.cO d/\1<=d.length/\d.length<=8192) (aC (a !=c) (aC (decide (0<(A.length:Int))) (aN (M6.cO d/\M6.cO A/\d.length<=8192/\A.length<=8192) (aN (M6.cO F/\F.length<=1099511627776) (some [D.agg [sc (bool (isNeg C)),ints u64 (M6.dg C.natAbs)],D.s (sc (int i64 (if M6.val d<M6.val A then(3:Int)else(0:Int))))]))) B) B)):=cJ aU
def sp(x y:Bool×List Int):Prop×List D:=(jA x/\jA y/\y.1=false/\1<=y.2.length,[wD (wv x%wv y),.s (.sc (.int .i64 0))])
theorem spec:fF E f131 aF qQ qQ sp:=by
 rintro x y ⟨hx,hy,hn,h1⟩;refine(start x.1 x.2 y.1 y.2).trans ?_;have l1:=hx.len;have l2:=hy.len;have f1:=gF.mS hx;have f2:=gF.mS hy;have b2:=hy.bl;obtain⟨p,a⟩:=x;obtain⟨q,b⟩:=y;have n1:M6.cO a:=hx.1;have n2:M6.cO b:=hy.1
 try dsimp only at *
 subst hn;unfold sp
 try dsimp only
 have hz:M6.val b≠0:=fun h=>by have:=(M6.cY n2).2 h;omega
 have hm:=cAV (M6.val a) (show 0<M6.val b by omega);have hl:=gI (n:=M6.val a%M6.val b) (k:=8192) (bZJ (gD (cMF hm)) b2);have bHC:=gI (n:=M6.val b-M6.val a%M6.val b) (k:=8192) (bZJ (gD (cEV _ _)) b2);have hb:wv (false,b)=(M6.val b:Int):=Hm (x:=(false,b)) rfl;have zf:∀n:Nat,zs false n=(n:Int):=fun n=>rfl
 rw[gP,f1,cAN,bF,gP,f2,cAN,bF,fH,cP,gP ⟨n1,l1,n2,h1,l2⟩];simp only[M6.bD];cases p with
 |false =>
  have ha:wv (false,a)=(M6.val a:Int):=Hm (x:=(false,a)) rfl;rw[show(false !=false)=false from rfl,bF,gP ⟨M6.bA _,by omega⟩,ha,hb,<-Int.natCast_emod];rfl
 |true =>
  have ha:wv (true,a)=-(M6.val a:Int):=Sg (x:=(true,a)) rfl;rw[show(true !=false)=true from rfl,bT]
  by_cases hr:M6.val a%M6.val b=0
  ·have e0:-(M6.val a:Int)%(M6.val b:Int)=0:=by
    have bBP:=cDT (M6.val a) (M6.val b);rw[hr,bZO]at bBP;rw[<-bBP,cEW,<-Int.mul_neg];exact Int.mul_emod_right _ _
   rw[hr,M6.cL,aM (by simp),gP ⟨M6.Gc,by simp⟩,ha,hb,e0];rfl
  ·have hd:(M6.dg (M6.val a%M6.val b)).length≠0:=fun h=>hr (M6.fZ.1 h)
   have e0:-(M6.val a:Int)%(M6.val b:Int)=((M6.val b-M6.val a%M6.val b:Nat):Int):=by
    have bBP:=cDT (M6.val a) (M6.val b);have e1:-(M6.val a:Int)=((M6.val b-M6.val a%M6.val b:Nat):Int)+(M6.val b:Int)*(-(((M6.val a/M6.val b+1:Nat)):Int)):=by
     have e2:((M6.val b*(M6.val a/M6.val b)+M6.val a%M6.val b:Nat):Int)=(M6.val a:Int):=by rw[bBP]
     rw[cMH,cEW]at e2;rw[Int.mul_neg,cMH,Int.mul_add];generalize M6.val a%M6.val b=r at *;generalize (M6.val b:Int)*((M6.val a/M6.val b:Nat):Int)=z at *;omega
    rw[e1,Int.add_mul_emod_self_left];exact Int.emod_eq_of_lt (by omega) (by omega)
   rw[aO,gP ⟨n2,M6.bA _,l2,hl⟩,gP ⟨M6.bA _,by omega⟩,bI,ha,hb,e0];rfl
def aJ:dO:=orc2 qQ qQ sp
theorem ok:OK 131 aJ:=(eI E aF (aA gF.ok (aA Cb.ok (aA vK.ok (aA Ci.ok aD)))) func131).jZ rfl spec
end aTR
namespace Fe
def E:=mE [(112,gF.aJ)] 40 [] [(8,[1,4])] [8]
def aF:=bd f132
theorem aU:Nk E aF:=nk
def J8 a b c:=lP E f132 aF 8 [bK 0 27 [bC a,eR b],dR c]
theorem start a b:aG E f132 aF [D.agg [sc (bool a),ints u64 b]]=letI F:=Fe.J8 a b (b.getD 0 0);letI C:=(b.length:Int);letI B:=sc (int i64 0);letI A:=some [D.s B,D.s (sc (int i64 5))];aN (b.length<=1099511627776) (aC (!gF.pW (a,b)) (some [D.s B,D.s (sc (int i64 2))]) (aC (C==(0:Int)) (some [D.s B,D.s B]) (if(0:Int)<=(0:Int)/\0<C then aC (decide (1<C)) A (aC (decide (9223372036854775808<b.getD 0 0)) A (aC (b.getD 0 0==(9223372036854775808:Int)) (aC (!a) A F) F))else none))):=eJ aU
theorem Al a b c:J8 a b c=aC a (some [D.s (sc (int i64 (i64.wrap (u64.wrap ((0:Int)-c))))),D.s (sc (int i64 0))]) (some [D.s (sc (int i64 (i64.wrap c))),D.s (sc (int i64 0))]):=cJ aU
def yX(z:Int):Bool:=decide (-9223372036854775808<=z)&&decide (z<9223372036854775808)
def sp(x:Bool×List Int):Prop×List D:=(jA x,[.s (.sc (.int .i64 (bif yX (wv x)then wv x else 0))),.s (.sc (.int .i64 (bif yX (wv x)then 0 else 5)))])
theorem spec:iH E f132 aF qQ sp:=by
 intro x h;have h:jA x:=h;refine(start x.1 x.2).trans ?_;obtain⟨b,a⟩:=x;have hl:a.length<=8192:=h.len;have h1:M6.cO a:=h.1;have g:=h1.iA.get 0;have hf:=gF.mS h
 try dsimp only
 unfold sp
 try dsimp only
 rw[gP,hf,cAN,bF];have yes:∀z:Int,-9223372036854775808<=z->z<9223372036854775808->yX z=true:=fun z h h'=>by unfold yX;rw[dqT h,dqT h'];rfl
 have no:∀z:Int,(z < -9223372036854775808\/9223372036854775808<=z)->yX z=false:=fun z h=>by
  unfold yX;rcases h with h |h
  ·rw[dqF (by omega),cDW]
  ·rw[dqF (show ¬z<_ by omega),cDY]
 by_cases hz:a.length=0
 ·have hv:=(M6.cY h1).1 hz;have:wv (b,a)=0:=by
   have:=iX (b,a);rw[show M6.val (b,a).2=0 from hv]at this;omega
  rw[dU,this];rfl
 ·rw[cP,if_pos ⟨by omega,by omega⟩];have bJL:M6.val a≠0:=fun h=>hz ((M6.cY h1).2 h)
  have aMI:=iX (b,a)
  try dsimp only at aMI
  by_cases h2:1<a.length
  ·have Ai:18446744073709551616<=M6.val a:=by
    have:=M6.Cz (n:=M6.val a) (k:=1) (by rw[aKV h1];exact h2);omega
   rw[aO,no _ (by omega)];rfl
  ·have hv:M6.val a=(a.getD 0 0).toNat:=by
    have:=M6.bR (a:=a) 0;rw[M6.cC (by omega)]at this;simpa [M6.val] using this
   rw[aM];generalize a.getD 0 0=w at *
   by_cases h3:9223372036854775808<w
   ·rw[aO h3,no _ (by omega)];rfl
   ·rw[aM h3,Al];cases b with
    |true =>
     have hw:wv (true,a)=-(M6.val a:Int):=Sg (x:=(true,a)) rfl;have e1:i64.wrap (u64.wrap (0-w))=wv (true,a):=by rw[hw,gG,Jc];omega
     rw[yes _ (by omega) (by omega),cAN,bF,bT,e1];unfold aC;cases (w==9223372036854775808) <;> rfl
    |false =>
     have hw:wv (false,a)=(M6.val a:Int):=Hm (x:=(false,a)) rfl;rw[cKD,bT,bF]
     by_cases h4:w=9223372036854775808
     ·rw[dU h4,no _ (by omega)];rfl
     ·rw[cP h4,yes _ (by omega) (by omega),wrap_i64];rw[show w=wv (false,a)from by omega];rfl
def aJ:dO:=orc1 qQ sp
theorem ok:OK 132 aJ:=(eI E aF (aA gF.ok aD) func132).oV rfl spec
end Fe
namespace aW
def E:=mE [(145,Vq.aJ),(146,uS.aJ),(147,cN.aJ),(148,lN.aJ),(149,Ff.aJ),(71,Hg.aJ),(63,mH.aJ),(131,aTR.aJ),(132,Fe.aJ)] 105 [33,98] [(3,[0,1,5])] [3]
def aF:=bd f93
theorem aU:Nk E aF:=nk
def J3 a b c d e f:=lP E f93 aF 3 [dR a,bJ b,bK 2 31 [bC c,sc (slice none 0 0),cV d,bC e,sc (slice none 0 0),cV f]]
theorem start a b:aG E f93 aF [D.s (sc (int u64 a)),D.s (sc (int i64 b))]=letI B:=int i64 0;letI A:=some [D.s (sc B),D.agg [sc (bool false),sc (slice none 0 0),sc B,sc (bool false),sc (slice none 0 0),sc B],D.s (sc (int i64 1))];aC (decide (b<1)) A (aC (decide (68000<b)) A (aW.J3 a b false 0 false 0)):=eJ aU
theorem fH a b c d e f:J3 a b c d e f=letI O:=int i64 0;letI H:=(isNeg 4,M6.dg 4);letI C:=i64.wrap ((0:Int)-i64.wrap (b+8));letI B:=if(72:Int)>i64.wrap (b+8)then(72:Int)else i64.wrap (b+8);letI P:=B-i64.wrap (b+8);letI A:=bif iE.lM 64 a&&iQ.uM 64 a then bW (gW.wU 64 a) (gW.xD 64 a)else((0:Int),(0:Int));letI Q:=M6.dg A.fst.natAbs;aN (0<=a/\a<18446744073709551616) (aB (isNeg A.fst) fun g=>aB Q fun h=>aB A.snd fun i=>letI I:=dv (g,h,i);aB (bif iE.lM 64 a then bif iQ.uM 64 a then(0:Int)else(6:Int)else(2:Int)) fun j=>aC (j !=0) (some [D.s (sc O),D.agg [sc (bool false),sc (slice none 0 0),sc O,sc (bool false),sc (slice none 0 0),sc O],D.s (sc (int i64 j))]) (aN (aQ (g,h,i)) (aB (uS.aPI I) fun k=>aC k (aN (0<=a/\a<18446744073709551616) (aB (isNeg A.fst) fun l=>aB Q fun m=>aB A.snd fun n=>some [D.s (sc O),D.agg [sc (bool g),ints u64 h,sc (int i64 i),sc (bool l),ints u64 m,sc (int i64 n)],D.s (sc O)])) (aN (aQ (g,h,i)/\bl I.fst.natAbs<=64/\((-1200:Int)<=I.snd/\I.snd<=1200)/\(1<=if(72:Int)>i64.wrap (b+8)then(72:Int)else i64.wrap (b+8))/\B<=66600) (aB (isNeg (cN.rK I B)) fun o=>aB (M6.dg (cN.rK I B).natAbs) fun p=>aB (isNeg (cN.rM I B)) fun q=>aB (M6.dg (cN.rM I B).natAbs) fun r=>letI K:=wv (q,r)/(↑((2:Nat)^(i64.wrap P).toNat):Int);aN (jA (q,r)/\0<=i64.wrap P/\i64.wrap P<4611686018427387904) (aB (isNeg K) fun s=>aB (M6.dg K.natAbs) fun t=>letI N:=bif fit (wv (s,t)+wv H).natAbs then wv (s,t)+wv H else(0:Int);letI F:=bif jR (wv (s,t)) C then bW (wv (s,t)) C else((0:Int),(0:Int));aN ((-9223372036854775808:Int)<=(4:Int)/\(4:Int)<(9223372036854775808:Int)) (aN (jA (s,t)/\jA H) (aB (isNeg N) fun u=>aB (M6.dg N.natAbs) fun v=>letI G:=bif jR (wv (u,v)) C then bW (wv (u,v)) C else((0:Int),(0:Int));aN (jA (s,t)/\(-9223372036854775808:Int)<=i64.wrap ((0:Int)-i64.wrap (b+8))/\i64.wrap ((0:Int)-i64.wrap (b+8))<9223372036854775808) (aB (isNeg F.fst) fun w=>aB (M6.dg F.fst.natAbs) fun x=>aB F.snd fun y=>aN (jA (u,v)/\(-9223372036854775808:Int)<=i64.wrap ((0:Int)-i64.wrap (b+8))/\i64.wrap ((0:Int)-i64.wrap (b+8))<9223372036854775808) (aB (isNeg G.fst) fun z=>aB (M6.dg G.fst.natAbs) fun aa=>aB G.snd fun ab=>aN ((-9223372036854775808:Int)<=(4:Int)/\(4:Int)<(9223372036854775808:Int)) (aN (jA (o,p)/\jA H/\isNeg 4=false/\1<=(M6.dg 4).length) (aB (isNeg (wv (o,p)%wv H)) fun ac=>aB (M6.dg (wv (o,p)%wv H).natAbs) fun ad=>aN (jA (ac,ad)) (aB (bif Fe.yX (wv (ac,ad))then wv (ac,ad)else(0:Int)) fun ae=>some [D.s (sc (int i64 ae)),D.agg [sc (bool w),ints u64 x,sc (int i64 y),sc (bool z),ints u64 aa,sc (int i64 ab)],D.s (sc O)]))))))))))))):=cJ aU
def mV(b:Int):Int×Int:=bW (gW.wU 64 b) (gW.xD 64 b)
def cW(p:Int):Int:=if 72>p+8 then 72 else p+8
def cM(x:Int×Int)(p:Int):Int:=cN.rM x (cW p)/((2^(cW p-(p+8)).toNat:Nat):Int)
def cQ(x:Int×Int)(p:Int):Int:=bif uS.aPI x then 0 else cN.rK x (cW p)%4
def Zs(x:Int×Int)(p:Int):Int×Int:=bif uS.aPI x then x else bW (cM x p) (-(p+8))
def Zt(x:Int×Int)(p:Int):Int×Int:=bif uS.aPI x then x else bW (cM x p+4) (-(p+8))
def sp(b p:Int):Prop×List D:=((0<=b/\b<18446744073709551616)/\iE.lM 64 b=true/\iQ.uM 64 b=true/\(1<=p/\p<=66590)/\nC (mV b)/\bl (mV b).1.natAbs<=64/\-1200<=(mV b).2/\(mV b).2<=1200,[.s (.sc (.int .i64 (cQ (mV b) p))),Cr (Zs (mV b) p) (Zt (mV b) p),.s (.sc (.int .i64 0))])
theorem aFU{z:Int}{k:Nat}(h:bl z.natAbs<=k)(hk:3<=k):bl (z+4).natAbs<=k+1:=sO.Bq h (by rw[show(4:Int).natAbs=4 from rfl,show bl 4=3 from rfl];exact hk) rfl
theorem spec:fF E f93 aF (pN .u64) (pN .i64) sp:=by
 rintro b p ⟨hb,hp,hf,⟨p1,p2⟩,hx,hz,e1,e2⟩;refine(start b p).trans ?_;unfold sp cQ Zs Zt;dsimp only;have eb:(bif iE.lM 64 b&&iQ.uM 64 b then bW (gW.wU 64 b) (gW.xD 64 b)else(0,0))=mV b:=by rw[hp,hf];rfl
 have ee:(bif iE.lM 64 b then(bif iQ.uM 64 b then 0 else 6)else 2:Int)=0:=by rw[hp,hf];rfl
 have dk:=eQ hx;have dc:=fK (mV b);rw[aM,aM,fH,gP hb];simp only[aE,eb,ee,dc];rw[gA rfl,gP dk];cases hs:uS.aPI (mV b)with
 |true =>
  rw[cond_true,cond_true,cond_true];show aN _ _=_;rw[gP hb];rfl
 |false =>
  rw[cond_false,cond_false,cond_false];show aN _ _=_;have w8:i64.wrap (p+8)=p+8:=wrap_i64;have eW:(if 72>p+8 then 72 else p+8)=cW p:=rfl;have hW:1<=cW p/\cW p<=66600/\p+8<=cW p:=by unfold cW;split <;> omega
  have wd:i64.wrap (cW p-(p+8))=cW p-(p+8):=wrap_i64;have w0:i64.wrap (0-(p+8))=-(p+8):=by rw[wrap_i64];omega
  obtain⟨sM,sK⟩:=cN.aDY (p:=mV b) (w:=cW p) hz e1 e2 hW.1 hW.2.1;have v4:wv (isNeg 4,M6.dg 4)=4:=tQ 4;have k4:jA (isNeg 4,M6.dg 4):=iF (z:=4) (by decide +kernel);have eM:cN.rM (mV b) (cW p)/((2^(cW p-(p+8)).toNat:Nat):Int)=cM (mV b) p:=rfl;have sC:bl (cM (mV b) p).natAbs<=80004:=bZJ (gD (qL (cBM (by decide)))) sM;have bNR:=aFU sC (by decide);have f4:fit (cM (mV b) p+4).natAbs=true:=dqT (bZJ bNR (by decide));have i1:jR (cM (mV b) p) (-(p+8))=true:=kZ (by omega) (by omega);have i2:jR (cM (mV b) p+4) (-(p+8))=true:=kZ (by omega) (by omega);have m4:0<=cN.rK (mV b) (cW p)%4/\cN.rK (mV b) (cW p)%4<4:=by omega
  have sm:Fe.yX (cN.rK (mV b) (cW p)%4)=true:=by
   unfold Fe.yX;simp only[bYT,decide_eq_true_eq];omega
  have b3:bl (cN.rK (mV b) (cW p)%4).natAbs<=3:=eF.2 (by have:(2:Nat)^3=8:=rfl;omega);have l4:(M6.dg 4).length=1:=by decide +kernel
  simp only[w8,eW,wd,w0,tQ,v4,eM,f4,i1,i2,sm,cond_true];rw[gP ⟨dk,hz,⟨e1,e2⟩,hW.1,hW.2.1⟩,gP ⟨iF (bZJ sM (by decide)),by omega,by omega⟩,gP ⟨by decide,by decide⟩,gP ⟨iF (bZJ sC (by decide)),k4⟩,
   gP ⟨iF (bZJ sC (by decide)),by omega,by omega⟩,gP ⟨iF (bZJ bNR (by decide)),by omega,by omega⟩,gP ⟨by decide,by decide⟩,
   gP ⟨iF (bZJ sK (by decide)),k4,by decide,by omega⟩,gP (iF (bZJ b3 (by decide)))]
  rfl
def aJ:dO:=orc2 (pN .u64) (pN .i64) sp
theorem ok:OK 93 aJ:=(eI E aF (aA Vq.ok (aA uS.ok (aA cN.ok (aA lN.ok (aA Ff.ok (aA Hg.ok (aA mH.ok (aA aTR.ok (aA Fe.ok aD))))))))) func93).jZ rfl spec
end aW
end W
namespace M
open Go AI W
theorem aHQ{u v:Nat}(hv:0<v):2*u<=2*(uR.wL 2 false u v*v)+v/\2*(uR.wL 2 false u v*v)<=2*u+v:=by
 have hd:=cDT u v;have hm:=cAV u hv;have hc:v*(u/v)=u/v*v:=cDM _ _;unfold uR.wL qJ.qH
 by_cases h:v-u%v<=u%v
 ·cases hb:(bif (2:Int)==0 then false&&decide (u%v≠0)else bif (2:Int)==1 then !false&&decide (u%v≠0)else(decide (0<iW (u%v) (v-u%v))||(iW (u%v) (v-u%v)==0&&decide (u/v%2=1))))with
  |true=>rw[cond_true,bZH,cCQ];omega
  |false =>
   rw[cond_false,bZO];have Fj:¬0<iW (u%v) (v-u%v):=by
    intro hh;rw[dqT hh]at hb
    revert hb
    simp
   have:u%v<=v-u%v:=by
    unfold iW at Fj;split at Fj
    ·omega
    ·split at Fj <;> omega
   omega
 ·have e:iW (u%v) (v-u%v)=-1:=by unfold iW;rw[aR]
  rw[e];have hb:(bif (2:Int)==0 then false&&decide (u%v≠0)else bif (2:Int)==1 then !false&&decide (u%v≠0)else(decide ((0:Int) < -1)||((-1:Int)==0&&decide (u/v%2=1))))=false:=by
   cases decide (u/v%2=1) <;> rfl
  rw[hb,cond_false,bZO];omega
theorem aRJ{X:Int}{f:Nat}(hf:0<f):-(f:Rat)<=2*((X:Rat)-(cN.nK X f:Rat)*(f:Rat))/\2*((X:Rat)-(cN.nK X f:Rat)*(f:Rat))<=(f:Rat):=by
 obtain⟨d1,d2⟩:=aHQ (u:=X.natAbs) hf;have h:-(f:Int)<=2*(X-cN.nK X f*(f:Int))/\2*(X-cN.nK X f*(f:Int))<=(f:Int):=by
  have bXK:2*(X.natAbs:Int)<=2*((uR.wL 2 false X.natAbs f:Nat)*(f:Int))+f:=by exact_mod_cast d1
  have bXJ:2*((uR.wL 2 false X.natAbs f:Nat)*(f:Int))<=2*(X.natAbs:Int)+f:=by exact_mod_cast d2
  unfold cN.nK;generalize uR.wL 2 false X.natAbs f=d at *;cases hb:isNeg X with
  |true =>
   have:X<0:=jT.1 hb;have e:zs true d*(f:Int)=-((d:Int)*(f:Int)):=by show -(d:Int)*_=_;rw[cHX]
   rw[e];generalize (d:Int)*(f:Int)=P at *;omega
  |false =>
   have:0<=X:=fN.1 hb;have e:zs false d*(f:Int)=(d:Int)*(f:Int):=rfl;rw[e];generalize (d:Int)*(f:Int)=P at *;omega
 obtain⟨h1,h2⟩:=h;constructor
 ·have:((-(f:Int):Int):Rat)<=((2*(X-cN.nK X f*(f:Int)):Int):Rat):=by exact_mod_cast h1
  rw[cJG,cJA,cMB,cJA,cIW]at this;exact this
 ·have:((2*(X-cN.nK X f*(f:Int)):Int):Rat)<=((f:Int):Rat):=by exact_mod_cast h2
  rw[cJA,cMB,cJA,cIW]at this;exact this
theorem aJH{q:Rat}{a b:Int}(h1:R.pz a<=q)(h2:q<R.pz (a+1))(h3:R.pz b<=q)(h4:q<R.pz (b+1)):a=b:=by
 have:R.pz a<R.pz (b+1):=by grind
 have:=R.xU.1 this;have:R.pz b<R.pz (a+1):=by grind
 have:=R.xU.1 this;omega
theorem aWE{p q:Int×Int}(hp:p.1≠0)(h:R.qz p=R.qz q):bG p=bG q:=by
 have hq:q.1≠0:=Gf (by rw[<-h];exact aUJ hp);obtain⟨a,b⟩:=nY hp;obtain⟨c,d⟩:=nY hq;rw[h]at a b;exact aJH a b c d
structure Vo(z e:Int):Prop where
 z0:z≠0
 z1:z.natAbs<9007199254740992
 e0:-1074<=e
 e1:e<=971
theorem Lh(z:Int):R.ab (z:Rat)=(z.natAbs:Rat):=by
 unfold R.ab
 by_cases hz:0<=z
 ·rw[if_pos (by exact_mod_cast hz),<-cIW];congr 1;omega
 ·rw[if_neg (by intro hc;exact hz (by exact_mod_cast hc)),<-cIW,<-cJG];congr 1;omega
theorem aDQ(p:Int×Int):uS.aPI p=decide (R.ab (R.qz p)<=3/4):=by
 unfold uS.aPI;have e:R.qz (3,-2)=3/4:=by
  unfold R.qz;dsimp only;rw[show(-2:Int)=-((2:Nat):Int) by rfl,R.vZ];have h3:R.hf 2=1/4:=by simp[R.hf];grind
  have:((3:Int):Rat)=3:=by norm_cast
  rw[h3,this];grind
 by_cases h:R.ab (R.qz p)<=3/4
 ·rw[dqT h];refine dqT (mB.2 ?_);rw[Eg,e];exact h
 ·rw[dqF h];refine dqF fun hc=>h ?_
  have:=mB.1 hc;rwa [Eg,e]at this
structure aCQ(x:Int×Int):Prop where
 pK:nC x
 ne:x.1≠0
 bl:bl x.1.natAbs<=53
 t0:-1074<=bG x
 t1:bG x<=1023
 e0:-1074<=x.2
 e1:x.2<=1023
 fit:R.Fit (R.qz x)
 aFV:¬R.ab (R.qz x)<=3/4->-53<=x.2/\R.bCA (R.qz x)
theorem aNH{z e:Int}(h:Vo z e):aCQ (bW z e):=by
 obtain⟨z0,z1,e0,e1⟩:=h;have bz:bl z.natAbs<=53:=eF.2 (by have:(2:Nat)^53=9007199254740992:=rfl;omega);have b0:=mY (n:=z.natAbs) (by omega);have q:=qB z e;have q':R.qz (bW z e)=R.qz (z,e):=q;have ne:(bW z e).1≠0:=fun hz=>z0 (tK.1 hz)
 have tt:=aWE ne q';have t':bG (z,e)=e+(bl z.natAbs:Nat)-1:=rfl;have ge:=vB (e:=e) z0;have bb:=zB z e;have b1:=mY (n:=(bW z e).1.natAbs) (by omega);have te:bG (bW z e)=(bW z e).2+(bl (bW z e).1.natAbs:Nat)-1:=rfl;have pK:nC (bW z e):=jE (kZ (by omega) (by omega)) (by omega);have num:¬R.ab (R.qz (bW z e))<=3/4->-53<=e/\R.bCA (R.qz (bW z e)):=by
  intro hb;have he:-53<=e:=by
   refine Int.not_lt.1 fun hn=>hb ?_
   have h2:=(nY (p:=(z,e)) z0).2;have:R.pz (bG (z,e)+1)<=R.pz (-1):=R.cK (by omega);have p1:R.pz (-1)*2=1:=by
    have:=R.oW 0;rw[R.fA]at this;exact this
   rw[q'];grind
  refine⟨he,(z.natAbs:Int),e,by omega,by omega,he,e1,?_⟩;rw[q',cIW,<-Lh];show(z:Rat)*R.pz e=_\/(z:Rat)*R.pz e=_;unfold R.ab;split
  ·left;rfl
  ·right;grind
 refine⟨pK,ne,by omega,by omega,by omega,by omega,by omega,?_,fun hb=>⟨by have:=(num hb).1;omega,(num hb).2⟩⟩
 by_cases c:R.ab (R.qz (bW z e))<=3/4
 ·exact Or.inr c
 ·exact Or.inl (num c).2
theorem aQX{G q K f M P W p:Rat}(hG:G=W*(256*P))(P1:1<=P)(W1:1<=W)(aq:R.ab q<=P)(f0:0<=f)(f1:f<=G*p)(f2:G*p<f+1)(p1:314159/100000<p)(p2:p<314160/100000)
  (n1:-f<=2*(2*(G*q)-K*f)) (n2:2*(2*(G*q)-K*f)<=f) (m1:M*(512*P)<=2*(G*q)-K*f-(R.ab K+3)) (m2:2*(G*q)-K*f-(R.ab K+3)<(M+1)*(512*P)) :
  M<=W*(q-K*(p/2))/\W*(q-K*(p/2))<=M+2/\W*R.ab (q-K*(p/2))<=W*(p/4)+1:=by
 have WP:=R.aI (show 0<=W-1 by grind) (show 0<=P-1 by grind);have G1:256<=G:=by rw[hG];grind
 have Gp:=R.aI (show 0<=G by grind) (show 0<=p-314159/100000 by grind);have bYK:=R.aI (show 0<=G by grind) (show 0<=314160/100000-p by grind);have f3:3*G<=f:=by grind
 have f4:f<=4*G:=by grind
 have k0:=R.aT K;have eX:R.ab (2*(G*q))=2*(G*R.ab q):=by
  rw[R.dV,R.dV,R.bQ (show(0:Rat)<=2 by grind),R.bQ (show 0<=G by grind)]
 have eK:R.ab (K*f)=R.ab K*f:=by rw[R.dV,R.bQ f0]
 have bXZ:R.ab K*f<=2*(G*R.ab q)+f/2:=by
  rw[<-eK,<-eX];have a1:=R.xY (2*(G*q));have a2:=R.mJ (2*(G*q));rw[R.bY];constructor <;> grind
 have g1:=R.aI (show 0<=G by grind) (show 0<=P-R.ab q by grind);have g2:=R.aI k0 (show 0<=f-3*G by grind);have aK:3*R.ab K<=2*P+2:=by
  refine R.bP (q:=G) (by grind) ?_;grind
 have kd:R.ab (K*(G*p-f))<=R.ab K:=by
  rw[R.dV,R.bQ (show 0<=G*p-f by grind)];have:=R.aI k0 (show 0<=1-(G*p-f) by grind);grind
 rw[R.bY]at kd;have e2:2*(G*q)-K*f-K*(G*p-f)=512*P*(W*(q-K*(p/2))):=by rw[hG];grind
 have P0:0<512*P:=by grind
 refine⟨?_,?_,?_⟩
 ·refine R.bP P0 ?_;rw[<-e2];generalize K*(G*p-f)=Z at *;grind
 ·refine R.bP P0 ?_;rw[<-e2];generalize K*(G*p-f)=Z at *;grind
 ·refine R.bP P0 ?_;have e3:512*P*(W*R.ab (q-K*(p/2)))=R.ab (512*P*(W*(q-K*(p/2)))):=by
   rw[R.dV (512*P),R.dV W,R.bQ (cDU P0),R.bQ (show 0<=W by grind)]
  rw[e3,<-e2,R.bY];have e4:512*P*(W*(p/4)+1)=G*p/2+512*P:=by rw[hG];grind
  rw[e4];generalize K*(G*p-f)=Z at *;constructor <;> grind
structure bAF(x:Int×Int)(w k:Int):Prop where
 Pw:R.pC (R.qz x) k
 q:aW.cQ x w=k%4
 pl:nC (aW.Zs x w)
 ph:nC (aW.Zt x w)
 lo:R.qz (aW.Zs x w)<=R.qz x-(k:Rat)*(R.pi/2)
 hi:R.qz x-(k:Rat)*(R.pi/2)<=R.qz (aW.Zt x w)
 wd:R.qz (aW.Zt x w)-R.qz (aW.Zs x w)<=R.pz (57-w)*R.ab (R.qz x-(k:Rat)*(R.pi/2))
 rg:R.pz (-1074)<=R.ab (R.qz x-(k:Rat)*(R.pi/2))
theorem uZ{x:Int×Int}{w:Int}(hx:aCQ x)(hw:64<=w/\w<=66590):∃k,bAF x w k:=by
 obtain⟨q1,q2⟩:=R.iT
 by_cases c:R.ab (R.qz x)<=3/4
 ·have sm:uS.aPI x=true:=by rw[aDQ,dqT c]
  have k0:((0:Int):Rat)=0:=by norm_cast
  have dL:aW.Zs x w=x:=by unfold aW.Zs;rw[sm];rfl
  have dH:aW.Zt x w=x:=by unfold aW.Zt;rw[sm];rfl
  have er:R.qz x-((0:Int):Rat)*(R.pi/2)=R.qz x:=by rw[k0];grind
  refine⟨0,?_,by unfold aW.cQ;rw[sm];rfl,by rw[dL];exact hx.pK,by rw[dH];exact hx.pK,by rw[dL,er];exact cEZ,by rw[dH,er];exact cEZ,?_,?_⟩
  ·unfold R.pC;rw[er];grind
  ·rw[dL,dH,er];have:=R.aI (cDU (R.dK (57-w))) (R.aT (R.qz x));grind
  ·rw[er];have:=(nY hx.ne).1;have:=R.cK hx.t0;grind
 ·have sm:uS.aPI x=false:=by rw[aDQ,dqF c]
  obtain⟨e53,num⟩:=hx.aFV c;have hb:=hx.bl;have aPT:=hx.e1;obtain⟨sM,sK⟩:=cN.aDY (p:=x) (w:=aW.cW w) (by omega) (by omega) (by omega) (by unfold aW.cW;split <;> omega) (by unfold aW.cW;split <;> omega);have eW:aW.cW w=w+8:=by unfold aW.cW;split <;> omega
  have hM:aW.cM x w=cN.rM x (w+8):=by
   unfold aW.cM;rw[eW,show w+8-(w+8)=0 by omega];show cN.rM x (w+8)/((2^(0:Int).toNat:Nat):Int)=_;rw[show(2^(0:Int).toNat:Nat)=1 by rfl];omega
  have hQ:aW.cQ x w=cN.rK x (w+8)%4:=by unfold aW.cQ;rw[sm,eW];rfl
  have dL:aW.Zs x w=bW (cN.rM x (w+8)) (-(w+8)):=by unfold aW.Zs;rw[sm,hM];rfl
  have dH:aW.Zt x w=bW (cN.rM x (w+8)+4) (-(w+8)):=by unfold aW.Zt;rw[sm,hM];rfl
  rw[eW]at sM sK;have hT:cN.rN x=if 0>bG x+1 then 0 else bG x+1:=by
   unfold cN.rN bG;rw[show x.2+((M.bl x.1.natAbs:Nat):Int)-1+1=x.2+((M.bl x.1.natAbs:Nat):Int) by omega]
  have t1:=hx.t1;have T0:0<=cN.rN x/\bG x+1<=cN.rN x/\cN.rN x<=1024:=by rw[hT];split <;> omega
  have hG:cN.rG x (w+8)=w+8+cN.rN x+8:=rfl;obtain⟨g,hg⟩:=cDO (show 0<=cN.rG x (w+8) by omega);have hX:(cN.rX x (w+8):Rat)=2*(R.pz (cN.rG x (w+8))*R.qz x):=by
   unfold cN.rX uT.aMM;rw[aR];obtain⟨n,hn⟩:=cDO (show 0<=x.2+cN.rG x (w+8) by omega);rw[hn,cCJ,cJA,cJA,cIW];have e1:((2^n:Nat):Rat)=R.pz x.2*R.pz (cN.rG x (w+8)):=by rw[<-R.iK,hn,R.iS]
   rw[e1];unfold R.qz;have:((2:Int):Rat)=2:=by norm_cast
   rw[this];grind
  obtain⟨f1,f2⟩:=R.Ga (q:=(cN.rG x (w+8)).toNat) (by omega);have f0:=(cN.Cv (g:=(cN.rG x (w+8)).toNat) (by omega)).2;have hF:R.pF (cN.rG x (w+8)).toNat=cN.rF x (w+8):=rfl;rw[hF]at f0 f1 f2;have eG:((2^(cN.rG x (w+8)).toNat:Nat):Rat)=R.pz (cN.rG x (w+8)):=by rw[hg,cCJ,R.iS]
  rw[eG]at f1 f2;obtain⟨n1,n2⟩:=aRJ (X:=cN.rX x (w+8)) (f:=cN.rF x (w+8)) (by omega);have hK:cN.nK (cN.rX x (w+8)) (cN.rF x (w+8))=cN.rK x (w+8):=rfl;rw[hK]at n1 n2;have hR:(cN.rR x (w+8):Rat)=(cN.rX x (w+8):Rat)-(cN.rK x (w+8):Rat)*(cN.rF x (w+8):Rat):=by
   unfold cN.rR;rw[cMB,cJA,cIW]
  have hO:(cN.rO x (w+8):Rat)=R.ab (cN.rK x (w+8):Rat)+3:=by
   unfold cN.rO;rw[cKB,cIW,Lh];have:((3:Int):Rat)=3:=by norm_cast
   rw[this]
  have hS:cN.rG x (w+8)-(w+8)+1=cN.rN x+9:=by omega
  have bWL:cN.rM x (w+8)=(cN.rR x (w+8)-cN.rO x (w+8))/((2^(cN.rN x+9).toNat:Nat):Int):=by
   show(cN.rR x (w+8)-cN.rO x (w+8))/((2^(cN.rG x (w+8)-(w+8)+1).toNat:Nat):Int)=_;rw[hS]
  obtain⟨m1,m2⟩:=yG (z:=cN.rR x (w+8)-cN.rO x (w+8)) (k:=(cN.rN x+9).toNat);rw[<-bWL,cMB]at m1 m2;obtain⟨s,hs⟩:=cDO (show 0<=cN.rN x+9 by omega);have eS:((2^(cN.rN x+9).toNat:Nat):Rat)=512*R.pz (cN.rN x):=by
   rw[hs,cCJ,<-R.iS,<-hs];have:=R.dZ (cN.rN x) 9;have n9:((2^9:Nat):Rat)=512:=by norm_cast
   rw[n9]at this;rw[show cN.rN x+9=cN.rN x+((9:Nat):Int) by rfl,this];grind
  rw[eS]at m1 m2;have bXC:R.pz (cN.rG x (w+8))=R.pz (w+8)*(256*R.pz (cN.rN x)):=by
   rw[hG,R.iK,R.iK];have:R.pz 8=256:=by rw[show(8:Int)=((8:Nat):Int) by rfl,R.iS];norm_cast
   rw[this];grind
  have P1:1<=R.pz (cN.rN x):=by rw[<-R.fA];exact R.cK (by omega)
  have aq:R.ab (R.qz x)<=R.pz (cN.rN x):=by
   have:=(nY hx.ne).2;have:=R.cK T0.2.1;grind
  have bYB:(4722366482869645213696:Rat)<=R.pz (w+8):=by
   have:=R.cK (show(72:Int)<=w+8 by omega);have e:R.pz 72=4722366482869645213696:=by rw[show(72:Int)=((72:Nat):Int) by rfl,R.iS];norm_cast
   rw[e]at this;grind
  rw[hR,hO,hX]at m1 m2;rw[hX]at n1 n2;have F0:(0:Rat)<=(cN.rF x (w+8):Rat):=by exact_mod_cast cEN _
  obtain⟨r1,r2,r3⟩:=aQX bXC P1 (by grind) aq F0 f1 f2 q1 q2 n1 n2 m1 m2;have Wi:=R.Ta (w+8);have Wp:=R.dK (-(w+8));have v:=R.aKM num (cN.rK x (w+8));have i1:jR (cN.rM x (w+8)) (-(w+8))=true:=kZ (by omega) (by omega);have s4:M.bl (cN.rM x (w+8)+4).natAbs<=80010:=by
   have:=aW.aFU sM (by decide);omega
  have i2:jR (cN.rM x (w+8)+4) (-(w+8))=true:=kZ (by omega) (by omega);have vL:R.qz (aW.Zs x w)=(cN.rM x (w+8):Rat)*R.pz (-(w+8)):=by rw[dL,qB]
  have vH:R.qz (aW.Zt x w)=(cN.rM x (w+8):Rat)*R.pz (-(w+8))+4*R.pz (-(w+8)):=by
   rw[dH,qB,cKB];have:((4:Int):Rat)=4:=by norm_cast
   rw[this];grind
  have p63:R.pz (57-w)*(1/9223372036854775808)=4*R.pz (-(w+8)):=by
   have:=R.gN (57-w) (n:=65) (c:=36893488147419103232) (by norm_cast);rw[show 57-w-((65:Nat):Int)=-(w+8) by omega]at this;grind
  have mm:=R.aI (cDU (R.dK (57-w))) (show 0<=R.ab (R.qz x-(cN.rK x (w+8):Rat)*(R.pi/2))-1/9223372036854775808 by grind);have bCV:R.pC (R.qz x) (cN.rK x (w+8)):=by
   unfold R.pC;generalize R.ab (R.qz x-(cN.rK x (w+8):Rat)*(R.pi/2))=a at *;have u:=R.aI (cDU Wp) (show 0<=R.pz (w+8)*(R.pi/4)+1-R.pz (w+8)*a by grind);have u3:R.pz (-(w+8))*(R.pz (w+8)*a)=a:=by rw[<-cJP,cKY (R.pz (-(w+8))),Wi];grind
   have u4:R.pz (-(w+8))*(R.pz (w+8)*(R.pi/4))=R.pi/4:=by rw[<-cJP,cKY (R.pz (-(w+8))),Wi];grind
   have l65:R.pz (-(w+8))<=R.pz (-65):=R.cK (by omega);have bXE:=R.gN 0 (n:=65) (c:=36893488147419103232) (by norm_cast);rw[R.fA,show(0:Int)-((65:Nat):Int)=-65 by rfl]at bXE;grind
  obtain⟨r,hr⟩:∃r,r=R.qz x-(cN.rK x (w+8):Rat)*(R.pi/2):=⟨_,rfl⟩;rw[<-hr]at r1 r2 r3 v mm;have u1:=R.aI (cDU Wp) (show 0<=R.pz (w+8)*r-(cN.rM x (w+8):Rat) by grind);have u2:=R.aI (cDU Wp) (show 0<=(cN.rM x (w+8):Rat)+2-R.pz (w+8)*r by grind);have u3:R.pz (-(w+8))*(R.pz (w+8)*r)=r:=by rw[<-cJP,cKY (R.pz (-(w+8))),Wi];grind
  refine⟨cN.rK x (w+8),?_,hQ,by rw[dL];exact jE i1 (by omega),by rw[dH];exact jE i2 (by omega),?_,?_,?_,?_⟩
  ·exact bCV
  ·rw[vL,<-hr];grind
  ·rw[vH,<-hr];grind
  ·rw[vH,vL,<-hr];grind
  ·rw[<-hr];have p64:R.pz (-1074)<=R.pz (-63):=R.cK (by omega);have bFJ:=R.gN 0 (n:=63) (c:=9223372036854775808) (by norm_cast);rw[R.fA,show(0:Int)-((63:Nat):Int)=-63 by rfl]at bFJ;grind
end M
namespace AI
open Go Go.RowKit
def t2{β:Type}(x y:β):Nat->β
 |0=>x
 |_+1=>y
def t4{β:Type}(x y z u:β):Nat->β
 |0=>x
 |1=>y
 |2=>z
 |_+3=>u
def bNU{β:Type}(p:SPar β)(d:β):oI (β) where
 put x:=.rows p.n 1 fun _=>p.put x
 get
  | .rows sz n g=>if n=1/\sz=p.n then(p.get (g 0)).bind fun x=>some x else none
  |_=>none
 le:=by
  intro dd x h
  match dd,h with
  | .rows sz n g,h =>
   dsimp only at h;split at h
   ·rename_i hc;obtain⟨rfl,hc⟩:=hc;simp only[cAU]at h;obtain⟨y0,h0,h⟩:=h;cases h;have Bn:allB 1 (fun i=>(p.get (g i)).isSome)=true:=by simp[allB,h0]
    have e:=(pR p d).le (d:=.rows sz 1 g) (x:=(1,fun i=>(p.get (g i)).getD d)) (if_pos ⟨hc,Bn⟩);rintro Y w v hv;obtain⟨A,c,e1,e2,e3⟩:=e Y w v hv;refine⟨A,c,e1,e2,fun i hi=>?_⟩;have e4:=e3 i hi;obtain rfl:i=0:=by omega
    dsimp only at e4;rw[h0]at e4;exact e4
   ·cases h
def aIL{β:Type}(p:SPar β)(d:β):oI (β×β) where
 put x:=.rows p.n 2 fun i=>p.put (t2 x.1 x.2 i)
 get
  | .rows sz n g=>if n=2/\sz=p.n then(p.get (g 0)).bind fun x=>(p.get (g 1)).bind fun y=>some (x,y)else none
  |_=>none
 le:=by
  intro dd x h
  match dd,h with
  | .rows sz n g,h =>
   dsimp only at h;split at h
   ·rename_i hc;obtain⟨rfl,hc⟩:=hc;simp only[cAU]at h;obtain⟨y0,h0,y1,h1,h⟩:=h;cases h;have Bn:allB 2 (fun i=>(p.get (g i)).isSome)=true:=by simp[allB,h0,h1]
    have e:=(pR p d).le (d:=.rows sz 2 g) (x:=(2,fun i=>(p.get (g i)).getD d)) (if_pos ⟨hc,Bn⟩);rintro Y w v hv;obtain⟨A,c,e1,e2,e3⟩:=e Y w v hv;refine⟨A,c,e1,e2,fun i hi=>?_⟩;have e4:=e3 i hi;obtain rfl |rfl:i=0\/i=1:=by omega
    ·dsimp only at e4;rw[h0]at e4;exact e4
    ·dsimp only at e4;rw[h1]at e4;exact e4
   ·cases h
def aUN{β:Type}(p:SPar β)(d:β):oI (β×β×β×β) where
 put x:=.rows p.n 4 fun i=>p.put (t4 x.1 x.2.1 x.2.2.1 x.2.2.2 i)
 get
  | .rows sz n g=>if n=4/\sz=p.n then(p.get (g 0)).bind fun x=>(p.get (g 1)).bind fun y=>(p.get (g 2)).bind fun z=>(p.get (g 3)).bind fun u=>some (x,y,z,u)else none
  |_=>none
 le:=by
  intro dd x h
  match dd,h with
  | .rows sz n g,h =>
   dsimp only at h;split at h
   ·rename_i hc;obtain⟨rfl,hc⟩:=hc;simp only[cAU]at h;obtain⟨y0,h0,y1,h1,y2,h2,y3,h3,h⟩:=h;cases h;have Bn:allB 4 (fun i=>(p.get (g i)).isSome)=true:=by simp[allB,h0,h1,h2,h3]
    have e:=(pR p d).le (d:=.rows sz 4 g) (x:=(4,fun i=>(p.get (g i)).getD d)) (if_pos ⟨hc,Bn⟩);rintro Y w v hv;obtain⟨A,c,e1,e2,e3⟩:=e Y w v hv;refine⟨A,c,e1,e2,fun i hi=>?_⟩;have e4:=e3 i hi;obtain rfl |rfl |rfl |rfl:i=0\/i=1\/i=2\/i=3:=by omega
    ·dsimp only at e4;rw[h0]at e4;exact e4
    ·dsimp only at e4;rw[h1]at e4;exact e4
    ·dsimp only at e4;rw[h2]at e4;exact e4
    ·dsimp only at e4;rw[h3]at e4;exact e4
   ·cases h
end AI
namespace W
open Go AI M
namespace Bz
def E:=mE [] 9 [] [] []
def aF:=bd f98
theorem aU:Nk E aF:=nk
theorem start a:aG E f98 aF [D.s (sc (int i64 a))]=aC (decide (1<=a)) (some [D.s (sc (bool (decide (a<=70000))))]) (some [D.s (sc (bool false))]):=eJ aU
def sp(p:Int):Prop×List D:=(True,[.s (.sc (.bool (decide (1<=p)&&decide (p<=70000))))])
theorem spec:iH E f98 aF (pN .i64) sp:=by
 intro p h;refine(start p).trans ?_;unfold sp aC;cases (decide ((1:Int)<=p)) <;> rfl
def aJ:dO:=orc1 (pN .i64) sp
theorem ok:OK 98 aJ:=(eI E aF aD func98).oV rfl spec
end Bz
namespace vJ
def E:=mE [(98,Bz.aJ),(45,sE.aJ)] 20 [] [(4,[10,11,12])] []
def aF:=bd f40
theorem aU:Nk E aF:=nk
def L4(a:Nat)(b:Nat->Bool)(c:Nat->List Int)(d:Nat->Int)(e:Nat->Bool)(f:Nat->List Int)(g:Nat->Int) x7 h:=nU E f40 aF 4 [(A.v (V.one (L.rows 6 a fun i=>[sc (bool (b i)),ints u64 (c i),sc (int i64 (d i)),sc (bool (e i)),ints u64 (f i),sc (int i64 (g i))])),none),bJ x7,bJ h]
theorem start p (a:uP) (b:uP):aG E f40 aF [D.s (sc (int i64 p)),D.rows 6 2 fun i=>[sc (bool (t2 a b i).fst),ints u64 (t2 a b i).snd.fst,sc (int i64 (t2 a b i).snd.snd.fst),sc (bool (t2 a b i).snd.snd.snd.fst),ints u64 (t2 a b i).snd.snd.snd.snd.fst,sc (int i64 (t2 a b i).snd.snd.snd.snd.snd)]]=aN True (aC (!(decide (1<=p)&&decide (p<=70000))) (some [D.s (sc (int i64 1))]) (vJ.L4 2 (fun i=>(t2 a b i).fst) (fun i=>(t2 a b i).snd.fst) (fun i=>(t2 a b i).snd.snd.fst) (fun i=>(t2 a b i).snd.snd.snd.fst) (fun i=>(t2 a b i).snd.snd.snd.snd.fst) (fun i=>(t2 a b i).snd.snd.snd.snd.snd) 2 0)):=eJ aU
theorem mG a b c d e f g h j:L4 a b c d e f g h j=aC (decide (j<h)) (if 0<=j/\j<(a:Int)then aN (dW (b j.toNat,c j.toNat,d j.toNat,e j.toNat,f j.toNat,g j.toNat)) (vJ.L4 a (fun i=>b i) (fun i=>c i) (fun i=>d i) (fun i=>e i) (fun i=>f i) (fun i=>g i) h (i64.wrap (j+1)))else none) (some [D.s (sc (int i64 0))]):=lJ aU
def sp(p:Int)(a:uP×uP):Prop×List D:=(dW a.1/\dW a.2,[.s (.sc (.int .i64 (if 1<=p/\p<=70000 then 0 else 1)))])
theorem L(n:Nat)(f:Nat->uP)(hn:n<=1000)(hf:∀i,i<n->dW (f i)):∀d k:Nat,k+d=n->L4 n (fun i=>(f i).1) (fun i=>(f i).2.1) (fun i=>(f i).2.2.1) (fun i=>(f i).2.2.2.1) (fun i=>(f i).2.2.2.2.1) (fun i=>(f i).2.2.2.2.2) (n:Int) (k:Int)=some [D.s (.sc (.int .i64 0))]
 |0,k,h=>by rw[mG,aM]
 |d+1,k,h=>by
  have e:i64.wrap ((k:Int)+1)=((k+1:Nat):Int):=by rw[wrap_i64];omega
  rw[mG,aO,aR,cCJ,gP (hf k (by omega)),e];exact L n f hn hf d (k+1) (by omega)
theorem spec:fF E f40 aF (pN .i64) (aIL (.pair sB (.pair (sI .u64) (.pair (sN .i64) (.pair sB (.pair (sI .u64) (sN .i64)))))) (false,[],0,false,[],0)) sp:=by
 intro p a h;have hf:∀i,i<2->dW (t2 a.1 a.2 i):=fun i hi=>by
  obtain rfl |rfl:i=0\/i=1:=by omega
  ·exact h.1
  ·exact h.2
 refine(start p a.1 a.2).trans ((gP trivial).trans ?_);unfold sp
 by_cases hp:1<=p/\p<=70000
 ·rw[if_pos hp,dqT hp.1,dqT hp.2];exact L 2 (fun i=>t2 a.1 a.2 i) (by decide) hf 2 0 (by omega)
 ·rw[if_neg hp];have:(decide (1<=p)&&decide (p<=70000))=false:=by
   rw[cKR,decide_eq_false_iff_not,decide_eq_false_iff_not];omega
  rw[this];rfl
def aJ:dO:=orc2 (pN .i64) (aIL (.pair sB (.pair (sI .u64) (.pair (sN .i64) (.pair sB (.pair (sI .u64) (sN .i64)))))) (false,[],0,false,[],0)) sp
theorem ok:OK 40 aJ:=(eI E aF (aA Bz.ok (aA sE.ok aD)) func40).jZ rfl spec
end vJ
namespace Ey
def E:=mE [(62,Ca.aJ)] 6 [5] [] []
def aF:=bd f49
theorem aU:Nk E aF:=nk
theorem start a b c:aG E f49 aF [D.agg [sc (bool a),ints u64 b,sc (int i64 c)]]=aN (aQ (a,b,c)/\aQ (false,[],(0:Int))) (some [D.s (sc (int i64 (cI (dv (a,b,c)) (dv (false,[],Int.ofNat (nat_lit 0))))))]):=eJ aU
def sp(x:fB):Prop×List D:=(aQ x,[.s (.sc (.int .i64 (cI (dv x) (0,0))))])
theorem bIM:aQ (false,[],0):=⟨⟨M6.Gc,fun h=>Bool.noConfusion h,by simp⟩,by constructor <;> decide,fun _=>rfl,fun h=>(h rfl).elim⟩
theorem spec:iH E f49 aF jQ sp:=by
 intro x h;exact(start x.1 x.2.1 x.2.2).trans (gP ⟨h,bIM⟩)
def aJ:dO:=orc1 jQ sp
theorem ok:OK 49 aJ:=(eI E aF (aA Ca.ok aD) func49).oV rfl spec
end Ey
namespace fW
def E:=mE [(45,sE.aJ),(49,Ey.aJ)] 18 [] [] []
def aF:=bd f58
theorem aU:Nk E aF:=nk
theorem start a b c d e f:aG E f58 aF [D.agg [sc (bool a),ints u64 b,sc (int i64 c),sc (bool d),ints u64 e,sc (int i64 f)]]=letI A:=sc (int i64 0);aN (dW (a,b,c,d,e,f)) (aN (aQ (d,e,f)) (aC (decide (cI (dv (d,e,f)) ((0:Int),(0:Int))<0)) (some [D.s (sc (int i64 (-1:Int))),D.s A]) (aN (aQ (a,b,c)) (aC (decide (0<cI (dv (a,b,c)) ((0:Int),(0:Int)))) (some [D.s (sc (int i64 1)),D.s A]) (some [D.s A,D.s A]))))):=eJ aU
def tR(a b:Int×Int):Int:=if cI b (0,0)<0 then -1 else if 0<cI a (0,0)then 1 else 0
def sp(s:uP):Prop×List D:=(dW s,[.s (.sc (.int .i64 (tR (dv (fO s)) (dv (fR s))))),.s (.sc (.int .i64 0))])
theorem spec:iH E f58 aF sP sp:=by
 intro s h;have h:dW s:=h;have hL:aQ (s.1,s.2.1,s.2.2.1):=h.1;have hH:aQ (s.2.2.2.1,s.2.2.2.2.1,s.2.2.2.2.2):=h.2.1;refine(start s.1 s.2.1 s.2.2.1 s.2.2.2.1 s.2.2.2.2.1 s.2.2.2.2.2).trans ?_;unfold sp tR
 try dsimp only
 rw[gP h,gP hH];show aC (decide (cI (dv (fR s)) (0,0)<0)) _ _=_
 by_cases c1:cI (dv (fR s)) (0,0)<0
 ·rw[aO c1,if_pos c1]
 ·rw[aM c1,if_neg c1,gP hL];show aC (decide (0<cI (dv (fO s)) (0,0))) _ _=_
  by_cases c2:0<cI (dv (fO s)) (0,0)
  ·rw[aO c2,if_pos c2]
  ·rw[aM c2,if_neg c2]
def aJ:dO:=orc1 sP sp
theorem ok:OK 58 aJ:=(eI E aF (aA sE.ok (aA Ey.ok aD)) func58).oV rfl spec
end fW
namespace Pj
def E:=mE [(111,dG.aJ)] 14 [11] [] []
def aF:=bd f59
theorem aU:Nk E aF:=nk
theorem start a b d e f g c:aG E f59 aF [D.agg [sc (bool a),ints u64 b,sc (int i64 d)],D.agg [sc (bool e),ints u64 f,sc (int i64 g)],D.s (sc (int i64 c))]=letI A:=dG.vY false c (dv (a,b,d)) (dv (e,f,g));letI B:=bif jR A.fst A.snd then bW A.fst A.snd else((0:Int),(0:Int));aN (aQ (a,b,d)/\aQ (e,f,g)/\(dv (e,f,g)).fst≠0/\b.length<=4096/\f.length<=4096/\1<=c/\c<=70000) (some [D.agg [sc (bool (isNeg B.fst)),ints u64 (M6.dg B.fst.natAbs),sc (int i64 B.snd)],D.s (sc (int i64 (bif jR A.fst A.snd then(0:Int)else(5:Int))))]):=eJ aU
def sp(x y:fB)(p:Int):Prop×List D:=(aQ x/\aQ y/\(dv y).1≠0/\x.2.1.length<=4096/\y.2.1.length<=4096/\1<=p/\p<=70000,dE (jR (dG.vY false p (dv x) (dv y)).1 (dG.vY false p (dv x) (dv y)).2) (bW (dG.vY false p (dv x) (dv y)).1 (dG.vY false p (dv x) (dv y)).2))
theorem spec:uQ E f59 aF jQ jQ (pN .i64) sp:=by
 intro x y p h;refine(start x.1 x.2.1 x.2.2 y.1 y.2.1 y.2.2 p).trans ((gP h).trans ?_);rfl
def aJ:dO:=orc3 jQ jQ (pN .i64) sp
theorem ok:OK 59 aJ:=(eI E aF (aA dG.ok aD) func59).Dn rfl spec
end Pj
namespace aCS
def E:=mE [(111,dG.aJ)] 14 [11] [] []
def aF:=bd f60
theorem aU:Nk E aF:=nk
theorem start a b d e f g c:aG E f60 aF [D.agg [sc (bool a),ints u64 b,sc (int i64 d)],D.agg [sc (bool e),ints u64 f,sc (int i64 g)],D.s (sc (int i64 c))]=letI A:=dG.vY true c (dv (a,b,d)) (dv (e,f,g));letI B:=bif jR A.fst A.snd then bW A.fst A.snd else((0:Int),(0:Int));aN (aQ (a,b,d)/\aQ (e,f,g)/\(dv (e,f,g)).fst≠0/\b.length<=4096/\f.length<=4096/\1<=c/\c<=70000) (some [D.agg [sc (bool (isNeg B.fst)),ints u64 (M6.dg B.fst.natAbs),sc (int i64 B.snd)],D.s (sc (int i64 (bif jR A.fst A.snd then(0:Int)else(5:Int))))]):=eJ aU
def sp(x y:fB)(p:Int):Prop×List D:=(aQ x/\aQ y/\(dv y).1≠0/\x.2.1.length<=4096/\y.2.1.length<=4096/\1<=p/\p<=70000,dE (jR (dG.vY true p (dv x) (dv y)).1 (dG.vY true p (dv x) (dv y)).2) (bW (dG.vY true p (dv x) (dv y)).1 (dG.vY true p (dv x) (dv y)).2))
theorem spec:uQ E f60 aF jQ jQ (pN .i64) sp:=by
 intro x y p h;refine(start x.1 x.2.1 x.2.2 y.1 y.2.1 y.2.2 p).trans ((gP h).trans ?_);rfl
def aJ:dO:=orc3 jQ jQ (pN .i64) sp
theorem ok:OK 60 aJ:=(eI E aF (aA dG.ok aD) func60).Dn rfl spec
end aCS
namespace Ov
def E:=mE [] 23 [] [] []
def aF:=bd f47
theorem aU:Nk E aF:=nk
theorem start a c e b f g h d:aG E f47 aF [D.agg [sc (bool a),ints u64 c,sc (int i64 e)],D.s (sc (int i64 b)),D.agg [sc (bool f),ints u64 g,sc (int i64 h)],D.s (sc (int i64 d))]=letI B:=int i64 0;letI A:=some [D.agg [sc (bool false),sc (slice none 0 0),sc B,sc (bool false),sc (slice none 0 0),sc B],D.s (sc (int i64 (if d>b then d else b)))];aC (b !=0) A (aC (d !=0) A (some [D.agg [sc (bool a),ints u64 c,sc (int i64 e),sc (bool f),ints u64 g,sc (int i64 h)],D.s (sc B)])):=eJ aU
def sp(x:fB)(e:Int)(y:fB)(f:Int):Prop×List D:=(e=0/\f=0,[.agg [.sc (.bool x.1),.ints .u64 x.2.1,.sc (.int .i64 x.2.2),.sc (.bool y.1),.ints .u64 y.2.1,.sc (.int .i64 y.2.2)],.s (.sc (.int .i64 0))])
theorem spec:Zg E f47 aF jQ (pN .i64) jQ (pN .i64) sp:=by
 rintro x e y f ⟨rfl,rfl⟩;exact start x.1 x.2.1 x.2.2 0 y.1 y.2.1 y.2.2 0
def aJ:dO:=orc4 jQ (pN .i64) jQ (pN .i64) sp
theorem ok:OK 47 aJ:=(eI E aF aD func47).aUP rfl spec
end Ov
namespace nQ
def E:=mE [(40,vJ.aJ),(58,fW.aJ),(31,nV.aJ),(49,Ey.aJ),(59,Pj.aJ),(60,aCS.aJ),(47,Ov.aJ)] 86 [21,83] [(11,[2,3,4,6]),(14,[2,3,4,6,11,12]),(16,[2,3,6,11,12])] [11,14,16]
def aF:=bd f21
theorem aU:Nk E aF:=nk
def Pr a b c d e f g h i j k l m n o p q:=lP E f21 aF 11 [bJ a,bK 1 31 [bC b,eR c,cV d,bC e,eR f,cV g],bK 2 31 [bC h,eR i,cV j,bC k,eR l,cV m],bK 3 31 [bC n,sc (slice none 0 0),cV o,bC p,sc (slice none 0 0),cV q]]
def aTT a b c d e f g h i j k l m n o p q r s t u v w:=lP E f21 aF 14 [bJ a,bK 1 31 [bC b,eR c,cV d,bC e,eR f,cV g],bK 2 31 [bC h,eR i,cV j,bC k,eR l,cV m],bK 3 31 [bC n,sc (slice none 0 0),cV o,bC p,sc (slice none 0 0),cV q],bK 4 29 [bC r,eR s,cV t],bK 5 29 [bC u,eR v,cV w]]
def aTS a b c d e f g h i j k l m n o p q:=lP E f21 aF 16 [bJ a,bK 1 31 [bC b,eR c,cV d,bC e,eR f,cV g],bK 2 31 [bC h,sc (slice none 0 0),cV i,bC j,sc (slice none 0 0),cV k],bK 3 29 [bC l,eR m,cV n],bK 4 29 [bC o,eR p,cV q]]
theorem start a b d e f g h i j k l m c:aG E f21 aF [D.agg [sc (bool a),ints u64 b,sc (int i64 d),sc (bool e),ints u64 f,sc (int i64 g)],D.agg [sc (bool h),ints u64 i,sc (int i64 j),sc (bool k),ints u64 l,sc (int i64 m)],D.s (sc (int i64 c))]=letI I:=int i64 0;letI F:=bool false;letI C:=slice none 0 0;letI B:=(a,b,d,e,f,g);letI N:=dv (fO B);letI K:=dv (fR B);letI A:=(h,i,j,k,l,m);letI H:=dv (fR A);letI G:=dv (fO A);aN (dW B/\dW A) (aB (if 1<=c/\c<=70000 then(0:Int)else(1:Int)) fun n=>aC (n !=0) (some [D.agg [sc F,sc C,sc I,sc F,sc C,sc I],D.s (sc (int i64 n))]) (aN (dW A) (aB (fW.tR G H) fun o=>aC (o==0) (some [D.agg [sc F,sc C,sc I,sc F,sc C,sc I],D.s (sc (int i64 4))]) (aC (o==(-1:Int)) (aN (dW B) (aB (isNeg (-K.fst)) fun p=>aB (M6.dg (-K.fst).natAbs) fun q=>aB K.snd fun r=>aB (isNeg (-N.fst)) fun s=>aB (M6.dg (-N.fst).natAbs) fun t=>aB N.snd fun u=>aN (dW A) (aB (isNeg (-H.fst)) fun v=>aB (M6.dg (-H.fst).natAbs) fun w=>aB H.snd fun x=>aB (isNeg (-G.fst)) fun y=>aB (M6.dg (-G.fst).natAbs) fun z=>aB G.snd fun aa=>nQ.Pr c p q r s t u v w x y z aa false 0 false 0))) (nQ.Pr c a b d e f g h i j k l m false 0 false 0))))):=eJ aU
theorem Aa a b c d e f g h i j k l m n o p q:Pr a b c d e f g h i j k l m n o p q=aN (aQ (b,c,d)) (aB (cI (dv (b,c,d)) ((0:Int),(0:Int))) fun r=>aC (decide (r<0)) (nQ.aTT a b c d e f g h i j k l m n o p q h i j h i j) (nQ.aTT a b c d e f g h i j k l m n o p q k l m h i j)):=cJ aU
theorem Vl a b c d e f g h i j k l m n o p q r s t u v w:aTT a b c d e f g h i j k l m n o p q r s t u v w=aN (aQ (e,f,g)) (aB (cI (dv (e,f,g)) ((0:Int),(0:Int))) fun x=>aC (decide (x<0)) (nQ.aTS a b c d e f g n o p q r s t k l m) (nQ.aTS a b c d e f g n o p q r s t u v w)):=cJ aU
theorem aCM a b c d e f g h i j k l m n o p q:aTS a b c d e f g h i j k l m n o p q=letI B:=dG.vY true a (dv (e,f,g)) (dv (o,p,q));letI F:=bif jR B.fst B.snd then bW B.fst B.snd else((0:Int),(0:Int));letI A:=dG.vY false a (dv (b,c,d)) (dv (l,m,n));letI C:=bif jR A.fst A.snd then bW A.fst A.snd else((0:Int),(0:Int));aN (aQ (b,c,d)/\aQ (l,m,n)/\(dv (l,m,n)).fst≠0/\c.length<=4096/\m.length<=4096/\1<=a/\a<=70000) (aB (isNeg C.fst) fun r=>aB (M6.dg C.fst.natAbs) fun s=>aB C.snd fun t=>aB (bif jR A.fst A.snd then(0:Int)else(5:Int)) fun u=>aN (aQ (e,f,g)/\aQ (o,p,q)/\(dv (o,p,q)).fst≠0/\f.length<=4096/\p.length<=4096/\1<=a/\a<=70000) (aB (isNeg F.fst) fun v=>aB (M6.dg F.fst.natAbs) fun w=>aB F.snd fun x=>aB (bif jR B.fst B.snd then(0:Int)else(5:Int)) fun y=>aN (u=0/\y=0) (some [D.agg [sc (bool r),ints u64 s,sc (int i64 t),sc (bool v),ints u64 w,sc (int i64 x)],D.s (sc (int i64 0))]))):=cJ aU
def aIJ(p:Int)(a u v:Int×Int):Int×Int:=dG.vY false p a (bif decide (cI a (0,0)<0)then u else v)
def aIK(p:Int)(a u v:Int×Int):Int×Int:=dG.vY true p a (bif decide (cI a (0,0)<0)then v else u)
def Zl(p:Int)(a b u v:Int×Int):Int×Int:=bif fW.tR u v==-1 then aIJ p (nV.Bd b) (nV.Bd v) (nV.Bd u)else aIJ p a u v
def Zm(p:Int)(a b u v:Int×Int):Int×Int:=bif fW.tR u v==-1 then aIK p (nV.Bd a) (nV.Bd v) (nV.Bd u)else aIK p b u v
def sp(s t:uP)(p:Int):Prop×List D:=(dW s/\dW t/\(1<=p/\p<=70000)/\fW.tR (dv (fO t)) (dv (fR t))≠0 /\
 (bl (dv (fO s)).1.natAbs<=262144/\bl (dv (fR s)).1.natAbs<=262144/\bl (dv (fO t)).1.natAbs<=262144/\bl (dv (fR t)).1.natAbs<=262144) /\
 jR (Zl p (dv (fO s)) (dv (fR s)) (dv (fO t)) (dv (fR t))).1 (Zl p (dv (fO s)) (dv (fR s)) (dv (fO t)) (dv (fR t))).2=true/\jR (Zm p (dv (fO s)) (dv (fR s)) (dv (fO t)) (dv (fR t))).1 (Zm p (dv (fO s)) (dv (fR s)) (dv (fO t)) (dv (fR t))).2=true,
 [Cr (bW (Zl p (dv (fO s)) (dv (fR s)) (dv (fO t)) (dv (fR t))).1 (Zl p (dv (fO s)) (dv (fR s)) (dv (fO t)) (dv (fR t))).2) (bW (Zm p (dv (fO s)) (dv (fR s)) (dv (fO t)) (dv (fR t))).1 (Zm p (dv (fO s)) (dv (fR s)) (dv (fO t)) (dv (fR t))).2),.s (.sc (.int .i64 0))])
theorem J{p:Int}(hp:1<=p/\p<=70000){x y u v:fB}(hx:aQ x)(hy:aQ y)(hu:aQ u)(hv:aQ v)(u0:(dv u).1≠0)(v0:(dv v).1≠0)(lx:x.2.1.length<=4096)(ly:y.2.1.length<=4096)(lu:u.2.1.length<=4096)(lv:v.2.1.length<=4096)
  (i1:jR (aIJ p (dv x) (dv u) (dv v)).1 (aIJ p (dv x) (dv u) (dv v)).2=true) (i2:jR (aIK p (dv y) (dv u) (dv v)).1 (aIK p (dv y) (dv u) (dv v)).2=true) :
  Pr p x.1 x.2.1 x.2.2 y.1 y.2.1 y.2.2 u.1 u.2.1 u.2.2 v.1 v.2.1 v.2.2 false 0 false 0=some [Cr (bW (aIJ p (dv x) (dv u) (dv v)).1 (aIJ p (dv x) (dv u) (dv v)).2) (bW (aIK p (dv y) (dv u) (dv v)).1 (aIK p (dv y) (dv u) (dv v)).2),.s (.sc (.int .i64 0))]:=by
 have fin:∀m n:fB,aQ m->aQ n->(dv m).1≠0->(dv n).1≠0->m.2.1.length<=4096->n.2.1.length<=4096->jR (dG.vY false p (dv x) (dv m)).1 (dG.vY false p (dv x) (dv m)).2=true->jR (dG.vY true p (dv y) (dv n)).1 (dG.vY true p (dv y) (dv n)).2=true ->
   aTS p x.1 x.2.1 x.2.2 y.1 y.2.1 y.2.2 false 0 false 0 m.1 m.2.1 m.2.2 n.1 n.2.1 n.2.2=some [Cr (bW (dG.vY false p (dv x) (dv m)).1 (dG.vY false p (dv x) (dv m)).2) (bW (dG.vY true p (dv y) (dv n)).1 (dG.vY true p (dv y) (dv n)).2),.s (.sc (.int .i64 0))]:=by
  intro m n hm hn m0 n0 lm ln j1 j2;have x1:(x.1,x.2.1,x.2.2)=x:=rfl;have x2:(y.1,y.2.1,y.2.2)=y:=rfl;have x3:(m.1,m.2.1,m.2.2)=m:=rfl;have x4:(n.1,n.2.1,n.2.2)=n:=rfl;rw[aCM];simp only[aE,x1,x2,x3,x4,j1,j2,cond_true];rw[gP ⟨hx,hm,m0,lx,lm,hp.1,hp.2⟩,gP ⟨hy,hn,n0,ly,ln,hp.1,hp.2⟩,gP ⟨trivial,trivial⟩];rfl
 unfold aIJ aIK at *;rw[Aa,gP hx,aE]
 by_cases c1:cI (dv x) (0,0)<0
 ·rw[show dv (x.1,x.2.1,x.2.2)=dv x from rfl,aO c1,Vl,gP hy,aE,show dv (y.1,y.2.1,y.2.2)=dv y from rfl];rw[dqT c1,cond_true]at i1 ⊢
  by_cases c2:cI (dv y) (0,0)<0
  ·rw[aO c2];rw[dqT c2,cond_true]at i2 ⊢;exact fin u v hu hv u0 v0 lu lv i1 i2
  ·rw[aM c2];rw[dqF c2,cond_false]at i2 ⊢;exact fin u u hu hu u0 u0 lu lu i1 i2
 ·rw[show dv (x.1,x.2.1,x.2.2)=dv x from rfl,aM c1,Vl,gP hy,aE,show dv (y.1,y.2.1,y.2.2)=dv y from rfl];rw[dqF c1,cond_false]at i1 ⊢
  by_cases c2:cI (dv y) (0,0)<0
  ·rw[aO c2];rw[dqT c2,cond_true]at i2 ⊢;exact fin v v hv hv v0 v0 lv lv i1 i2
  ·rw[aM c2];rw[dqF c2,cond_false]at i2 ⊢;exact fin v u hv hu v0 u0 lv lu i1 i2
theorem cell{q:Int×Int}(h:nC q)(hb:bl q.1.natAbs<=262144):(isNeg q.1,M6.dg q.1.natAbs,q.2).2.1.length<=4096:=by
 have:=eQ h;refine this.fJ ?_;rw[fK];exact hb
theorem spec:uQ E f21 aF sP sP (pN .i64) sp:=by
 rintro s t p ⟨h1,h2,hp,hs,⟨l1,l2,l3,l4⟩,i1,i2⟩;refine(start s.1 s.2.1 s.2.2.1 s.2.2.2.1 s.2.2.2.2.1 s.2.2.2.2.2 t.1 t.2.1 t.2.2.1 t.2.2.2.1 t.2.2.2.2.1 t.2.2.2.2.2 p).trans ?_;rw[gP ⟨h1,h2⟩,aE,if_pos hp,gA rfl,gP h2,aE];unfold sp;have n1:(dv (fO t)).1≠0:=fun hz=>by
  have:=Gs.1 (Cm hz);have o:=mB.1 h2.2.2;unfold fW.tR at hs
  by_cases g:cI (dv (fR t)) (0,0)<0
  ·have:=zK.1 g;grind
  ·rw[if_neg g,if_neg (by rw[Cm hz];omega)]at hs;exact hs rfl
 have n2:(dv (fR t)).1≠0:=fun hz=>by
  have:=Gs.1 (Cm hz);have o:=mB.1 h2.2.2;unfold fW.tR at hs;rw[if_neg (by rw[Cm hz];omega)]at hs
  by_cases g:0<cI (dv (fO t)) (0,0)
  ·have:=rU.1 g;grind
  ·rw[if_neg g]at hs;exact hs rfl
 show aC (fW.tR (dv (fO t)) (dv (fR t))==0) _ _=_;rw[cP hs];have p1:=h1.1.pK;have p2:=h1.2.1.pK;have p3:=h2.1.pK;have p4:=h2.2.1.pK;unfold Zl Zm at *
 by_cases c:fW.tR (dv (fO t)) (dv (fR t))=-1
 ·rw[show(fW.tR (dv (fO t)) (dv (fR t))==-1)=true from beq_iff_eq.2 c,cond_true]at i1 i2;show aC (fW.tR (dv (fO t)) (dv (fR t))==-1) _ _=_;rw[dU c,gP h1];simp only[aE];rw[gP h2];rw[show(fW.tR (dv (fO t)) (dv (fR t))==-1)=true from beq_iff_eq.2 c,cond_true,cond_true];have e:=J hp (eQ p2.Hy) (eQ p1.Hy) (eQ p4.Hy) (eQ p3.Hy);rw[fK,fK,fK,fK]at e;dsimp only at e;exact e (by omega) (by omega) (cell p2.Hy (by dsimp only;rw[cGD];exact l2)) (cell p1.Hy (by dsimp only;rw[cGD];exact l1)) (cell p4.Hy (by dsimp only;rw[cGD];exact l4)) (cell p3.Hy (by dsimp only;rw[cGD];exact l3)) i1 i2
 ·rw[show(fW.tR (dv (fO t)) (dv (fR t))==-1)=false from beq_eq_false_iff_ne.2 c,cond_false]at i1 i2;show aC (fW.tR (dv (fO t)) (dv (fR t))==-1) _ _=_;rw[cP c];rw[show(fW.tR (dv (fO t)) (dv (fR t))==-1)=false from beq_eq_false_iff_ne.2 c,cond_false,cond_false];exact J hp h1.1 h1.2.1 h2.1 h2.2.1 n1 n2 (h1.1.fJ l1) (h1.2.1.fJ l2) (h2.1.fJ l3) (h2.2.1.fJ l4) i1 i2
def aJ:dO:=orc3 sP sP (pN .i64) sp
theorem ok:OK 21 aJ:=(eI E aF (aA vJ.ok (aA fW.ok (aA nV.ok (aA Ey.ok (aA Pj.ok (aA aCS.ok (aA Ov.ok aD))))))) func21).Dn rfl spec
end nQ
namespace VTurned
def E:=mE [(31,nV.aJ)] 29 [16] [(2,[3,4,6,7,11,12])] []
def aF:=bd f96
theorem aU:Nk E aF:=nk
def L2 a b c d e f g h i j k l m n o p q r s t u v:=nU E f96 aF 2 [bK 0 31 [bC a,eR b,cV c,bC d,eR e,cV f],bK 1 31 [bC g,eR h,cV i,bC j,eR k,cV l],bK 2 31 [bC m,sc (slice none 0 0),cV n,bC o,sc (slice none 0 0),cV p],bK 3 31 [bC q,sc (slice none 0 0),cV r,bC s,sc (slice none 0 0),cV t],bJ u,bJ v]
theorem start a b d e f g h i j k l m c:aG E f96 aF [D.agg [sc (bool a),ints u64 b,sc (int i64 d),sc (bool e),ints u64 f,sc (int i64 g)],D.agg [sc (bool h),ints u64 i,sc (int i64 j),sc (bool k),ints u64 l,sc (int i64 m)],D.s (sc (int i64 c))]=VTurned.L2 a b d e f g h i j k l m false 0 false 0 false 0 false 0 c 0:=eJ aU
theorem lE a b c d e f g h i j k l m n o p q r s t u v:L2 a b c d e f g h i j k l m n o p q r s t u v=letI A:=(a,b,c,d,e,f);letI C:=dv (fO A);letI B:=dv (fR A);aC (decide (v<u)) (aN (dW A) (aB (isNeg (-B.fst)) fun w=>aB (M6.dg (-B.fst).natAbs) fun x=>aB B.snd fun y=>aB (isNeg (-C.fst)) fun z=>aB (M6.dg (-C.fst).natAbs) fun aa=>aB C.snd fun ab=>VTurned.L2 g h i j k l w x y z aa ab m n o p q r s t u (i64.wrap (v+1)))) (some [D.agg [sc (bool a),ints u64 b,sc (int i64 c),sc (bool d),ints u64 e,sc (int i64 f)],D.agg [sc (bool g),ints u64 h,sc (int i64 i),sc (bool j),ints u64 k,sc (int i64 l)],D.s (sc (int i64 0))]):=lJ aU
def trn(s c:(Int×Int)×(Int×Int)):Nat->((Int×Int)×(Int×Int))×((Int×Int)×(Int×Int))
 |0=>(s,c)
 |n+1=>trn c (nV.Bd s.2,nV.Bd s.1) n
def sp(s c:uP)(q:Int):Prop×List D:=(dW s/\dW c/\0<=q/\q<=3,[Cr (trn (dv (fO s),dv (fR s)) (dv (fO c),dv (fR c)) q.toNat).1.1 (trn (dv (fO s),dv (fR s)) (dv (fO c),dv (fR c)) q.toNat).1.2,Cr (trn (dv (fO s),dv (fR s)) (dv (fO c),dv (fR c)) q.toNat).2.1 (trn (dv (fO s),dv (fR s)) (dv (fO c),dv (fR c)) q.toNat).2.2,.s (.sc (.int .i64 0))])
theorem aXC{s:uP}(h:dW s):dW (rB (nV.Bd (dv (fR s))) (nV.Bd (dv (fO s)))):=by
 refine Cq h.2.1.pK.Hy h.1.pK.Hy ?_;have:=mB.1 h.2.2;refine mB.2 ?_;unfold nV.Bd;rw[rP,rP];grind
theorem L:∀(d k:Nat) (s c:uP),k+d<=1000->dW s->dW c->L2 s.1 s.2.1 s.2.2.1 s.2.2.2.1 s.2.2.2.2.1 s.2.2.2.2.2 c.1 c.2.1 c.2.2.1 c.2.2.2.1 c.2.2.2.2.1 c.2.2.2.2.2 false 0 false 0 false 0 false 0 ((k+d:Nat):Int) (k:Int)=some [Cr (trn (dv (fO s),dv (fR s)) (dv (fO c),dv (fR c)) d).1.1 (trn (dv (fO s),dv (fR s)) (dv (fO c),dv (fR c)) d).1.2,Cr (trn (dv (fO s),dv (fR s)) (dv (fO c),dv (fR c)) d).2.1 (trn (dv (fO s),dv (fR s)) (dv (fO c),dv (fR c)) d).2.2,.s (.sc (.int .i64 0))]
 |0,k,s,c,h,h1,h2=>by
  rw[lE,aM];unfold trn;dsimp only;rw[h1.Cr,h2.Cr]
 |d+1,k,s,c,h,h1,h2=>by
  have e:i64.wrap ((k:Int)+1)=((k+1:Nat):Int):=by rw[wrap_i64];omega
  rw[lE,aO,gP h1];simp only[aE,e];have r:=L d (k+1) c (rB (nV.Bd (dv (fR s))) (nV.Bd (dv (fO s)))) (by omega) h2 (aXC h1);rw[mZ,nA,show k+1+d=k+(d+1) by omega]at r;exact r
theorem spec:uQ E f96 aF sP sP (pN .i64) sp:=by
 rintro s c q ⟨h1,h2,q0,q1⟩;refine(start s.1 s.2.1 s.2.2.1 s.2.2.2.1 s.2.2.2.2.1 s.2.2.2.2.2 c.1 c.2.1 c.2.2.1 c.2.2.2.1 c.2.2.2.2.1 c.2.2.2.2.2 q).trans ?_;obtain⟨n,rfl⟩:=cDO q0;have:=L n 0 s c (by omega) h1 h2;rw[bYP]at this;exact this
def aJ:dO:=orc3 sP sP (pN .i64) sp
theorem ok:OK 96 aJ:=(eI E aF (aA nV.ok aD) func96).Dn rfl spec
end VTurned
end W
namespace M
open Go AI W
structure Bx(s:(Int×Int)×(Int×Int))(V W m:Rat):Prop where
 pl:nC s.1
 ph:nC s.2
 bl:bl s.1.1.natAbs<=100000
 bh:M.bl s.2.1.natAbs<=100000
 m0:0<=m
 lo:R.qz s.1+m<=V
 hi:V+m<=R.qz s.2
 wd:R.qz s.2-R.qz s.1<=W
theorem Bx.neg{s:(Int×Int)×(Int×Int)}{V W m:Rat}(h:Bx s V W m):Bx (nV.Bd s.2,nV.Bd s.1) (-V) W m:=by
 obtain⟨h1,h2,h3,h4,h5,h6,h7,h8⟩:=h;refine⟨h2.Hy,h1.Hy,?_,?_,h5,?_,?_,?_⟩
 ·show M.bl (-s.2.1).natAbs<=_;rw[cGD];exact h4
 ·show M.bl (-s.1.1).natAbs<=_;rw[cGD];exact h3
 ·show R.qz (-s.2.1,s.2.2)+m<=_;rw[rP];grind
 ·show _<=R.qz (-s.1.1,s.1.2);rw[rP];grind
 ·show R.qz (-s.1.1,s.1.2)-R.qz (-s.2.1,s.2.2)<=_;rw[rP,rP];grind
theorem Bx.Ft{s:(Int×Int)×(Int×Int)}{V W m:Rat}(h:Bx s V W m):dW (rB s.1 s.2):=Cq h.pl h.ph (mB.2 (by have:=h.lo;have:=h.hi;have:=h.m0;grind))
theorem Bx.trn{s c:(Int×Int)×(Int×Int)}{S C Ws Wc m:Rat}(hs:Bx s S Ws m)(hc:Bx c C Wc m){k:Int} :
  Bx (VTurned.trn s c (k%4).toNat).1 (R.rs k S C) (if k%2=0 then Ws else Wc) m/\Bx (VTurned.trn s c (k%4).toNat).2 (R.rc k S C) (if k%2=0 then Wc else Ws) m:=by
 have h4:k%4=0\/k%4=1\/k%4=2\/k%4=3:=by omega
 unfold R.rs R.rc;rcases h4 with h |h |h |h
 ·have h2:k%2=0:=by omega
  simp[h,h2];exact⟨hs,hc⟩
 ·have h2:k%2=1:=by omega
  simp[h,h2];exact⟨hc,hs.neg⟩
 ·have h2:k%2=0:=by omega
  simp[h,h2];exact⟨hs.neg,hc.neg⟩
 ·have h2:k%2=1:=by omega
  simp[h,h2];have e:s=(nV.Bd (nV.Bd s.1),nV.Bd (nV.Bd s.2)):=by
   obtain⟨⟨a,b⟩,c,d⟩:=s;unfold nV.Bd;dsimp only;rw[Int.neg_neg,Int.neg_neg]
  refine⟨hc.neg,?_⟩;have:=hs;rw[e]at this;exact this
theorem aTA(up:Bool){z:Int}{v:Rat}{k:Nat}(hk:1<=k)(h:(z:Rat)=v\/(z%2=1/\(z:Rat)-1<v/\v<(z:Rat)+1)) :
  (up=false->(lG.rD up z k:Rat)*((2^k:Nat):Rat)<=v/\v<=(lG.rD up z k:Rat)*((2^k:Nat):Rat)+((2^k:Nat):Rat))/\(up=true->v<=(lG.rD up z k:Rat)*((2^k:Nat):Rat)/\(lG.rD up z k:Rat)*((2^k:Nat):Rat)<=v+((2^k:Nat):Rat)):=by
 obtain⟨c1,c2⟩:=aFI up z k;have K0:(0:Rat)<((2^k:Nat):Rat):=by exact_mod_cast cBM (by decide)
 rcases h with h |⟨ho,h1,h2⟩
 ·rw[<-h];exact⟨fun hu=>⟨(c1 hu).1,cDU (c1 hu).2⟩,fun hu=>⟨(c2 hu).1,cDU (c2 hu).2⟩⟩
 ·
  have ev:(2:Int)∣((2^k:Nat):Int):=by
   obtain⟨j,rfl⟩:∃j,k=j+1:=⟨k-1,by omega⟩;rw[cDL];exact⟨((2^j:Nat):Int),by push_cast;omega⟩
  have fl:∀w:Int,w%2=1->w/((2^k:Nat):Int)*((2^k:Nat):Int)+1<=w/\w+1<=w/((2^k:Nat):Int)*((2^k:Nat):Int)+((2^k:Nat):Int):=by
   intro w hw;have e:=Int.mul_ediv_add_emod w ((2^k:Nat):Int);have hp:(0:Int)<((2^k:Nat):Int):=by have:=cBM (n:=k) (show 0<2 by decide);omega
   have m0:=Int.emod_nonneg w (show((2^k:Nat):Int)≠0 by omega);have m1:=Int.emod_lt_of_pos w hp;have m2:w%((2^k:Nat):Int)%2=1:=by rw[Int.emod_emod_of_dvd w ev];exact hw
   rw[Int.mul_comm]at e;generalize w/((2^k:Nat):Int)*((2^k:Nat):Int)=P at *;omega
  constructor
  ·rintro rfl;unfold lG.rD;rw[cond_false];obtain⟨f1,f2⟩:=fl z ho;have bWX:((z/((2^k:Nat):Int):Int):Rat)*((2^k:Nat):Rat)+1<=(z:Rat):=by exact_mod_cast f1
   have bWW:(z:Rat)+1<=((z/((2^k:Nat):Int):Int):Rat)*((2^k:Nat):Rat)+((2^k:Nat):Rat):=by exact_mod_cast f2
   generalize ((z/((2^k:Nat):Int):Int):Rat)*((2^k:Nat):Rat)=P at *;constructor <;> grind
  ·rintro rfl;unfold lG.rD;rw[cond_true];obtain⟨f1,f2⟩:=fl (-z) (by omega);have bWX:((-z/((2^k:Nat):Int):Int):Rat)*((2^k:Nat):Rat)+1<=-(z:Rat):=by exact_mod_cast f1
   have bWW:-(z:Rat)+1<=((-z/((2^k:Nat):Int):Int):Rat)*((2^k:Nat):Rat)+((2^k:Nat):Rat):=by exact_mod_cast f2
   rw[cJG];have e:-((-z/((2^k:Nat):Int):Int):Rat)*((2^k:Nat):Rat)=-(((-z/((2^k:Nat):Int):Int):Rat)*((2^k:Nat):Rat)):=by grind
   rw[e];generalize ((-z/((2^k:Nat):Int):Int):Rat)*((2^k:Nat):Rat)=P at *;constructor <;> grind
theorem aQY{a b s:Nat}(hb:0<b):∃v:Rat,v*(b:Rat)=2*((a:Rat)*((2^s:Nat):Rat))/\0<=v/\((dG.Wt a b s:Rat)=v\/(dG.Wt a b s%2=1/\(dG.Wt a b s:Rat)-1<v/\v<(dG.Wt a b s:Rat)+1)):=by
 have b0:(0:Rat)<(b:Rat):=by exact_mod_cast hb
 have hd:=cDT (a*2^s) b;have hm:=cAV (a*2^s) hb;have A:(b:Rat)*((a*2^s/b:Nat):Rat)+((a*2^s%b:Nat):Rat)=(a:Rat)*((2^s:Nat):Rat):=by exact_mod_cast hd
 have Mm:((a*2^s%b:Nat):Rat)<(b:Rat):=by exact_mod_cast hm
 have q0:(0:Rat)<=((a*2^s/b:Nat):Rat):=by exact_mod_cast cEN _
 have m0:(0:Rat)<=((a*2^s%b:Nat):Rat):=by exact_mod_cast cEN _
 refine⟨2*((a:Rat)*((2^s:Nat):Rat))/(b:Rat),by grind,?_,?_⟩
 ·refine R.bP b0 ?_;have:(b:Rat)*(2*((a:Rat)*((2^s:Nat):Rat))/(b:Rat))=2*((a:Rat)*((2^s:Nat):Rat)):=by grind
  rw[this,<-A];have:=R.aI (cDU b0) q0;grind
 ·have e:(b:Rat)*(2*((a:Rat)*((2^s:Nat):Rat))/(b:Rat))=2*((b:Rat)*((a*2^s/b:Nat):Rat)+((a*2^s%b:Nat):Rat)):=by rw[A];grind
  generalize 2*((a:Rat)*((2^s:Nat):Rat))/(b:Rat)=v at *;unfold dG.Wt
  by_cases hz:a*2^s%b=0
  ·left;rw[if_pos hz,bZO,cFK];rw[hz]at e;have z:((0:Nat):Rat)=0:=by norm_cast
   have two:((2:Nat):Rat)=2:=by norm_cast
   rw[z]at e;rw[two];have:(b:Rat)*v=(b:Rat)*(((a*2^s/b:Nat):Rat)*2):=by rw[e];grind
   exact(Rat.le_antisymm (R.bP b0 (by rw[this];exact cEZ)) (R.bP b0 (by rw[this];exact cEZ))).symm
  ·right;have m1:(1:Rat)<=((a*2^s%b:Nat):Rat):=by exact_mod_cast(show 1<=a*2^s%b by omega)
   rw[if_neg hz];have c:((a*2^s/b*2+1:Nat):Rat)=2*((a*2^s/b:Nat):Rat)+1:=by
    rw[cIQ,cFK];have two:((2:Nat):Rat)=2:=by norm_cast
    have one:((1:Nat):Rat)=1:=by norm_cast
    rw[two,one];grind
   rw[c];refine⟨by omega,?_,?_⟩
   ·refine R.qU b0 ?_;rw[e];grind
   ·refine R.qU b0 ?_;rw[e];grind
end M
namespace W
open Go AI M
namespace zU
def E:=mE [(98,Bz.aJ),(45,sE.aJ)] 20 [] [(4,[10,11,12])] []
def aF:=bd f40
theorem aU:Nk E aF:=nk
def L4(a:Nat)(b:Nat->Bool)(c:Nat->List Int)(d:Nat->Int)(e:Nat->Bool)(f:Nat->List Int)(g:Nat->Int) x7 h:=nU E f40 aF 4 [(A.v (V.one (L.rows 6 a fun i=>[sc (bool (b i)),ints u64 (c i),sc (int i64 (d i)),sc (bool (e i)),ints u64 (f i),sc (int i64 (g i))])),none),bJ x7,bJ h]
theorem start p (a:uP):aG E f40 aF [D.s (sc (int i64 p)),D.rows 6 1 fun i=>[sc (bool a.fst),ints u64 a.snd.fst,sc (int i64 a.snd.snd.fst),sc (bool a.snd.snd.snd.fst),ints u64 a.snd.snd.snd.snd.fst,sc (int i64 a.snd.snd.snd.snd.snd)]]=aN True (aC (!(decide (1<=p)&&decide (p<=70000))) (some [D.s (sc (int i64 1))]) (zU.L4 1 (fun i=>a.fst) (fun i=>a.snd.fst) (fun i=>a.snd.snd.fst) (fun i=>a.snd.snd.snd.fst) (fun i=>a.snd.snd.snd.snd.fst) (fun i=>a.snd.snd.snd.snd.snd) 1 0)):=eJ aU
theorem mG a b c d e f g h j:L4 a b c d e f g h j=aC (decide (j<h)) (if 0<=j/\j<(a:Int)then aN (dW (b j.toNat,c j.toNat,d j.toNat,e j.toNat,f j.toNat,g j.toNat)) (zU.L4 a (fun i=>b i) (fun i=>c i) (fun i=>d i) (fun i=>e i) (fun i=>f i) (fun i=>g i) h (i64.wrap (j+1)))else none) (some [D.s (sc (int i64 0))]):=lJ aU
def sp(p:Int)(a:uP):Prop×List D:=(dW a,[.s (.sc (.int .i64 (if 1<=p/\p<=70000 then 0 else 1)))])
theorem L(n:Nat)(f:Nat->uP)(hn:n<=1000)(hf:∀i,i<n->dW (f i)):∀d k:Nat,k+d=n->L4 n (fun i=>(f i).1) (fun i=>(f i).2.1) (fun i=>(f i).2.2.1) (fun i=>(f i).2.2.2.1) (fun i=>(f i).2.2.2.2.1) (fun i=>(f i).2.2.2.2.2) (n:Int) (k:Int)=some [D.s (.sc (.int .i64 0))]
 |0,k,h=>by rw[mG,aM]
 |d+1,k,h=>by
  have e:i64.wrap ((k:Int)+1)=((k+1:Nat):Int):=by rw[wrap_i64];omega
  rw[mG,aO,aR,cCJ,gP (hf k (by omega)),e];exact L n f hn hf d (k+1) (by omega)
theorem spec:fF E f40 aF (pN .i64) (bNU (.pair sB (.pair (sI .u64) (.pair (sN .i64) (.pair sB (.pair (sI .u64) (sN .i64)))))) (false,[],0,false,[],0)) sp:=by
 intro p a h;have hf:∀i,i<1->dW (a):=fun i hi=>h
 refine(start p a).trans ((gP trivial).trans ?_);unfold sp
 by_cases hp:1<=p/\p<=70000
 ·rw[if_pos hp,dqT hp.1,dqT hp.2];exact L 1 (fun _=>a) (by decide) hf 1 0 (by omega)
 ·rw[if_neg hp];have:(decide (1<=p)&&decide (p<=70000))=false:=by
   rw[cKR,decide_eq_false_iff_not,decide_eq_false_iff_not];omega
  rw[this];rfl
def aJ:dO:=orc2 (pN .i64) (bNU (.pair sB (.pair (sI .u64) (.pair (sN .i64) (.pair sB (.pair (sI .u64) (sN .i64)))))) (false,[],0,false,[],0)) sp
theorem ok:OK 40 aJ:=(eI E aF (aA Bz.ok (aA sE.ok aD)) func40).jZ rfl spec
end zU
namespace aOG
def E:=mE [(153,Ck.aJ),(46,dY.aJ)] 24 [10] [] []
def aF:=bd f97
theorem aU:Nk E aF:=nk
theorem start a b c:aG E f97 aF [D.agg [sc (bool a),ints u64 b,sc (int i64 c)]]=letI B:=dv (a,b,c);aN (aQ (a,b,c)) (aB (if B.fst=0 then(0:Int)else c+(↑(bl (M6.val b)):Int)-(1:Int)) fun d=>letI C:=i64.wrap ((0:Int)-d);letI A:=bif dY.vW B C then dY.Am B C else((0:Int),(0:Int));aN (aQ (a,b,c)/\(-9223372036854775808:Int)<=i64.wrap ((0:Int)-d)/\i64.wrap ((0:Int)-d)<9223372036854775808) (aB (M6.dg A.fst.natAbs) fun e=>aB A.snd fun f=>some [D.agg [sc (bool false),ints u64 e,sc (int i64 f)],D.s (sc (int i64 d))])):=eJ aU
def sp(x:fB):Prop×List D:=(aQ x/\(dv x).1≠0,[dD (((dv x).1.natAbs:Nat),1-(bl (dv x).1.natAbs:Nat)),.s (.sc (.int .i64 (bG (dv x))))])
theorem spec:iH E f97 aF jQ sp:=by
 rintro x ⟨hx,h0⟩;have he:=hx.2.1;have ha:(dv x).1.natAbs=M6.val x.2.1:=iX (x.1,x.2.1);have hb:=hx.Ln.bl;dsimp only at hb;have hb0:=mY (n:=M6.val x.2.1) (by omega);refine(start x.1 x.2.1 x.2.2).trans ?_;have ht:x.2.2+(bl (M6.val x.2.1):Int)-1=bG (dv x):=by unfold bG;rw[ha];rfl
 have h2:(dv x).2=x.2.2:=rfl;have Xm:dY.vW (dv x) (0-bG (dv x))=true:=by
  unfold dY.vW;rw[dqF h0,cAO,dqT (by omega),dqT (by omega)];rfl
 have bTQ:dY.Am (dv x) (0-bG (dv x))=((dv x).1,1-((bl (dv x).1.natAbs:Nat):Int)):=by
  unfold dY.Am;rw[if_neg h0];congr 1;unfold bG;omega
 have aYC:isNeg ((((dv x).1.natAbs:Nat):Int))=false:=fN.2 (by omega);simp only[aE];have bWT:¬((dv (x.1,x.2.1,x.2.2)).1=0):=h0;rw[gP hx,if_neg bWT,ht,wrap_i64 (n:=0-bG (dv x)),gP ⟨hx,by omega,by omega⟩,show dv (x.1,x.2.1,x.2.2)=dv x from rfl,Xm,cond_true,bTQ];unfold sp dD
 try dsimp only
 rw[aYC,cED]
def aJ:dO:=orc1 jQ sp
theorem ok:OK 97 aJ:=(eI E aF (aA Ck.ok (aA dY.ok aD)) func97).oV rfl spec
end aOG
namespace Gz
def E:=mE [(40,zU.aJ),(62,Ca.aJ),(58,fW.aJ),(78,aCR.aJ),(97,aOG.aJ)] 77 [19,41] [(15,[1,9,11])] [15]
def aF:=bd f39
theorem aU:Nk E aF:=nk
def aIF a b c d e f g:=lP E f39 aF 15 [bJ a,bK 1 29 [bC b,eR c,cV d],bK 2 29 [bC e,eR f,cV g]]
theorem start a c d e f g b:aG E f39 aF [D.agg [sc (bool a),ints u64 c,sc (int i64 d),sc (bool e),ints u64 f,sc (int i64 g)],D.s (sc (int i64 b))]=letI G:=sc (bool false);letI F:=dv (e,f,g);letI C:=(a,c,d,e,f,g);letI B:=dv (a,c,d);letI A:=bif cB.jW F (-B.fst,B.snd)then cB.kI F (-B.fst,B.snd)else((0:Int),(0:Int));aN (dW C) (aB (if 1<=b/\b<=70000 then(0:Int)else(1:Int)) fun h=>aC (h !=0) (some [D.s G,D.s (sc (int i64 h))]) (aN (aQ (a,c,d)/\aQ (e,f,g)) (aB (cI B F) fun i=>aC (i==0) (some [D.s (sc (bool true)),D.s (sc (int i64 0))]) (aN (dW C) (aB (fW.tR (dv (fO C)) (dv (fR C))) fun j=>aC (j==0) (some [D.s G,D.s (sc (int i64 0))]) (aN (aQ (e,f,g)/\aQ (a,c,d)) (aB (isNeg A.fst) fun k=>aB (M6.dg A.fst.natAbs) fun l=>aB A.snd fun m=>aB (bif cB.jW F (-B.fst,B.snd)then(0:Int)else(5:Int)) fun n=>aC (n !=0) (some [D.s G,D.s (sc (int i64 n))]) (aC (decide (j<0)) (Gz.aIF b k l m e f g) (Gz.aIF b k l m a c d))))))))):=eJ aU
theorem Pb a b c d e f g:aIF a b c d e f g=letI B:=dv (e,f,g);letI F:=(B.fst.natAbs:Int);letI A:=dv (b,c,d);letI C:=(A.fst.natAbs:Int);aN (aQ (b,c,d)/\A.fst≠0) (aB (isNeg C) fun h=>aB (M6.dg C.natAbs) fun i=>aB ((1:Int)-(↑(bl A.fst.natAbs):Int)) fun j=>aB (bG A) fun k=>aN (aQ (e,f,g)/\B.fst≠0) (aB (isNeg F) fun l=>aB (M6.dg F.natAbs) fun m=>aB ((1:Int)-(↑(bl B.fst.natAbs):Int)) fun n=>aB (bG B) fun o=>aC (i64.wrap (k+a) !=o) (some [D.s (sc (bool (decide (i64.wrap (k+a)<o)))),D.s (sc (int i64 0))]) (aN (aQ (h,i,j)/\aQ (l,m,n)) (aB (cI (dv (h,i,j)) (dv (l,m,n))) fun p=>some [D.s (sc (bool (decide (p<=0)))),D.s (sc (int i64 0))])))):=cJ aU
def aUB(a b:Int×Int)(p:Int):Bool :=
 bif cI a b==0 then true else bif fW.tR a b==0 then false else
 bif (bG (cB.kI b (-a.1,a.2))+p) !=bG (bif decide (fW.tR a b<0)then b else a)then decide (bG (cB.kI b (-a.1,a.2))+p<bG (bif decide (fW.tR a b<0)then b else a))
 else decide (cI (aII (cB.kI b (-a.1,a.2))) (aII (bif decide (fW.tR a b<0)then b else a))<=0)
def sp(s:uP)(p:Int):Prop×List D:=(dW s/\(1<=p/\p<=70000)/\cB.jW (dv (fR s)) (-(dv (fO s)).1,(dv (fO s)).2)=true,[.s (.sc (.bool (aUB (dv (fO s)) (dv (fR s)) p))),.s (.sc (.int .i64 0))])
theorem J{p:Int}{w n:Int×Int}{x:fB}(hp:1<=p/\p<=70000)(hw:nC w)(hn:aQ x)(he:dv x=n)(w0:w.1≠0)(n0:n.1≠0) :
  aIF p (isNeg w.1) (M6.dg w.1.natAbs) w.2 x.1 x.2.1 x.2.2=some [.s (.sc (.bool (bif (bG w+p) !=bG n then decide (bG w+p<bG n)else decide (cI (aII w) (aII n)<=0)))),.s (.sc (.int .i64 0))]:=by
 subst he;have c:=fK w;have cx:(x.1,x.2.1,x.2.2)=x:=rfl;have t1:=hw.top;have t2:=hn.pK.top;rw[Pb];simp only[aE,c,cx];rw[gP ⟨eQ hw,w0⟩,gP ⟨hn,n0⟩,wrap_i64 (n:=bG w+p)]
 by_cases h:bG w+p=bG (dv x)
 ·rw[gA h];have d1:=eQ (aKR hw w0);have d2:=eQ (aKR hn.pK n0);have e1:=fK (aII w);have e2:=fK (aII (dv x));rw[show((bG w+p) !=bG (dv x))=false from by rw[h];exact bne_self_eq_false _,cond_false];unfold aII at d1 d2 e1 e2 ⊢;dsimp only at d1 d2 e1 e2 ⊢;rw[gP ⟨d1,d2⟩,e1,e2]
 ·rw[oG h,show((bG w+p) !=bG (dv x))=true from bne_iff_ne.2 h,cond_true]
theorem spec:fF E f39 aF sP (pN .i64) sp:=by
 rintro s p ⟨h1,hp,ao⟩;have hL:aQ (s.1,s.2.1,s.2.2.1):=h1.1;have hH:aQ (s.2.2.2.1,s.2.2.2.2.1,s.2.2.2.2.2):=h1.2.1;refine(start s.1 s.2.1 s.2.2.1 s.2.2.2.1 s.2.2.2.2.1 s.2.2.2.2.2 p).trans ?_;rw[gP h1,aE,if_pos hp,gA rfl,gP ⟨hL,hH⟩,aE];unfold sp aUB;dsimp only;unfold fO fR at *;generalize ha:dv (s.1,s.2.1,s.2.2.1)=a at *;generalize hb:dv (s.2.2.2.1,s.2.2.2.2.1,s.2.2.2.2.2)=b at *
 by_cases c:cI a b=0
 ·rw[dU c,show(cI a b==0)=true from beq_iff_eq.2 c,cond_true]
 ·rw[cP c,show(cI a b==0)=false from beq_eq_false_iff_ne.2 c,cond_false,gP h1,aE]
  by_cases d:fW.tR a b=0
  ·rw[dU d,show(fW.tR a b==0)=true from beq_iff_eq.2 d,cond_true]
  ·rw[cP d,show(fW.tR a b==0)=false from beq_eq_false_iff_ne.2 d,cond_false,gP ⟨hH,hL⟩,ao];simp only[aE,cond_true];rw[gA rfl];have pa:nC a:=ha▸hL.pK;have pb:nC b:=hb▸hH.pK;have pw:=Cu pb (by obtain⟨x1,x2,x3,x4⟩:=pa;exact⟨by dsimp only;rw[cGD];exact x1,x2,fun h=>x3 (by dsimp only at h;omega),fun h=>by dsimp only at h ⊢;have:=x4 (by omega);omega⟩) ao;have w0:=aJW c
   by_cases g:fW.tR a b<0
   ·have n0:b.1≠0:=fun hz=>by
     have:=Cm hz;unfold fW.tR at g;rw[bI]at g;split at g <;> omega
    rw[aO g,dqT g,cond_true];exact J hp pw hH hb w0 n0
   ·have n0:a.1≠0:=fun hz=>by
     have:=Cm hz;unfold fW.tR at g d;split at g
     ·omega
     ·rw[bI,bI]at d;exact d rfl
    rw[aM g,dqF g,cond_false];exact J hp pw hL ha w0 n0
def aJ:dO:=orc2 sP (pN .i64) sp
theorem ok:OK 39 aJ:=(eI E aF (aA zU.ok (aA Ca.ok (aA fW.ok (aA aCR.ok (aA aOG.ok aD))))) func39).jZ rfl spec
end Gz
end W
namespace M
open Go AI W
theorem aQZ{a b:Nat}{p:Int}(hp:1<=p)(ha:a≠0)(hb:b≠0):p+3<=(bl (dG.Wt a b (dG.Dm p a b)):Nat):=by
 have h1:=Rx ha;have h2:=wX b;have b0:=mY ha;have key:2^(p+1).toNat<=a*2^(dG.Dm p a b)/b:=by
  rw[Nat.le_div_iff_mul_le (by omega)];have e1:2^(p+1).toNat*b<=2^((p+1).toNat+bl b):=by rw[cDP];exact cBB _ (cMF h2)
  have e2:2^(bl a-1+dG.Dm p a b)<=a*2^(dG.Dm p a b):=by rw[cDP];exact cAA _ h1
  have e3:2^((p+1).toNat+bl b)<=2^(bl a-1+dG.Dm p a b):=cBN (by decide) (by unfold dG.Dm;omega);omega
 have:2^(p+2).toNat<=dG.Wt a b (dG.Dm p a b):=by
  have e:2^(p+2).toNat=2^(p+1).toNat*2:=by rw[<-cDL];congr 1;omega
  unfold dG.Wt;rw[e];generalize a*2^(dG.Dm p a b)/b=Q at *;omega
 have:=(tD (n:=dG.Wt a b (dG.Dm p a b)) (k:=(p+2).toNat)).2 this;omega
theorem Se(b:Bool)(n:Nat):(zs b n:Rat)=(if b then -1 else 1)*(n:Rat):=by
 cases b
 ·show((n:Int):Rat)=_;rw[cIW];simp
 ·show((-(n:Int):Int):Rat)=_;rw[cJG,cIW,if_pos rfl];grind
theorem aTX(z:Int):zs (isNeg z) z.natAbs=z:=by
 cases h:isNeg z with
 |true=>have:=jT.1 h;show -(z.natAbs:Int)=z;omega
 |false=>have:=fN.1 h;show(z.natAbs:Int)=z;omega
theorem Kl(up:Bool){x y:Int×Int}{p:Int}{q:Rat}(hp:1<=p)(hy:y.1≠0)(hq:q*R.qz y=R.qz x) :
  (up=false->R.qz (bW (dG.vY up p x y).1 (dG.vY up p x y).2)<=q/\q<=R.qz (bW (dG.vY up p x y).1 (dG.vY up p x y).2)+R.pz (2-p)*R.ab q) /\
  (up=true->q<=R.qz (bW (dG.vY up p x y).1 (dG.vY up p x y).2)/\R.qz (bW (dG.vY up p x y).1 (dG.vY up p x y).2)<=q+R.pz (2-p)*R.ab q):=by
 rw[qB];unfold dG.vY dG.bCO;dsimp only;obtain⟨v,v1,v2,v3⟩:=aQY (a:=x.1.natAbs) (b:=y.1.natAbs) (s:=dG.Dm p x.1.natAbs y.1.natAbs) (by omega);have aFV:=aQZ (a:=x.1.natAbs) (b:=y.1.natAbs) hp;have bXY:=R.aT q;generalize hs:dG.Dm p x.1.natAbs y.1.natAbs=s at *;generalize hQ:dG.Wt x.1.natAbs y.1.natAbs s=Q at *;obtain⟨e,he⟩:∃e,e=x.2-y.2-(s:Int)-1:=⟨_,rfl⟩;rw[<-he];have pe:=R.dK e;have vq:q=(if(isNeg x.1 !=isNeg y.1)then -1 else 1)*v*R.pz e:=by
  have aUW:(x.1:Rat)=(if isNeg x.1 then -1 else 1)*(x.1.natAbs:Rat):=by rw[<-Se,aTX]
  have aLK:(y.1:Rat)=(if isNeg y.1 then -1 else 1)*(y.1.natAbs:Rat):=by rw[<-Se,aTX]
  have bRB:R.qz y≠0:=aUJ hy;have ex:R.pz x.2=2*((2^s:Nat):Rat)*R.pz e*R.pz y.2:=by
   have:x.2=e+y.2+(s:Int)+1:=by omega
   rw[this,R.iM,R.dZ,R.iK];grind
  have e2:((if(isNeg x.1 !=isNeg y.1)then -1 else 1)*v*R.pz e)*R.qz y=R.qz x:=by
   unfold R.qz;rw[ex,aUW,aLK];have:v*(y.1.natAbs:Rat)=2*((x.1.natAbs:Rat)*((2^s:Nat):Rat)):=v1;cases isNeg x.1 <;> cases isNeg y.1 <;> simp <;> grind
  have e3:(q-(if(isNeg x.1 !=isNeg y.1)then -1 else 1)*v*R.pz e)*R.qz y=0:=by grind
  rcases Rat.mul_eq_zero.1 e3 with h |h
  ·grind
  ·exact absurd h bRB
 obtain⟨w,hw⟩:∃w,w=(if(isNeg x.1 !=isNeg y.1)then(-1:Rat)else 1)*v:=⟨_,rfl⟩;rw[<-hw]at vq;obtain⟨z,hz⟩:∃z,z=zs (isNeg x.1 !=isNeg y.1) Q:=⟨_,rfl⟩;rw[<-hz];have bJC:(z:Rat)=w\/(z%2=1/\(z:Rat)-1<w/\w<(z:Rat)+1):=by
  rw[hz,Se,hw];rcases v3 with h |⟨h1,h2,h3⟩
  ·left;rw[h]
  ·right;refine⟨?_,?_⟩
   ·cases (isNeg x.1 !=isNeg y.1)
    ·show((Q:Nat):Int)%2=1;omega
    ·show(-(Q:Int))%2=1;omega
   ·cases (isNeg x.1 !=isNeg y.1) <;> simp <;> constructor <;> grind
 have za:z.natAbs=Q:=by rw[hz];exact nM _ _
 have bXX:R.ab q=R.ab w*R.pz e:=by rw[vq,R.dV,R.bQ (cDU pe)]
 have bPY:=R.dK (2-p);unfold dC.pM
 by_cases c:(bl z.natAbs:Int)-p<=0
 ·rw[if_pos c];dsimp only;have bDF:(z:Rat)=w:=by
   rcases bJC with h |⟨h,_⟩
   ·exact h
   ·exfalso;have Ku:x.1.natAbs≠0:=by
     intro h0;rw[h0]at hQ;have:Q=0:=by
      rw[<-hQ];unfold dG.Wt;rw[Nat.zero_mul,cIB,Nat.zero_mod,if_pos rfl]
     omega
    have:=aFV Ku (by omega);rw[za]at c;omega
  have:=R.aI (cDU bPY) bXY;rw[bDF,<-vq];constructor <;> (intro _;constructor <;> grind)
 ·rw[if_neg c];dsimp only;obtain⟨k,hk⟩:=cDO (show 0<=(bl z.natAbs:Int)-p by omega);rw[hk,cCJ,R.dZ];obtain⟨c1,c2⟩:=aTA up (z:=z) (v:=w) (k:=k) (by omega) bJC;have lit:((2^k:Nat):Rat)<=R.pz (2-p)*R.ab w:=by
   have aRT:z≠0:=by intro h0;rw[h0]at c;exact c (by show(bl 0:Int)-p<=0;rw[zQ];omega)
   have t1:=(nY (p:=(z,0)) aRT).1;have ez:R.qz (z,0)=(z:Rat):=by unfold R.qz;dsimp only;rw[R.fA];grind
   rw[ez]at t1;have et:bG (z,0)=(bl z.natAbs:Int)-1:=by unfold bG;dsimp only;omega
   rw[et]at t1;have b2:2<=bl z.natAbs:=by omega
   have aw:R.ab (z:Rat)-1<=R.ab w:=by
    rcases bJC with h |⟨_,h1,h2⟩
    ·rw[h];grind
    ·have:=R.xM w ((z:Rat)-w);have:R.ab ((z:Rat)-w)<=1:=by rw[R.bY];constructor <;> grind
     have:w+((z:Rat)-w)=(z:Rat):=by grind
     grind
   have e1:R.pz ((bl z.natAbs:Int)-1)=2*R.pz ((bl z.natAbs:Int)-2):=by rw[<-R.iM];congr 1;omega
   have e2:1<=R.pz ((bl z.natAbs:Int)-2):=by rw[<-R.fA];exact R.cK (by omega)
   have e3:((2^k:Nat):Rat)=R.pz (2-p)*R.pz ((bl z.natAbs:Int)-2):=by rw[<-R.iK,<-R.iS,<-hk];congr 1;omega
   rw[e3];have:=R.aI (cDU bPY) (show 0<=R.ab w-R.pz ((bl z.natAbs:Int)-2) by grind);grind
  rw[bXX,vq];have l2:=R.aI (cDU pe) (show 0<=R.pz (2-p)*R.ab w-((2^k:Nat):Rat) by grind);generalize (lG.rD up z k:Rat)=cz at *;generalize ((2^k:Nat):Rat)=K at *;generalize R.pz (2-p)=P2 at *;generalize R.pz e=E at *;generalize R.ab w=aw at *;constructor
  ·intro hu;obtain⟨d1,d2⟩:=c1 hu;have m1:=R.aI (cDU pe) (show 0<=w-cz*K by grind);have m2:=R.aI (cDU pe) (show 0<=cz*K+K-w by grind);constructor <;> grind
  ·intro hu;obtain⟨d1,d2⟩:=c2 hu;have m1:=R.aI (cDU pe) (show 0<=cz*K-w by grind);have m2:=R.aI (cDU pe) (show 0<=w+K-cz*K by grind);constructor <;> grind
theorem aWR(up:Bool){x y:Int×Int}{p:Int}(hp:1<=p/\p<=70000)(bx:bl x.1.natAbs<=100000)(bXP:bl y.1.natAbs<=100000)(ex:-110000<=x.2/\x.2<=1000)(ey:-110000<=y.2/\y.2<=1000) :
  jR (dG.vY up p x y).1 (dG.vY up p x y).2=true/\bl (bW (dG.vY up p x y).1 (dG.vY up p x y).2).1.natAbs<=70001:=by
 unfold dG.vY dG.bCO;dsimp only;have hs:dG.Dm p x.1.natAbs y.1.natAbs<=170002:=by unfold dG.Dm;omega
 have hQ:bl (dG.Wt x.1.natAbs y.1.natAbs (dG.Dm p x.1.natAbs y.1.natAbs))<=270006:=by
  have h1:bl (x.1.natAbs*2^(dG.Dm p x.1.natAbs y.1.natAbs))<=270002:=bZJ (cN.Dd bx) (by omega);have h2:dG.Wt x.1.natAbs y.1.natAbs (dG.Dm p x.1.natAbs y.1.natAbs)<=x.1.natAbs*2^(dG.Dm p x.1.natAbs y.1.natAbs)*2+1:=by
   have:x.1.natAbs*2^(dG.Dm p x.1.natAbs y.1.natAbs)/y.1.natAbs<=x.1.natAbs*2^(dG.Dm p x.1.natAbs y.1.natAbs):=cGV _ _;unfold dG.Wt;generalize x.1.natAbs*2^(dG.Dm p x.1.natAbs y.1.natAbs)/y.1.natAbs=A at *;generalize x.1.natAbs*2^(dG.Dm p x.1.natAbs y.1.natAbs)=B at *;split <;> omega
  refine bZJ (gD h2) (bZJ (qV _ _) ?_);have h3:=mK (x.1.natAbs*2^(dG.Dm p x.1.natAbs y.1.natAbs)) 2;have h4:bl 2=2:=rfl;have h5:bl 1=1:=rfl;omega
 generalize dG.Dm p x.1.natAbs y.1.natAbs=s at *;generalize dG.Wt x.1.natAbs y.1.natAbs s=Q at *;have hz:(zs (isNeg x.1 !=isNeg y.1) Q).natAbs=Q:=nM _ _;rw[<-hz]at hQ;generalize zs (isNeg x.1 !=isNeg y.1) Q=z at *;unfold dC.pM;split
 ·dsimp only;exact⟨kZ (by omega) (by omega),bZJ (zB _ _) (by omega)⟩
 ·dsimp only;have hc:=aBO up z ((bl z.natAbs:Int)-p).toNat p.toNat (by omega);generalize lG.rD up z ((bl z.natAbs:Int)-p).toNat=c at *;exact⟨kZ (by omega) (by omega),bZJ (zB _ _) (by omega)⟩
theorem Gq{a b u v S C V ρ m q1 q2:Rat}(ha:a+m<=S)(hb:S+m<=b)(aSJ:b-a<=ρ*S)(hu:u+m<=C)(hv:C+m<=v)(huv:v-u<=ρ*C)(m0:0<=m)(S0:0<S)(C0:0<C)(C1:C<=1)(r0:0<=ρ)(r1:ρ<=1/64)(hV:V*C=S)(h1:q1*v=a)(h2:q2*u=b) :
  q1+m<=V/\V+m<=q2/\q2<=V+3*ρ*V/\V-2*ρ*V<=q1/\0<V/\0<=q1:=by
 have rS:=R.aI (cDU S0) (show 0<=1/64-ρ by grind);have rC:=R.aI (cDU C0) (show 0<=1/64-ρ by grind);have a0:0<a:=by grind
 have u0:0<u:=by grind
 have v0:0<v:=by grind
 have V0:0<V:=by
  refine Rat.not_le.1 fun hn=>?_
  have:=R.aI (show 0<=-V by grind) (cDU C0);grind
 have aWS:0<q1:=by
  refine Rat.not_le.1 fun hn=>?_
  have:=R.aI (show 0<=-q1 by grind) (cDU v0);grind
 have bRT:0<q2:=by
  refine Rat.not_le.1 fun hn=>?_
  have:=R.aI (show 0<=-q2 by grind) (cDU u0);grind
 have mC:=R.aI m0 (show 0<=1-C by grind);have rV:=R.aI r0 (cDU V0);have bNT:=R.aI rV (cDU C0);have rr:=R.aI bNT (show 0<=1/64-ρ by grind);have rq:=R.aI bNT r0;refine⟨?_,?_,?_,?_,V0,cDU aWS⟩
 ·refine R.bP C0 ?_;have:=R.aI (cDU aWS) (show 0<=v-C by grind);grind
 ·refine R.bP C0 ?_;have:=R.aI (cDU bRT) (show 0<=C-u by grind);grind
 ·refine R.bP u0 ?_;have h:=R.aI (show 0<=V+3*ρ*V by grind) (show 0<=u-(C-ρ*C) by grind);have e:(V+3*ρ*V)*(C-ρ*C)=V*C+2*(ρ*V*C)-3*(ρ*V*C*ρ):=by grind
  have e2:ρ*S=ρ*V*C:=by rw[<-hV];grind
  grind
 ·refine R.bP v0 ?_;have h:=R.aI (show 0<=V-2*ρ*V by have:=R.aI (cDU V0) (show 0<=1/64-ρ by grind);grind) (show 0<=(C+ρ*C)-v by grind);have e:(V-2*ρ*V)*(C+ρ*C)=V*C-ρ*V*C-2*(ρ*V*C*ρ):=by grind
  have e2:ρ*S=ρ*V*C:=by rw[<-hV];grind
  grind
theorem aFP{p:Int×Int}:decide (cI p (0,0)<0)=decide (R.qz p<0):=by
 have h:=zK (p:=p) (q:=(0,0));rw[R.pO (p:=(0,0)) rfl]at h
 by_cases c:R.qz p<0
 ·rw[dqT c,dqT (h.2 c)]
 ·rw[dqF c,dqF fun hh=>c (h.1 hh)]
def Qu(p:Int×Int):Prop:=bl p.1.natAbs<=100000/\-110000<=p.2/\p.2<=1000
theorem Sr{p:Int×Int}(hb:bl p.1.natAbs<=100000)(Fj:p.1≠0)(h0:R.pz (-1300)<=R.ab (R.qz p))(h1:R.ab (R.qz p)<=2):Qu p:=by
 have a:=yV Fj h0;have b:bG p<=1:=qK Fj (by rw[R.Eh];exact h1);have c:=mY (n:=p.1.natAbs) (by omega);unfold bG at a b;exact⟨hb,by omega,by omega⟩
theorem aEA{s c:(Int×Int)×(Int×Int)}{S C V ρ m:Rat}{p:Int}(hs:Bx s S (ρ*R.ab S) m)(hc:Bx c C (ρ*R.ab C) m)(S0:S≠0)(C0:0<C)(C1:C<=1)(r0:0<=ρ)(r1:ρ<=1/64)(hV:V*C=S)(hp:4<=p/\p<=70000)
  (z1:Qu s.1) (z2:Qu s.2) (z3:Qu c.1) (z4:Qu c.2) :
  jR (nQ.aIJ p s.1 c.1 c.2).1 (nQ.aIJ p s.1 c.1 c.2).2=true/\jR (nQ.aIK p s.2 c.1 c.2).1 (nQ.aIK p s.2 c.1 c.2).2=true /\
  Bx (bW (nQ.aIJ p s.1 c.1 c.2).1 (nQ.aIJ p s.1 c.1 c.2).2,bW (nQ.aIK p s.2 c.1 c.2).1 (nQ.aIK p s.2 c.1 c.2).2) V ((5*ρ+3*R.pz (2-p))*R.ab V) m:=by
 obtain⟨s1,s2,s3,s4,m0,s6,s7,s8⟩:=hs;obtain⟨c1,c2,c3,c4,_,c6,c7,c8⟩:=hc;rw[R.bQ (cDU C0)]at c8;have rC:=R.aI (cDU C0) (show 0<=1/64-ρ by grind);have u0:0<R.qz c.1:=by grind
 have v0:0<R.qz c.2:=by grind
 have un:c.1.1≠0:=Gf (by grind);have vn:c.2.1≠0:=Gf (by grind);have e2:=R.dK (2-p);have e3:R.pz (2-p)<=1/4:=by
  have h:=R.cK (show 2-p<=-2 by omega);have h2:=R.vZ 2;rw[show -((2:Nat):Int)=-2 by rfl]at h2;rw[h2]at h;have h3:R.hf 2=1/4:=by simp[R.hf];grind
  grind
 have pK:∀up (x y:Int×Int),Qu x->Qu y->jR (dG.vY up p x y).1 (dG.vY up p x y).2=true/\nC (bW (dG.vY up p x y).1 (dG.vY up p x y).2)/\bl (bW (dG.vY up p x y).1 (dG.vY up p x y).2).1.natAbs<=100000:=by
  intro up x y hx hy;obtain⟨h1,h2⟩:=aWR up (x:=x) (y:=y) (p:=p) (by omega) hx.1 hy.1 hx.2 hy.2;refine⟨h1,⟨by omega,?_,fun h=>Mp h,fun h=>Xb h⟩,by omega⟩;unfold jR at h1;unfold bW;split
  ·dsimp only;omega
  ·rename_i Fj;rw[dqF Fj,cAO,bYT]at h1;exact⟨of_decide_eq_true h1.1,of_decide_eq_true h1.2⟩
 have Rq:∀a b:Rat,b≠0->a/b*b=a:=fun a b h=>by grind
 unfold nQ.aIJ nQ.aIK;rw[aFP,aFP]
 by_cases hS:0<S
 ·rw[R.bQ (cDU hS)]at s8;have rS:=R.aI (cDU hS) (show 0<=1/64-ρ by grind);rw[dqF (show ¬R.qz s.1<0 by grind),dqF (show ¬R.qz s.2<0 by grind),cond_false,cond_false];obtain⟨d1,d2,d3,d4,V0,q0⟩:=Gq (q1:=R.qz s.1/R.qz c.2) (q2:=R.qz s.2/R.qz c.1) s6 s7 s8 c6 c7 c8 m0 hS C0 C1 r0 r1 hV (Rq _ _ (by grind)) (Rq _ _ (by grind));have n1:=(Kl false (x:=s.1) (y:=c.2) (p:=p) (q:=R.qz s.1/R.qz c.2) (by omega) vn (Rq _ _ (by grind))).1 rfl;have n2:=(Kl true (x:=s.2) (y:=c.1) (p:=p) (q:=R.qz s.2/R.qz c.1) (by omega) un (Rq _ _ (by grind))).2 rfl;obtain⟨i1,p1,b1⟩:=pK false s.1 c.2 z1 z4;obtain⟨i2,p2,b2⟩:=pK true s.2 c.1 z2 z3;rw[R.bQ q0]at n1;rw[R.bQ (show 0<=R.qz s.2/R.qz c.1 by grind)]at n2;refine⟨i1,i2,p1,p2,b1,b2,m0,by grind,by grind,?_⟩;rw[R.bQ (cDU V0)];generalize R.qz s.1/R.qz c.2=q1 at *;generalize R.qz s.2/R.qz c.1=q2 at *;have k1:=R.aI (cDU e2) (show 0<=V+3*ρ*V-q2 by grind);have k2:=R.aI (cDU e2) (show 0<=V-q1 by grind);have k3:=R.aI (R.aI (cDU e2) (cDU V0)) (show 0<=1/64-ρ by grind);dsimp only;grind
 ·have bFA:0 < -S:=by grind
  have eS:R.ab S=-S:=by unfold R.ab;rw[if_neg (by grind)]
  rw[eS]at s8;have rS:=R.aI (cDU bFA) (show 0<=1/64-ρ by grind);rw[dqT (show R.qz s.1<0 by grind),dqT (show R.qz s.2<0 by grind),cond_true,cond_true];have f1:-(R.qz s.2/R.qz c.2)*R.qz c.2=-R.qz s.2:=by have:=Rq (R.qz s.2) (R.qz c.2) (by grind);grind
  have f2:-(R.qz s.1/R.qz c.1)*R.qz c.1=-R.qz s.1:=by have:=Rq (R.qz s.1) (R.qz c.1) (by grind);grind
  obtain⟨d1,d2,d3,d4,V0,q0⟩:=Gq (V:=-V) (a:=-R.qz s.2) (b:=-R.qz s.1) (S:=-S) (q1:=-(R.qz s.2/R.qz c.2)) (q2:=-(R.qz s.1/R.qz c.1)) (by grind) (by grind) (by grind) c6 c7 c8 m0 bFA C0 C1 r0 r1 (by grind) f1 f2;have n1:=(Kl false (x:=s.1) (y:=c.1) (p:=p) (q:=R.qz s.1/R.qz c.1) (by omega) un (Rq _ _ (by grind))).1 rfl;have n2:=(Kl true (x:=s.2) (y:=c.2) (p:=p) (q:=R.qz s.2/R.qz c.2) (by omega) vn (Rq _ _ (by grind))).2 rfl;obtain⟨i1,p1,b1⟩:=pK false s.1 c.1 z1 z3;obtain⟨i2,p2,b2⟩:=pK true s.2 c.2 z2 z4;rw[<-R.iL,R.bQ (show 0<=-(R.qz s.1/R.qz c.1) by grind)]at n1;rw[<-R.iL,R.bQ q0]at n2;refine⟨i1,i2,p1,p2,b1,b2,m0,by grind,by grind,?_⟩;rw[<-R.iL,R.bQ (cDU V0)];generalize R.qz s.2/R.qz c.2=q1 at *;generalize R.qz s.1/R.qz c.1=q2 at *;have k1:=R.aI (cDU e2) (show 0<=-V+3*ρ*-V+q2 by grind);have k2:=R.aI (cDU e2) (show 0<=-V+q1 by grind);have k3:=R.aI (R.aI (cDU e2) (cDU V0)) (show 0<=1/64-ρ by grind);dsimp only;grind
theorem Ke{p:Int×Int}(h:Qu p):Qu (nV.Bd p):=by
 obtain⟨a,b⟩:=h;refine⟨?_,b⟩;show bl (-p.1).natAbs<=_;rw[cGD];exact a
theorem Ma{a b:Int×Int}(h:0<R.qz a)(aSJ:R.qz a<=R.qz b):fW.tR a b=1:=by
 unfold fW.tR;have z:R.qz (0,0)=0:=R.pO rfl;rw[if_neg (fun hh=>by have:=zK.1 hh;grind),if_pos (rU.2 (by grind))]
theorem Ss{a b:Int×Int}(h:R.qz b<0):fW.tR a b=-1:=by
 unfold fW.tR;have z:R.qz (0,0)=0:=R.pO rfl;rw[if_pos (zK.2 (by grind))]
theorem aWQ{s c:(Int×Int)×(Int×Int)}{S C V ρ m:Rat}{p:Int}(hs:Bx s S (ρ*R.ab S) m)(hc:Bx c C (ρ*R.ab C) m)(S0:S≠0)(C0:C≠0)(C1:R.ab C<=1)(r0:0<=ρ)(r1:ρ<=1/64)(hV:V*C=S)(hp:4<=p/\p<=70000)
  (z1:Qu s.1) (z2:Qu s.2) (z3:Qu c.1) (z4:Qu c.2) :
  fW.tR c.1 c.2≠0/\jR (nQ.Zl p s.1 s.2 c.1 c.2).1 (nQ.Zl p s.1 s.2 c.1 c.2).2=true/\jR (nQ.Zm p s.1 s.2 c.1 c.2).1 (nQ.Zm p s.1 s.2 c.1 c.2).2=true /\
  Bx (bW (nQ.Zl p s.1 s.2 c.1 c.2).1 (nQ.Zl p s.1 s.2 c.1 c.2).2,bW (nQ.Zm p s.1 s.2 c.1 c.2).1 (nQ.Zm p s.1 s.2 c.1 c.2).2) V ((5*ρ+3*R.pz (2-p))*R.ab V) m:=by
 have lo:=hc.lo;have hi:=hc.hi;have m0:=hc.m0;have wd:=hc.wd
 by_cases c0:0<C
 ·rw[R.bQ (cDU c0)]at C1 wd;have rC:=R.aI (cDU c0) (show 0<=1/64-ρ by grind);have sg:=Ma (a:=c.1) (b:=c.2) (by grind) (by grind);unfold nQ.Zl nQ.Zm;rw[sg,show((1:Int)==-1)=false from rfl];simp only[cond_false];exact⟨by decide,aEA hs hc S0 c0 C1 r0 r1 hV hp z1 z2 z3 z4⟩
 ·have e:R.ab C=-C:=by unfold R.ab;rw[if_neg (by grind)]
  rw[e]at C1 wd;have rC:=R.aI (show 0<=-C by grind) (show 0<=1/64-ρ by grind);have sg:=Ss (a:=c.1) (b:=c.2) (by grind);unfold nQ.Zl nQ.Zm;rw[sg,show((-1:Int)==-1)=true from rfl];simp only[cond_true];have sT:=hs.neg;have bPN:=hc.neg;rw[<-R.iL]at sT bPN;have s0:-S≠0:=by grind
  have c1:0 < -C:=by grind
  have v1:V*-C=-S:=by grind
  have q:=aEA sT bPN s0 c1 C1 r0 r1 v1 hp (Ke z2) (Ke z1) (Ke z4) (Ke z3);dsimp only at q;exact⟨by decide,q⟩
theorem Td{s:(Int×Int)×(Int×Int)}{V W m:Rat}{n:Int}(h:Bx s V W m)(hn:1<=n/\n<=70000)(h1:R.ab (R.qz s.1)<=R.pz 1100)(h2:R.ab (R.qz s.2)<=R.pz 1100) :
  uE false s.1 n=true/\uE true s.2 n=true/\Bx (shD false s.1 n,shD true s.2 n) V (W+R.pz (1-n)*(R.ab (R.qz s.1)+R.ab (R.qz s.2))) m:=by
 obtain⟨pl,ph,bl',bh,m0,lo,hi,wd⟩:=h;have aUR:∀{p:Int×Int},nC p->R.ab (R.qz p)<=R.pz 1100->bHS p:=by
  intro p hp hv;refine⟨hp,?_⟩
  by_cases h0:p.1=0
  ·have hb:M.bl p.1.natAbs=0:=by rw[h0];rfl
   have:=hp.2.2.1 h0;omega
  ·have:=qK h0 hv;unfold bG at this;omega
 obtain⟨a1,a2⟩:=Rc (up:=false) (n:=n) (aUR pl h1) hn.1;obtain⟨a3,a4⟩:=Rc (up:=true) (n:=n) (aUR ph h2) hn.1;have n1:=(Hs false s.1 hn.1).1 rfl;have n2:=(Hs true s.2 hn.1).2 rfl;have b1:=vV false s.1 n.toNat;have b2:=vV true s.2 n.toNat;rw[show((n.toNat:Nat):Int)=n by omega]at b1 b2;exact⟨a1,a3,a2,a4,by dsimp only;omega,by dsimp only;omega,m0,by dsimp only;grind,by dsimp only;grind,by dsimp only;grind⟩
theorem aQK{a b:Int×Int}{p:Int}(aSJ:R.qz a<=R.qz b)(h:(0<R.qz a/\(R.qz b-R.qz a)*R.pz p<=R.qz a)\/(R.qz b<0/\(R.qz b-R.qz a)*R.pz p<=-R.qz b)):Gz.aUB a b p=true:=by
 unfold Gz.aUB
 by_cases he:cI a b=0
 ·rw[he];rfl
 ·rw[show(cI a b==0)=false from beq_eq_false_iff_ne.2 he,cond_false];obtain⟨n,hn,sg,hw⟩:∃n:Int×Int,(bif decide (fW.tR a b<0)then b else a)=n/\fW.tR a b≠0/\(n.1≠0/\(R.qz b-R.qz a)*R.pz p<=R.ab (R.qz n)):=by
   rcases h with ⟨h1,h2⟩ |⟨h1,h2⟩
   ·rw[Ma h1 aSJ];exact⟨a,rfl,by decide,Gf (by grind),by rw[R.bQ (cDU h1)];exact h2⟩
   ·rw[Ss h1];refine⟨b,rfl,by decide,Gf (by grind),?_⟩;have:R.ab (R.qz b)=-R.qz b:=by unfold R.ab;rw[if_neg (by grind)]
    rw[this];exact h2
  rw[show(fW.tR a b==0)=false from beq_eq_false_iff_ne.2 sg,cond_false,hn];have w0:(cB.kI b (-a.1,a.2)).1≠0:=aJW he;have wq:R.qz (cB.kI b (-a.1,a.2))=R.qz b-R.qz a:=by rw[Ef,rP];grind
  generalize cB.kI b (-a.1,a.2)=w at *;obtain⟨n0,hw⟩:=hw;rw[<-wq]at hw;have wp:0<=R.qz w:=by rw[wq];grind
  obtain⟨t1,t2⟩:=nY w0;obtain⟨u1,u2⟩:=nY n0;rw[R.bQ wp]at t1 t2;have pp:=R.dK p
  by_cases ht:bG w+p=bG n
  ·rw[show(bG w+p !=bG n)=false from by rw[ht];exact bne_self_eq_false _,cond_false];refine dqT (mB.2 ?_);have un:∀x:Int×Int,R.qz (aII x)*R.pz (bG x)=R.ab (R.qz x):=by
    intro x;rw[aFY];unfold aII R.qz;dsimp only;rw[cIW,cJP,<-R.iK];congr 2;unfold bG;omega
   have e1:=un w;have e2:=un n;rw[R.bQ wp]at e1;rw[<-ht,R.iK]at e2;refine R.bP (q:=R.pz (bG w)*R.pz p) (cEE (R.dK _) pp) ?_;have e3:R.qz (aII w)*(R.pz (bG w)*R.pz p)=R.qz w*R.pz p:=by rw[<-cJP,e1]
   grind
  ·rw[show(bG w+p !=bG n)=true from bne_iff_ne.2 ht,cond_true];refine dqT ?_;have:R.pz (bG w+p)<R.pz (bG n+1):=by
    rw[R.iK];have:=R.aI (show 0<=R.qz w-R.pz (bG w) by grind) (cDU pp);grind
   have:=R.xU.1 this;omega
end M
namespace W
open Go AI M
namespace tH
def Qz(x:fB):Prop:=aQ x/\((dv x).1≠0->cI (((dv x).1.natAbs:Nat),(dv x).2) (1,0)<=0/\-524288<=(dv x).2+(bl (dv x).1.natAbs:Nat)-1)
end tH
namespace rZ
def E:=mE [(61,oU.aJ),(113,Kc.aJ),(24,aIG.aJ),(153,Ck.aJ)] 62 [] [(10,[30,31,32]),(4,[1,20,21,22]),(3,[1])] [3]
def aF:=bd f192
theorem aU:Nk E aF:=nk
def J3(a:Nat)(b:Nat->Bool)(c:Nat->List Int)(d:Nat->Int):=lP E f192 aF 3 [(A.v (V.one (L.rows 3 a fun i=>[sc (bool (b i)),ints u64 (c i),sc (int i64 (d i))])),none)]
def L4(a:Nat)(b:Nat->Bool)(c:Nat->List Int)(d:Nat->Int)(e:Nat)(f:Nat->Bool)(g:Nat->List Int)(h:Nat->Int) j k:=nU E f192 aF 4 [(A.v (V.one (L.rows 3 a fun i=>[sc (bool (b i)),ints u64 (c i),sc (int i64 (d i))])),none),(A.v (V.one (L.rows 3 e fun i=>[sc (bool (f i)),ints u64 (g i),sc (int i64 (h i))])),none),bJ j,bJ k]
def Ja(a:Nat)(b:Nat->Bool)(c:Nat->List Int)(d:Nat->Int) e f:=nU E f192 aF 10 [(A.v (V.one (L.rows 3 a fun i=>[sc (bool (b i)),ints u64 (c i),sc (int i64 (d i))])),none),bJ e,bJ f]
theorem start p (a:fB) (b:fB):aG E f192 aF [D.s (sc (int i64 p)),D.rows 3 2 fun i=>[sc (bool (t2 a b i).fst),ints u64 (t2 a b i).snd.fst,sc (int i64 (t2 a b i).snd.snd)]]=letI A:=some [D.s (sc (int i64 1))];aC (decide (p<1)) A (aC (decide (67000<p)) A (rZ.J3 2 (fun i=>(t2 a b i).fst) (fun i=>(t2 a b i).snd.fst) fun i=>(t2 a b i).snd.snd)):=eJ aU
theorem fH a b c d:J3 a b c d=rZ.L4 a (fun i=>b i) (fun i=>c i) (fun i=>d i) a (fun i=>b i) (fun i=>c i) (fun i=>d i) (a:Int) 0:=cJ aU
theorem mG a b c d e f g h j k:L4 a b c d e f g h j k=aC (decide (k<j)) (if 0<=k/\k<(e:Int)then aN (aQ (f k.toNat,g k.toNat,h k.toNat)) (rZ.L4 a (fun i=>b i) (fun i=>c i) (fun i=>d i) e (fun i=>f i) (fun i=>g i) (fun i=>h i) j (i64.wrap (k+1)))else none) (rZ.Ja a (fun i=>b i) (fun i=>c i) (fun i=>d i) (a:Int) 0):=lJ aU
theorem tI a b c d e f:Ja a b c d e f=letI F:=some [D.s (sc (int i64 5))];letI C:=(b f.toNat,c f.toNat,d f.toNat);letI B:=(false,c f.toNat,d f.toNat);letI A:=(isNeg (bW 1 0).fst,M6.dg (bW 1 0).fst.natAbs,(bW 1 0).snd);aC (decide (f<e)) (if 0<=f/\f<(a:Int)then aC ((↑(c f.toNat).length:Int)==(0:Int)) (rZ.Ja a (fun i=>b i) (fun i=>c i) (fun i=>d i) e (i64.wrap (f+1))) (aN ((-9223372036854775808:Int)<=(1:Int)/\(1:Int)<(9223372036854775808:Int)) (aN (aQ B/\aQ A) (aN (aQ C) (aC (decide (0<cZ (cB.pU (dv B) (dv A)) (cB.pT (dv B) (dv A)))) F (aC (decide ((if(dv C).fst=0 then(0:Int)else d f.toNat+(↑(bl (M6.val (c f.toNat))):Int)-(1:Int))<(-524288:Int))) F (rZ.Ja a (fun i=>b i) (fun i=>c i) (fun i=>d i) e (i64.wrap (f+1))))))))else none) (some [D.s (sc (int i64 0))]):=lJ aU
abbrev Qz:=tH.Qz
def sp(p:Int)(a:fB×fB):Prop×List D:=((1<=p/\p<=67000)/\Qz a.1/\Qz a.2,[.s (.sc (.int .i64 0))])
theorem LB(n:Nat)(f:Nat->fB)(hn:n<=1000)(hf:∀i,i<n->Qz (f i)):∀d k:Nat,k+d=n->Ja n (fun i=>(f i).1) (fun i=>(f i).2.1) (fun i=>(f i).2.2) (n:Int) (k:Int)=some [.s (.sc (.int .i64 0))]
 |0,k,h=>by rw[tI,aM]
 |d+1,k,h=>by
  have e:i64.wrap ((k:Int)+1)=((k+1:Nat):Int):=by rw[wrap_i64];omega
  have r:=LB n f hn hf d (k+1) (by omega);obtain⟨hx,ht⟩:=hf k (by omega);have hz:=M6.cY hx.Fi;have ha:(dv (f k)).1.natAbs=M6.val (f k).2.1:=iX ((f k).1,(f k).2.1);rw[tI,aO,aR,cCJ,e]
  by_cases h0:(f k).2.1.length=0
  ·rw[dU];exact r
  ·have hv:(dv (f k)).1≠0:=fun hc=>h0 (hz.2 (by omega))
   obtain⟨t1,t2⟩:=ht hv;have n1:bW 1 0=(1,0):=by decide +kernel
   have pn:nC (1,0):=⟨by decide +kernel,⟨by decide,by decide⟩,fun h=>absurd h (by decide),fun _=>by decide⟩;have v1:=fK ((1,0):Int×Int);have ok:aQ (false,(f k).2.1,(f k).2.2):=⟨⟨hx.1.1,fun hf=>(by cases hf),hx.1.len⟩,hx.2⟩;have vx:dv (false,(f k).2.1,(f k).2.2)=((((dv (f k)).1.natAbs:Nat):Int),(dv (f k)).2):=by rw[ha];rfl
   have bVC:((f k).1,(f k).2.1,(f k).2.2)=f k:=rfl;simp only[n1,v1,vx,bVC];rw[cP,gP ⟨by decide,by decide⟩,gP ⟨ok,eQ pn⟩,gP hx];have bRJ:¬0<cZ (cB.pU ((((dv (f k)).1.natAbs:Nat):Int),(dv (f k)).2) (1,0)) (cB.pT ((((dv (f k)).1.natAbs:Nat):Int),(dv (f k)).2) (1,0)):=Int.not_lt.2 t1;have bIB:¬(f k).2.2+((bl (M6.val (f k).2.1):Nat):Int)-1 < -524288:=by
    rw[ha]at t2;have:(dv (f k)).2=(f k).2.2:=rfl;omega
   rw[aM bRJ,if_neg hv,aM bIB];exact r
theorem LA(n:Nat)(f:Nat->fB)(hn:n<=1000)(hf:∀i,i<n->Qz (f i)):∀d k:Nat,k+d=n->L4 n (fun i=>(f i).1) (fun i=>(f i).2.1) (fun i=>(f i).2.2) n (fun i=>(f i).1) (fun i=>(f i).2.1) (fun i=>(f i).2.2) (n:Int) (k:Int)=some [.s (.sc (.int .i64 0))]
 |0,k,h=>by rw[mG,aM];exact LB n f hn hf n 0 (by omega)
 |d+1,k,h=>by
  have e:i64.wrap ((k:Int)+1)=((k+1:Nat):Int):=by rw[wrap_i64];omega
  rw[mG,aO,aR,cCJ,gP (hf k (by omega)).1,e];exact LA n f hn hf d (k+1) (by omega)
theorem spec:fF E f192 aF (pN .i64) (aIL (.pair sB (.pair (sI .u64) (sN .i64))) (false,[],0)) sp:=by
 rintro p a ⟨⟨p0,p1⟩,h⟩;have hf:∀i,i<2->Qz (t2 a.1 a.2 i):=fun i hi=>by
  obtain rfl |rfl:i=0\/i=1:=by omega
  ·exact h.1
  ·exact h.2
 refine(start p a.1 a.2).trans ?_;rw[aM,aM,fH];exact LA 2 (fun i=>t2 a.1 a.2 i) (by decide) hf 2 0 (by omega)
def aJ:dO:=orc2 (pN .i64) (aIL (.pair sB (.pair (sI .u64) (sN .i64))) (false,[],0)) sp
theorem ok:OK 192 aJ:=(eI E aF (aA oU.ok (aA Kc.ok (aA aIG.ok (aA Ck.ok aD)))) func192).jZ rfl spec
end rZ
namespace Iv
def E:=mE [(45,sE.aJ),(192,rZ.aJ)] 21 [20] [(3,[1,2])] [3]
def aF:=bd f150
theorem aU:Nk E aF:=nk
def J3 a b c d e f g:=lP E f150 aF 3 [bJ a,bK 1 31 [bC b,eR c,cV d,bC e,eR f,cV g]]
theorem start a c d e f g b:aG E f150 aF [D.agg [sc (bool a),ints u64 c,sc (int i64 d),sc (bool e),ints u64 f,sc (int i64 g)],D.s (sc (int i64 b))]=letI A:=some [D.s (sc (int i64 1))];aC (decide (b<1)) A (aC (decide (67000<b)) A (Iv.J3 b a c d e f g)):=eJ aU
theorem fH a b c d e f g:J3 a b c d e f g=aN (dW (b,c,d,e,f,g)) (aN ((1<=a/\a<=67000)/\rZ.Qz (b,c,d)/\rZ.Qz (e,f,g)) (some [D.s (sc (int i64 0))])):=cJ aU
def sp(s:uP)(p:Int):Prop×List D:=((1<=p/\p<=67000)/\dW s/\tH.Qz (fO s)/\tH.Qz (fR s),[.s (.sc (.int .i64 0))])
theorem spec:fF E f150 aF sP (pN .i64) sp:=by
 rintro s p ⟨⟨p0,p1⟩,h1,h2,h3⟩;refine(start s.1 s.2.1 s.2.2.1 s.2.2.2.1 s.2.2.2.2.1 s.2.2.2.2.2 p).trans ?_;rw[aM,aM]
 first
  |exact(gP h1).trans (gP ⟨⟨p0,p1⟩,h2,h3⟩)
  | (rw[fH];exact(gP h1).trans (gP ⟨⟨p0,p1⟩,h2,h3⟩))
def aJ:dO:=orc2 sP (pN .i64) sp
theorem ok:OK 150 aJ:=(eI E aF (aA sE.ok (aA rZ.ok aD)) func150).jZ rfl spec
end Iv
namespace dX
def E:=mE [(150,Iv.aJ),(62,Ca.aJ),(113,Kc.aJ),(58,fW.aJ),(152,cE.aJ)] 61 [17] [(10,[1,2,4,9,10]),(13,[1,4,9,10])] [10,13]
def aF:=bd f95
theorem aU:Nk E aF:=nk
def aCN a b c d e f g h i j k l m n o p q:=lP E f95 aF 10 [bJ a,bK 1 31 [bC b,eR c,cV d,bC e,eR f,cV g],bK 2 31 [bC h,sc (slice none 0 0),cV i,bC j,sc (slice none 0 0),cV k],bK 3 29 [bC l,eR m,cV n],bK 4 29 [bC o,eR p,cV q]]
def Qv a b c d e f g h i j:=lP E f95 aF 13 [bJ a,bK 1 31 [bC b,sc (slice none 0 0),cV c,bC d,sc (slice none 0 0),cV e],bK 2 29 [bC f,sc (slice none 0 0),cV g],bK 3 29 [bC h,eR i,cV j]]
def aPB a b c d e f g h i j k:=lP E f95 aF 13 [bJ a,bK 1 31 [bC b,sc (slice none 0 0),cV c,bC d,sc (slice none 0 0),cV e],bK 2 29 [bC f,eR g,cV h],bK 3 29 [bC i,eR j,cV k]]
theorem start a c d e f g b:aG E f95 aF [D.agg [sc (bool a),ints u64 c,sc (int i64 d),sc (bool e),ints u64 f,sc (int i64 g)],D.s (sc (int i64 b))]=letI C:=(false,f,g);letI B:=(false,c,d);letI A:=(a,c,d,e,f,g);aN ((1<=b/\b<=67000)/\dW A/\tH.Qz (fO A)/\tH.Qz (fR A)) (aN (aQ B/\aQ C) (aB (cZ (cB.pU (dv B) (dv C)) (cB.pT (dv B) (dv C))) fun h=>aC (decide (0<h)) (dX.aCN b a c d e f g false 0 false 0 false f g false c d) (dX.aCN b a c d e f g false 0 false 0 false c d false f g))):=eJ aU
theorem Pc a b c d e f g h i j k l m n o p q:aCN a b c d e f g h i j k l m n o p q=letI A:=(b,c,d,e,f,g);aN (dW A) (aB (fW.tR (dv (fO A)) (dv (fR A))) fun r=>aC (r==0) (dX.Qv a h i j k false 0 o p q) (dX.aPB a h i j k l m n o p q)):=cJ aU
theorem zZ a b c d e f g h i j:Qv a b c d e f g h i j=letI A:=i64.wrap (a+2);letI C:=cE.uN (dv (h,i,j)) A;letI B:=cE.tY (dv (f,[],g)) A;aN (cE.aHS (h,i,j) A) (aB (isNeg C.fst) fun k=>aB (M6.dg C.fst.natAbs) fun l=>aB C.snd fun m=>aN (cE.aHS (f,[],g) A) (aB (isNeg B.fst) fun n=>aB (M6.dg B.fst.natAbs) fun o=>aB B.snd fun p=>some [D.agg [sc (bool k),ints u64 l,sc (int i64 m),sc (bool n),ints u64 o,sc (int i64 p)],D.s (sc (int i64 0))])):=cJ aU
theorem aTV a b c d e f g h i j k:aPB a b c d e f g h i j k=letI A:=i64.wrap (a+2);letI C:=cE.tY (dv (f,g,h)) A;letI B:=cE.uN (dv (i,j,k)) A;aN (cE.aHS (i,j,k) A) (aB (isNeg B.fst) fun l=>aB (M6.dg B.fst.natAbs) fun m=>aB B.snd fun n=>aN (cE.aHS (f,g,h) A) (aB (isNeg C.fst) fun o=>aB (M6.dg C.fst.natAbs) fun p=>aB C.snd fun q=>some [D.agg [sc (bool l),ints u64 m,sc (int i64 n),sc (bool o),ints u64 p,sc (int i64 q)],D.s (sc (int i64 0))])):=cJ aU
def Zv(x:fB):fB:=(false,x.2.1,x.2.2)
def Dl(s:uP):fB:=bif decide (0<cI (dv (Zv (fO s))) (dv (Zv (fR s))))then Zv (fO s)else Zv (fR s)
def wA(s:uP):fB:=bif fW.tR (dv (fO s)) (dv (fR s))==0 then(false,[],0)else bif decide (0<cI (dv (Zv (fO s))) (dv (Zv (fR s))))then Zv (fR s)else Zv (fO s)
def aNU(s:uP)(p:Int):Prop:=((1<=p/\p<=67000)/\dW s/\tH.Qz (fO s)/\tH.Qz (fR s))/\(cE.sp (Dl s) (p+2)).1/\(cE.sp (wA s) (p+2)).1
def sp(s:uP)(p:Int):Prop×List D:=(aNU s p,[Cr (cE.uN (dv (Dl s)) (p+2)) (cE.tY (dv (wA s)) (p+2)),.s (.sc (.int .i64 0))])
theorem JN{s:uP}{p:Int}(hp:1<=p/\p<=67000)(hs:dW s){n f:fB}(hf:(cE.sp f (p+2)).1)(hn:(cE.sp (bif fW.tR (dv (fO s)) (dv (fR s))==0 then(false,[],0)else n) (p+2)).1) :
  aCN p s.1 s.2.1 s.2.2.1 s.2.2.2.1 s.2.2.2.2.1 s.2.2.2.2.2 false 0 false 0 n.1 n.2.1 n.2.2 f.1 f.2.1 f.2.2=some [Cr (cE.uN (dv f) (p+2)) (cE.tY (dv (bif fW.tR (dv (fO s)) (dv (fR s))==0 then(false,[],0)else n)) (p+2)),.s (.sc (.int .i64 0))]:=by
 have w:i64.wrap (p+2)=p+2:=wrap_i64;rw[Pc,gP hs,aE];show aC (fW.tR (dv (fO s)) (dv (fR s))==0) _ _=_
 by_cases c:fW.tR (dv (fO s)) (dv (fR s))=0
 ·rw[show(fW.tR (dv (fO s)) (dv (fR s))==0)=true from beq_iff_eq.2 c,cond_true]at hn ⊢;show Qv _ _ _ _ _ _ _ _ _ _=_;rw[zZ];simp only[w,aE];exact(gP hf).trans ((gP hn).trans rfl)
 ·rw[show(fW.tR (dv (fO s)) (dv (fR s))==0)=false from beq_eq_false_iff_ne.2 c,cond_false]at hn ⊢;show aPB _ _ _ _ _ _ _ _ _ _ _=_;rw[aTV];simp only[w,aE];exact(gP hf).trans ((gP hn).trans rfl)
theorem spec:fF E f95 aF sP (pN .i64) sp:=by
 rintro s p ⟨h1,h2,h3⟩;refine(start s.1 s.2.1 s.2.2.1 s.2.2.2.1 s.2.2.2.2.1 s.2.2.2.2.2 p).trans ?_;have ab:∀x:fB,aQ x->aQ (Zv x):=fun x hx=>⟨⟨hx.1.1,fun hf=>(by cases hf),hx.1.len⟩,hx.2⟩
 refine(gP h1).trans ((gP ⟨ab _ h1.2.1.1,ab _ h1.2.1.2.1⟩).trans ?_);rw[aE];unfold sp;unfold Dl wA at *;dsimp only;show aC (decide (0<cI (dv (Zv (fO s))) (dv (Zv (fR s))))) _ _=_
 by_cases c:0<cI (dv (Zv (fO s))) (dv (Zv (fR s)))
 ·rw[aO c];rw[dqT c,cond_true,cond_true]at *;exact JN h1.1 h1.2.1 h2 h3
 ·rw[aM c];rw[dqF c,cond_false,cond_false]at *;exact JN h1.1 h1.2.1 h2 h3
def aJ:dO:=orc2 sP (pN .i64) sp
theorem ok:OK 95 aJ:=(eI E aF (aA Iv.ok (aA Ca.ok (aA Kc.ok (aA fW.ok (aA cE.ok aD))))) func95).jZ rfl spec
end dX
namespace wQ
def E:=mE [(150,Iv.aJ),(151,gL.aJ)] 27 [9] [] []
def aF:=bd f94
theorem aU:Nk E aF:=nk
theorem start a c d e f g b:aG E f94 aF [D.agg [sc (bool a),ints u64 c,sc (int i64 d),sc (bool e),ints u64 f,sc (int i64 g)],D.s (sc (int i64 b))]=letI F:=(a,c,d,e,f,g);letI A:=i64.wrap (b+2);letI C:=gL.Pu (dv (e,f,g)) A;letI B:=gL.Pt (dv (a,c,d)) A;aN ((1<=b/\b<=67000)/\dW F/\tH.Qz (fO F)/\tH.Qz (fR F)) (aN (gL.aQP (a,c,d) A) (aB (isNeg B.fst) fun h=>aB (M6.dg B.fst.natAbs) fun i=>aB B.snd fun j=>aN (gL.aQP (e,f,g) A) (aB (isNeg C.fst) fun k=>aB (M6.dg C.fst.natAbs) fun l=>aB C.snd fun m=>some [D.agg [sc (bool h),ints u64 i,sc (int i64 j),sc (bool k),ints u64 l,sc (int i64 m)],D.s (sc (int i64 0))]))):=eJ aU
def aKA(s:uP)(p:Int):Prop:=((1<=p/\p<=67000)/\dW s/\tH.Qz (fO s)/\tH.Qz (fR s))/\(gL.sp (fO s) (p+2)).1/\(gL.sp (fR s) (p+2)).1
def sp(s:uP)(p:Int):Prop×List D:=(aKA s p,[Cr (gL.Pt (dv (fO s)) (p+2)) (gL.Pu (dv (fR s)) (p+2)),.s (.sc (.int .i64 0))])
theorem spec:fF E f94 aF sP (pN .i64) sp:=by
 rintro s p ⟨h1,h2,h3⟩;have p0:=h1.1;refine(start s.1 s.2.1 s.2.2.1 s.2.2.2.1 s.2.2.2.2.1 s.2.2.2.2.2 p).trans ?_;have w:i64.wrap (p+2)=p+2:=wrap_i64;simp only[w];rw[gP h1];simp only[aE];exact(gP h2).trans ((gP h3).trans rfl)
def aJ:dO:=orc2 sP (pN .i64) sp
theorem ok:OK 94 aJ:=(eI E aF (aA Iv.ok (aA gL.ok aD)) func94).jZ rfl spec
end wQ
end W
namespace R
def fv(fn:Int)(x:Rat)(k:Int):Rat:=if fn=1 then Sf x k else if fn=2 then Cf x k else Sf x k/Cf x k
end R
namespace M
open Go AI W
def mg(p:Int):Rat:=if p<2500 then 0 else R.pz (-p-1500)
theorem aUS(p:Int):0<=mg p:=by
 unfold mg;split
 ·exact cEZ
 ·exact cDU (R.dK _)
theorem aUT(p:Int):mg p<=R.pz (-p-1500):=by
 unfold mg;split
 ·exact cDU (R.dK _)
 ·exact cEZ
structure oI(u v:Int×Int)(a:Rat)(p:Int):Prop where
 pu:nC u
 pv:nC v
 a0:R.pz (-1074)<=a
 a1:a<=79/100
 lu:R.ab (R.qz u)<=a
 lv:a<=R.ab (R.qz v)
 wd:R.ab (R.qz v)-R.ab (R.qz u)<=R.pz (-p-23)*a
theorem bCP{p:Int}(hp:-6<=p):R.pz (-p-23)<=1/131072:=by
 have:=R.cK (show -p-23<=-17 by omega);have e:=R.gN 0 (n:=17) (c:=131072) (by norm_cast);rw[R.fA,show(0:Int)-((17:Nat):Int)=-17 by rfl]at e;grind
theorem oI.more{u v:Int×Int}{a:Rat}{p:Int}(h:oI u v a p)(hp:-6<=p):0<a/\3/4*a<=R.ab (R.qz u)/\R.ab (R.qz v)<=5/4*a/\R.ab (R.qz v)<=4/5/\u.1≠0/\v.1≠0/\-1075<=bG u/\-1075<=bG v:=by
 obtain⟨_,_,a0,a1,lu,lv,wd⟩:=h;have ap:0<a:=by have:=R.dK (-1074);grind
 have bRA:=bCP hp;have m:=R.aI (cDU ap) (show 0<=1/131072-R.pz (-p-23) by grind);have u1:3/4*a<=R.ab (R.qz u):=by grind
 have aCZ:u.1≠0:=Gf (by intro hz;rw[hz,R.bQ cEZ]at u1;grind);have aIH:v.1≠0:=Gf (by intro hz;rw[hz,R.bQ cEZ]at lv;grind);have t:R.pz (-1075)*2=R.pz (-1074):=by have:=R.oW (-1074);rw[show(-1074:Int)-1=-1075 by rfl]at this;exact this
 have tp:=R.dK (-1075);exact⟨ap,u1,by grind,by grind,aCZ,aIH,yV aCZ (by grind),yV aIH (by grind)⟩
theorem aKD{u v:Int×Int}{a:Rat}{p n:Int}(h:oI u v a p)(hp:-6<=p/\p<=66000)(hn:p+14<=n/\n<=p+150/\1<=n):bBZ u n/\bBZ v n/\Bx (gL.uY u n,gL.uG v n) (R.sn a) (R.pz (-p-12)*R.ab (R.sn a)) (mg p):=by
 obtain⟨ap,u1,v1,v2,aCZ,aIH,tu,tv⟩:=h.more hp.1;obtain⟨pu,pv,a0,a1,lu,lv,wd⟩:=h;have nu:=Wl pu aCZ (p:=n) (by grind) (by omega) (by omega);have nv:=Wl pv aIH (p:=n) (by grind) (by omega) (by omega);refine⟨nu,nv,nu.pl,nv.ph,bZJ nu.bl (by decide),bZJ nv.bh (by decide),aUS p,?_,?_,?_⟩
 ·dsimp only;have h1:=nu.lo;have h2:=R.aDM (x:=R.ab (R.qz u)) (y:=a) (by rw[R.bQ (R.aT _)];grind) (by rw[R.bQ (by grind)];grind) lu;have h3:=aUT p;have h4:R.pz (-p-1500)<=R.pz (bG u-n-270):=R.cK (by omega);grind
 ·dsimp only;have h2:=R.aDM (x:=a) (y:=R.ab (R.qz v)) (by rw[R.bQ (by grind)];grind) (by rw[R.bQ (R.aT _)];grind) lv;unfold mg;split
  ·have:=nv.hi;grind
  ·have:=nv.mh (by omega);have h4:R.pz (-p-1500)<=R.pz (bG v-n-270):=R.cK (by omega);grind
 ·dsimp only;have k1:=nu.wd;have k2:=nv.wd;have k3:=nu.hi;have k4:=nv.lo;have pz1:=R.dK (bG v-n-270);have bIT:=R.Sp (x:=R.ab (R.qz u)) (y:=R.ab (R.qz v)) (by rw[R.bQ (R.aT _)];grind) (by rw[R.bQ (R.aT _)];grind);rw[R.bQ (show 0<=R.ab (R.qz v)-R.ab (R.qz u) by grind)]at bIT;have l2:=R.xY (R.sn (R.ab (R.qz v))-R.sn (R.ab (R.qz u)));obtain⟨s1,s2⟩:=R.aDO (cDU ap) (show a<=4/5 by grind);rw[R.bQ (show 0<=R.sn a by grind)];have bCF:=R.cK (show -n-1<=-p-15 by omega);have k1:=cDS k1 (cMI bCF (R.aT (R.qz u)));have k2:=cDS k2 (cMI bCF (R.aT (R.qz v)));have bFK:R.pz (-p-15)=256*R.pz (-p-23):=by
   have:=R.gN (-p-15) (n:=8) (c:=256) (by norm_cast);rw[show -p-15-((8:Nat):Int)=-p-23 by omega]at this;grind
  have bFM:R.pz (-p-12)=2048*R.pz (-p-23):=by
   have:=R.gN (-p-12) (n:=11) (c:=2048) (by norm_cast);rw[show -p-12-((11:Nat):Int)=-p-23 by omega]at this;grind
  have zp:=R.dK (-p-23);rw[bFK]at k1 k2;rw[bFM];generalize R.pz (-p-23)=z at *;have m1:=R.aI (cDU zp) (show 0<=5/4*a-R.ab (R.qz v) by grind);have m2:=R.aI (cDU zp) (show 0<=a-R.ab (R.qz u) by grind);have m3:=R.aI (cDU zp) (show 0<=R.sn a-4/5*a by grind);have m4:=R.aI (cDU zp) (cDU ap);grind
theorem aMW{n:Nat}(h:n<=1048576):R.vR<=R.pz (-(n:Int)):=by
 rw[R.vZ];exact R.Da h
theorem aZN{u v:Int×Int}{a:Rat}{p n:Int}(h:oI u v a p)(hp:-6<=p/\p<=66000)(hn:p+14<=n/\n<=p+150/\1<=n):bHX u n/\bHX v n/\Bx (cE.uN v n,cE.tY u n) (R.cs a) (R.pz (-p-12)*R.ab (R.cs a)) (mg p):=by
 obtain⟨ap,u1,v1,v2,aCZ,aIH,tu,tv⟩:=h.more hp.1;obtain⟨pu,pv,a0,a1,lu,lv,wd⟩:=h;have nu:=Nt (x:=u) (p:=n) (by grind) (fun _=>by omega) (by omega);have nv:=Nt (x:=v) (p:=n) (by grind) (fun _=>by omega) (by omega);have he:2*R.vR<=R.pz (-p-1501):=by
  have:=aMW (n:=100000) (by omega);have h2:=R.cK (show -((100000:Nat):Int)+1<=-p-1501 by omega);rw[R.iM]at h2;grind
 have e1500:R.pz (-p-1500)=2*R.pz (-p-1501):=by rw[<-R.iM];congr 1;omega
 have pp:=R.dK (-p-1501);have m1:=R.aFM (x:=R.ab (R.qz u)) (y:=a) (R.aT _) lu (by grind);have m2:=R.aFM (x:=a) (y:=R.ab (R.qz v)) (cDU ap) lv (by grind);have mm:=aUT p;obtain⟨c1,c2⟩:=R.Yo (r:=a) (by rw[R.bQ (cDU ap)];grind);refine⟨nu,nv,nv.pl,nu.ph,bZJ nv.bl (by decide),bZJ nu.bh (by decide),aUS p,?_,?_,?_⟩
 ·dsimp only;have:=nv.ml aIH;have h4:R.pz (-p-1499)<=R.pz (bG v-n-270):=R.cK (by omega);have bFL:R.pz (-p-1499)=2*R.pz (-p-1500):=by rw[<-R.iM];congr 1;omega
  grind
 ·dsimp only
  by_cases c:2*bG u+8 < -n
  ·have e:cE.tY u n=(1,0):=by
    have et:aZ.jL u=bG u:=by unfold aZ.jL bG;rw[if_neg aCZ]
    unfold cE.tY;rw[et,if_neg aCZ,if_pos c]
   unfold mg;rw[aR,e,oA];grind
  ·have:=nu.mh aCZ c;have h4:R.pz (-p-1499)<=R.pz (bG u-n-270):=R.cK (by omega);have bFL:R.pz (-p-1499)=2*R.pz (-p-1500):=by rw[<-R.iM];congr 1;omega
   grind
 ·dsimp only;have k1:=nu.wd;have k2:=nv.wd;have k3:=nu.lo;have k4:=nv.hi;have bIT:=R.aBR (x:=R.ab (R.qz u)) (y:=R.ab (R.qz v)) (by rw[R.bQ (R.aT _)];grind) (by rw[R.bQ (R.aT _)];grind);rw[R.bQ (show 0<=R.ab (R.qz v)-R.ab (R.qz u) by grind)]at bIT;have l2:=R.mJ (R.cs (R.ab (R.qz v))-R.cs (R.ab (R.qz u)));rw[R.bQ (show 0<=R.cs a by grind)];have bCF:=R.cK (show -n-1<=-p-15 by omega);have k1:=cDS k1 bCF;have k2:=cDS k2 bCF;have bFK:R.pz (-p-15)=256*R.pz (-p-23):=by
   have:=R.gN (-p-15) (n:=8) (c:=256) (by norm_cast);rw[show -p-15-((8:Nat):Int)=-p-23 by omega]at this;grind
  have bFM:R.pz (-p-12)=2048*R.pz (-p-23):=by
   have:=R.gN (-p-12) (n:=11) (c:=2048) (by norm_cast);rw[show -p-12-((11:Nat):Int)=-p-23 by omega]at this;grind
  have zp:=R.dK (-p-23);have h5:R.pz (-p-1501)<=R.pz (-p-23):=R.cK (by omega);rw[bFK]at k1 k2;rw[bFM];generalize R.pz (-p-23)=z at *;have m3:=R.aI (cDU zp) (show 0<=R.cs a-17/25 by grind);have m4:=R.aI (cDU zp) (show 0<=1-a by grind);grind
def rS(x:Int×Int)(w q:Int):(Int×Int)×(Int×Int):=(gL.Pt (aW.Zs x w) q,gL.Pu (aW.Zt x w) q)
def bBB(x:Int×Int)(w:Int):uP:=rB (aW.Zs x w) (aW.Zt x w)
def rC(x:Int×Int)(w q:Int):(Int×Int)×(Int×Int):=(cE.uN (dv (dX.Dl (bBB x w))) q,cE.tY (dv (dX.wA (bBB x w))) q)
def tA(x:Int×Int)(w q:Int):((Int×Int)×(Int×Int))×((Int×Int)×(Int×Int)):=VTurned.trn (rS x w q) (rC x w q) (aW.cQ x w).toNat
def rQ (x : Int × Int) (w p : Int) : (Int × Int) × (Int × Int) :=
  (bW (nQ.Zl (p + 8) (tA x w (p + 2)).1.1 (tA x w (p + 2)).1.2 (tA x w (p + 2)).2.1 (tA x w (p + 2)).2.2).1 (nQ.Zl (p + 8) (tA x w (p + 2)).1.1 (tA x w (p + 2)).1.2 (tA x w (p + 2)).2.1 (tA x w (p + 2)).2.2).2,
   bW (nQ.Zm (p + 8) (tA x w (p + 2)).1.1 (tA x w (p + 2)).1.2 (tA x w (p + 2)).2.1 (tA x w (p + 2)).2.2).1 (nQ.Zm (p + 8) (tA x w (p + 2)).1.1 (tA x w (p + 2)).1.2 (tA x w (p + 2)).2.1 (tA x w (p + 2)).2.2).2)
def rE(fn:Int)(x:Int×Int)(w p:Int):(Int×Int)×(Int×Int):=bif fn==1 then(tA x w (p+2)).1 else bif fn==2 then(tA x w (p+2)).2 else rQ x w p
theorem aDH{x:Int×Int}(h:x.1≠0):aZ.jL x=bG x:=by unfold aZ.jL bG;rw[if_neg h]
theorem aUD{x:fB}{p:Int}(hx:aQ x)(hp:1<=p/\p<=67100)(ht:-1200<=bG (dv x))(n:bBZ (dv x) p):gL.aQP x p:=by
 refine⟨hx,hp,fun h0=>?_⟩;rw[aDH h0];refine⟨by omega,n.pl,n.ph,mB.2 ?_,n.bIL,n.okB⟩;have h1:=n.lo;have h2:=n.hi;have h3:=R.dK (bG (dv x)-p-270);grind
theorem aVP{x:fB}{p:Int}(hx:aQ x)(hp:1<=p/\p<=67100)(ht:(dv x).1≠0->-1200<=bG (dv x))(n:bHX (dv x) p):cE.aHS x p:=by
 refine⟨hx,hp,fun h0=>?_⟩;have:=ht h0;rw[aDH h0];exact⟨by omega,n.bIL h0,n.okB h0⟩
theorem Um(a b:Int×Int):dv (dX.Zv (fO (rB a b)))=((a.1.natAbs:Int),a.2):=by
 show((M6.val (M6.dg a.1.natAbs):Int),a.2)=_;rw[M6.bD]
theorem Un(a b:Int×Int):dv (dX.Zv (fR (rB a b)))=((b.1.natAbs:Int),b.2):=by
 show((M6.val (M6.dg b.1.natAbs):Int),b.2)=_;rw[M6.bD]
theorem Vb{x:fB}(hx:aQ x):aQ (dX.Zv x):=⟨⟨hx.1.1,fun hf=>(by cases hf),hx.1.len⟩,hx.2⟩
theorem uO(p:Int×Int):R.ab (R.qz ((p.1.natAbs:Int),p.2))=R.ab (R.qz p):=by rw[Eg,R.bQ (R.aT _)]
theorem Yd{a b:Int×Int}(hs:fW.tR a b≠0)(ha:nC a)(hb:nC b) :
  (aQ (dX.Dl (rB a b))/\aQ (dX.wA (rB a b))) /\
  ((R.ab (R.qz b)<R.ab (R.qz a)/\dv (dX.Dl (rB a b))=((a.1.natAbs:Int),a.2)/\dv (dX.wA (rB a b))=((b.1.natAbs:Int),b.2)) \/
  (R.ab (R.qz a)<=R.ab (R.qz b)/\dv (dX.Dl (rB a b))=((b.1.natAbs:Int),b.2)/\dv (dX.wA (rB a b))=((a.1.natAbs:Int),a.2))):=by
 have oa:aQ (fO (rB a b)):=eQ ha;have ob:aQ (fR (rB a b)):=eQ hb;unfold dX.Dl dX.wA;rw[mZ,nA,show(fW.tR a b==0)=false from beq_eq_false_iff_ne.2 hs,cond_false,Um,Un];have hc:=rU (p:=((a.1.natAbs:Int),a.2)) (q:=((b.1.natAbs:Int),b.2));rw[Eg,Eg]at hc
 by_cases h:R.ab (R.qz b)<R.ab (R.qz a)
 ·rw[dqT (hc.2 h),cond_true,cond_true,Um,Un];exact⟨⟨Vb oa,Vb ob⟩,Or.inl ⟨h,rfl,rfl⟩⟩
 ·rw[dqF (fun hh=>h (hc.1 hh)),cond_false,cond_false,Um,Un];exact⟨⟨Vb ob,Vb oa⟩,Or.inr ⟨Rat.not_lt.1 h,rfl,rfl⟩⟩
theorem aQM{a:Int×Int}{x:fB}(hx:aQ x)(e:dv x=a)(h1:R.ab (R.qz a)<=1)(ht:a.1≠0->-1200<=bG a):tH.Qz x:=by
 refine⟨hx,fun h0=>?_⟩;rw[e]at h0 ⊢;have:=ht h0;refine⟨mB.2 (by rw[Eg,oA];exact h1),?_⟩;unfold bG at this;omega
structure bYD(x:Int×Int)(p:Int)(r:Rat):Prop where
 so:wQ.aKA (bBB x (p+80)) (p+12)
 co:dX.aNU (bBB x (p+80)) (p+12)
 s:Bx (rS x (p+80) (p+14)) (R.sn r) (R.pz (-p-12)*R.ab (R.sn r)) (mg p)
 c:Bx (rC x (p+80) (p+14)) (R.cs r) (R.pz (-p-12)*R.ab (R.cs r)) (mg p)
 s1:R.ab (R.qz (rS x (p+80) (p+14)).1)<=1/\R.ab (R.qz (rS x (p+80) (p+14)).2)<=1
 c1:R.ab (R.qz (rC x (p+80) (p+14)).1)<=1/\R.ab (R.qz (rC x (p+80) (p+14)).2)<=1
theorem aLH{s:(Int×Int)×(Int×Int)}{V W m:Rat}(h:Bx s V W m)(h1:-1<=R.qz s.1)(h2:R.qz s.2<=1):R.ab (R.qz s.1)<=1/\R.ab (R.qz s.2)<=1:=by
 have:=h.lo;have:=h.hi;have:=h.m0;constructor <;> (rw[R.bY];constructor <;> grind)
def gS(l h:Int×Int)(q:Int):(Int×Int)×(Int×Int):=(gL.Pt l q,gL.Pu h q)
def gC(l h:Int×Int)(q:Int):(Int×Int)×(Int×Int):=(cE.uN (dv (dX.Dl (rB l h))) q,cE.tY (dv (dX.wA (rB l h))) q)
structure bQO(l h:Int×Int)(p n:Int)(r:Rat):Prop where
 so:wQ.aKA (rB l h) (n-2)
 co:dX.aNU (rB l h) (n-2)
 s:Bx (gS l h n) (R.sn r) (R.pz (-p-12)*R.ab (R.sn r)) (mg p)
 c:Bx (gC l h n) (R.cs r) (R.pz (-p-12)*R.ab (R.cs r)) (mg p)
 s1:R.ab (R.qz (gS l h n).1)<=1/\R.ab (R.qz (gS l h n).2)<=1
 c1:R.ab (R.qz (gC l h n).1)<=1/\R.ab (R.qz (gC l h n).2)<=1
theorem aWD{l h:Int×Int}{p n:Int}{r:Rat}(hp:-6<=p/\p<=66000)(hn:p+14<=n/\n<=p+150/\3<=n)(pl:nC l)(ph:nC h)(lo:R.qz l<=r)(hi:r<=R.qz h)(wd:R.qz h-R.qz l<=R.pz (-p-23)*R.ab r)(rg:R.pz (-1074)<=R.ab r)(nl:R.ab r<=79/100):bQO l h p n r:=by
 have aPR:p+14<=n/\n<=p+150/\1<=n:=by omega
 have bRA:=bCP hp.1;have rp:0<R.ab r:=by have:=R.dK (-1074);grind
 have m:=R.aI (cDU rp) (show 0<=1/131072-R.pz (-p-23) by grind);have tok:∀q:Int,q=n-2->(1<=q/\q<=67000):=fun q hq=>by omega
 have oa:aQ (fO (rB l h)):=eQ pl;have ob:aQ (fR (rB l h)):=eQ ph;have ea:dv (fO (rB l h))=l:=mZ _ _;have eb:dv (fR (rB l h))=h:=nA _ _;have sk:dW (rB l h):=Cq pl ph (mB.2 (by grind));have aPZ:n-2+2=n:=by omega
 have fin:∀(a:Rat),a=R.ab r->R.ab (R.qz l)<=4/5->R.ab (R.qz h)<=4/5 ->
   (l.1≠0/\-1075<=bG l)->(h.1≠0/\-1075<=bG h) ->
   bBZ l n->bBZ h n ->
   oI (dv (dX.wA (rB l h))) (dv (dX.Dl (rB l h))) a p->aQ (dX.Dl (rB l h))->aQ (dX.wA (rB l h)) ->
   Bx (gS l h n) (R.sn r) (R.pz (-p-12)*R.ab (R.sn r)) (mg p)->-1<=R.qz (gS l h n).1->R.qz (gS l h n).2<=1->bQO l h p n r:=by
  intro a ha l1 l2 t1 t2 n1 n2 par of on bs b1 b2;obtain⟨cu,cv,cb⟩:=aZN par hp aPR;obtain⟨_,_,_,_,_,_,tu,tv⟩:=par.more hp.1;have ec:R.cs a=R.cs r:=by rw[ha];exact R.aBS r
  rw[ec]at cb;refine⟨⟨⟨tok _ rfl,sk,aQM oa ea (by grind) (fun _=>by omega),aQM ob eb (by grind) (fun _=>by omega)⟩,?_,?_⟩,⟨⟨tok _ rfl,sk,aQM oa ea (by grind) (fun _=>by omega),aQM ob eb (by grind) (fun _=>by omega)⟩,?_,?_⟩,bs,cb,aLH bs b1 b2,aLH cb ?_ cu.one⟩
  ·rw[aPZ];exact aUD oa (by omega) (by rw[ea];omega) (by rw[ea];exact n1)
  ·rw[aPZ];exact aUD ob (by omega) (by rw[eb];omega) (by rw[eb];exact n2)
  ·rw[aPZ];exact aVP of (by omega) (fun _=>by omega) cv
  ·rw[aPZ];exact aVP on (by omega) (fun _=>by omega) cu
  ·have h1:=cb.wd;have h2:=cb.hi;have h3:=cb.m0;obtain⟨c1,c2⟩:=R.Yo (r:=r) (by grind);rw[R.bQ (show 0<=R.cs r by grind)]at h1;have z12:R.pz (-p-12)<=1:=by rw[<-R.fA];exact R.cK (by omega)
   have:=R.aI (show 0<=R.cs r by grind) (show 0<=1-R.pz (-p-12) by grind);show -1<=R.qz (cE.uN (dv (dX.Dl (rB l h))) n);dsimp only at h1 h2;grind
 have t75:R.pz (-1075)*2=R.pz (-1074):=by have:=R.oW (-1074);rw[show(-1074:Int)-1=-1075 by rfl]at this;exact this
 by_cases c:0<r
 ·have er:R.ab r=r:=R.bQ (cDU c);rw[er]at nl wd rg rp m;have al:R.ab (R.qz l)=R.qz l:=R.bQ (by grind);have ah:R.ab (R.qz h)=R.qz h:=R.bQ (by grind);have par:oI l h r p:=⟨pl,ph,rg,nl,by rw[al];exact lo,by rw[ah];exact hi,by rw[al,ah];exact wd⟩;obtain⟨_,_,_,v2,aCZ,aIH,tu,tv⟩:=par.more hp.1;obtain⟨nu,nv,bs⟩:=aKD par hp aPR;have sg:fW.tR l h≠0:=by rw[Ma (by grind) (by grind)];decide
  obtain⟨⟨of,on⟩,hd⟩:=Yd sg pl ph;have n1:isNeg l.1=false:=fN.2 (by have:=Ee.1 (show 0<R.qz l by grind);omega);have n2:isNeg h.1=false:=fN.2 (by have:=Ee.1 (show 0<R.qz h by grind);omega);have eS:gS l h n=(gL.uY l n,gL.uG h n):=by
   unfold gS gL.Pt gL.Pu;rw[if_neg aCZ,if_neg aIH,n1,n2];rfl
  refine fin r er.symm (by grind) (by grind) ⟨aCZ,tu⟩ ⟨aIH,tv⟩ nu nv ?_ of on (by rw[eS];exact bs) ?_ ?_
  ·rcases hd with ⟨d1,d2,d3⟩ |⟨d1,d2,d3⟩
   ·grind
   ·show oI (dv (dX.wA (rB _ _))) (dv (dX.Dl (rB _ _))) r p;rw[d2,d3];exact⟨zA pl,zA ph,rg,nl,by rw[uO,al];exact lo,by rw[uO,ah];exact hi,by rw[uO,uO,al,ah];exact wd⟩
  ·rw[eS];have:=nu.pos;dsimp only;grind
  ·rw[eS];exact nv.one
 ·have er:R.ab r=-r:=by
   unfold R.ab
   by_cases hr:0<=r
   ·have:r=0:=by grind
    rw[this,R.bQ cEZ]at rp;grind
   ·rw[if_neg hr]
  rw[er]at nl wd rg rp m;have al:R.ab (R.qz l)=-R.qz l:=by rw[<-R.iL];exact R.bQ (by grind)
  have ah:R.ab (R.qz h)=-R.qz h:=by rw[<-R.iL];exact R.bQ (by grind)
  have par:oI h l (-r) p:=⟨ph,pl,rg,nl,by rw[ah];grind,by rw[al];grind,by rw[al,ah];grind⟩;obtain⟨_,_,_,v2,aCZ,aIH,tu,tv⟩:=par.more hp.1;obtain⟨nu,nv,bs⟩:=aKD par hp aPR;have sg:fW.tR l h≠0:=by rw[Ss (by grind)];decide
  obtain⟨⟨of,on⟩,hd⟩:=Yd sg pl ph;have n1:isNeg l.1=true:=jT.2 (Me.1 (by grind));have n2:isNeg h.1=true:=jT.2 (Me.1 (by grind));have eS:gS l h n=(nV.Bd (gL.uG l n),nV.Bd (gL.uY h n)):=by
   unfold gS gL.Pt gL.Pu;rw[if_neg aCZ,if_neg aIH,n1,n2];rfl
  have bn:=bs.neg;have es:-R.sn (-r)=R.sn r:=by rw[R.Ay];grind
  have bWZ:R.ab (R.sn (-r))=R.ab (R.sn r):=by rw[R.Ay,R.iL]
  rw[es,bWZ]at bn;refine fin (-r) er.symm (by grind) (by grind) ⟨aIH,tv⟩ ⟨aCZ,tu⟩ nv nu ?_ of on (by rw[eS];exact bn) ?_ ?_
  ·show oI (dv (dX.wA (rB _ _))) (dv (dX.Dl (rB _ _))) (-r) p;rcases hd with ⟨d1,d2,d3⟩ |⟨d1,d2,d3⟩
   ·rw[d2,d3];exact⟨zA ph,zA pl,rg,nl,by rw[uO,ah];grind,by rw[uO,al];grind,by rw[uO,uO,al,ah];grind⟩
   ·rw[d2,d3];exact⟨zA pl,zA ph,rg,nl,by rw[uO,al];grind,by rw[uO,ah];grind,by rw[uO,uO,al,ah];grind⟩
  ·rw[eS];show -1<=R.qz (-(gL.uG l n).1,(gL.uG l n).2);rw[rP];have:=nv.one;grind
  ·rw[eS];show R.qz (-(gL.uY h n).1,(gL.uY h n).2)<=1;rw[rP];have:=nu.pos;grind
theorem aWC{x:Int×Int}{p k:Int}(hp:1<=p/\p<=66000)(h:bAF x (p+80) k):bYD x p (R.qz x-(k:Rat)*(R.pi/2)):=by
 have nl:=R.Ge h.Pw;obtain⟨_,_,pl,ph,lo,hi,wd,rg⟩:=h;rw[show 57-(p+80)=-p-23 by omega]at wd;obtain⟨a,b,c,d,e,f⟩:=aWD (n:=p+14) ⟨by omega,hp.2⟩ (by omega) pl ph lo hi wd rg nl;rw[show p+14-2=p+12 by omega]at a b;exact⟨a,b,c,d,e,f⟩
end M
end Go.Proofs.YtcnlagnipklcmaaGreatDoor
end
