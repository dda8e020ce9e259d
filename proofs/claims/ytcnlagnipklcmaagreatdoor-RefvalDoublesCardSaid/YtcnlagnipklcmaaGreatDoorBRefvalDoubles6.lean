/- Contracts of functions and laws, for the claim on RefvalDoubles. -/
import Derived.WalkKit
import Derived.ProofKit
import Derived.OpenShut
import Derived.Carry
import Derived.LaidMore
import Derived.MakeChecks
import Derived.Test.YtcnlagnipklcmaaGreatDoorBRefvalDoubles5
set_option linter.unusedVariables false
set_option linter.unusedSimpArgs false
set_option exponentiation.threshold 10000000
noncomputable section
open Go.IntKind(i8 i16 i32 i64 u8 u16 u32 u64)
open Go.Proofs.Tryz
open Rat renaming le_refl->cEZ,le_of_lt->cDU,intCast_mul->cJA,mul_pos->cEE
open Int renaming toNat->cMC,toNat_natCast->cCJ,tmod_eq_emod_of_nonneg->cGA,eq_ofNat_of_zero_le->cDO,natAbs_mul->cEC,natCast_pow->cHU
open Nat renaming le_trans->bZJ,add_comm->cEL,add_le_add->cMT
open List renaming getD_eq_getElem?_getD->cDR,getElem?_eq_getElem->bZD,take_of_length_le->cFV,take_succ_eq_append_getElem->cEP,getElem?_map->bYR
open Bool renaming true_and->cBO,and_eq_true->bYT,false_and->cDW,not_false->cKD,not_true->cAN
namespace Go.Proofs.YtcnlagnipklcmaaGreatDoor
namespace M
open Go AI W
theorem Tg{b:Int}(hb:0<=b/\b<18446744073709551616):fL.Th b=gW.wU 64 b:=by
 have e1:gJ.tF (cG.sR 64)=4503599627370496:=rfl;have e3:jK.kJ (cG.sR 64)=9223372036854775808:=rfl;have e5:kH (kf true)=4503599627370496:=rfl;unfold fL.Th gW.wU Jj jV.Em;rw[e1,e3,e5];congr 1;split <;> split <;> omega
theorem Ti{b:Int}(hb:0<=b/\b<18446744073709551616):fL.Xa b=gW.xD 64 b:=by
 have e1:gJ.tF (cG.sR 64)=4503599627370496:=rfl;have e3:jK.kJ (cG.sR 64)=9223372036854775808:=rfl;have e4:(cG.sR 64).2.2.1=-1074:=rfl;have e5:kH (kf true)=4503599627370496:=rfl;unfold fL.Xa gW.xD Wv jV.Ik;rw[e1,e3,e4,e5];split <;> omega
theorem Ur{b:Int}:dT.Dq b=(if b%9223372036854775808=0 then 0 else if b%9223372036854775808<4503599627370496 then 1 else if b%9223372036854775808<9218868437227405312 then 2 else if b%9223372036854775808=9218868437227405312 then 3 else 4):=by
 have hp:iE.lM 64 b=true:=rfl;have e1:gJ.tF (cG.sR 64)=4503599627370496:=rfl;have e2:yP.Di (cG.sR 64)=9218868437227405312:=rfl;have e3:jK.kJ (cG.sR 64)=9223372036854775808:=rfl;unfold dT.Dq Ac.zL;rw[hp,e1,e2,cond_true]
theorem Lo{fn b p:Int}:dT.Cn fn b p=if fn<1 then 1 else if 3<fn then 1 else if p<1 then 1 else if 66000<p then 1 else if b%9223372036854775808<9218868437227405312 then 0 else 6:=by
 have hp:iE.lM 64 b=true:=rfl;unfold dT.Cn;rw[Ur,hp,cond_true]
 repeat' (split <;> try rfl)
 all_goals omega
theorem Zx{fn b p:Int}(h:dT.Cn fn b p=0):dT.aCW fn b p=(b%9223372036854775808==0):=by
 rw[Lo]at h;unfold dT.aCW;rw[Ur]
 by_cases c1:fn<1
 ·rw[if_pos c1]at h;omega
 ·rw[if_neg c1]at h ⊢
  by_cases c2:3<fn
  ·rw[if_pos c2]at h;omega
  ·rw[if_neg c2]at h ⊢
   by_cases c3:p<1
   ·rw[if_pos c3]at h;omega
   ·rw[if_neg c3]at h ⊢
    by_cases c4:66000<p
    ·rw[if_pos c4]at h;omega
    ·rw[if_neg c4]at h ⊢
     by_cases c5:b%9223372036854775808=0
     ·rw[if_pos c5,beq_iff_eq.2 c5];rfl
     ·rw[if_neg c5,beq_eq_false_iff_ne.2 c5]
      repeat' (split <;> try rfl)
def Real(b:Int):Prop:=(0<=b/\b<18446744073709551616)/\dT.Dq b≠0/\dT.Dq b≠3/\dT.Dq b≠4
theorem Real.n{b:Int}(h:Real b):Vo (gW.wU 64 b) (gW.xD 64 b):=(bN.aBN h.1 h.2.1 h.2.2.1 h.2.2.2).2.2
theorem Real.x{b:Int}(h:Real b):aCQ (aW.mV b):=aNH h.n
theorem Real.q{b:Int}(_h:Real b):R.qz (aW.mV b)=R.qz (gW.wU 64 b,gW.xD 64 b):=qB _ _
theorem aJE{fn b p:Int}(h:Real b)(hf:1<=fn/\fn<=3)(hp:1<=p/\p<=133500):dM.Qx fn b p:=by
 have n:=h.n;have bFX:=mY (n:=(gW.wU 64 b).natAbs) (by have:=n.z0;omega);have e0:=n.e0;obtain⟨hb,c0,c3,c4⟩:=h;have hm:b%9223372036854775808<9218868437227405312:=by
  rw[Ur]at c3 c4
  by_cases h1:b%9223372036854775808<9218868437227405312
  ·exact h1
  ·rw[bI,bI,if_neg h1]at c3 c4;split at c3
   ·omega
   ·split at c4 <;> omega
 refine⟨hf,⟨hb.1,hb.2,hm⟩,?_,⟨hp.1,by omega⟩,?_⟩
 ·rw[Tg hb,Ti hb];exact n
 ·rw[Tg hb,Ti hb];unfold q7;split <;> omega
theorem Kv{m e l f:Int}:0<lR m e l f↔R.qz (l,f)<R.qz (m,e):=by
 have h:=R.aDZ (p:=(m,e)) (q:=(l,f)) (g:=if e<=f then e else f) (by split <;> omega) (by split <;> (dsimp only;omega));have e1:(e-(if e<=f then e else f)).toNat=(e-f).toNat:=by split <;> omega
 have e2:(f-(if e<=f then e else f)).toNat=(f-e).toNat:=by split <;> omega
 dsimp only at h;rw[e1,e2]at h;have c1:((2^(e-f).toNat:Nat):Int)=(2:Int)^(e-f).toNat:=by rw[cHU];rfl
 have c2:((2^(f-e).toNat:Nat):Int)=(2:Int)^(f-e).toNat:=by rw[cHU];rfl
 rw[c1,c2]at h;unfold lR cZ;constructor
 ·intro hh;refine Rat.not_le.1 fun hq=>?_
  have:=h.1 hq;rw[if_neg (by
   intro hc;rw[if_pos hc]at hh;omega)]at hh
  rw[bI]at hh;omega
 ·intro hh;have:¬m*2^(e-f).toNat<=l*2^(f-e).toNat:=fun hc=>Rat.not_le.2 hh (h.2 hc)
  rw[bI,aR];decide
theorem Tz{m e l f:Int}:lR m e l f<0↔R.qz (m,e)<R.qz (l,f):=by
 rw[<-Kv,Pd.Nb l f m e];omega
theorem aXE{a:Rat}{q:Int}:a*R.pz (-q)*R.pz q=a:=by rw[Rat.mul_assoc,Rat.mul_comm (R.pz (-q)),R.Ta];grind
theorem bXW{P V L m t Z:Rat}(hP:0<P)(h:L+m<=V)(m0:0<=m)(hi:P*V+1<=t)(e:Z*P=t)(hc:Z<L):False:=by
 have a:=R.aI (cDU hP) (show 0<=V-L by grind);have b:=R.aI (cDU hP) (show 0<=L-Z by grind);grind
theorem bXV{P V H m t Z:Rat}(hP:0<P)(h:V+m<=H)(m0:0<=m)(lo:t+1<=P*V)(e:Z*P=t)(hc:H<Z):False:=by
 have a:=R.aI (cDU hP) (show 0<=H-V by grind);have b:=R.aI (cDU hP) (show 0<=Z-H by grind);grind
theorem bXU{P V L m t1 t2 Z:Rat}(hP:0<P)(h:L+m<=V)(w:t2-t1<P*m)(hi:P*V+1<=t2)(e:Z*P=t1):L<Z:=by
 refine Rat.not_le.1 fun hc=>?_
 have a:=R.aI (cDU hP) (show 0<=V-L-m by grind);have b:=R.aI (cDU hP) (show 0<=L-Z by grind);grind
theorem bXT{P V H m t1 t2 Z:Rat}(hP:0<P)(h:V+m<=H)(w:t2-t1<P*m)(lo:t1+1<=P*V)(e:Z*P=t2):Z<H:=by
 refine Rat.not_le.1 fun hc=>?_
 have a:=R.aI (cDU hP) (show 0<=H-V-m by grind);have b:=R.aI (cDU hP) (show 0<=Z-H by grind);grind
theorem bXS{Q q m t1 t2 A K:Rat}(hQ:0<Q)(hq:0<q)(wd:(t2-t1)*q<=Q*A)(vh:A<=K)(h:K<q*m):t2-t1<Q*m:=by
 refine Rat.not_le.1 fun hc=>?_
 have a:=R.aI (cDU hQ) (show 0<=K-A by grind);have b:=R.aI (cDU hq) (show 0<=t2-t1-Q*m by grind);have c:0<Q*(q*m-K):=cEE hQ (by grind);grind
theorem aEQ{fn b p q:Int}(h:Real b)(hf:1<=fn/\fn<=3)(hp:1<=p/\p<=66000)(hq:1<=q/\q<=133500) :
  sV.Wq (dM.qF fn b q).1 (dM.qF fn b q).2 (dM.rA b q) (eE fn (aW.mV b) p).1<=0/\0<=sV.Wq (dM.qF fn b q).1 (dM.qF fn b q).2 (dM.rA b q) (eE fn (aW.mV b) p).2 /\
  (2500<=p->2*p+200<=q->sV.Wq (dM.qF fn b q).1 (dM.qF fn b q).2 (dM.rA b q) (eE fn (aW.mV b) p).1<0/\0<sV.Wq (dM.qF fn b q).1 (dM.qF fn b q).2 (dM.rA b q) (eE fn (aW.mV b) p).2):=by
 have tk:=aJE h hf hq;obtain⟨k,hk⟩:=uZ (w:=p+80) h.x (by omega);have N:=wZ (fn:=fn) (p:=p) h.x hp hf hk;have M:=Sz (fn:=fn) tk.2.2.1 hq.1 rfl tk.2.2.2.2 hf;have ek:k7 (fL.Th b) (fL.Xa b) (q7 (fL.Th b) (fL.Xa b) q)=k:=by
  have n2:=M.Pw;rw[Tg h.1,Ti h.1]at n2 ⊢;rw[<-h.q]at n2;exact R.Zy h.x.fit n2 hk.Pw
 have eq:dM.rA b q=q7 (fL.Th b) (fL.Xa b) q:=rfl;have eV:dM.qF fn b q=Jo fn (fL.Th b) (fL.Xa b) (q7 (fL.Th b) (fL.Xa b) q):=rfl;have ex:R.qz (fL.Th b,fL.Xa b)=R.qz (aW.mV b):=by rw[Tg h.1,Ti h.1,h.q]
 have lo:=M.lo;have hi:=M.hi;have wd:=M.wd;rw[ek,ex,<-eV,<-eq]at lo hi wd;have bNZ:=N.bx.lo;have bBK:=N.bx.hi;have vh:=N.vh;have m0:=N.bx.m0;generalize eE fn (aW.mV b) p=s at *;generalize R.fv fn (R.qz (aW.mV b)) k=V at *;generalize dM.qF fn b q=t at *;generalize dM.rA b q=Q at *;have pQ:=R.dK Q;have pq:=R.dK q;have qe:∀z:Int,R.qz (z,-Q)*R.pz Q=(z:Rat):=fun z=>aXE
 have L1:¬0<lR s.1.1 s.1.2 t.2 (-Q):=by
  rw[Kv];exact fun hc=>bXW pQ bNZ m0 hi (qe t.2) hc
 have H1:¬lR s.2.1 s.2.2 t.1 (-Q)<0:=by
  rw[Tz];exact fun hc=>bXV pQ bBK m0 lo (qe t.1) hc
 unfold sV.Wq;refine⟨?_,?_,?_⟩
 ·rw[if_neg L1];split <;> decide
 ·rw[if_neg H1];split <;> decide
 ·intro yS aXY;have em:mg p=R.pz (-p-1500):=by unfold mg;rw[bI]
  have wq:R.pz 1090<R.pz q*mg p:=by
   rw[em,<-R.iK];exact R.aKO (by omega)
  have w1:=bXS pQ pq wd vh wq;have L2:lR s.1.1 s.1.2 t.1 (-Q)<0:=by
   rw[Tz];exact bXU pQ bNZ w1 hi (qe t.1)
  have H2:0<lR s.2.1 s.2.2 t.2 (-Q):=by
   rw[Kv];exact bXT pQ bBK w1 lo (qe t.2)
  rw[if_pos L2,if_neg H1,if_pos H2];decide
theorem aYE{fn b p:Int}(h:Real b)(hf:1<=fn/\fn<=3)(hp:1<=p/\p<=66000):xN.Jm fn b (eE fn (aW.mV b) p).1 (eE fn (aW.mV b) p).2 p 5 (p+100):=by
 have A:∀q:Int,1<=q->q<=133500->dM.Qx fn b q/\sV.Wq (dM.qF fn b q).1 (dM.qF fn b q).2 (dM.rA b q) (eE fn (aW.mV b) p).1<=0/\0<=sV.Wq (dM.qF fn b q).1 (dM.qF fn b q).2 (dM.rA b q) (eE fn (aW.mV b) p).2:=fun q h1 h2 =>
  have B:=aEQ h hf hp ⟨h1,h2⟩
  ⟨aJE h hf ⟨h1,h2⟩,B.1,B.2.1⟩
 have r1:=A (p+100) (by omega) (by omega);have r2:=A ((p+100)*2) (by omega) (by omega);refine Or.inr ⟨r1.1,r1.2.1,r1.2.2,Or.inr (Or.inr ⟨r2.1,r2.2.1,r2.2.2,?_⟩)⟩
 by_cases c:2500<=p
 ·exact Or.inl ((aEQ h hf hp ⟨by omega,by omega⟩).2.2 c (by omega))
 ·have r3:=A ((p+100)*2*2) (by omega) (by omega);have r4:=A ((p+100)*2*2*2) (by omega) (by omega);exact Or.inr (Or.inr ⟨r3.1,r3.2.1,r3.2.2,Or.inr (Or.inr ⟨r4.1,r4.2.1,r4.2.2,Or.inr (Or.inl (by omega))⟩)⟩)
end M
open Go.Value(int bool slice)
open AI.S(sc ints)
namespace W
open Go AI M
namespace Pg
def E:=mE [] 20 [] [] []
def aF:=bd f213
theorem aU:Nk E aF:=nk
theorem start a:aG E f213 aF [D.s (ints u64 a)]=letI A:=(a.length:Int);letI B:=A-(1:Int);aC (decide (A<=(8192:Int))) (aC (A==(0:Int)) (some [D.s (sc (bool true))]) (if 0<=i64.wrap B/\i64.wrap B<A then some [D.s (sc (bool (a.getD (i64.wrap B).toNat 0 !=(0:Int))))]else none)) (some [D.s (sc (bool false))]):=eJ aU
def sp(a:List Int):Prop×List D:=(M6.cO a/\a.length<=8192,[.s (.sc (.bool true))])
theorem spec:iH E f213 aF (pI .u64) sp:=by
 rintro a ⟨hn,hl⟩;refine(start a).trans ?_;rw[aO]
 by_cases h0:a.length=0
 ·rw[dU];rfl
 ·rw[cP,wrap_i64 (n:=(a.length:Int)-1),aR];have e:((a.length:Int)-1).toNat=a.length-1:=by omega
  have hg:a.getLast?=some (a.getD (a.length-1) 0):=by
   rw[List.getLast?_eq_getElem?,cDR,bZD (by omega)];rfl
  have:=hn.top hg;rw[e,bne_iff_ne.2 this];rfl
def aJ:dO:=orc1 (pI .u64) sp
theorem ok:OK 213 aJ:=(eI E aF aD func213).oV rfl spec
end Pg
namespace Pf
def E:=mE [(213,Pg.aJ)] 17 [] [] []
def aF:=bd f180
theorem aU:Nk E aF:=nk
theorem start a b:aG E f180 aF [D.agg [sc (bool a),ints u64 b]]=aN (M6.cO b/\b.length<=8192) (aC a (some [D.s (sc (bool !(b.length:Int)==(0:Int)))]) (some [D.s (sc (bool true))])):=eJ aU
def sp(x:Bool×List Int):Prop×List D:=(jA x/\x.2.length<=8192,[.s (.sc (.bool true))])
theorem spec:iH E f180 aF qQ sp:=by
 rintro x ⟨hw,hl⟩;refine(start x.1 x.2).trans ((gP ⟨hw.1,hl⟩).trans ?_);obtain⟨b,a⟩:=x;have bGS:=hw.2.1;have hz:=M6.cY hw.1
 try dsimp only at *
 cases b with
 |false=>rw[bF];rfl
 |true =>
  rw[bT,show((a.length:Int)==0)=false from beq_eq_false_iff_ne.2 (fun h0=>bGS rfl (hz.1 (by omega)))];rfl
def aJ:dO:=orc1 qQ sp
theorem ok:OK 180 aJ:=(eI E aF (aA Pg.ok aD) func180).oV rfl spec
end Pf
namespace Hj
def E:=mE [(180,Pf.aJ)] 32 [] [(3,[1])] [3]
def aF:=bd f135
theorem aU:Nk E aF:=nk
def J3 a b c:=lP E f135 aF 3 [bK 0 29 [bC a,eR b,cV c]]
theorem start a b c:aG E f135 aF [D.agg [sc (bool a),ints u64 b,sc (int i64 c)]]=letI A:=some [D.s (sc (bool false))];aN (jA (a,b)/\b.length<=8192) (aC (decide (1048576<c)) A (aC (decide (c<(-1048576:Int))) A (Hj.J3 a b c))):=eJ aU
theorem fH a b c:J3 a b c=aC ((b.length:Int)==(0:Int)) (some [D.s (sc (bool (c==0)))]) (if(0:Int)<=(0:Int)/\0<(b.length:Int)then some [D.s (sc (bool ((b.getD 0 0).tmod 2==(1:Int))))]else none):=cJ aU
def sp(x:fB):Prop×List D:=(aQ x,[.s (.sc (.bool true))])
theorem spec:iH E f135 aF jQ sp:=by
 intro x h;have h:aQ x:=h;have hn:=h.Fi;refine(start x.1 x.2.1 x.2.2).trans ((gP ⟨h.1,h.len⟩).trans ?_);obtain⟨b,a,e⟩:=x;obtain⟨hw,he,h0,h1⟩:=h
 try dsimp only at *
 have hz:=M6.cY hn;rw[aM,aM,fH]
 by_cases hl:a.length=0
 ·have hv:=hz.1 hl;rw[dU,h0 hv];rfl
 ·have g:=hn.iA.get 0;have ev:M6.val a=(a.getD 0 0).toNat+18446744073709551616*M6.val (a.drop 1):=by
   have:=M6.gH (a:=a) 0;rwa [List.drop_zero]at this
  have od:=h1 (fun hv=>hl (hz.2 hv));have t:(a.getD 0 0).tmod 2=1:=by rw[cGA g.1];omega
  rw[cP,if_pos ⟨by omega,by omega⟩,t];rfl
def aJ:dO:=orc1 jQ sp
theorem ok:OK 135 aJ:=(eI E aF (aA Pf.ok aD) func135).oV rfl spec
end Hj
namespace sH
def E:=mE [(135,Hj.aJ),(88,Og.aJ),(84,Fg.aJ),(136,Bv.aJ),(137,Oh.aJ),(138,kO.aJ)] 96 [94] [(3,[1,2]),(7,[1,2,5,6,7])] [3,7]
def aF:=bd f86
theorem aU:Nk E aF:=nk
def J3 a b c d e f g:=lP E f86 aF 3 [bJ a,bK 1 31 [bC b,eR c,cV d,bC e,eR f,cV g]]
def J7 a b c d e f g h i j k l:=lP E f86 aF 7 [bJ a,bK 1 31 [bC b,eR c,cV d,bC e,eR f,cV g],bK 2 117 [bC h,iB i],bK 3 117 [bC j,iB k],bJ l]
theorem start a c d e f g b:aG E f86 aF [D.agg [sc (bool a),ints u64 c,sc (int i64 d),sc (bool e),ints u64 f,sc (int i64 g)],D.s (sc (int i64 b))]=aN (aQ (a,c,d)) (aN (aQ (e,f,g)) (sH.J3 b a c d e f g)):=eJ aU
theorem fH a b c d e f g:J3 a b c d e f g=letI C:=some [D.s (sc (bool false))];aN (M6.bM c/\c.length<=137438953472) (aB (isNeg (wv (b,c))) fun h=>aB (dg (wv (b,c)).natAbs) fun i=>letI G:=(↑(bl (val i)):Int);letI A:=cO i/\i.length<=4398046511104;aN (M6.bM f/\f.length<=137438953472) (aB (isNeg (wv (e,f))) fun j=>aB (dg (wv (e,f)).natAbs) fun k=>letI F:=(↑(bl (val k)):Int);letI B:=cO k/\k.length<=4398046511104;aN A (aN B (aC (decide (i64.wrap (i64.wrap (F+g)+2)<i64.wrap (G+d))) C (aN B (aN A (aC (decide (i64.wrap (i64.wrap (G+d)+2)<i64.wrap (F+g))) C (sH.J7 a b c d e f g h i j k (if g<d then g else d))))))))):=cJ aU
theorem Hi a b c d e f g h i j k l:J7 a b c d e f g h i j k l=letI B:=zv (j,k)*(2:Int)^(i64.wrap (g-l)).toNat;letI A:=zv (h,i)*(2:Int)^(i64.wrap (d-l)).toNat;aN (dS (h,i)/\i64.wrap (d-l)<=1099511627776) (aB (isNeg A) fun m=>aB (dg A.natAbs) fun n=>aN (dS (j,k)/\i64.wrap (g-l)<=1099511627776) (aB (isNeg B) fun o=>aB (dg B.natAbs) fun p=>aN (dS (m,n)/\dS (o,p)/\n.length<549755813888/\p.length<549755813888) (aB (cZ (zv (m,n)) (zv (o,p))) fun q=>aC (decide (q<=0)) (aN (dS (m,n)/\dS (o,p)/\n.length<=134217728/\p.length<=134217728/\0<=a/\a<=134217728) (aB (kO.Zk (zv (m,n)) (zv (o,p)) a) fun r=>some [D.s (sc (bool r))])) (some [D.s (sc (bool false))])))):=cJ aU
def bNX(a b:Int×Int)(p:Int):Prop:=(0<R.qz a/\(R.qz b-R.qz a)*R.pz p<=R.qz a)\/(R.qz b<0/\(R.qz b-R.qz a)*R.pz p<=-R.qz b)
def aXA(a b:Int×Int)(p:Int):Prop:=(1<=p/\p<=70000)/\(bl a.1.natAbs<=100000/\bl b.1.natAbs<=100000)/\(-200000<=a.2/\a.2<=200000)/\(-200000<=b.2/\b.2<=200000)/\(bG a<=bG b+2/\bG b<=bG a+2)/\R.qz a<=R.qz b/\bNX a b p
def sp(s:uP)(p:Int):Prop×List D:=(dW s/\aXA (dv (fO s)) (dv (fR s)) p,[.s (.sc (.bool true))])
theorem vU{a:Int}{n k:Nat}(h:bl a.natAbs<=k):bl (a*2^n).natAbs<=k+n+1:=by
 rw[cEC,Int.natAbs_pow];refine bZJ (mK _ _) ?_;have:bl ((2:Int).natAbs^n)=n+1:=kO.aFT n;omega
theorem Kp{p:Int×Int}{g:Int}(h:g<=p.2):R.qz p=((p.1*2^(p.2-g).toNat:Int):Rat)*R.pz g:=by
 obtain⟨k,hk⟩:=cDO (show 0<=p.2-g by omega);have e:p.2=g+(k:Int):=by omega
 unfold R.qz;rw[hk,cCJ,e,R.dZ,cJA];have:(((2:Int)^k:Int):Rat)=((2^k:Nat):Rat):=by norm_cast
 rw[this];grind
theorem spec:fF E f86 aF sP (pN .i64) sp:=by
 rintro s p ⟨hs,⟨p0,p1⟩,⟨b1,b2⟩,⟨e1,e2⟩,⟨f1,f2⟩,⟨t1,t2⟩,hle,hn⟩;have hL:aQ (s.1,s.2.1,s.2.2.1):=hs.1;have hH:aQ (s.2.2.2.1,s.2.2.2.2.1,s.2.2.2.2.2):=hs.2.1;have lL:s.2.1.length<=8192:=hL.len;have lH:s.2.2.2.2.1.length<=8192:=hH.len;have a1:wv (s.1,s.2.1)=(dv (fO s)).1:=rfl;have a2:wv (s.2.2.2.1,s.2.2.2.2.1)=(dv (fR s)).1:=rfl;have a3:s.2.2.1=(dv (fO s)).2:=rfl;have a4:s.2.2.2.2.2=(dv (fR s)).2:=rfl;have u1:bG (dv (fO s))=(dv (fO s)).2+(bl (dv (fO s)).1.natAbs:Nat)-1:=rfl;have u2:bG (dv (fR s))=(dv (fR s)).2+(bl (dv (fR s)).1.natAbs:Nat)-1:=rfl;refine(start s.1 s.2.1 s.2.2.1 s.2.2.2.1 s.2.2.2.2.1 s.2.2.2.2.2 p).trans ?_;rw[gP hL,gP hH,fH,gP ⟨hL.Fi.iA,by omega⟩];simp only[aE,a1,a2,a3,a4];rw[gP ⟨hH.Fi.iA,by omega⟩];generalize dv (fO s)=a at *;generalize dv (fR s)=b at *;have k1:=fJ b1;have k2:=fJ b2;have v1:val (dg a.1.natAbs)=a.1.natAbs:=bD _;have v2:val (dg b.1.natAbs)=b.1.natAbs:=bD _;rw[gP ⟨bA _,by omega⟩,gP ⟨bA _,by omega⟩,v1,v2,wrap_i64 (n:=(bl b.1.natAbs:Int)+b.2),wrap_i64 (n:=(bl a.1.natAbs:Int)+a.2),wrap_i64 (n:=(bl b.1.natAbs:Int)+b.2+2),aM,gP ⟨bA _,by omega⟩,gP ⟨bA _,by omega⟩,wrap_i64 (n:=(bl a.1.natAbs:Int)+a.2+2),aM,Hi];obtain⟨g,hg⟩:∃g,g=if b.2<a.2 then b.2 else a.2:=⟨_,rfl⟩
 have g1:g<=a.2/\g<=b.2/\-200000<=g:=by rw[hg];split <;> omega
 have x1:((a.2-g).toNat:Int)<=400000:=by omega
 have x2:((b.2-g).toNat:Int)<=400000:=by omega
 rw[<-hg,wrap_i64 (n:=a.2-g),wrap_i64 (n:=b.2-g)];simp only[aE,jD];have q1:=Kp (p:=a) g1.1;have q2:=Kp (p:=b) g1.2.1;have m1:=vU (n:=(a.2-g).toNat) b1;have m2:=vU (n:=(b.2-g).toNat) b2;rw[gP ⟨eA b1 (by decide),by omega⟩,gP ⟨eA b2 (by decide),by omega⟩];generalize a.1*2^(a.2-g).toNat=A at *;generalize b.1*2^(b.2-g).toNat=B at *;have l1:=fJ m1;have l2:=fJ m2;have z1:dS (isNeg A,dg A.natAbs):=eA m1 (by omega);have z2:dS (isNeg B,dg B.natAbs):=eA m2 (by omega);have pg:=R.dK g;have ord:A<=B:=by
  have:(A:Rat)<=(B:Rat):=by
   refine Rat.not_lt.1 fun hc=>?_
   have:=cEE pg (show 0<(A:Rat)-(B:Rat) by grind);grind
  exact_mod_cast this
 have cz:cZ A B<=0:=by unfold cZ;split <;> (try split) <;> omega
 have th:kO.Zk A B p=true:=by
  have cc:∀x y:Rat,x*R.pz g<=y*R.pz g->x<=y:=fun x y h=>Rat.not_lt.1 fun hc=>by
   have:=cEE pg (show 0<x-y by grind);grind
  have cl:∀x:Rat,0<x*R.pz g->0<x:=fun x h=>Rat.not_le.1 fun hc=>by
   have:=R.aI (cDU pg) (show 0<=-x by grind);grind
  refine aDG (by omega) (by omega) ?_;unfold bNX at hn;rw[q1,q2]at hn;rcases hn with ⟨h1,h2⟩ |⟨h1,h2⟩
  ·exact Or.inl ⟨cl _ h1,cc _ _ (by grind)⟩
  ·refine Or.inr ⟨?_,cc _ _ (by grind)⟩;have:=cl (-(B:Rat)) (by grind);grind
 rw[gP ⟨z1,z2,by omega,by omega⟩,aO cz,gP ⟨z1,z2,by omega,by omega,by omega,by omega⟩,th];rfl
def aJ:dO:=orc2 sP (pN .i64) sp
theorem ok:OK 86 aJ:=(eI E aF (aA Hj.ok (aA Og.ok (aA Fg.ok (aA Bv.ok (aA Oh.ok (aA kO.ok aD)))))) func86).jZ rfl spec
end sH
end W
namespace M
open Go AI W
theorem aZX{x:Rat}(h:0<x):R.ab x=x:=R.bQ (cDU h)
theorem aFZ{x:Rat}(h:x<0):R.ab x=-x:=by unfold R.ab;rw[if_neg (by grind)]
theorem bCU{fn b p:Int}(h:Real b)(hf:1<=fn/\fn<=3)(hp:1<=p/\p<=66000):sH.aXA (eE fn (aW.mV b) p).1 (eE fn (aW.mV b) p).2 p:=by
 obtain⟨k,hk⟩:=uZ (w:=p+80) h.x (by omega);have N:=wZ (fn:=fn) (p:=p) h.x hp hf hk;obtain⟨c1,c2⟩:=N.bits;have bx:=N.bx;have vl:=N.vl;have vh:=N.vh;have v0:=N.v0;generalize eE fn (aW.mV b) p=s at *;generalize R.fv fn (R.qz (aW.mV b)) k=V at *;have r1:R.pz (-p-8)<=1/64:=by
  have h1:=R.cK (show -p-8<=-6 by omega);have h2:R.pz (-6)*64=1:=by
   have:=R.gN 0 (n:=6) (c:=64) (by norm_cast);rwa [R.fA]at this
  grind
 obtain⟨a1,a2,a3,a4,sp,sn,V0⟩:=Ev bx r1 v0;have n1:s.1.1≠0:=Be (by grind);have n2:s.2.1≠0:=Be (by grind);obtain⟨t1,t2⟩:=nY n1;obtain⟨t3,t4⟩:=nY n2;have g1:-1101<=bG s.1:=yV n1 (by have:=R.oW (-1100);rw[show(-1100:Int)-1=-1101 by rfl]at this;grind);have g2:-1101<=bG s.2:=yV n2 (by have:=R.oW (-1100);rw[show(-1100:Int)-1=-1101 by rfl]at this;grind);have bRV:=R.iM 1090;rw[show(1090:Int)+1=1091 by rfl]at bRV;have P:=R.dK 1090;have g3:bG s.1<=1091:=qK n1 (by grind);have g4:bG s.2<=1091:=qK n2 (by grind);have d1:bG s.1<bG s.2+2:=Aq n1 (by
  have:=R.iM (bG s.2+1);rw[show bG s.2+1+1=bG s.2+2 by omega]at this;grind)
 have d2:bG s.2<bG s.1+2:=Aq n2 (by
  have:=R.iM (bG s.1+1);rw[show bG s.1+1+1=bG s.1+2 by omega]at this;grind)
 have u1:bG s.1=s.1.2+(bl s.1.1.natAbs:Nat)-1:=rfl;have u2:bG s.2=s.2.2+(bl s.2.1.natAbs:Nat)-1:=rfl;have b1:=mY (n:=s.1.1.natAbs) (by omega);have b2:=mY (n:=s.2.1.natAbs) (by omega);have m0:=bx.m0;have lo:=bx.lo;have hi:=bx.hi;have wd:=bx.wd;have wp:(R.qz s.2-R.qz s.1)*R.pz p*64<=R.ab V:=by
  have e:R.pz (-p-8)*R.pz p*256=1:=by
   rw[<-R.iK];have:=R.gN 0 (n:=8) (c:=256) (by norm_cast);rw[R.fA]at this;rw[show -p-8+p=0-((8:Nat):Int) by omega];exact this
  have m:=R.aI (cDU (R.dK p)) (show 0<=R.pz (-p-8)*R.ab V-(R.qz s.2-R.qz s.1) by grind);have m2:R.pz p*(R.pz (-p-8)*R.ab V)*256=R.ab V:=by
   have:R.pz p*(R.pz (-p-8)*R.ab V)*256=R.pz (-p-8)*R.pz p*256*R.ab V:=by grind
   rw[this,e];grind
  grind
 refine⟨⟨hp.1,by omega⟩,⟨by omega,by omega⟩,⟨by omega,by omega⟩,⟨by omega,by omega⟩,⟨by omega,by omega⟩,by grind,?_⟩;have vs:0<V\/V<0:=by grind
 rcases vs with h |h
 ·have q1:=sp h;rw[aZX q1]at a1;exact Or.inl ⟨q1,by grind⟩
 ·have q1:=sn h;rw[aFZ q1]at a3;exact Or.inr ⟨q1,by grind⟩
theorem bCQ{fn b p:Int}(h:Real b)(hf:1<=fn/\fn<=2)(hp:1<=p/\p<=66000):¬lR (eE fn (aW.mV b) p).1.1 (eE fn (aW.mV b) p).1.2 (-1) 0<0/\¬0<lR (eE fn (aW.mV b) p).2.1 (eE fn (aW.mV b) p).2.2 1 0:=by
 obtain⟨k,hk⟩:=uZ (w:=p+80) h.x (by omega);have N:=wZ (fn:=fn) (p:=p) h.x hp ⟨hf.1,by omega⟩ hk;obtain⟨o1,o2⟩:=N.on hf.2;generalize eE fn (aW.mV b) p=s at *;rw[R.bY]at o1 o2;have e:R.qz (-1,0)=-1:=by
  show((-1:Int):Rat)*R.pz 0=-1;rw[R.fA,show((-1:Int):Rat)=-1 by norm_cast];grind
 rw[Tz,Kv,e,oA];have e1:R.qz (s.1.1,s.1.2)=R.qz s.1:=rfl;have e2:R.qz (s.2.1,s.2.2)=R.qz s.2:=rfl;rw[e1,e2];constructor <;> grind
theorem aTI{fn b p:Int}(h:Real b)(hf:1<=fn/\fn<=3)(hp:1<=p/\p<=66000):(bl (eE fn (aW.mV b) p).1.1.natAbs:Int)<=p+21/\(bl (eE fn (aW.mV b) p).2.1.natAbs:Int)<=p+21:=by
 obtain⟨k,hk⟩:=uZ (w:=p+80) h.x (by omega);exact(wZ (fn:=fn) (p:=p) h.x hp hf hk).bits
end M
namespace W
open Go AI M
namespace Cj
def E:=mE [] 11 [] [] []
def aF:=bd f83
theorem aU:Nk E aF:=nk
theorem start a:aG E f83 aF [D.s (sc (int u64 a))]=some [D.s (sc (bool (decide (a.tmod 9223372036854775808<(9218868437227405312:Int))))),D.s (sc (bool (a.tmod 9223372036854775808==(0:Int))))]:=eJ aU
def sp(b:Int):Prop×List D:=(0<=b/\b<18446744073709551616,[.s (.sc (.bool (decide (b%9223372036854775808<9218868437227405312)))),.s (.sc (.bool (b%9223372036854775808==0)))])
theorem spec:iH E f83 aF (pN .u64) sp:=by
 intro b h;have h:0<=b/\b<18446744073709551616:=h;refine(start b).trans ?_;rw[cGA h.1];rfl
def aJ:dO:=orc1 (pN .u64) sp
theorem ok:OK 83 aJ:=(eI E aF aD func83).oV rfl spec
end Cj
namespace Ll
def E:=mE [(83,Cj.aJ)] 30 [] [(3,[1])] [3]
def aF:=bd f81
theorem aU:Nk E aF:=nk
def J3 a:=lP E f81 aF 3 [dR a]
theorem start a b c:aG E f81 aF [D.s (sc (int i64 a)),D.s (sc (int u64 b)),D.s (sc (int i64 c))]=letI A:=some [D.s (sc (int i64 1))];aC (decide (a<1)) A (aC (decide (3<a)) A (aC (decide (c<1)) A (aC (decide (66000<c)) A (Ll.J3 b)))):=eJ aU
theorem fH a:J3 a=aN (0<=a/\a<18446744073709551616) (aC (!decide (a%9223372036854775808<(9218868437227405312:Int))) (some [D.s (sc (int i64 6))]) (some [D.s (sc (int i64 0))])):=cJ aU
def sp(fn b p:Int):Prop×List D:=(0<=b/\b<18446744073709551616,[.s (.sc (.int .i64 (dT.Cn fn b p)))])
theorem spec:uQ E f81 aF (pN .i64) (pN .u64) (pN .i64) sp:=by
 intro fn b p h;have h:0<=b/\b<18446744073709551616:=h;refine(start fn b p).trans ?_;unfold sp;rw[Lo]
 by_cases c1:fn<1
 ·rw[aO c1,if_pos c1]
 ·rw[aM c1,if_neg c1]
  by_cases c2:3<fn
  ·rw[aO c2,if_pos c2]
  ·rw[aM c2,if_neg c2]
   by_cases c3:p<1
   ·rw[aO c3,if_pos c3]
   ·rw[aM c3,if_neg c3]
    by_cases c4:66000<p
    ·rw[aO c4,if_pos c4]
    ·rw[aM c4,if_neg c4,fH,gP h]
     by_cases c5:b%9223372036854775808<9218868437227405312
     ·rw[dqT c5,if_pos c5];rfl
     ·rw[dqF c5,if_neg c5];rfl
def aJ:dO:=orc3 (pN .i64) (pN .u64) (pN .i64) sp
theorem ok:OK 81 aJ:=(eI E aF (aA Cj.ok aD) func81).Dn rfl spec
end Ll
namespace bMT
def E:=mE [(179,To.aJ)] 15 [] [] []
def aF:=bd f133
theorem aU:Nk E aF:=nk
theorem start a b:aG E f133 aF [D.agg [sc (bool a),ints u32 b]]=letI A:=bM b/\b.length<=1099511627776;aC a (aN A (some [D.agg [sc (bool (decide (0<(b.length:Int)))),ints u64 (M6.dg (val b))]])) (aN A (some [D.agg [sc (bool false),ints u64 (M6.dg (val b))]])):=eJ aU
def sp(x:Bool×List Int):Prop×List D:=(dS x,[wD (zv x)])
theorem spec:iH E f133 aF nT sp:=by
 intro x h;have h:dS x:=h;have l:=h.len;have hz:=cY h.1;refine(start x.1 x.2).trans ?_;obtain⟨b,a⟩:=x
 try dsimp only at *
 show _=some [wD (zs b (val a))];rw[aTZ];cases b with
 |false=>rw[bF,gP ⟨h.1.iA,by omega⟩];rfl
 |true =>
  rw[bT,gP ⟨h.1.iA,by omega⟩,cBO];have:decide (0<(a.length:Int))=decide (val a≠0):=by
   by_cases h:val a=0
   ·rw[dqF (by omega),dqF (by omega)]
   ·rw[dqT (by omega),dqT h]
  rw[this]
def aJ:dO:=orc1 nT sp
theorem ok:OK 133 aJ:=(eI E aF (aA To.ok aD) func133).oV rfl spec
end bMT
namespace aOF
def E:=mE [] 26 [] [(4,[0,1,5])] []
def aF:=bd f75
theorem aU:Nk E aF:=nk
def L4 a b c:=nU E f75 aF 4 [iY a,iY b,bJ c]
theorem start a b:aG E f75 aF [D.s (ints u64 a),D.s (ints u64 b)]=aC ((a.length:Int) !=(b.length:Int)) (some [D.s (sc (bool false))]) (aOF.L4 a b 0):=eJ aU
theorem mG a b c:L4 a b c=aC (decide (c<(a.length:Int))) (if 0<=c/\c<(a.length:Int)then if 0<=c/\c<(b.length:Int)then aC (a.getD c.toNat 0 !=b.getD c.toNat 0) (some [D.s (sc (bool false))]) (aOF.L4 a b (i64.wrap (c+1)))else none else none) (some [D.s (sc (bool true))]):=lJ aU
theorem L{a b:List Int}(hl:a.length=b.length)(h:a.length<=4398046511104):∀(d i:Nat),i+d=a.length->a.take i=b.take i->L4 a b (i:Int)=some [D.s (.sc (.bool (decide (a=b))))]:=by
 intro d
 induction d with
 |zero =>
  intro i hd hv;rw[cFV (by omega),cFV (by omega)]at hv;rw[mG,aM,dqT hv]
 |succ d ih =>
  intro i hd hv;rw[mG,aO,aR,aR,cCJ];have ga:a.getD i 0=a[i]'(by omega):=by simp[cDR,show i<a.length by omega]
  have gb:b.getD i 0=b[i]'(by omega):=by simp[cDR,show i<b.length by omega]
  by_cases hc:a.getD i 0=b.getD i 0
  ·rw[gA hc,wrap_i64];refine ih (i+1) (by omega) ?_;rw[cEP (by omega),cEP (by omega),hv,<-ga,<-gb,hc]
  ·rw[oG hc,dqF (fun h=>hc (by rw[h]))]
def sp(a b:List Int):Prop×List D:=(a.length<=4398046511104/\b.length<=4398046511104,[.s (.sc (.bool (decide (a=b))))])
theorem spec:fF E f75 aF (pI .u64) (pI .u64) sp:=by
 rintro a b ⟨h1,h2⟩;refine(start a b).trans ?_
 by_cases hl:a.length=b.length
 ·rw[gA];exact L hl h1 a.length 0 (by omega) rfl
 ·rw[oG];unfold sp;rw[dqF (fun h=>hl (by rw[h]))]
def aJ:dO:=orc2 (pI .u64) (pI .u64) sp
theorem ok:OK 75 aJ:=(eI E aF aD func75).jZ rfl spec
end aOF
namespace Vh
def E:=mE [(89,aCC.aJ),(133,bMT.aJ),(75,aOF.aJ)] 55 [53] [] []
def aF:=bd f82
theorem aU:Nk E aF:=nk
theorem start a c d e f g b:aG E f82 aF [D.agg [sc (bool a),ints u64 c,sc (int i64 d),sc (bool e),ints u64 f,sc (int i64 g)],D.s (sc (int i64 b))]=letI B:=(isNeg b,dg b.natAbs);letI A:=some [D.s (sc (bool false))];aN ((-9223372036854775808:Int)<=b/\b<9223372036854775808) (aN (dS B) (aB (isNeg (zv B)) fun h=>aB (M6.dg (zv B).natAbs) fun i=>aC (d==0) (aC (g==0) (aC (a==h) (aC (e==h) (aN (c.length<=4398046511104/\i.length<=4398046511104) (aB (decide (c=i)) fun j=>aC j (aN (f.length<=4398046511104/\i.length<=4398046511104) (aB (decide (f=i)) fun k=>some [D.s (sc (bool k))])) A)) A) A) A) A)):=eJ aU
def sp(s:uP)(i:Int):Prop×List D:=((i=0\/i=1)/\dW s/\dv (fO s)=(i,0)/\dv (fR s)=(i,0),[.s (.sc (.bool true))])
theorem spec:fF E f82 aF sP (pN .i64) sp:=by
 rintro s i ⟨hi,hs,h1,h2⟩;have e1:=hs.1.dD;have e2:=hs.2.1.dD;rw[h1]at e1;rw[h2]at e2;unfold M.dD at e1 e2;simp at e1 e2;obtain⟨a1,a2,a3⟩:=e1;obtain⟨b1,b2,b3⟩:=e2;have a1:s.1=isNeg i:=a1.symm;have a2:s.2.1=M6.dg i.natAbs:=a2.symm;have a3:s.2.2.1=0:=a3.symm;have b1:s.2.2.2.1=isNeg i:=b1.symm;have b2:s.2.2.2.2.1=M6.dg i.natAbs:=b2.symm;have b3:s.2.2.2.2.2=0:=b3.symm;refine(start s.1 s.2.1 s.2.2.1 s.2.2.2.1 s.2.2.2.2.1 s.2.2.2.2.2 i).trans ?_;have l:(M6.dg i.natAbs).length<=1:=by rcases hi with rfl |rfl <;> decide +kernel
 have hz:dS (isNeg i,dg i.natAbs):=eA (k:=1) (by rcases hi with rfl |rfl <;> decide +kernel) (by decide);rw[gP,gP hz];simp only[aE,jD];rw[a1,a2,a3,b1,b2,b3,dU rfl,dU rfl,Uw (by simp),Uw (by simp),gP ⟨by omega,by omega⟩,dqT rfl,bT,gP ⟨by omega,by omega⟩];rfl
def aJ:dO:=orc2 sP (pN .i64) sp
theorem ok:OK 82 aJ:=(eI E aF (aA aCC.ok (aA bMT.ok (aA aOF.ok aD))) func82).jZ rfl spec
end Vh
namespace aCO
def E:=mE [(139,Pd.aJ)] 14 [13] [] []
def aF:=bd f87
theorem aU:Nk E aF:=nk
theorem start a c b e f d:aG E f87 aF [D.agg [sc (bool a),ints u32 c],D.s (sc (int i64 b)),D.agg [sc (bool e),ints u32 f],D.s (sc (int i64 d))]=aN (dS (a,c)/\dS (e,f)/\c.length<=1048576/\f.length<=1048576/\((-16777216:Int)<=b/\b<=16777216)/\(-16777216:Int)<=d/\d<=16777216) (some [D.s (sc (int i64 (lR (zv (a,c)) b (zv (e,f)) d)))]):=eJ aU
def sp(m:Bool×List Int)(e:Int)(l:Bool×List Int)(f:Int):Prop×List D:=(dS m/\dS l/\m.2.length<=1048576/\l.2.length<=1048576/\(-16777216<=e/\e<=16777216)/\(-16777216<=f/\f<=16777216),[.s (.sc (.int .i64 (lR (zv m) e (zv l) f)))])
theorem spec:Zg E f87 aF nT (pN .i64) nT (pN .i64) sp:=by
 intro m e l f h;exact(start m.1 m.2 e l.1 l.2 f).trans (gP h)
def aJ:dO:=orc4 nT (pN .i64) nT (pN .i64) sp
theorem ok:OK 87 aJ:=(eI E aF (aA Pd.ok aD) func87).aUP rfl spec
end aCO
namespace Vn
def E:=mE [(143,xN.aJ)] 17 [16] [] []
def aF:=bd f90
theorem aU:Nk E aF:=nk
theorem start a b c d f g h i e:aG E f90 aF [D.s (sc (int i64 a)),D.s (sc (int u64 b)),D.agg [sc (bool c),ints u64 d,sc (int i64 f)],D.agg [sc (bool g),ints u64 h,sc (int i64 i)],D.s (sc (int i64 e))]=aN (aQ (c,d,f)/\aQ (g,h,i)/\(1<=e/\e<=66000)/\xN.Jm a b (dv (c,d,f)) (dv (g,h,i)) e 5 (e+100)) (some [D.s (sc (bool true))]):=eJ aU
def sp(fn b:Int)(l h:fB)(p:Int):Prop×List D:=(aQ l/\aQ h/\(1<=p/\p<=66000)/\xN.Jm fn b (dv l) (dv h) p 5 (p+100),[.s (.sc (.bool true))])
theorem spec(fn b:Int)(l h:fB)(p:Int)(hs:(sp fn b l h p).1):aG E f90 aF [(pN .i64).put fn,(pN .u64).put b,jQ.put l,jQ.put h,(pN .i64).put p]=some (sp fn b l h p).2:=by
 exact(start fn b l.1 l.2.1 l.2.2 h.1 h.2.1 h.2.2 p).trans (gP hs)
def aJ:dO:=orc5 (pN .i64) (pN .u64) jQ jQ (pN .i64) sp
theorem ok:OK 90 aJ:=(eI E aF (aA xN.ok aD) func90).bCS rfl spec
end Vn
namespace Li
def E:=mE [(81,Ll.aJ),(82,Vh.aJ),(83,Cj.aJ),(85,Jv.aJ),(84,Fg.aJ),(86,sH.aJ),(88,Og.aJ),(87,aCO.aJ),(89,aCC.aJ),(90,Vn.aJ)] 105 [24,42,104] [(11,[0,1,2,8])] [11]
def aF:=bd f33
theorem aU:Nk E aF:=nk
def Pr a b c d e f g h i:=lP E f33 aF 11 [bJ a,dR b,bJ c,bK 3 31 [bC d,eR e,cV f,bC g,eR h,cV i]]
theorem start a b c d f g h i j e:aG E f33 aF [D.s (sc (int i64 a)),D.s (sc (int u64 b)),D.s (sc (int i64 c)),D.agg [sc (bool d),ints u64 f,sc (int i64 g),sc (bool h),ints u64 i,sc (int i64 j)],D.s (sc (int i64 e))]=letI H:=dg (M6.val i);letI G:=dg (M6.val f);letI F:=some [D.s (sc (bool true))];letI C:=(d,f,g,h,i,j);letI B:=some [D.s (sc (bool false))];letI A:=aN (((0:Int)=(0:Int)\/(0:Int)=(1:Int))/\dW C/\dv (fO C)=((0:Int),(0:Int))/\dv (fR C)=((0:Int),(0:Int))) F;aN (0<=b/\b<18446744073709551616) (aC (e !=dT.Cn a b c) B (aC (dT.Cn a b c !=0) A (aN (0<=b/\b<18446744073709551616) (aB (b%9223372036854775808==(0:Int)) fun k=>aC k (aC (a==2) (aN (((1:Int)=(0:Int)\/(1:Int)=(1:Int))/\dW C/\dv (fO C)=((1:Int),(0:Int))/\dv (fR C)=((1:Int),(0:Int))) F) (aC (a !=2) A B)) (aN (M6.bM f/\f.length<=274877906944) (aN (cO G/\G.length<=4398046511104) (aB (↑(bl (val G)):Int) fun l=>aC (decide (i64.wrap (c+64)<l)) B (aN (M6.bM i/\i.length<=274877906944) (aN (cO H/\H.length<=4398046511104) (aB (↑(bl (val H)):Int) fun m=>aC (decide (i64.wrap (c+64)<m)) B (Li.Pr a b c d f g h i j))))))))))):=eJ aU
theorem Aa a b c d e f g h i:Pr a b c d e f g h i=letI C:=(d,e,f,g,h,i);letI B:=some [D.s (sc (bool false))];letI A:=aN (aQ (d,e,f)/\aQ (g,h,i)/\(1<=c/\c<=66000)/\xN.Jm a b (dv (d,e,f)) (dv (g,h,i)) c 5 (c+100)) (some [D.s (sc (bool true))]);aN (dW C/\sH.aXA (dv (fO C)) (dv (fR C)) c) (aC (a !=3) (aN (M6.bM e/\e.length<=137438953472) (aB (isNeg (wv (d,e))) fun j=>aB (dg (wv (d,e)).natAbs) fun k=>aN ((-9223372036854775808:Int)<=(-1:Int)/\(-1:Int)<(9223372036854775808:Int)) (aB (isNeg (-1:Int)) fun l=>aN (dS (j,k)/\dS (l,dg 1)/\k.length<=1048576/\(dg 1).length<=1048576/\((-16777216:Int)<=f/\f<=16777216)/\(-16777216:Int)<=(0:Int)/\(0:Int)<=(16777216:Int)) (aB (lR (zv (j,k)) f (zv (l,dg 1)) 0) fun m=>aC (decide (m<0)) B (aN (M6.bM h/\h.length<=137438953472) (aB (isNeg (wv (g,h))) fun n=>aB (dg (wv (g,h)).natAbs) fun o=>aN ((-9223372036854775808:Int)<=(1:Int)/\(1:Int)<(9223372036854775808:Int)) (aN (dS (n,o)/\dS (isNeg 1,dg 1)/\o.length<=1048576/\(dg 1).length<=1048576/\((-16777216:Int)<=i/\i<=16777216)/\(-16777216:Int)<=(0:Int)/\(0:Int)<=(16777216:Int)) (aB (lR (zv (n,o)) i (zv (isNeg 1,dg 1)) 0) fun p=>aC (decide (0<p)) B A)))))))) A):=cJ aU
def sp(fn b p:Int)(s:uP)(e:Int):Prop×List D:=((0<=b/\b<18446744073709551616)/\dW s/\e=dT.Cn fn b p/\dv (fO s)=(bN.An fn b p).1/\dv (fR s)=(bN.An fn b p).2,[.s (.sc (.bool true))])
theorem told{fn b p:Int}{s:uP}(hs:dW s)(hr:Real b)(hf:1<=fn/\fn<=3)(hp:1<=p/\p<=66000)(h1:dv (fO s)=(eE fn (aW.mV b) p).1)(h2:dv (fR s)=(eE fn (aW.mV b) p).2):Pr fn b p s.1 s.2.1 s.2.2.1 s.2.2.2.1 s.2.2.2.2.1 s.2.2.2.2.2=some [.s (.sc (.bool true))]:=by
 have nw:=bCU hr hf hp;have hl:=aYE hr hf hp;have on:=fun h=>bCQ (fn:=fn) (p:=p) hr h hp
 rw[<-h1,<-h2]at nw hl on;have hL:aQ (s.1,s.2.1,s.2.2.1):=hs.1;have hH:aQ (s.2.2.2.1,s.2.2.2.2.1,s.2.2.2.2.2):=hs.2.1;have lL:s.2.1.length<=8192:=hL.len;have lH:s.2.2.2.2.1.length<=8192:=hH.len;have e1:wv (s.1,s.2.1)=(dv (fO s)).1:=rfl;have e2:wv (s.2.2.2.1,s.2.2.2.2.1)=(dv (fR s)).1:=rfl;have e3:s.2.2.1=(dv (fO s)).2:=rfl;have e4:s.2.2.2.2.2=(dv (fR s)).2:=rfl;have pL:=hL.pK;have pH:=hH.pK;have bL:=pL.1;have bH:=pH.1;have xL:=pL.2.1;have xH:=pH.2.1;have c1:dv (s.1,s.2.1,s.2.2.1)=dv (fO s):=rfl;have c2:dv (s.2.2.2.1,s.2.2.2.2.1,s.2.2.2.2.2)=dv (fR s):=rfl;have hh:aQ (s.1,s.2.1,s.2.2.1)/\aQ (s.2.2.2.1,s.2.2.2.2.1,s.2.2.2.2.2)/\(1<=p/\p<=66000)/\xN.Jm fn b (dv (s.1,s.2.1,s.2.2.1)) (dv (s.2.2.2.1,s.2.2.2.2.1,s.2.2.2.2.2)) p 5 (p+100):=⟨hL,hH,hp,hl⟩;rw[c1]at bL xL;rw[c2]at bH xH;have k1:=fJ bL;have k2:=fJ bH;have z1:=eA bL (by decide);have z2:=eA bH (by decide);have zo:dS (isNeg 1,dg 1):=eA (z:=1) (k:=1) (by decide +kernel) (by decide);have zm:dS (isNeg (-1),dg 1):=eA (z:=-1) (k:=1) (by decide +kernel) (by decide);have vo:zv (isNeg 1,dg 1)=1:=jD 1;have vm:zv (isNeg (-1),dg 1)=-1:=jD (-1);have l1:(dg 1).length<=1048576:=by have:(dg 1).length<=1:=cU (by decide);omega
 rw[Aa];refine(gP ⟨hs,nw⟩).trans ?_
 by_cases f3:fn=3
 ·rw[gA f3];exact gP hh
 ·obtain⟨o1,o2⟩:=on (by omega);rw[oG f3,gP ⟨hL.Fi.iA,by omega⟩];simp only[aE,e1,e2,jD,vo,vm];rw[gP ⟨by decide,by decide⟩,gP ⟨z1,zm,by omega,l1,by omega,by decide,by decide⟩,e3,aM o1,gP ⟨hH.Fi.iA,by omega⟩,gP ⟨by decide,by decide⟩,gP ⟨z2,zo,by omega,l1,by omega,by decide,by decide⟩,e4,aM o2];exact gP hh
theorem spec(fn b p:Int)(s:uP)(e:Int)(h:(sp fn b p s e).1):aG E f33 aF [(pN .i64).put fn,(pN .u64).put b,(pN .i64).put p,sP.put s,(pN .i64).put e]=some (sp fn b p s e).2:=by
 obtain⟨hb,hs,he,h1,h2⟩:=h;refine(start fn b p s.1 s.2.1 s.2.2.1 s.2.2.2.1 s.2.2.2.2.1 s.2.2.2.2.2 e).trans ((gP hb).trans ?_);unfold sp;unfold bN.An at h1 h2;rw[gA he];have pt:∀i:Int,(i=0\/i=1)->dv (fO s)=(i,0)->dv (fR s)=(i,0)->(i=0\/i=1)/\dW (s.1,s.2.1,s.2.2.1,s.2.2.2.1,s.2.2.2.2.1,s.2.2.2.2.2)/\dv (fO (s.1,s.2.1,s.2.2.1,s.2.2.2.1,s.2.2.2.2.1,s.2.2.2.2.2))=(i,0)/\dv (fR (s.1,s.2.1,s.2.2.1,s.2.2.2.1,s.2.2.2.2.1,s.2.2.2.2.2))=(i,0):=fun i h a b=>⟨h,hs,a,b⟩
 by_cases c:dT.Cn fn b p=0
 ·rw[bI]at h1 h2;rw[gA c,gP hb,aE,<-Zx c];cases hz:dT.aCW fn b p with
  |true =>
   rw[hz,cond_true]at h1 h2;rw[bT]
   by_cases f2:fn=2
   ·rw[if_pos f2]at h1 h2;rw[dU f2];exact gP (pt 1 (Or.inr rfl) h1 h2)
   ·rw[if_neg f2]at h1 h2;rw[cP f2,oG f2];exact gP (pt 0 (Or.inl rfl) h1 h2)
  |false =>
   rw[hz,cond_false]at h1 h2;obtain⟨hf,hp,v0,v3,v4⟩:=bN.told c hz;have hr:Real b:=⟨hb,v0,v3,v4⟩;obtain⟨q1,q2⟩:=aTI hr hf hp;have lL:s.2.1.length<=8192:=hs.1.len;have lH:s.2.2.2.2.1.length<=8192:=hs.2.1.len;have w1:M6.val s.2.1=(eE fn (aW.mV b) p).1.1.natAbs:=by rw[<-h1];exact(iX (s.1,s.2.1)).symm
   have w2:M6.val s.2.2.2.2.1=(eE fn (aW.mV b) p).2.1.natAbs:=by rw[<-h2];exact(iX (s.2.2.2.1,s.2.2.2.2.1)).symm
   have b1:bl (eE fn (aW.mV b) p).1.1.natAbs<=70000:=by omega
   have b2:bl (eE fn (aW.mV b) p).2.1.natAbs<=70000:=by omega
   have k1:=fJ b1;have k2:=fJ b2;have wp:i64.wrap (p+64)=p+64:=wrap_i64;rw[bF,gP ⟨hs.1.Fi.iA,by omega⟩,w1,w2,gP ⟨bA _,by omega⟩,aE,bD,wp,aM,gP ⟨hs.2.1.Fi.iA,by omega⟩,gP ⟨bA _,by omega⟩,aE,bD,aM];exact told hs hr hf hp h1 h2
 ·rw[if_pos c]at h1 h2;rw[oG c];exact gP (pt 0 (Or.inl rfl) h1 h2)
def aJ:dO:=orc5 (pN .i64) (pN .u64) (pN .i64) sP (pN .i64) sp
theorem ok:OK 33 aJ:=(eI E aF (aA Ll.ok (aA Vh.ok (aA Cj.ok (aA Jv.ok (aA Fg.ok (aA sH.ok (aA Og.ok (aA aCO.ok (aA aCC.ok (aA Vn.ok aD)))))))))) func33).bCS rfl spec
end Li
end W
namespace M
open Go AI W
open Classical in
def kx (b:Int):Int:=if h:∃k,R.pC (R.qz (aW.mV b)) k then Classical.choose h else 0
theorem Kt{b:Int}(h:Real b):R.pC (R.qz (aW.mV b)) (kx b):=by
 obtain⟨k,hk⟩:=uZ (w:=100) h.x (by omega);have e:∃k,R.pC (R.qz (aW.mV b)) k:=⟨k,hk.Pw⟩;unfold kx;rw[dif_pos e];exact Classical.choose_spec e
theorem aBL{fn b p:Int}(h:Real b)(hf:1<=fn/\fn<=3)(hp:1<=p/\p<=66000):bGK fn (aW.mV b) p (kx b):=by
 obtain⟨k,hk⟩:=uZ (w:=p+80) h.x (by omega);rw[R.Zy h.x.fit (Kt h) hk.Pw];exact wZ h.x hp hf hk
def vx(fn b:Int):Rat:=R.fv fn (R.qz (aW.mV b)) (kx b)
def Fm(fn b:Int):Rat:=if b%9223372036854775808=0 then(if fn=2 then 1 else 0)else vx fn b
def aQR(V:Rat):Int:=if 0<V then 1 else if V<0 then -1 else 0
theorem Fx{fn b p:Int}(hb:0<=b/\b<18446744073709551616)(c:dT.Cn fn b p=0)(hz:¬b%9223372036854775808=0):Real b/\(1<=fn/\fn<=3)/\(1<=p/\p<=66000)/\dT.aCW fn b p=false:=by
 have z:=Zx c;rw[beq_eq_false_iff_ne.2 hz]at z;obtain⟨hf,hp,v⟩:=bN.told c z;exact⟨⟨hb,v⟩,hf,hp,z⟩
theorem Nn{fn b p:Int}(c:dT.Cn fn b p=0)(hz:dT.aCW fn b p=false):bN.An fn b p=eE fn (aW.mV b) p:=by
 unfold bN.An;rw[bI,hz,cond_false]
theorem Kz{fn b p:Int}(c:dT.Cn fn b p=0)(hz:b%9223372036854775808=0):bN.An fn b p=if fn=2 then((1,0),(1,0))else((0,0),(0,0)):=by
 unfold bN.An;have z:=Zx c;rw[beq_iff_eq.2 hz]at z;rw[bI,z,cond_true]
theorem aRA:R.qz (0,0)=0:=R.pO rfl
theorem La{fn b p:Int}(hb:0<=b/\b<18446744073709551616)(c:dT.Cn fn b p=0):R.qz (bN.An fn b p).1<=Fm fn b/\Fm fn b<=R.qz (bN.An fn b p).2:=by
 unfold Fm
 by_cases hz:b%9223372036854775808=0
 ·rw[Kz c hz,if_pos hz]
  by_cases f:fn=2
  ·rw[if_pos f,if_pos f,oA];exact⟨cEZ,cEZ⟩
  ·rw[if_neg f,if_neg f,aRA];exact⟨cEZ,cEZ⟩
 ·obtain⟨hr,hf,hp,z⟩:=Fx hb c hz;rw[Nn c z,if_neg hz];have N:=(aBL hr hf hp).bx;have m0:=N.m0;have lo:=N.lo;have hi:=N.hi;unfold vx;constructor <;> grind
theorem p8{p:Int}(hp:1<=p):R.pz (-p-8)<=1/64:=by
 have h1:=R.cK (show -p-8<=-6 by omega);have h2:R.pz (-6)*64=1:=by
  have:=R.gN 0 (n:=6) (c:=64) (by norm_cast);rwa [R.fA]at this
 grind
theorem bFT:cI (0,0) (0,0)=0:=by decide
theorem aQS{fn b p:Int}(hb:0<=b/\b<18446744073709551616)(c:dT.Cn fn b p=0):fW.tR (bN.An fn b p).1 (bN.An fn b p).2=aQR (Fm fn b):=by
 unfold Fm aQR
 by_cases hz:b%9223372036854775808=0
 ·rw[Kz c hz,if_pos hz]
  by_cases f:fn=2
  ·rw[if_pos f,if_pos f,if_pos (by grind)];exact Ma (by rw[oA];grind) cEZ
  ·rw[if_neg f,if_neg f,if_neg (by grind),if_neg (by grind)];unfold fW.tR;rw[bFT];decide
 ·obtain⟨hr,hf,hp,z⟩:=Fx hb c hz;have N:=aBL (p:=p) hr hf hp;rw[Nn c z,if_neg hz];obtain⟨_,_,_,_,sp,sn,V0⟩:=Ev N.bx (p8 hp.1) N.v0;have m0:=N.bx.m0;have lo:=N.bx.lo;have hi:=N.bx.hi;have v0:=N.v0;unfold vx
  by_cases g:0<R.fv fn (R.qz (aW.mV b)) (kx b)
  ·rw[if_pos g];exact Ma (sp g) (by grind)
  ·have g2:R.fv fn (R.qz (aW.mV b)) (kx b)<0:=by grind
   rw[if_neg g,if_pos g2];exact Ss (sn g2)
theorem aWN{fn b:Int}(hb:0<=b/\b<18446744073709551616)(c:dT.Cn fn b 8=0):Oi.bBA fn b=aQR (Fm fn b):=by
 unfold Oi.bBA;rw[bI];exact aQS hb c
end M
namespace W
open Go AI M
namespace Hb
def E:=mE [(62,Ca.aJ)] 9 [] [] []
def aF:=bd f104
theorem aU:Nk E aF:=nk
theorem start a b c d e f:aG E f104 aF [D.agg [sc (bool a),ints u64 b,sc (int i64 c)],D.agg [sc (bool d),ints u64 e,sc (int i64 f)]]=aN (aQ (a,b,c)/\aQ (d,e,f)) (some [D.s (sc (bool (decide (0<cI (dv (a,b,c)) (dv (d,e,f))))))]):=eJ aU
def sp(x y:fB):Prop×List D:=(aQ x/\aQ y,[.s (.sc (.bool (decide (0<cI (dv x) (dv y)))))])
theorem spec:fF E f104 aF jQ jQ sp:=by
 intro x y h;exact(start x.1 x.2.1 x.2.2 y.1 y.2.1 y.2.2).trans (gP h)
def aJ:dO:=orc2 jQ jQ sp
theorem ok:OK 104 aJ:=(eI E aF (aA Ca.ok aD) func104).jZ rfl spec
end Hb
namespace jH
def E:=mE [(104,Hb.aJ)] 25 [] [(3,[1,4,5,12,13,14])] []
def aF:=bd f102
theorem aU:Nk E aF:=nk
def L3 a b c d e (f:Nat) (g:Nat->Bool) (h:Nat->List Int) (j:Nat->Int) k l:=nU E f102 aF 3 [vA (sc (Value.func (Fn.func 104) { toList:=[] } { toList:=[] })),bK 1 29 [bC a,sc (slice none 0 0),cV b],bK 2 29 [bC c,eR d,cV e],(A.v (V.one (L.rows 3 f fun i=>[sc (bool (g i)),ints u64 (h i),sc (int i64 (j i))])),none),bJ k,bJ l]
theorem start(a:fB)(b:fB):aG E f102 aF [D.rows 3 2 fun i=>[sc (bool (t2 a b i).fst),ints u64 (t2 a b i).snd.fst,sc (int i64 (t2 a b i).snd.snd)],D.s (sc (Value.func (Fn.func (104:FuncId)) #[] #[]))]=letI A:=t2 a b (cMC 0);jH.L3 false 0 A.fst A.snd.fst A.snd.snd 1 (fun i=>(t2 a b (cMC 1+i)).fst) (fun i=>(t2 a b (cMC 1+i)).snd.fst) (fun i=>(t2 a b (cMC 1+i)).snd.snd) 1 0:=eJ aU
theorem pE a b c d e f g h j k l:L3 a b c d e f g h j k l=letI A:=(g l.toNat,h l.toNat,j l.toNat);aC (decide (l<k)) (if 0<=l/\l<(f:Int)then aN (aQ A/\aQ (c,d,e)) (aC (decide (0<cI (dv A) (dv (c,d,e)))) (jH.L3 a b (g l.toNat) (h l.toNat) (j l.toNat) f (fun i=>g i) (fun i=>h i) (fun i=>j i) k (i64.wrap (l+1))) (jH.L3 a b c d e f (fun i=>g i) (fun i=>h i) (fun i=>j i) k (i64.wrap (l+1))))else none) (some [D.agg [sc (bool c),ints u64 d,sc (int i64 e)]]):=lJ aU
def gB(f:Nat->fB):Nat->fB
 |0=>f 0
 |k+1=>bif decide (0<cI (dv (f (k+1))) (dv (gB f k)))then f (k+1)else gB f k
def tN(a:fB×fB):fB:=gB (t2 a.1 a.2) 1
def sp(a:fB×fB)(u:Unit):Prop×List D:=(aQ a.1/\aQ a.2,[.agg [.sc (.bool (tN a).1),.ints .u64 (tN a).2.1,.sc (.int .i64 (tN a).2.2)]])
theorem oF{f:Nat->fB}{n:Nat}(hf:∀i,i<n->aQ (f i)):∀k,k<n->aQ (gB f k)
 |0,h=>hf 0 h
 |k+1,h=>by
  unfold gB;cases decide (0<cI (dv (f (k+1))) (dv (gB f k)))
  ·exact oF hf k (by omega)
  ·exact hf (k+1) h
theorem L(b0:Bool)(x1:Int)(n:Nat)(f:Nat->fB)(hn:n<1000)(hf:∀i,i<n+1->aQ (f i)):∀d k:Nat,k+d=n->L3 b0 x1 (gB f k).1 (gB f k).2.1 (gB f k).2.2 n (fun i=>(f (1+i)).1) (fun i=>(f (1+i)).2.1) (fun i=>(f (1+i)).2.2) (n:Int) (k:Int)=some [.agg [.sc (.bool (gB f n).1),.ints .u64 (gB f n).2.1,.sc (.int .i64 (gB f n).2.2)]]
 |0,k,h=>by
  obtain rfl:k=n:=by omega
  rw[pE,aM]
 |d+1,k,h=>by
  have e:i64.wrap ((k:Int)+1)=((k+1:Nat):Int):=by rw[wrap_i64];omega
  have r:=L b0 x1 n f hn hf d (k+1) (by omega);have g1:aQ (f (1+k)):=hf _ (by omega);have g2:aQ (gB f k):=oF hf k (by omega);have c1:f (k+1)=f (1+k):=by rw[cEL]
  rw[pE,aO,aR,cCJ,gP ⟨g1,g2⟩,e]
  by_cases hc:0<cI (dv (f (k+1))) (dv (gB f k))
  ·have hb:gB f (k+1)=f (1+k):=by
    rw[<-c1];show(bif decide (0<cI (dv (f (k+1))) (dv (gB f k)))then f (k+1)else gB f k)=_;rw[dqT hc];rfl
   rw[c1]at hc;rw[aO hc];rw[hb]at r;exact r
  ·have hb:gB f (k+1)=gB f k:=by
    show(bif decide (0<cI (dv (f (k+1))) (dv (gB f k)))then f (k+1)else gB f k)=_;rw[dqF hc];rfl
   rw[c1]at hc;rw[aM hc];rw[hb]at r;exact r
theorem all{a:fB×fB}(h:aQ a.1/\aQ a.2):∀i,i<2->aQ (t2 a.1 a.2 i):=fun i hi=>by
  obtain rfl |rfl:i=0\/i=1:=by omega
  ·exact h.1
  ·exact h.2
theorem zP{a:fB×fB}(h:aQ a.1/\aQ a.2):aQ (tN a):=oF (n:=2) (all h) 1 (by decide)
theorem Nv(a:fB×fB):dv (tN a)=Eo (dv a.1) (dv a.2):=by
 show dv (bif decide (0<cI (dv a.2) (dv a.1))then a.2 else a.1)=bif decide (0<cI (dv a.2) (dv a.1))then dv a.2 else dv a.1
 cases decide (0<cI (dv a.2) (dv a.1)) <;> rfl
theorem spec:fF E f102 aF (aIL (.pair sB (.pair (sI .u64) (sN .i64))) (false,[],0)) (pFn 104) sp:=fun a u h =>
 (start a.1 a.2).trans (L false 0 1 (t2 a.1 a.2) (by decide) (all h) 1 0 (by decide))
def aJ:dO:=orc2 (aIL (.pair sB (.pair (sI .u64) (sN .i64))) (false,[],0)) (pFn 104) sp
theorem ok:OK 102 aJ:=(eI E aF (aA Hb.ok aD) func102).jZ rfl spec
end jH
namespace Ou
def E:=mE [(102,jH.aJ)] 5 [] [] []
def aF:=bd f44
theorem aU:Nk E aF:=nk
theorem start(a:fB)(b:fB):aG E f44 aF [D.rows 3 2 fun i=>[sc (bool (t2 a b i).fst),ints u64 (t2 a b i).snd.fst,sc (int i64 (t2 a b i).snd.snd)]]=letI C:=t2 a b 1;letI B:=t2 a b 0;letI F:=(B.fst,B.snd.fst,B.snd.snd);letI A:=jH.tN (F,C.fst,C.snd.fst,C.snd.snd);aN (aQ F/\aQ (C.fst,C.snd.fst,C.snd.snd)) (some [D.agg [sc (bool A.fst),ints u64 A.snd.fst,sc (int i64 A.snd.snd)]]):=eJ aU
def sp(a:fB×fB):Prop×List D:=(aQ a.1/\aQ a.2,[.agg [.sc (.bool (jH.tN a).1),.ints .u64 (jH.tN a).2.1,.sc (.int .i64 (jH.tN a).2.2)]])
theorem spec:iH E f44 aF (aIL (.pair sB (.pair (sI .u64) (sN .i64))) (false,[],0)) sp:=fun a h =>
 (start a.1 a.2).trans (gP h)
def aJ:dO:=orc1 (aIL (.pair sB (.pair (sI .u64) (sN .i64))) (false,[],0)) sp
theorem ok:OK 44 aJ:=(eI E aF (aA jH.ok aD) func44).oV rfl spec
end Ou
namespace Ha
def E:=mE [(62,Ca.aJ)] 9 [] [] []
def aF:=bd f103
theorem aU:Nk E aF:=nk
theorem start a b c d e f:aG E f103 aF [D.agg [sc (bool a),ints u64 b,sc (int i64 c)],D.agg [sc (bool d),ints u64 e,sc (int i64 f)]]=aN (aQ (a,b,c)/\aQ (d,e,f)) (some [D.s (sc (bool (decide (cI (dv (a,b,c)) (dv (d,e,f))<0))))]):=eJ aU
def sp(x y:fB):Prop×List D:=(aQ x/\aQ y,[.s (.sc (.bool (decide (cI (dv x) (dv y)<0))))])
theorem spec:fF E f103 aF jQ jQ sp:=by
 intro x y h;exact(start x.1 x.2.1 x.2.2 y.1 y.2.1 y.2.2).trans (gP h)
def aJ:dO:=orc2 jQ jQ sp
theorem ok:OK 103 aJ:=(eI E aF (aA Ca.ok aD) func103).jZ rfl spec
end Ha
namespace jO
def E:=mE [(103,Ha.aJ)] 25 [] [(3,[1,4,5,12,13,14])] []
def aF:=bd f102
theorem aU:Nk E aF:=nk
def L3 a b c d e (f:Nat) (g:Nat->Bool) (h:Nat->List Int) (j:Nat->Int) k l:=nU E f102 aF 3 [vA (sc (Value.func (Fn.func 103) { toList:=[] } { toList:=[] })),bK 1 29 [bC a,sc (slice none 0 0),cV b],bK 2 29 [bC c,eR d,cV e],(A.v (V.one (L.rows 3 f fun i=>[sc (bool (g i)),ints u64 (h i),sc (int i64 (j i))])),none),bJ k,bJ l]
theorem start(a:fB)(b:fB):aG E f102 aF [D.rows 3 2 fun i=>[sc (bool (t2 a b i).fst),ints u64 (t2 a b i).snd.fst,sc (int i64 (t2 a b i).snd.snd)],D.s (sc (Value.func (Fn.func (103:FuncId)) #[] #[]))]=letI A:=t2 a b (cMC 0);jO.L3 false 0 A.fst A.snd.fst A.snd.snd 1 (fun i=>(t2 a b (cMC 1+i)).fst) (fun i=>(t2 a b (cMC 1+i)).snd.fst) (fun i=>(t2 a b (cMC 1+i)).snd.snd) 1 0:=eJ aU
theorem pE a b c d e f g h j k l:L3 a b c d e f g h j k l=letI A:=(g l.toNat,h l.toNat,j l.toNat);aC (decide (l<k)) (if 0<=l/\l<(f:Int)then aN (aQ A/\aQ (c,d,e)) (aC (decide (cI (dv A) (dv (c,d,e))<0)) (jO.L3 a b (g l.toNat) (h l.toNat) (j l.toNat) f (fun i=>g i) (fun i=>h i) (fun i=>j i) k (i64.wrap (l+1))) (jO.L3 a b c d e f (fun i=>g i) (fun i=>h i) (fun i=>j i) k (i64.wrap (l+1))))else none) (some [D.agg [sc (bool c),ints u64 d,sc (int i64 e)]]):=lJ aU
def gB(f:Nat->fB):Nat->fB
 |0=>f 0
 |k+1=>bif decide (cI (dv (f (k+1))) (dv (gB f k))<0)then f (k+1)else gB f k
def tN(a:fB×fB):fB:=gB (t2 a.1 a.2) 1
def sp(a:fB×fB)(u:Unit):Prop×List D:=(aQ a.1/\aQ a.2,[.agg [.sc (.bool (tN a).1),.ints .u64 (tN a).2.1,.sc (.int .i64 (tN a).2.2)]])
theorem oF{f:Nat->fB}{n:Nat}(hf:∀i,i<n->aQ (f i)):∀k,k<n->aQ (gB f k)
 |0,h=>hf 0 h
 |k+1,h=>by
  unfold gB;cases decide (cI (dv (f (k+1))) (dv (gB f k))<0)
  ·exact oF hf k (by omega)
  ·exact hf (k+1) h
theorem L(b0:Bool)(x1:Int)(n:Nat)(f:Nat->fB)(hn:n<1000)(hf:∀i,i<n+1->aQ (f i)):∀d k:Nat,k+d=n->L3 b0 x1 (gB f k).1 (gB f k).2.1 (gB f k).2.2 n (fun i=>(f (1+i)).1) (fun i=>(f (1+i)).2.1) (fun i=>(f (1+i)).2.2) (n:Int) (k:Int)=some [.agg [.sc (.bool (gB f n).1),.ints .u64 (gB f n).2.1,.sc (.int .i64 (gB f n).2.2)]]
 |0,k,h=>by
  obtain rfl:k=n:=by omega
  rw[pE,aM]
 |d+1,k,h=>by
  have e:i64.wrap ((k:Int)+1)=((k+1:Nat):Int):=by rw[wrap_i64];omega
  have r:=L b0 x1 n f hn hf d (k+1) (by omega);have g1:aQ (f (1+k)):=hf _ (by omega);have g2:aQ (gB f k):=oF hf k (by omega);have c1:f (k+1)=f (1+k):=by rw[cEL]
  rw[pE,aO,aR,cCJ,gP ⟨g1,g2⟩,e]
  by_cases hc:cI (dv (f (k+1))) (dv (gB f k))<0
  ·have hb:gB f (k+1)=f (1+k):=by
    rw[<-c1];show(bif decide (cI (dv (f (k+1))) (dv (gB f k))<0)then f (k+1)else gB f k)=_;rw[dqT hc];rfl
   rw[c1]at hc;rw[aO hc];rw[hb]at r;exact r
  ·have hb:gB f (k+1)=gB f k:=by
    show(bif decide (cI (dv (f (k+1))) (dv (gB f k))<0)then f (k+1)else gB f k)=_;rw[dqF hc];rfl
   rw[c1]at hc;rw[aM hc];rw[hb]at r;exact r
theorem all{a:fB×fB}(h:aQ a.1/\aQ a.2):∀i,i<2->aQ (t2 a.1 a.2 i):=fun i hi=>by
  obtain rfl |rfl:i=0\/i=1:=by omega
  ·exact h.1
  ·exact h.2
theorem zP{a:fB×fB}(h:aQ a.1/\aQ a.2):aQ (tN a):=oF (n:=2) (all h) 1 (by decide)
theorem Nv(a:fB×fB):dv (tN a)=Jk (dv a.1) (dv a.2):=by
 show dv (bif decide (cI (dv a.2) (dv a.1)<0)then a.2 else a.1)=bif decide (cI (dv a.2) (dv a.1)<0)then dv a.2 else dv a.1
 cases decide (cI (dv a.2) (dv a.1)<0) <;> rfl
theorem spec:fF E f102 aF (aIL (.pair sB (.pair (sI .u64) (sN .i64))) (false,[],0)) (pFn 103) sp:=fun a u h =>
 (start a.1 a.2).trans (L false 0 1 (t2 a.1 a.2) (by decide) (all h) 1 0 (by decide))
def aJ:dO:=orc2 (aIL (.pair sB (.pair (sI .u64) (sN .i64))) (false,[],0)) (pFn 103) sp
theorem ok:OK 102 aJ:=(eI E aF (aA Ha.ok aD) func102).jZ rfl spec
end jO
namespace Ot
def E:=mE [(102,jO.aJ)] 5 [] [] []
def aF:=bd f43
theorem aU:Nk E aF:=nk
theorem start(a:fB)(b:fB):aG E f43 aF [D.rows 3 2 fun i=>[sc (bool (t2 a b i).fst),ints u64 (t2 a b i).snd.fst,sc (int i64 (t2 a b i).snd.snd)]]=letI C:=t2 a b 1;letI B:=t2 a b 0;letI F:=(B.fst,B.snd.fst,B.snd.snd);letI A:=jO.tN (F,C.fst,C.snd.fst,C.snd.snd);aN (aQ F/\aQ (C.fst,C.snd.fst,C.snd.snd)) (some [D.agg [sc (bool A.fst),ints u64 A.snd.fst,sc (int i64 A.snd.snd)]]):=eJ aU
def sp(a:fB×fB):Prop×List D:=(aQ a.1/\aQ a.2,[.agg [.sc (.bool (jO.tN a).1),.ints .u64 (jO.tN a).2.1,.sc (.int .i64 (jO.tN a).2.2)]])
theorem spec:iH E f43 aF (aIL (.pair sB (.pair (sI .u64) (sN .i64))) (false,[],0)) sp:=fun a h =>
 (start a.1 a.2).trans (gP h)
def aJ:dO:=orc1 (aIL (.pair sB (.pair (sI .u64) (sN .i64))) (false,[],0)) sp
theorem ok:OK 43 aJ:=(eI E aF (aA jO.ok aD) func43).oV rfl spec
end Ot
namespace yK
def E:=mE [(45,sE.aJ),(44,Ou.aJ),(43,Ot.aJ),(62,Ca.aJ),(105,Oo.aJ)] 39 [] [(3,[2,3,4])] [3]
def aF:=bd f48
theorem aU:Nk E aF:=nk
def J3 a b c d e f g h i j k l m n o p:=lP E f48 aF 3 [bK 0 31 [bC a,eR b,cV c,bC d,eR e,cV f],bK 1 31 [bC g,eR h,cV i,bC j,eR k,cV l],bK 2 31 [bC m,sc (slice none 0 0),cV n,bC o,sc (slice none 0 0),cV p]]
theorem start a b c d e f g h i j k l:aG E f48 aF [D.agg [sc (bool a),ints u64 b,sc (int i64 c),sc (bool d),ints u64 e,sc (int i64 f)],D.agg [sc (bool g),ints u64 h,sc (int i64 i),sc (bool j),ints u64 k,sc (int i64 l)]]=aN (dW (a,b,c,d,e,f)) (aN (dW (g,h,i,j,k,l)) (yK.J3 a b c d e f g h i j k l false 0 false 0)):=eJ aU
theorem fH a b c d e f g h i j k l m n o p:J3 a b c d e f g h i j k l m n o p=letI F:=bool false;letI C:=int i64 0;letI B:=jO.tN ((d,e,f),j,k,l);letI A:=jH.tN ((a,b,c),g,h,i);aN (aQ (a,b,c)/\aQ (g,h,i)) (aB A.fst fun q=>aB A.snd.fst fun r=>aB A.snd.snd fun s=>aN (aQ (d,e,f)/\aQ (j,k,l)) (aB B.fst fun t=>aB B.snd.fst fun u=>aB B.snd.snd fun v=>aN (aQ (q,r,s)/\aQ (t,u,v)) (aB (cI (dv (q,r,s)) (dv (t,u,v))) fun w=>aC (decide (0<w)) (some [D.agg [sc F,sc (slice none 0 0),sc C,sc F,sc (slice none 0 0),sc C],D.s (sc F),D.s (sc C)]) (aN (r.length<=1099511627776/\u.length<=1099511627776) (some [D.agg [sc (bool q),ints u64 r,sc (int i64 s),sc (bool t),ints u64 u,sc (int i64 v)],D.s (sc (bool true)),D.s (sc C)]))))):=cJ aU
def meet(s t:uP):Bool:=!decide (0<cI (Eo (dv (fO s)) (dv (fO t))) (Jk (dv (fR s)) (dv (fR t))))
def aPL(s t:uP):fB:=jH.tN (fO s,fO t)
def aPM(s t:uP):fB:=jO.tN (fR s,fR t)
def sp(s t:uP):Prop×List D:=(dW s/\dW t,[.agg [.sc (.bool (bif meet s t then(aPL s t).1 else false)),.ints .u64 (bif meet s t then(aPL s t).2.1 else []),.sc (.int .i64 (bif meet s t then(aPL s t).2.2 else 0)),.sc (.bool (bif meet s t then(aPM s t).1 else false)),.ints .u64 (bif meet s t then(aPM s t).2.1 else []),.sc (.int .i64 (bif meet s t then(aPM s t).2.2 else 0))],.s (.sc (.bool (meet s t))),.s (.sc (.int .i64 0))])
theorem spec:Om E f48 aF sP sP sp:=by
 rintro s t ⟨h1,h2⟩;have e:=start s.1 s.2.1 s.2.2.1 s.2.2.2.1 s.2.2.2.2.1 s.2.2.2.2.2 t.1 t.2.1 t.2.2.1 t.2.2.2.1 t.2.2.2.2.1 t.2.2.2.2.2;have g1:aQ (aPL s t):=jH.zP ⟨h1.1,h2.1⟩;have g2:aQ (aPM s t):=jO.zP ⟨h1.2.1,h2.2.1⟩;have l1:=g1.len;have l2:=g2.len;have v1:dv (aPL s t)=Eo (dv (fO s)) (dv (fO t)):=jH.Nv (fO s,fO t);have v2:dv (aPM s t)=Jk (dv (fR s)) (dv (fR t)):=jO.Nv (fR s,fR t);have x1:jH.tN ((s.1,s.2.1,s.2.2.1),t.1,t.2.1,t.2.2.1)=aPL s t:=rfl;have x2:jO.tN ((s.2.2.2.1,s.2.2.2.2.1,s.2.2.2.2.2),t.2.2.2.1,t.2.2.2.2.1,t.2.2.2.2.2)=aPM s t:=rfl;have y1:((aPL s t).1,(aPL s t).2.1,(aPL s t).2.2)=aPL s t:=rfl;have y2:((aPM s t).1,(aPM s t).2.1,(aPM s t).2.2)=aPM s t:=rfl;rw[gP h1,gP h2,fH,gP ⟨h1.1,h2.1⟩]at e;simp only[aE,x1,x2,y1,y2,v1,v2]at e;rw[gP ⟨h1.2.1,h2.2.1⟩,gP ⟨g1,g2⟩]at e;unfold sp
 by_cases c:0<cI (Eo (dv (fO s)) (dv (fO t))) (Jk (dv (fR s)) (dv (fR t)))
 ·have hm:meet s t=false:=by unfold meet;rw[dqT c];rfl
  rw[aO c]at e;refine⟨_,e,?_⟩;dsimp only;rw[hm];exact .cons (Df.agg (.cons (Ez.refl _) (.cons (Ez.nil _) (.cons (Ez.refl _) (.cons (Ez.refl _) (.cons (Ez.nil _) (Ab.refl _))))))) (iZ.refl _)
 ·have hm:meet s t=true:=by unfold meet;rw[dqF c];rfl
  rw[aM c,gP ⟨by omega,by omega⟩]at e;refine⟨_,e,?_⟩;dsimp only;rw[hm];exact iZ.refl _
def aJ:dO:=orc2 sP sP sp
theorem ok:OK 48 aJ:=(eI E aF (aA sE.ok (aA Ou.ok (aA Ot.ok (aA Ca.ok (aA Oo.ok aD))))) func48).aIW rfl spec
end yK
end W
namespace M
open Go AI W
theorem vT{fn b p:Int}(h:b%9223372036854775808<9218868437227405312/\1<=p/\p<=2000)(hf:1<=fn/\fn<=3):dT.Cn fn b p=0:=by
 rw[Lo,bI,bI,bI,bI,if_pos h.1]
end M
namespace W
open Go AI M
namespace rH
def E:=mE [(40,zU.aJ),(41,bZ.aJ),(43,Ot.aJ),(44,Ou.aJ),(49,Ey.aJ),(42,sD.aJ)] 70 [15,67] [(8,[1,2,4,7,9]),(11,[1,4,7,9,11])] [8,11]
def aF:=bd f13
theorem aU:Nk E aF:=nk
def J8 a b c d e f g h i j k l m n o p q:=lP E f13 aF 8 [bJ a,bK 1 31 [bC b,eR c,cV d,bC e,eR f,cV g],bK 2 31 [bC h,sc (slice none 0 0),cV i,bC j,sc (slice none 0 0),cV k],bK 3 29 [bC l,eR m,cV n],bK 4 29 [bC o,eR p,cV q]]
def Pr a b c d e f g h i j k l m:=lP E f13 aF 11 [bJ a,bK 1 31 [bC b,sc (slice none 0 0),cV c,bC d,sc (slice none 0 0),cV e],bK 2 29 [bC f,eR g,cV h],bK 3 29 [bC i,eR j,cV k],bK 4 29 [bC l,sc (slice none 0 0),cV m]]
def bAT a b c d e f g h i j k l m n:=lP E f13 aF 11 [bJ a,bK 1 31 [bC b,sc (slice none 0 0),cV c,bC d,sc (slice none 0 0),cV e],bK 2 29 [bC f,eR g,cV h],bK 3 29 [bC i,eR j,cV k],bK 4 29 [bC l,eR m,cV n]]
theorem start a c d e f g b:aG E f13 aF [D.agg [sc (bool a),ints u64 c,sc (int i64 d),sc (bool e),ints u64 f,sc (int i64 g)],D.s (sc (int i64 b))]=letI K:=int i64 0;letI I:=bool false;letI H:=slice none 0 0;letI G:=dv (a,c,d);letI F:=dv (e,f,g);letI B:=bif bZ.jJ F F then bZ.cX F F else((0:Int),(0:Int));letI A:=bif bZ.jJ G G then bZ.cX G G else((0:Int),(0:Int));aN (dW (a,c,d,e,f,g)) (aB (if 1<=b/\b<=70000 then(0:Int)else(1:Int)) fun h=>aC (h !=0) (some [D.agg [sc I,sc H,sc K,sc I,sc H,sc K],D.s (sc (int i64 h))]) (aN (aQ (a,c,d)/\aQ (a,c,d)) (aB (isNeg A.fst) fun i=>aB (M6.dg A.fst.natAbs) fun j=>aB A.snd fun k=>aB (bif bZ.jJ G G then(0:Int)else(5:Int)) fun l=>aN (aQ (e,f,g)/\aQ (e,f,g)) (aB (isNeg B.fst) fun m=>aB (M6.dg B.fst.natAbs) fun n=>aB B.snd fun o=>aB (bif bZ.jJ F F then(0:Int)else(5:Int)) fun p=>letI C:=some [D.agg [sc I,sc H,sc K,sc I,sc H,sc K],D.s (sc (int i64 (if p>l then p else l)))];aC (l !=0) C (aC (p !=0) C (rH.J8 b a c d e f g false 0 false 0 i j k m n o)))))):=eJ aU
theorem Al a b c d e f g h i j k l m n o p q:J8 a b c d e f g h i j k l m n o p q=letI A:=jO.tN ((l,m,n),o,p,q);aN (aQ (l,m,n)/\aQ (o,p,q)) (aB A.fst fun r=>aB A.snd.fst fun s=>aB A.snd.snd fun t=>letI B:=rH.bAT a h i j k l m n o p q r s t;aN (aQ (b,c,d)) (aB (cI (dv (b,c,d)) ((0:Int),(0:Int))) fun u=>aC (decide (u<=0)) (aN (aQ (e,f,g)) (aB (cI (dv (e,f,g)) ((0:Int),(0:Int))) fun v=>aC (decide (0<=v)) (rH.Pr a h i j k l m n o p q false 0) B)) B)):=cJ aU
theorem Aa a b c d e f g h i j k l m:Pr a b c d e f g h i j k l m=letI B:=M.shD false (dv (l,[],m)) a;letI A:=jH.tN ((f,g,h),i,j,k);aN (aQ (f,g,h)/\aQ (i,j,k)) (aB A.fst fun n=>aB A.snd.fst fun o=>aB A.snd.snd fun p=>letI C:=M.shD true (dv (n,o,p)) a;aN (aQ (l,[],m)/\aQ (n,o,p)/\(1<=a/\a<=70000)/\uE false (dv (l,[],m)) a=true/\uE true (dv (n,o,p)) a=true) (aB (isNeg B.fst) fun q=>aB (M6.dg B.fst.natAbs) fun r=>aB B.snd fun s=>aB (isNeg C.fst) fun t=>aB (M6.dg C.fst.natAbs) fun u=>aB C.snd fun v=>some [D.agg [sc (bool q),ints u64 r,sc (int i64 s),sc (bool t),ints u64 u,sc (int i64 v)],D.s (sc (int i64 0))])):=cJ aU
theorem aTW a b c d e f g h i j k l m n:bAT a b c d e f g h i j k l m n=letI B:=M.shD false (dv (l,m,n)) a;letI A:=jH.tN ((f,g,h),i,j,k);aN (aQ (f,g,h)/\aQ (i,j,k)) (aB A.fst fun o=>aB A.snd.fst fun p=>aB A.snd.snd fun q=>letI C:=M.shD true (dv (o,p,q)) a;aN (aQ (l,m,n)/\aQ (o,p,q)/\(1<=a/\a<=70000)/\uE false (dv (l,m,n)) a=true/\uE true (dv (o,p,q)) a=true) (aB (isNeg B.fst) fun r=>aB (M6.dg B.fst.natAbs) fun s=>aB B.snd fun t=>aB (isNeg C.fst) fun u=>aB (M6.dg C.fst.natAbs) fun v=>aB C.snd fun w=>some [D.agg [sc (bool r),ints u64 s,sc (int i64 t),sc (bool u),ints u64 v,sc (int i64 w)],D.s (sc (int i64 0))])):=cJ aU
def Ea(a b:Int×Int):Int×Int:=bif decide (cI a (0,0)<=0)&&decide (0<=cI b (0,0))then(0,0)else Jk (bZ.cX a a) (bZ.cX b b)
def Eb(a b:Int×Int):Int×Int:=Eo (bZ.cX a a) (bZ.cX b b)
def sp(s:uP)(p:Int):Prop×List D:=(dW s/\(1<=p/\p<=70000)/\(bZ.jJ (dv (fO s)) (dv (fO s))=true/\bZ.jJ (dv (fR s)) (dv (fR s))=true)/\uE false (Ea (dv (fO s)) (dv (fR s))) p=true/\uE true (Eb (dv (fO s)) (dv (fR s))) p=true,[Cr (shD false (Ea (dv (fO s)) (dv (fR s))) p) (shD true (Eb (dv (fO s)) (dv (fR s))) p),.s (.sc (.int .i64 0))])
theorem yZ{p q:Int×Int}(h:bZ.jJ p q=true):nC (bZ.cX p q):=by
 unfold bZ.jJ at h;rw[bYT]at h;exact jE h.2 (of_decide_eq_true h.1)
theorem spec:fF E f13 aF sP (pN .i64) sp:=by
 rintro s p ⟨h1,hp,⟨m1,m2⟩,i1,i2⟩;have hL:aQ (s.1,s.2.1,s.2.2.1):=h1.1;have hH:aQ (s.2.2.2.1,s.2.2.2.2.1,s.2.2.2.2.2):=h1.2.1;refine(start s.1 s.2.1 s.2.2.1 s.2.2.2.1 s.2.2.2.2.1 s.2.2.2.2.2 p).trans ?_;unfold sp Ea Eb at *;dsimp only at *;unfold fO fR at *;generalize ha:dv (s.1,s.2.1,s.2.2.1)=a at *;generalize hb:dv (s.2.2.2.1,s.2.2.2.2.1,s.2.2.2.2.2)=b at *;rw[gP h1,aE,if_pos hp,gA rfl,gP ⟨hL,hL⟩];simp only[aE,ha,hb,m1,m2,cond_true];rw[gP ⟨hH,hH⟩,gA rfl,gA rfl];have d1:=eQ (yZ m1);have d2:=eQ (yZ m2);have e1:=fK (bZ.cX a a);have e2:=fK (bZ.cX b b);have v1:=jO.Nv ((isNeg (bZ.cX a a).1,M6.dg (bZ.cX a a).1.natAbs,(bZ.cX a a).2),(isNeg (bZ.cX b b).1,M6.dg (bZ.cX b b).1.natAbs,(bZ.cX b b).2));have v2:=jH.Nv ((isNeg (bZ.cX a a).1,M6.dg (bZ.cX a a).1.natAbs,(bZ.cX a a).2),(isNeg (bZ.cX b b).1,M6.dg (bZ.cX b b).1.natAbs,(bZ.cX b b).2));have k1:=jO.zP (a:=((isNeg (bZ.cX a a).1,M6.dg (bZ.cX a a).1.natAbs,(bZ.cX a a).2),(isNeg (bZ.cX b b).1,M6.dg (bZ.cX b b).1.natAbs,(bZ.cX b b).2))) ⟨d1,d2⟩;have k2:=jH.zP (a:=((isNeg (bZ.cX a a).1,M6.dg (bZ.cX a a).1.natAbs,(bZ.cX a a).2),(isNeg (bZ.cX b b).1,M6.dg (bZ.cX b b).1.natAbs,(bZ.cX b b).2))) ⟨d1,d2⟩;dsimp only at v1 v2;rw[e1,e2]at v1 v2;have fin:∀x:fB,aQ x->uE false (dv x) p=true->bAT p false 0 false 0 (isNeg (bZ.cX a a).1) (M6.dg (bZ.cX a a).1.natAbs) (bZ.cX a a).2 (isNeg (bZ.cX b b).1) (M6.dg (bZ.cX b b).1.natAbs) (bZ.cX b b).2 x.1 x.2.1 x.2.2=some [Cr (shD false (dv x) p) (shD true (Eo (bZ.cX a a) (bZ.cX b b)) p),.s (.sc (.int .i64 0))]:=by
  intro x hx ix;rw[aTW,gP ⟨d1,d2⟩];simp only[aE];rw[gP ⟨hx,k2,hp,ix,by rw[v2];exact i2⟩,v2];rfl
 have zz:dv (false,[],0)=(0,0):=rfl;have dz:aQ (false,[],0):=by
  have:=eQ aKQ;rw[show((0,0):Int×Int).1.natAbs=0 from rfl,M6.cL]at this;exact this
 have bMJ:uE false (0,0) p=true->Pr p false 0 false 0 (isNeg (bZ.cX a a).1) (M6.dg (bZ.cX a a).1.natAbs) (bZ.cX a a).2 (isNeg (bZ.cX b b).1) (M6.dg (bZ.cX b b).1.natAbs) (bZ.cX b b).2 false 0=some [Cr (shD false (0,0) p) (shD true (Eo (bZ.cX a a) (bZ.cX b b)) p),.s (.sc (.int .i64 0))]:=by
  intro ix;rw[Aa,gP ⟨d1,d2⟩];simp only[aE];rw[gP ⟨dz,k2,hp,by rw[zz];exact ix,by rw[v2];exact i2⟩,v2,zz];rfl
 rw[Al,gP ⟨d1,d2⟩];simp only[aE,ha,hb];rw[gP hL]
 by_cases c1:cI a (0,0)<=0
 ·rw[aO c1,gP hH];rw[dqT c1,cBO]at i1 ⊢
  by_cases c2:0<=cI b (0,0)
  ·rw[aO c2];rw[dqT c2,cond_true]at i1 ⊢;exact bMJ i1
  ·rw[aM c2];rw[dqF c2,cond_false]at i1 ⊢;rw[<-v1]at i1 ⊢;exact fin _ k1 i1
 ·rw[aM c1];rw[dqF c1,cDW,cond_false]at i1 ⊢;rw[<-v1]at i1 ⊢;exact fin _ k1 i1
def aJ:dO:=orc2 sP (pN .i64) sp
theorem ok:OK 13 aJ:=(eI E aF (aA zU.ok (aA bZ.ok (aA Ot.ok (aA Ou.ok (aA Ey.ok (aA sD.ok aD)))))) func13).jZ rfl spec
end rH
end W
namespace M
open Go AI W
theorem Cs(a b:Int×Int):R.qz (bZ.cX a b)=R.qz a*R.qz b:=by
 unfold bZ.cX;rw[qB,cJA,R.iK];unfold R.qz;grind
theorem bCM(x:Rat):0<=x*x:=by
 by_cases h:0<=x
 ·exact R.aI h h
 ·have:=R.aI (show 0<=-x by grind) (show 0<=-x by grind);grind
theorem aWI{a b:Int×Int}{V:Rat}(h1:R.qz a<=V)(h2:V<=R.qz b):R.qz (rH.Ea a b)<=V*V/\V*V<=R.qz (rH.Eb a b):=by
 constructor
 ·unfold rH.Ea
  by_cases c:cI a (0,0)<=0/\0<=cI b (0,0)
  ·rw[dqT c.1,dqT c.2,Bool.and_true,cond_true,aRA];exact bCM V
  ·have e:(decide (cI a (0,0)<=0)&&decide (0<=cI b (0,0)))=false:=by
    by_cases d:cI a (0,0)<=0
    ·rw[dqT d,dqF (fun h=>c ⟨d,h⟩)];rfl
    ·rw[dqF d];rfl
   rw[e,cond_false];obtain⟨l1,l2⟩:=Tp (bZ.cX a a) (bZ.cX b b);rw[Cs]at l1 l2
   by_cases d:cI a (0,0)<=0
   ·have d2:cI b (0,0)<0:=by
     refine Int.not_le.1 fun h=>c ⟨d,h⟩
    rw[zK,aRA]at d2;have:=R.aI (show 0<=R.qz b-V by grind) (show 0<=-R.qz b-V by grind);grind
   ·have d1:0<cI a (0,0):=by omega
    rw[rU,aRA]at d1;have:=R.aI (show 0<=V-R.qz a by grind) (show 0<=V+R.qz a by grind);grind
 ·unfold rH.Eb;have g:R.qz (bZ.cX a a)<=R.qz (Eo (bZ.cX a a) (bZ.cX b b))/\R.qz (bZ.cX b b)<=R.qz (Eo (bZ.cX a a) (bZ.cX b b)):=by
   unfold Eo
   by_cases d:0<cI (bZ.cX b b) (bZ.cX a a)
   ·rw[dqT d,cond_true];rw[rU]at d;exact⟨cDU d,cEZ⟩
   ·rw[dqF d,cond_false];rw[rU]at d;exact⟨cEZ,by grind⟩
  rw[Cs,Cs]at g
  by_cases d:0<=V
  ·have:=R.aI (show 0<=R.qz b-V by grind) (show 0<=R.qz b+V by grind);grind
  ·have:=R.aI (show 0<=V-R.qz a by grind) (show 0<=-R.qz a-V by grind);grind
end M
namespace W
open Go AI M
namespace bAE
def E:=mE [(40,vJ.aJ),(26,cB.aJ),(42,sD.aJ)] 54 [17,51] [] []
def aF:=bd f14
theorem aU:Nk E aF:=nk
theorem start a b d e f g h i j k l m c:aG E f14 aF [D.agg [sc (bool a),ints u64 b,sc (int i64 d),sc (bool e),ints u64 f,sc (int i64 g)],D.agg [sc (bool h),ints u64 i,sc (int i64 j),sc (bool k),ints u64 l,sc (int i64 m)],D.s (sc (int i64 c))]=letI Q:=dv (h,i,j);letI P:=dv (a,b,d);letI O:=dv (k,l,m);letI N:=dv (e,f,g);letI K:=bool false;letI I:=int i64 0;letI H:=slice none 0 0;letI B:=bif cB.jW N O then cB.kI N O else((0:Int),(0:Int));letI A:=bif cB.jW P Q then cB.kI P Q else((0:Int),(0:Int));aN (dW (a,b,d,e,f,g)/\dW (h,i,j,k,l,m)) (aB (if 1<=c/\c<=70000 then(0:Int)else(1:Int)) fun n=>aC (n !=0) (some [D.agg [sc K,sc H,sc I,sc K,sc H,sc I],D.s (sc (int i64 n))]) (aN (aQ (a,b,d)/\aQ (h,i,j)) (aB (isNeg A.fst) fun o=>aB (M6.dg A.fst.natAbs) fun p=>aB A.snd fun q=>letI F:=M.shD false (dv (o,p,q)) c;aB (bif cB.jW P Q then(0:Int)else(5:Int)) fun r=>aN (aQ (e,f,g)/\aQ (k,l,m)) (aB (isNeg B.fst) fun s=>aB (M6.dg B.fst.natAbs) fun t=>aB B.snd fun u=>letI G:=M.shD true (dv (s,t,u)) c;aB (bif cB.jW N O then(0:Int)else(5:Int)) fun v=>letI C:=some [D.agg [sc K,sc H,sc I,sc K,sc H,sc I],D.s (sc (int i64 (if v>r then v else r)))];aC (r !=0) C (aC (v !=0) C (aN (aQ (o,p,q)/\aQ (s,t,u)/\(1<=c/\c<=70000)/\uE false (dv (o,p,q)) c=true/\uE true (dv (s,t,u)) c=true) (aB (isNeg F.fst) fun w=>aB (M6.dg F.fst.natAbs) fun x=>aB F.snd fun y=>aB (isNeg G.fst) fun z=>aB (M6.dg G.fst.natAbs) fun aa=>aB G.snd fun ab=>some [D.agg [sc (bool w),ints u64 x,sc (int i64 y),sc (bool z),ints u64 aa,sc (int i64 ab)],D.s (sc I)]))))))):=eJ aU
def sp(s t:uP)(p:Int):Prop×List D:=(dW s/\dW t/\(1<=p/\p<=70000)/\(cB.jW (dv (fO s)) (dv (fO t))=true/\cB.jW (dv (fR s)) (dv (fR t))=true)/\uE false (cB.kI (dv (fO s)) (dv (fO t))) p=true/\uE true (cB.kI (dv (fR s)) (dv (fR t))) p=true,[Cr (shD false (cB.kI (dv (fO s)) (dv (fO t))) p) (shD true (cB.kI (dv (fR s)) (dv (fR t))) p),.s (.sc (.int .i64 0))])
theorem spec:uQ E f14 aF sP sP (pN .i64) sp:=by
 rintro s t p ⟨h1,h2,hp,⟨a1,a2⟩,i1,i2⟩;have bYA:cB.jW (dv (s.1,s.2.1,s.2.2.1)) (dv (t.1,t.2.1,t.2.2.1))=true:=a1;have bGB:cB.jW (dv (s.2.2.2.1,s.2.2.2.2.1,s.2.2.2.2.2)) (dv (t.2.2.2.1,t.2.2.2.2.1,t.2.2.2.2.2))=true:=a2;refine(start s.1 s.2.1 s.2.2.1 s.2.2.2.1 s.2.2.2.2.1 s.2.2.2.2.2 t.1 t.2.1 t.2.2.1 t.2.2.2.1 t.2.2.2.2.1 t.2.2.2.2.2 p).trans ?_;rw[gP ⟨h1,h2⟩,aE,if_pos hp,gA rfl,gP ⟨h1.1,h2.1⟩];simp only[aE,bYA,bGB,cond_true];rw[gP ⟨h1.2.1,h2.2.1⟩,gA rfl,gA rfl];have d1:=eQ (Cu h1.1.pK h2.1.pK a1);have d2:=eQ (Cu h1.2.1.pK h2.2.1.pK a2);have e1:=fK (cB.kI (dv (fO s)) (dv (fO t)));have e2:=fK (cB.kI (dv (fR s)) (dv (fR t)));unfold fO at d1 e1;unfold fR at d2 e2;rw[gP ⟨d1,d2,hp,by rw[e1];exact i1,by rw[e2];exact i2⟩,e1,e2];rfl
def aJ:dO:=orc3 sP sP (pN .i64) sp
theorem ok:OK 14 aJ:=(eI E aF (aA vJ.ok (aA cB.ok (aA sD.ok aD))) func14).Dn rfl spec
end bAE
end W
namespace M
open Go AI W
structure wT(x:Int×Int)(n:Nat)(E:Int)(B:Rat):Prop where
 pK:nC x
 bl:bl x.1.natAbs<=n
 e:E<=x.2
 b:R.ab (R.qz x)<=B
theorem Ky{fn b p:Int}(hb:0<=b/\b<18446744073709551616)(h:b%9223372036854775808<9218868437227405312/\1<=p/\p<=2000)(hf:1<=fn/\fn<=2):wT (bN.An fn b p).1 2021 (-3200) 1/\wT (bN.An fn b p).2 2021 (-3200) 1:=by
 have c:=vT (fn:=fn) h (by omega)
 by_cases hz:b%9223372036854775808=0
 ·rw[Kz c hz]
  by_cases f:fn=2
  ·rw[if_pos f];have q:wT (1,0) 2021 (-3200) 1:=⟨bN.aEE,bZJ aZV (by decide),by decide,by rw[oA,R.bQ (by grind)];exact cEZ⟩;exact⟨q,q⟩
  ·rw[if_neg f];have q:wT (0,0) 2021 (-3200) 1:=⟨bN.Ww,by show bl 0<=_;rw[zQ];omega,by decide,by rw[aRA,R.bQ cEZ];grind⟩;exact⟨q,q⟩
 ·obtain⟨hr,_,hp,z⟩:=Fx hb c hz;rw[Nn c z];have N:=aBL (p:=p) hr ⟨hf.1,by omega⟩ hp;obtain⟨c1,c2⟩:=N.bits;obtain⟨o1,o2⟩:=N.on hf.2;have vl:=N.vl;have q:=R.oW (-1100);rw[show(-1100:Int)-1=-1101 by rfl]at q;obtain⟨a1,a2,a3,a4,_,_,V0⟩:=Ev N.bx (p8 hp.1) N.v0;have P:=R.dK (-1101);have pl:=N.bx.pl;have ph:=N.bx.ph;have k:∀x:Int×Int,nC x->(bl x.1.natAbs:Int)<=p+21->R.ab (R.qz x)<=1->R.pz (-1101)<=R.ab (R.qz x)->wT x 2021 (-3200) 1:=by
   intro x hx aMH h1 h0;have n0:x.1≠0:=Be (by grind);have t:=yV n0 h0;unfold bG at t;exact⟨hx,by omega,by omega,h1⟩
  exact⟨k _ pl c1 o1 (by grind),k _ ph c2 o2 (by grind)⟩
theorem Kr{a:Int×Int}(h:wT a 2021 (-3200) 1):bZ.jJ a a=true/\wT (bZ.cX a a) 4042 (-6400) 1:=by
 have b:=bZJ (mK a.1.natAbs a.1.natAbs) (cMT h.bl h.bl);rw[<-cEC]at b;have he:=h.e;have eU:=h.pK.2.1;have i:jR (a.1*a.1) (a.2+a.2)=true:=by
  have:=h.pK;refine kZ (by omega) ?_
  by_cases z:a.1=0
  ·have:=h.pK.2.2.1 z;rw[z,this];show(0:Int)+0+((bl (0*0:Int).natAbs:Nat):Int)<=1048577;decide
  ·have t:bG a<=0:=qK z (by rw[R.fA];exact h.b);have:=mY (n:=a.1.natAbs) (by omega);unfold bG at t;omega
 refine⟨?_,?_,?_,?_,?_⟩
 ·unfold bZ.jJ fit;rw[i,dqT (by omega)];rfl
 ·exact jE i (by omega)
 ·exact bZJ (zB _ _) b
 ·unfold bZ.cX
  by_cases z:a.1*a.1=0
  ·rw[z,iN];decide
  ·have:=vB (e:=a.2+a.2) z;omega
 ·rw[Cs,R.dV];have h0:=R.aT (R.qz a);have h1:=h.b;have:=R.aI h0 (show 0<=1-R.ab (R.qz a) by grind);grind
theorem aWJ{a b:Int×Int}(ha:wT a 2021 (-3200) 1)(hb:wT b 2021 (-3200) 1):wT (rH.Ea a b) 4042 (-6400) 1/\wT (rH.Eb a b) 4042 (-6400) 1:=by
 have q:wT (0,0) 4042 (-6400) 1:=⟨bN.Ww,by show bl 0<=_;rw[zQ];omega,by decide,by rw[aRA,R.bQ cEZ];grind⟩;have x:=(Kr ha).2;have y:=(Kr hb).2;constructor
 ·unfold rH.Ea;cases (decide (cI a (0,0)<=0)&&decide (0<=cI b (0,0)))
  ·rw[cond_false];rcases aAR (bZ.cX a a) (bZ.cX b b)with h |h <;> rw[h] <;> assumption
  ·exact q
 ·unfold rH.Eb;rcases aBH (bZ.cX a a) (bZ.cX b b)with h |h <;> rw[h] <;> assumption
theorem aQQ{up:Bool}{x:Int×Int}{n E:Int}(h:E<=x.2)(h0:E<=0):E<=(shD up x n).2:=by
 unfold shD dC.pM;split
 ·by_cases z:x.1=0
  ·rw[z,iN];exact h0
  ·exact Int.le_trans h (vB z)
 ·dsimp only;rename_i hk;generalize lG.rD up x.1 ((bl x.1.natAbs:Int)-n).toNat=c
  by_cases z:c=0
  ·rw[z,iN];exact h0
  ·have:=vB (e:=x.2+((bl x.1.natAbs:Int)-n)) z;omega
theorem aQN{a b:Int×Int}{V:Rat}{n:Int}(ha:wT a 2021 (-3200) 1)(hb:wT b 2021 (-3200) 1)(h1:R.qz a<=V)(h2:V<=R.qz b)(hn:1<=n/\n<=70000) :
  uE false (rH.Ea a b) n=true/\uE true (rH.Eb a b) n=true/\(∃W,Bx (shD false (rH.Ea a b) n,shD true (rH.Eb a b) n) (V*V) W 0)/\wT (shD false (rH.Ea a b) n) 70001 (-6400) 1/\wT (shD true (rH.Eb a b) n) 70001 (-6400) 1:=by
 obtain⟨f1,f2⟩:=aWJ ha hb;obtain⟨q1,q2⟩:=aWI h1 h2;have B:Bx (rH.Ea a b,rH.Eb a b) (V*V) (R.qz (rH.Eb a b)-R.qz (rH.Ea a b)) 0:=⟨f1.pK,f2.pK,bZJ f1.bl (by decide),bZJ f2.bl (by decide),cEZ,by grind,by grind,cEZ⟩;have aFV:(1:Rat)<=R.pz 1100:=by rw[<-R.fA];exact R.cK (by decide)
 obtain⟨i1,i2,bx⟩:=Td B hn (by have:=f1.b;dsimp only;grind) (by have:=f2.b;dsimp only;grind);obtain⟨k,rfl⟩:=cDO (show 0<=n by omega);have bFX:=vV false (rH.Ea a b) k;have bHR:=vV true (rH.Eb a b) k;exact⟨i1,i2,⟨_,bx⟩,⟨bx.pl,by omega,aQQ f1.e (by decide),Hr hn.1 f1.b⟩,⟨bx.ph,by omega,aQQ f2.e (by decide),Hr hn.1 f2.b⟩⟩
theorem Xd{q:Int×Int}{n:Nat}(hb:bl q.1.natAbs<=n+1)(hn:n<=2100)(h:1/2<=R.qz q):-3000<=q.2:=by
 have n0:q.1≠0:=Gf (by grind);have t:-1<=bG q:=yV n0 (by
  rw[R.bQ (by grind)];have:=R.oW 0;rw[R.fA,show(0:Int)-1=-1 by rfl]at this;grind)
 unfold bG at t;omega
end M
namespace W
open Go AI M
namespace lU
def E:=mE [(103,Ha.aJ)] 25 [] [(3,[1,4,5,12,13,14])] []
def aF:=bd f102
theorem aU:Nk E aF:=nk
def L3 a b c d e (f:Nat) (g:Nat->Bool) (h:Nat->List Int) (j:Nat->Int) k l:=nU E f102 aF 3 [vA (sc (Value.func (Fn.func 103) { toList:=[] } { toList:=[] })),bK 1 29 [bC a,sc (slice none 0 0),cV b],bK 2 29 [bC c,eR d,cV e],(A.v (V.one (L.rows 3 f fun i=>[sc (bool (g i)),ints u64 (h i),sc (int i64 (j i))])),none),bJ k,bJ l]
theorem start(a:fB)(b:fB)(c:fB)(d:fB):aG E f102 aF [D.rows 3 4 fun i=>[sc (bool (t4 a b c d i).fst),ints u64 (t4 a b c d i).snd.fst,sc (int i64 (t4 a b c d i).snd.snd)],D.s (sc (Value.func (Fn.func (103:FuncId)) #[] #[]))]=letI A:=t4 a b c d (cMC 0);lU.L3 false 0 A.fst A.snd.fst A.snd.snd 3 (fun i=>(t4 a b c d (cMC 1+i)).fst) (fun i=>(t4 a b c d (cMC 1+i)).snd.fst) (fun i=>(t4 a b c d (cMC 1+i)).snd.snd) 3 0:=eJ aU
theorem pE a b c d e f g h j k l:L3 a b c d e f g h j k l=letI A:=(g l.toNat,h l.toNat,j l.toNat);aC (decide (l<k)) (if 0<=l/\l<(f:Int)then aN (aQ A/\aQ (c,d,e)) (aC (decide (cI (dv A) (dv (c,d,e))<0)) (lU.L3 a b (g l.toNat) (h l.toNat) (j l.toNat) f (fun i=>g i) (fun i=>h i) (fun i=>j i) k (i64.wrap (l+1))) (lU.L3 a b c d e f (fun i=>g i) (fun i=>h i) (fun i=>j i) k (i64.wrap (l+1))))else none) (some [D.agg [sc (bool c),ints u64 d,sc (int i64 e)]]):=lJ aU
def gB(f:Nat->fB):Nat->fB
 |0=>f 0
 |k+1=>bif decide (cI (dv (f (k+1))) (dv (gB f k))<0)then f (k+1)else gB f k
def tN(a:fB×fB×fB×fB):fB:=gB (t4 a.1 a.2.1 a.2.2.1 a.2.2.2) 3
def sp(a:fB×fB×fB×fB)(u:Unit):Prop×List D:=(aQ a.1/\aQ a.2.1/\aQ a.2.2.1/\aQ a.2.2.2,[.agg [.sc (.bool (tN a).1),.ints .u64 (tN a).2.1,.sc (.int .i64 (tN a).2.2)]])
theorem oF{f:Nat->fB}{n:Nat}(hf:∀i,i<n->aQ (f i)):∀k,k<n->aQ (gB f k)
 |0,h=>hf 0 h
 |k+1,h=>by
  unfold gB;cases decide (cI (dv (f (k+1))) (dv (gB f k))<0)
  ·exact oF hf k (by omega)
  ·exact hf (k+1) h
theorem L(b0:Bool)(x1:Int)(n:Nat)(f:Nat->fB)(hn:n<1000)(hf:∀i,i<n+1->aQ (f i)):∀d k:Nat,k+d=n->L3 b0 x1 (gB f k).1 (gB f k).2.1 (gB f k).2.2 n (fun i=>(f (1+i)).1) (fun i=>(f (1+i)).2.1) (fun i=>(f (1+i)).2.2) (n:Int) (k:Int)=some [.agg [.sc (.bool (gB f n).1),.ints .u64 (gB f n).2.1,.sc (.int .i64 (gB f n).2.2)]]
 |0,k,h=>by
  obtain rfl:k=n:=by omega
  rw[pE,aM]
 |d+1,k,h=>by
  have e:i64.wrap ((k:Int)+1)=((k+1:Nat):Int):=by rw[wrap_i64];omega
  have r:=L b0 x1 n f hn hf d (k+1) (by omega);have g1:aQ (f (1+k)):=hf _ (by omega);have g2:aQ (gB f k):=oF hf k (by omega);have c1:f (k+1)=f (1+k):=by rw[cEL]
  rw[pE,aO,aR,cCJ,gP ⟨g1,g2⟩,e]
  by_cases hc:cI (dv (f (k+1))) (dv (gB f k))<0
  ·have hb:gB f (k+1)=f (1+k):=by
    rw[<-c1];show(bif decide (cI (dv (f (k+1))) (dv (gB f k))<0)then f (k+1)else gB f k)=_;rw[dqT hc];rfl
   rw[c1]at hc;rw[aO hc];rw[hb]at r;exact r
  ·have hb:gB f (k+1)=gB f k:=by
    show(bif decide (cI (dv (f (k+1))) (dv (gB f k))<0)then f (k+1)else gB f k)=_;rw[dqF hc];rfl
   rw[c1]at hc;rw[aM hc];rw[hb]at r;exact r
theorem all{a:fB×fB×fB×fB}(h:aQ a.1/\aQ a.2.1/\aQ a.2.2.1/\aQ a.2.2.2):∀i,i<4->aQ (t4 a.1 a.2.1 a.2.2.1 a.2.2.2 i):=fun i hi=>by
  obtain rfl |rfl |rfl |rfl:i=0\/i=1\/i=2\/i=3:=by omega
  ·exact h.1
  ·exact h.2.1
  ·exact h.2.2.1
  ·exact h.2.2.2
theorem zP{a:fB×fB×fB×fB}(h:aQ a.1/\aQ a.2.1/\aQ a.2.2.1/\aQ a.2.2.2):aQ (tN a):=oF (n:=4) (all h) 3 (by decide)
theorem spec:fF E f102 aF (aUN (.pair sB (.pair (sI .u64) (sN .i64))) (false,[],0)) (pFn 103) sp:=fun a u h =>
 (start a.1 a.2.1 a.2.2.1 a.2.2.2).trans (L false 0 3 (t4 a.1 a.2.1 a.2.2.1 a.2.2.2) (by decide) (all h) 3 0 (by decide))
def aJ:dO:=orc2 (aUN (.pair sB (.pair (sI .u64) (sN .i64))) (false,[],0)) (pFn 103) sp
theorem ok:OK 102 aJ:=(eI E aF (aA Ha.ok aD) func102).jZ rfl spec
end lU
namespace Ve
def E:=mE [(102,lU.aJ)] 5 [] [] []
def aF:=bd f43
theorem aU:Nk E aF:=nk
theorem start(a:fB)(b:fB)(c:fB)(d:fB):aG E f43 aF [D.rows 3 4 fun i=>[sc (bool (t4 a b c d i).fst),ints u64 (t4 a b c d i).snd.fst,sc (int i64 (t4 a b c d i).snd.snd)]]=letI G:=t4 a b c d 3;letI F:=t4 a b c d 2;letI K:=(F.fst,F.snd.fst,F.snd.snd);letI C:=t4 a b c d 1;letI I:=(C.fst,C.snd.fst,C.snd.snd);letI B:=t4 a b c d 0;letI H:=(B.fst,B.snd.fst,B.snd.snd);letI A:=lU.tN (H,I,K,G.fst,G.snd.fst,G.snd.snd);aN (aQ H/\aQ I/\aQ K/\aQ (G.fst,G.snd.fst,G.snd.snd)) (some [D.agg [sc (bool A.fst),ints u64 A.snd.fst,sc (int i64 A.snd.snd)]]):=eJ aU
def sp(a:fB×fB×fB×fB):Prop×List D:=(aQ a.1/\aQ a.2.1/\aQ a.2.2.1/\aQ a.2.2.2,[.agg [.sc (.bool (lU.tN a).1),.ints .u64 (lU.tN a).2.1,.sc (.int .i64 (lU.tN a).2.2)]])
theorem spec:iH E f43 aF (aUN (.pair sB (.pair (sI .u64) (sN .i64))) (false,[],0)) sp:=fun a h =>
 (start a.1 a.2.1 a.2.2.1 a.2.2.2).trans (gP h)
def aJ:dO:=orc1 (aUN (.pair sB (.pair (sI .u64) (sN .i64))) (false,[],0)) sp
theorem ok:OK 43 aJ:=(eI E aF (aA lU.ok aD) func43).oV rfl spec
end Ve
namespace lV
def E:=mE [(104,Hb.aJ)] 25 [] [(3,[1,4,5,12,13,14])] []
def aF:=bd f102
theorem aU:Nk E aF:=nk
def L3 a b c d e (f:Nat) (g:Nat->Bool) (h:Nat->List Int) (j:Nat->Int) k l:=nU E f102 aF 3 [vA (sc (Value.func (Fn.func 104) { toList:=[] } { toList:=[] })),bK 1 29 [bC a,sc (slice none 0 0),cV b],bK 2 29 [bC c,eR d,cV e],(A.v (V.one (L.rows 3 f fun i=>[sc (bool (g i)),ints u64 (h i),sc (int i64 (j i))])),none),bJ k,bJ l]
theorem start(a:fB)(b:fB)(c:fB)(d:fB):aG E f102 aF [D.rows 3 4 fun i=>[sc (bool (t4 a b c d i).fst),ints u64 (t4 a b c d i).snd.fst,sc (int i64 (t4 a b c d i).snd.snd)],D.s (sc (Value.func (Fn.func (104:FuncId)) #[] #[]))]=letI A:=t4 a b c d (cMC 0);lV.L3 false 0 A.fst A.snd.fst A.snd.snd 3 (fun i=>(t4 a b c d (cMC 1+i)).fst) (fun i=>(t4 a b c d (cMC 1+i)).snd.fst) (fun i=>(t4 a b c d (cMC 1+i)).snd.snd) 3 0:=eJ aU
theorem pE a b c d e f g h j k l:L3 a b c d e f g h j k l=letI A:=(g l.toNat,h l.toNat,j l.toNat);aC (decide (l<k)) (if 0<=l/\l<(f:Int)then aN (aQ A/\aQ (c,d,e)) (aC (decide (0<cI (dv A) (dv (c,d,e)))) (lV.L3 a b (g l.toNat) (h l.toNat) (j l.toNat) f (fun i=>g i) (fun i=>h i) (fun i=>j i) k (i64.wrap (l+1))) (lV.L3 a b c d e f (fun i=>g i) (fun i=>h i) (fun i=>j i) k (i64.wrap (l+1))))else none) (some [D.agg [sc (bool c),ints u64 d,sc (int i64 e)]]):=lJ aU
def gB(f:Nat->fB):Nat->fB
 |0=>f 0
 |k+1=>bif decide (0<cI (dv (f (k+1))) (dv (gB f k)))then f (k+1)else gB f k
def tN(a:fB×fB×fB×fB):fB:=gB (t4 a.1 a.2.1 a.2.2.1 a.2.2.2) 3
def sp(a:fB×fB×fB×fB)(u:Unit):Prop×List D:=(aQ a.1/\aQ a.2.1/\aQ a.2.2.1/\aQ a.2.2.2,[.agg [.sc (.bool (tN a).1),.ints .u64 (tN a).2.1,.sc (.int .i64 (tN a).2.2)]])
theorem oF{f:Nat->fB}{n:Nat}(hf:∀i,i<n->aQ (f i)):∀k,k<n->aQ (gB f k)
 |0,h=>hf 0 h
 |k+1,h=>by
  unfold gB;cases decide (0<cI (dv (f (k+1))) (dv (gB f k)))
  ·exact oF hf k (by omega)
  ·exact hf (k+1) h
theorem L(b0:Bool)(x1:Int)(n:Nat)(f:Nat->fB)(hn:n<1000)(hf:∀i,i<n+1->aQ (f i)):∀d k:Nat,k+d=n->L3 b0 x1 (gB f k).1 (gB f k).2.1 (gB f k).2.2 n (fun i=>(f (1+i)).1) (fun i=>(f (1+i)).2.1) (fun i=>(f (1+i)).2.2) (n:Int) (k:Int)=some [.agg [.sc (.bool (gB f n).1),.ints .u64 (gB f n).2.1,.sc (.int .i64 (gB f n).2.2)]]
 |0,k,h=>by
  obtain rfl:k=n:=by omega
  rw[pE,aM]
 |d+1,k,h=>by
  have e:i64.wrap ((k:Int)+1)=((k+1:Nat):Int):=by rw[wrap_i64];omega
  have r:=L b0 x1 n f hn hf d (k+1) (by omega);have g1:aQ (f (1+k)):=hf _ (by omega);have g2:aQ (gB f k):=oF hf k (by omega);have c1:f (k+1)=f (1+k):=by rw[cEL]
  rw[pE,aO,aR,cCJ,gP ⟨g1,g2⟩,e]
  by_cases hc:0<cI (dv (f (k+1))) (dv (gB f k))
  ·have hb:gB f (k+1)=f (1+k):=by
    rw[<-c1];show(bif decide (0<cI (dv (f (k+1))) (dv (gB f k)))then f (k+1)else gB f k)=_;rw[dqT hc];rfl
   rw[c1]at hc;rw[aO hc];rw[hb]at r;exact r
  ·have hb:gB f (k+1)=gB f k:=by
    show(bif decide (0<cI (dv (f (k+1))) (dv (gB f k)))then f (k+1)else gB f k)=_;rw[dqF hc];rfl
   rw[c1]at hc;rw[aM hc];rw[hb]at r;exact r
theorem all{a:fB×fB×fB×fB}(h:aQ a.1/\aQ a.2.1/\aQ a.2.2.1/\aQ a.2.2.2):∀i,i<4->aQ (t4 a.1 a.2.1 a.2.2.1 a.2.2.2 i):=fun i hi=>by
  obtain rfl |rfl |rfl |rfl:i=0\/i=1\/i=2\/i=3:=by omega
  ·exact h.1
  ·exact h.2.1
  ·exact h.2.2.1
  ·exact h.2.2.2
theorem zP{a:fB×fB×fB×fB}(h:aQ a.1/\aQ a.2.1/\aQ a.2.2.1/\aQ a.2.2.2):aQ (tN a):=oF (n:=4) (all h) 3 (by decide)
theorem spec:fF E f102 aF (aUN (.pair sB (.pair (sI .u64) (sN .i64))) (false,[],0)) (pFn 104) sp:=fun a u h =>
 (start a.1 a.2.1 a.2.2.1 a.2.2.2).trans (L false 0 3 (t4 a.1 a.2.1 a.2.2.1 a.2.2.2) (by decide) (all h) 3 0 (by decide))
def aJ:dO:=orc2 (aUN (.pair sB (.pair (sI .u64) (sN .i64))) (false,[],0)) (pFn 104) sp
theorem ok:OK 102 aJ:=(eI E aF (aA Hb.ok aD) func102).jZ rfl spec
end lV
namespace Vf
def E:=mE [(102,lV.aJ)] 5 [] [] []
def aF:=bd f44
theorem aU:Nk E aF:=nk
theorem start(a:fB)(b:fB)(c:fB)(d:fB):aG E f44 aF [D.rows 3 4 fun i=>[sc (bool (t4 a b c d i).fst),ints u64 (t4 a b c d i).snd.fst,sc (int i64 (t4 a b c d i).snd.snd)]]=letI G:=t4 a b c d 3;letI F:=t4 a b c d 2;letI K:=(F.fst,F.snd.fst,F.snd.snd);letI C:=t4 a b c d 1;letI I:=(C.fst,C.snd.fst,C.snd.snd);letI B:=t4 a b c d 0;letI H:=(B.fst,B.snd.fst,B.snd.snd);letI A:=lV.tN (H,I,K,G.fst,G.snd.fst,G.snd.snd);aN (aQ H/\aQ I/\aQ K/\aQ (G.fst,G.snd.fst,G.snd.snd)) (some [D.agg [sc (bool A.fst),ints u64 A.snd.fst,sc (int i64 A.snd.snd)]]):=eJ aU
def sp(a:fB×fB×fB×fB):Prop×List D:=(aQ a.1/\aQ a.2.1/\aQ a.2.2.1/\aQ a.2.2.2,[.agg [.sc (.bool (lV.tN a).1),.ints .u64 (lV.tN a).2.1,.sc (.int .i64 (lV.tN a).2.2)]])
theorem spec:iH E f44 aF (aUN (.pair sB (.pair (sI .u64) (sN .i64))) (false,[],0)) sp:=fun a h =>
 (start a.1 a.2.1 a.2.2.1 a.2.2.2).trans (gP h)
def aJ:dO:=orc1 (aUN (.pair sB (.pair (sI .u64) (sN .i64))) (false,[],0)) sp
theorem ok:OK 44 aJ:=(eI E aF (aA lV.ok aD) func44).oV rfl spec
end Vf
namespace SMul
def E:Env:={ ({ base with C:=callsOf [(40,vJ.aJ),(41,bZ.aJ),(43,Ve.aJ),(44,Vf.aJ),(42,sD.aJ)],roll:=tlook [(6,3),(9,3)] })with nt:=69,own:=[20,48,66],keep:=fun k=>(tlook [(9,[2,4,6,9,11,29,30,31,39,40,41]),(6,[2,4,6,9,29,30,31])] k).getD [],cut:=tlook [(17,[2,6,1000009])] }
def aF:=bd f10
theorem start a b d e f g h i j k l m c:aG E f10 aF [D.agg [sc (bool a),ints u64 b,sc (int i64 d),sc (bool e),ints u64 f,sc (int i64 g)],D.agg [sc (bool h),ints u64 i,sc (int i64 j),sc (bool k),ints u64 l,sc (int i64 m)],D.s (sc (int i64 c))]=aN (dW (a,b,d,e,f,g)/\dW (h,i,j,k,l,m)) (aB (if 1<=c/\c<=70000 then(0:Int)else(1:Int)) fun n=>aC (n !=0) (some [D.agg [sc (bool false),sc (slice none 0 0),sc (int i64 0),sc (bool false),sc (slice none 0 0),sc (int i64 0)],D.s (sc (int i64 n))]) (aN (aQ (a,b,d)/\aQ (h,i,j)) (aB (isNeg (bif bZ.jJ (dv (a,b,d)) (dv (h,i,j))then bZ.cX (dv (a,b,d)) (dv (h,i,j))else((0:Int),(0:Int))).fst) fun o=>aB (M6.dg (bif bZ.jJ (dv (a,b,d)) (dv (h,i,j))then bZ.cX (dv (a,b,d)) (dv (h,i,j))else((0:Int),(0:Int))).fst.natAbs) fun p=>aB (bif bZ.jJ (dv (a,b,d)) (dv (h,i,j))then bZ.cX (dv (a,b,d)) (dv (h,i,j))else((0:Int),(0:Int))).snd fun q=>aB (bif bZ.jJ (dv (a,b,d)) (dv (h,i,j))then(0:Int)else(5:Int)) fun r=>aC (r !=0) (some [D.agg [sc (bool false),sc (slice none 0 0),sc (int i64 0),sc (bool false),sc (slice none 0 0),sc (int i64 0)],D.s (sc (int i64 r))]) (aN (aQ (a,b,d)/\aQ (k,l,m)) (aB (isNeg (bif bZ.jJ (dv (a,b,d)) (dv (k,l,m))then bZ.cX (dv (a,b,d)) (dv (k,l,m))else((0:Int),(0:Int))).fst) fun s=>aB (M6.dg (bif bZ.jJ (dv (a,b,d)) (dv (k,l,m))then bZ.cX (dv (a,b,d)) (dv (k,l,m))else((0:Int),(0:Int))).fst.natAbs) fun t=>aB (bif bZ.jJ (dv (a,b,d)) (dv (k,l,m))then bZ.cX (dv (a,b,d)) (dv (k,l,m))else((0:Int),(0:Int))).snd fun u=>aB (bif bZ.jJ (dv (a,b,d)) (dv (k,l,m))then(0:Int)else(5:Int)) fun v=>aC (v !=0) (some [D.agg [sc (bool false),sc (slice none 0 0),sc (int i64 0),sc (bool false),sc (slice none 0 0),sc (int i64 0)],D.s (sc (int i64 v))]) (aN (aQ (e,f,g)/\aQ (h,i,j)) (aB (isNeg (bif bZ.jJ (dv (e,f,g)) (dv (h,i,j))then bZ.cX (dv (e,f,g)) (dv (h,i,j))else((0:Int),(0:Int))).fst) fun w=>aB (M6.dg (bif bZ.jJ (dv (e,f,g)) (dv (h,i,j))then bZ.cX (dv (e,f,g)) (dv (h,i,j))else((0:Int),(0:Int))).fst.natAbs) fun x=>aB (bif bZ.jJ (dv (e,f,g)) (dv (h,i,j))then bZ.cX (dv (e,f,g)) (dv (h,i,j))else((0:Int),(0:Int))).snd fun y=>aB (bif bZ.jJ (dv (e,f,g)) (dv (h,i,j))then(0:Int)else(5:Int)) fun z=>aC (z !=0) (some [D.agg [sc (bool false),sc (slice none 0 0),sc (int i64 0),sc (bool false),sc (slice none 0 0),sc (int i64 0)],D.s (sc (int i64 z))]) (aN (aQ (e,f,g)/\aQ (k,l,m)) (aB (isNeg (bif bZ.jJ (dv (e,f,g)) (dv (k,l,m))then bZ.cX (dv (e,f,g)) (dv (k,l,m))else((0:Int),(0:Int))).fst) fun aa=>aB (M6.dg (bif bZ.jJ (dv (e,f,g)) (dv (k,l,m))then bZ.cX (dv (e,f,g)) (dv (k,l,m))else((0:Int),(0:Int))).fst.natAbs) fun ab=>aB (bif bZ.jJ (dv (e,f,g)) (dv (k,l,m))then bZ.cX (dv (e,f,g)) (dv (k,l,m))else((0:Int),(0:Int))).snd fun ac=>aB (bif bZ.jJ (dv (e,f,g)) (dv (k,l,m))then(0:Int)else(5:Int)) fun ad=>aC (ad !=0) (some [D.agg [sc (bool false),sc (slice none 0 0),sc (int i64 0),sc (bool false),sc (slice none 0 0),sc (int i64 0)],D.s (sc (int i64 ad))]) (aN (aQ (o,p,q)/\aQ (s,t,u)/\aQ (w,x,y)/\aQ (aa,ab,ac)) (aB (lU.tN ((o,p,q),(s,t,u),(w,x,y),aa,ab,ac)).fst fun ae=>aB (lU.tN ((o,p,q),(s,t,u),(w,x,y),aa,ab,ac)).snd.fst fun af=>aB (lU.tN ((o,p,q),(s,t,u),(w,x,y),aa,ab,ac)).snd.snd fun ag=>aN (aQ (o,p,q)/\aQ (s,t,u)/\aQ (w,x,y)/\aQ (aa,ab,ac)) (aB (lV.tN ((o,p,q),(s,t,u),(w,x,y),aa,ab,ac)).fst fun ah=>aB (lV.tN ((o,p,q),(s,t,u),(w,x,y),aa,ab,ac)).snd.fst fun ai=>aB (lV.tN ((o,p,q),(s,t,u),(w,x,y),aa,ab,ac)).snd.snd fun aj=>aN (aQ (ae,af,ag)/\aQ (ah,ai,aj)/\(1<=c/\c<=70000)/\uE false (dv (ae,af,ag)) c=true/\uE true (dv (ah,ai,aj)) c=true) (aB (isNeg (M.shD false (dv (ae,af,ag)) c).fst) fun ak=>aB (M6.dg (M.shD false (dv (ae,af,ag)) c).fst.natAbs) fun al=>aB (M.shD false (dv (ae,af,ag)) c).snd fun am=>aB (isNeg (M.shD true (dv (ah,ai,aj)) c).fst) fun an=>aB (M6.dg (M.shD true (dv (ah,ai,aj)) c).fst.natAbs) fun ao=>aB (M.shD true (dv (ah,ai,aj)) c).snd fun ap=>some [D.agg [sc (bool ak),ints u64 al,sc (int i64 am),sc (bool an),ints u64 ao,sc (int i64 ap)],D.s (sc (int i64 0))]))))))))))))):=by kernel_rfl
def xI(a b:(Int×Int)×(Int×Int)):Int×Int:=Jk (Jk (Jk (bZ.cX a.1 b.1) (bZ.cX a.1 b.2)) (bZ.cX a.2 b.1)) (bZ.cX a.2 b.2)
def xJ(a b:(Int×Int)×(Int×Int)):Int×Int:=Eo (Eo (Eo (bZ.cX a.1 b.1) (bZ.cX a.1 b.2)) (bZ.cX a.2 b.1)) (bZ.cX a.2 b.2)
def aXG(a b:(Int×Int)×(Int×Int)):Prop:=bZ.jJ a.1 b.1=true/\bZ.jJ a.1 b.2=true/\bZ.jJ a.2 b.1=true/\bZ.jJ a.2 b.2=true
abbrev eS(s:uP):(Int×Int)×(Int×Int):=(dv (fO s),dv (fR s))
def sp(s t:uP)(p:Int):Prop×List D:=((dW s/\dW t)/\(1<=p/\p<=70000)/\aXG (eS s) (eS t)/\uE false (xI (eS s) (eS t)) p=true/\uE true (xJ (eS s) (eS t)) p=true,[Cr (shD false (xI (eS s) (eS t)) p) (shD true (xJ (eS s) (eS t)) p),.s (.sc (.int .i64 0))])
theorem yZ{p q:Int×Int}(h:bZ.jJ p q=true):nC (bZ.cX p q):=by
 unfold bZ.jJ at h;rw[bYT]at h;exact jE h.2 (of_decide_eq_true h.1)
theorem bSP(a:fB×fB×fB×fB):dv (lU.tN a)=Jk (Jk (Jk (dv a.1) (dv a.2.1)) (dv a.2.2.1)) (dv a.2.2.2):=by
 have st:∀x y:fB,dv (bif decide (cI (dv x) (dv y)<0)then x else y)=Jk (dv y) (dv x):=by
  intro x y;unfold Jk;cases decide (cI (dv x) (dv y)<0) <;> rfl
 show dv (bif decide (cI (dv a.2.2.2) (dv (bif decide (cI (dv a.2.2.1) (dv (bif decide (cI (dv a.2.1) (dv a.1)<0)then a.2.1 else a.1))<0)then a.2.2.1 else(bif decide (cI (dv a.2.1) (dv a.1)<0)then a.2.1 else a.1)))<0)then a.2.2.2 else(bif decide (cI (dv a.2.2.1) (dv (bif decide (cI (dv a.2.1) (dv a.1)<0)then a.2.1 else a.1))<0)then a.2.2.1 else(bif decide (cI (dv a.2.1) (dv a.1)<0)then a.2.1 else a.1)))=_;rw[st,st,st]
theorem bWU(a:fB×fB×fB×fB):dv (lV.tN a)=Eo (Eo (Eo (dv a.1) (dv a.2.1)) (dv a.2.2.1)) (dv a.2.2.2):=by
 have st:∀x y:fB,dv (bif decide (0<cI (dv x) (dv y))then x else y)=Eo (dv y) (dv x):=by
  intro x y;unfold Eo;cases decide (0<cI (dv x) (dv y)) <;> rfl
 show dv (bif decide (0<cI (dv a.2.2.2) (dv (bif decide (0<cI (dv a.2.2.1) (dv (bif decide (0<cI (dv a.2.1) (dv a.1))then a.2.1 else a.1)))then a.2.2.1 else(bif decide (0<cI (dv a.2.1) (dv a.1))then a.2.1 else a.1))))then a.2.2.2 else(bif decide (0<cI (dv a.2.2.1) (dv (bif decide (0<cI (dv a.2.1) (dv a.1))then a.2.1 else a.1)))then a.2.2.1 else(bif decide (0<cI (dv a.2.1) (dv a.1))then a.2.1 else a.1)))=_;rw[st,st,st]
theorem spec:uQ E f10 aF sP sP (pN .i64) sp:=by
 rintro s t p ⟨⟨h1,h2⟩,hp,⟨m1,m2,m3,m4⟩,i1,i2⟩;have hL:aQ (s.1,s.2.1,s.2.2.1):=h1.1;have hH:aQ (s.2.2.2.1,s.2.2.2.2.1,s.2.2.2.2.2):=h1.2.1;have kL:aQ (t.1,t.2.1,t.2.2.1):=h2.1;have kH:aQ (t.2.2.2.1,t.2.2.2.2.1,t.2.2.2.2.2):=h2.2.1;refine(start s.1 s.2.1 s.2.2.1 s.2.2.2.1 s.2.2.2.2.1 s.2.2.2.2.2 t.1 t.2.1 t.2.2.1 t.2.2.2.1 t.2.2.2.2.1 t.2.2.2.2.2 p).trans ?_;unfold sp xI xJ eS at *;dsimp only at *;unfold fO fR at *;generalize ha:dv (s.1,s.2.1,s.2.2.1)=a at *;generalize hb:dv (s.2.2.2.1,s.2.2.2.2.1,s.2.2.2.2.2)=b at *;generalize hc:dv (t.1,t.2.1,t.2.2.1)=c at *;generalize hd:dv (t.2.2.2.1,t.2.2.2.2.1,t.2.2.2.2.2)=d at *;have d1:=eQ (yZ m1);have d2:=eQ (yZ m2);have d3:=eQ (yZ m3);have d4:=eQ (yZ m4);have e1:=fK (bZ.cX a c);have e2:=fK (bZ.cX a d);have e3:=fK (bZ.cX b c);have e4:=fK (bZ.cX b d);rw[gP ⟨h1,h2⟩,aE,if_pos hp,gA rfl,gP ⟨hL,kL⟩];simp only[aE,m1,m2,m3,m4,cond_true];rw[gA rfl,gP ⟨hL,kH⟩,gA rfl,gP ⟨hH,kL⟩,gA rfl,gP ⟨hH,kH⟩,gA rfl];obtain⟨Q,hQ⟩:∃Q:fB×fB×fB×fB,Q=((isNeg (bZ.cX a c).1,M6.dg (bZ.cX a c).1.natAbs,(bZ.cX a c).2),(isNeg (bZ.cX a d).1,M6.dg (bZ.cX a d).1.natAbs,(bZ.cX a d).2),(isNeg (bZ.cX b c).1,M6.dg (bZ.cX b c).1.natAbs,(bZ.cX b c).2),(isNeg (bZ.cX b d).1,M6.dg (bZ.cX b d).1.natAbs,(bZ.cX b d).2)):=⟨_,rfl⟩;have dQ:aQ Q.1/\aQ Q.2.1/\aQ Q.2.2.1/\aQ Q.2.2.2:=by rw[hQ];exact⟨d1,d2,d3,d4⟩
 have v1:=bSP Q;have v2:=bWU Q;have k1:=lU.zP dQ;have k2:=lV.zP dQ;rw[show dv Q.1=bZ.cX a c by rw[hQ];exact e1,show dv Q.2.1=bZ.cX a d by rw[hQ];exact e2,show dv Q.2.2.1=bZ.cX b c by rw[hQ];exact e3,show dv Q.2.2.2=bZ.cX b d by rw[hQ];exact e4]at v1 v2;rw[gP ⟨d1,d2,d3,d4⟩,gP ⟨d1,d2,d3,d4⟩,<-hQ];rw[<-v1]at i1 ⊢;rw[<-v2]at i2 ⊢;exact gP ⟨k1,k2,hp,i1,i2⟩
def aJ:dO:=orc3 sP sP (pN .i64) sp
theorem fnok:tJ prog E 10 f10 aF:=Yb qP mixed (lT _ rfl (aA vJ.ok (aA bZ.ok (aA Ve.ok (aA Vf.ok (aA sD.ok aD))))) (oD)) func10 rfl rfl rfl
theorem ok:nR prog base.glob 10 aJ:=fnok.Dn rfl spec
end SMul
namespace aCH
def E:=mE [(45,sE.aJ),(46,dY.aJ),(47,Ov.aJ)] 35 [32] [] []
def aF:=bd f11
theorem aU:Nk E aF:=nk
theorem start a c d e f g b:aG E f11 aF [D.agg [sc (bool a),ints u64 c,sc (int i64 d),sc (bool e),ints u64 f,sc (int i64 g)],D.s (sc (int i64 b))]=letI F:=dv (a,c,d);letI C:=dv (e,f,g);letI B:=bif dY.vW C b then dY.Am C b else((0:Int),(0:Int));letI A:=bif dY.vW F b then dY.Am F b else((0:Int),(0:Int));aN (dW (a,c,d,e,f,g)) (aN (aQ (a,c,d)/\(-9223372036854775808:Int)<=b/\b<9223372036854775808) (aB (isNeg A.fst) fun h=>aB (M6.dg A.fst.natAbs) fun i=>aB A.snd fun j=>aB (bif dY.vW F b then(0:Int)else(5:Int)) fun k=>aN (aQ (e,f,g)/\(-9223372036854775808:Int)<=b/\b<9223372036854775808) (aB (isNeg B.fst) fun l=>aB (M6.dg B.fst.natAbs) fun m=>aB B.snd fun n=>aB (bif dY.vW C b then(0:Int)else(5:Int)) fun o=>aN (k=0/\o=0) (some [D.agg [sc (bool h),ints u64 i,sc (int i64 j),sc (bool l),ints u64 m,sc (int i64 n)],D.s (sc (int i64 0))])))):=eJ aU
def sp(s:uP)(n:Int):Prop×List D:=(dW s/\(-1048576<=n/\n<=1048576)/\dY.vW (dv (fO s)) n=true/\dY.vW (dv (fR s)) n=true,[Cr (dY.Am (dv (fO s)) n) (dY.Am (dv (fR s)) n),.s (.sc (.int .i64 0))])
theorem spec:fF E f11 aF sP (pN .i64) sp:=by
 rintro s n ⟨h,hn,o1,o2⟩;have bSF:dY.vW (dv (s.1,s.2.1,s.2.2.1)) n=true:=o1;have bSE:dY.vW (dv (s.2.2.2.1,s.2.2.2.2.1,s.2.2.2.2.2)) n=true:=o2;refine(start s.1 s.2.1 s.2.2.1 s.2.2.2.1 s.2.2.2.2.1 s.2.2.2.2.2 n).trans ?_;simp only[aE];rw[gP h,gP ⟨h.1,by omega,by omega⟩,gP ⟨h.2.1,by omega,by omega⟩,bSF,bSE,gP ⟨rfl,rfl⟩];rfl
def aJ:dO:=orc2 sP (pN .i64) sp
theorem ok:OK 11 aJ:=(eI E aF (aA sE.ok (aA dY.ok (aA Ov.ok aD))) func11).jZ rfl spec
end aCH
end W
namespace R
theorem aZK{x:Rat}{k:Int}(h:ab (x-(k:Rat)*(pi/2))<=4/5):ab (Sf (2*x) (2*k)-2*(Sf x k*Cf x k))<=vR/\ab (2*(Sf x k*Sf x k)+Cf (2*x) (2*k)-1)<=2*vR:=by
 have e:2*x-((2*k:Int):Rat)*(pi/2)=(x-(k:Rat)*(pi/2))+(x-(k:Rat)*(pi/2)):=by
  rw[cJA,show((2:Int):Rat)=2 by norm_cast];grind
 have h4:ab (x-(k:Rat)*(pi/2))<=4:=by grind
 have a1:=aAE h4 h4;have a2:=Es h4 h4;have a3:=aKP h4;unfold Sf Cf;rw[e];generalize x-(k:Rat)*(pi/2)=r at *;generalize sn (r+r)=S at *;generalize cs (r+r)=C at *;generalize sn r=s at *;generalize cs r=c at *;rw[bY]at a1 a2 a3;unfold rs rc;have hm:k%4=0\/k%4=1\/k%4=2\/k%4=3:=by omega
 rcases hm with h |h |h |h
 ·rw[if_pos h,if_pos h,if_pos (show(2*k)%4=0 by omega),if_pos (show(2*k)%4=0 by omega),bY,bY];grind
 ·rw[if_neg (show ¬k%4=0 by omega),if_pos h,if_neg (show ¬k%4=0 by omega),if_pos h,if_neg (show ¬(2*k)%4=0 by omega),if_neg (show ¬(2*k)%4=1 by omega),if_pos (show(2*k)%4=2 by omega),if_neg (show ¬(2*k)%4=0 by omega),if_neg (show ¬(2*k)%4=1 by omega),if_pos (show(2*k)%4=2 by omega),bY,bY];grind
 ·rw[if_neg (show ¬k%4=0 by omega),if_neg (show ¬k%4=1 by omega),if_pos h,if_neg (show ¬k%4=0 by omega),if_neg (show ¬k%4=1 by omega),if_pos h,if_pos (show(2*k)%4=0 by omega),if_pos (show(2*k)%4=0 by omega),bY,bY];grind
 ·rw[if_neg (show ¬k%4=0 by omega),if_neg (show ¬k%4=1 by omega),if_neg (show ¬k%4=2 by omega),if_neg (show ¬k%4=0 by omega),if_neg (show ¬k%4=1 by omega),if_neg (show ¬k%4=2 by omega),if_neg (show ¬(2*k)%4=0 by omega),if_neg (show ¬(2*k)%4=1 by omega),if_pos (show(2*k)%4=2 by omega),if_neg (show ¬(2*k)%4=0 by omega),if_neg (show ¬(2*k)%4=1 by omega),if_pos (show(2*k)%4=2 by omega),bY,bY];grind
theorem aXD{x:Rat}{k l:Int}(hk:ab (x-(k:Rat)*(pi/2))<=8/5)(hl:ab (x-(l:Rat)*(pi/2))<=4/5):ab (Sf x k-Sf x l)<=Ep/\ab (Cf x k-Cf x l)<=Ep:=by
 obtain⟨p1,p2⟩:=iT;have he:=aFG;have h3:l=k\/l=k+1\/k=l+1:=by
  have h1:(k:Rat)-(l:Rat)<2:=by
   refine Rat.not_le.1 fun hn=>?_
   have:=cT (show(0:Rat)<=2 by grind) hn (show(0:Rat)<=3/2 by grind) (show 3/2<=pi/2 by grind);rw[bY]at *;grind
  have h2:(l:Rat)-(k:Rat)<2:=by
   refine Rat.not_le.1 fun hn=>?_
   have:=cT (show(0:Rat)<=2 by grind) hn (show(0:Rat)<=3/2 by grind) (show 3/2<=pi/2 by grind);rw[bY]at *;grind
  have aBG:k-l<2:=by exact_mod_cast h1
  have aVO:l-k<2:=by exact_mod_cast h2
  omega
 rcases h3 with rfl |rfl |rfl
 ·rw[show Sf x l-Sf x l=0 by grind,show Cf x l-Cf x l=0 by grind,bQ (by grind)];grind
 ·obtain⟨a,b⟩:=aJX (x:=x) (k:=k) (by rw[bY]at *;grind);rw[bY]at a b;rw[bY,bY];grind
 ·obtain⟨a,b⟩:=aJX (x:=x) (k:=l) (by rw[bY]at *;grind);rw[bY]at a b;rw[bY,bY];grind
theorem double{x:Rat}{k l:Int}(hk:pC x k)(hl:pC (2*x) l):ab (Sf (2*x) l-2*(Sf x k*Cf x k))<=2*Ep/\ab (2*(Sf x k*Sf x k)+Cf (2*x) l-1)<=2*Ep:=by
 have a:=Ge hk;have b:=Ge hl;obtain⟨d1,d2⟩:=aZK (x:=x) (k:=k) (by grind);have e:2*x-((2*k:Int):Rat)*(pi/2)=2*(x-(k:Rat)*(pi/2)):=by
  rw[cJA,show((2:Int):Rat)=2 by norm_cast];grind
 obtain⟨c1,c2⟩:=aXD (x:=2*x) (k:=2*k) (l:=l) (by rw[e,dV,bQ (show(0:Rat)<=2 by grind)];grind) (by grind);have ee:=Kx;have ep:=vF;clear e a b hk hl;rw[bY]at c1 c2 d1 d2;rw[bY,bY];generalize Sf x k*Cf x k=u at *;generalize Sf x k*Sf x k=v at *;generalize Sf (2*x) (2*k)=a1 at *;generalize Cf (2*x) (2*k)=a2 at *;generalize Sf (2*x) l=a3 at *;generalize Cf (2*x) l=a4 at *;refine⟨⟨?_,?_⟩,?_,?_⟩ <;> grind
end R
namespace M
open Go AI W
theorem Kw{q q':Int×Int}{g:Int}{δ:Rat}(h1:g<=q.2)(h2:g<=q'.2)(h:R.qz q<=R.qz q'+δ)(hδ:δ<R.pz g):R.qz q<=R.qz q':=by
 have e:=sH.Kp h1;have e':=sH.Kp h2;have P:=R.dK g;rw[e,e']at h ⊢;generalize q.1*2^(q.2-g).toNat=m at *;generalize q'.1*2^(q'.2-g).toNat=n at *;have lt:m<n+1:=by
  have:(m:Rat)<((n+1:Int):Rat):=Rat.not_le.1 fun hh=>by
   rw[Rat.intCast_add,show((1:Int):Rat)=1 by norm_cast]at hh;have:=R.aI (cDU P) (show 0<=(m:Rat)-((n:Rat)+1) by grind);grind
  exact_mod_cast this
 have le:(m:Rat)<=(n:Rat):=by exact_mod_cast(show m<=n by omega)
 have:=R.aI (cDU P) (show 0<=(n:Rat)-(m:Rat) by grind);grind
theorem aLA{s t:uP}(h1:R.qz (dv (fO s))<=R.qz (dv (fR s)))(h2:R.qz (dv (fO t))<=R.qz (dv (fR t)))(h3:R.qz (dv (fO s))<=R.qz (dv (fR t)))(h4:R.qz (dv (fO t))<=R.qz (dv (fR s))):yK.meet s t=true:=by
 unfold yK.meet;rw[dqF,cKD];rw[rU];rcases aBH (dv (fO s)) (dv (fO t))with a |a <;> rcases aAR (dv (fR s)) (dv (fR t))with b |b <;> rw[a,b] <;> grind
theorem Gg{a b:Int×Int}(ha:wT a 2021 (-3200) 1)(hb:wT b 2021 (-3200) 1):bZ.jJ a b=true/\wT (bZ.cX a b) 4042 (-6400) 1:=by
 have bQH:=bZJ (mK a.1.natAbs b.1.natAbs) (cMT ha.bl hb.bl);rw[<-cEC]at bQH;have ea:=ha.e;have eb:=hb.e;have ua:=ha.pK.2.1;have ub:=hb.pK.2.1;have i:jR (a.1*b.1) (a.2+b.2)=true:=by
  by_cases za:a.1=0
  ·have:=ha.pK.2.2.1 za;refine kZ (by omega) ?_;rw[za,Int.zero_mul,show bl (0:Int).natAbs=0 by decide];omega
  ·by_cases zb:b.1=0
   ·have:=hb.pK.2.2.1 zb;refine kZ (by omega) ?_;rw[zb,Int.mul_zero,show bl (0:Int).natAbs=0 by decide];omega
   ·have t:bG a<=0:=qK za (by rw[R.fA];exact ha.b);have u:bG b<=0:=qK zb (by rw[R.fA];exact hb.b);have:=mY (n:=a.1.natAbs) (by omega);have:=mY (n:=b.1.natAbs) (by omega);unfold bG at t u;refine kZ (by omega) ?_;omega
 refine⟨?_,jE i (by omega),bZJ (zB _ _) bQH,?_,?_⟩
 ·unfold bZ.jJ fit;rw[i,dqT (by omega)];rfl
 ·unfold bZ.cX
  by_cases z:a.1*b.1=0
  ·rw[z,iN];decide
  ·have:=vB (e:=a.2+b.2) z;omega
 ·rw[Cs,R.dV];have h0:=R.aT (R.qz a);have h1:=ha.b;have h2:=hb.b;have h3:=R.aT (R.qz b);have:=R.aI h0 (show 0<=1-R.ab (R.qz b) by grind);grind
theorem Tl{a b x:Rat}{y:Rat}(h1:a<=x)(h2:x<=b):(a*y<=x*y\/b*y<=x*y)/\(x*y<=a*y\/x*y<=b*y):=by
 by_cases h:0<=y
 ·have m1:=R.aI (show 0<=x-a by grind) h;have m2:=R.aI (show 0<=b-x by grind) h;exact⟨.inl (by grind),.inr (by grind)⟩
 ·have m1:=R.aI (show 0<=x-a by grind) (show 0<=-y by grind);have m2:=R.aI (show 0<=b-x by grind) (show 0<=-y by grind);exact⟨.inr (by grind),.inl (by grind)⟩
theorem aXF{a b:(Int×Int)×(Int×Int)}{x y:Rat}(h1:R.qz a.1<=x)(h2:x<=R.qz a.2)(h3:R.qz b.1<=y)(h4:y<=R.qz b.2):R.qz (SMul.xI a b)<=x*y/\x*y<=R.qz (SMul.xJ a b):=by
 obtain⟨l1,l2⟩:=Tp (bZ.cX a.1 b.1) (bZ.cX a.1 b.2);obtain⟨l3,l4⟩:=Tp (Jk (bZ.cX a.1 b.1) (bZ.cX a.1 b.2)) (bZ.cX a.2 b.1);obtain⟨l5,l6⟩:=Tp (Jk (Jk (bZ.cX a.1 b.1) (bZ.cX a.1 b.2)) (bZ.cX a.2 b.1)) (bZ.cX a.2 b.2);obtain⟨g1,g2⟩:=aBI (bZ.cX a.1 b.1) (bZ.cX a.1 b.2);obtain⟨g3,g4⟩:=aBI (Eo (bZ.cX a.1 b.1) (bZ.cX a.1 b.2)) (bZ.cX a.2 b.1);obtain⟨g5,g6⟩:=aBI (Eo (Eo (bZ.cX a.1 b.1) (bZ.cX a.1 b.2)) (bZ.cX a.2 b.1)) (bZ.cX a.2 b.2);change R.qz (SMul.xI a b)<=_ at l5 l6;change _<=R.qz (SMul.xJ a b)at g5 g6;rw[Cs]at l1 l2 l4 l6 g1 g2 g4 g6;generalize R.qz (SMul.xI a b)=L at *;generalize R.qz (SMul.xJ a b)=H at *;generalize R.qz (Jk (Jk (bZ.cX a.1 b.1) (bZ.cX a.1 b.2)) (bZ.cX a.2 b.1))=L2 at *;generalize R.qz (Jk (bZ.cX a.1 b.1) (bZ.cX a.1 b.2))=L1 at *;generalize R.qz (Eo (Eo (bZ.cX a.1 b.1) (bZ.cX a.1 b.2)) (bZ.cX a.2 b.1))=G2 at *;generalize R.qz (Eo (bZ.cX a.1 b.1) (bZ.cX a.1 b.2))=G1 at *;generalize R.qz a.1=a1 at *;generalize R.qz a.2=a2 at *;generalize R.qz b.1=b1 at *;generalize R.qz b.2=b2 at *;obtain⟨m1,m2⟩:=Tl (y:=y) h1 h2;obtain⟨p1,p2⟩:=Tl (y:=a1) h3 h4;obtain⟨q1,q2⟩:=Tl (y:=a2) h3 h4;constructor
 ·rcases m1 with m |m
  ·rcases p1 with p |p <;> grind
  ·rcases q1 with q |q <;> grind
 ·rcases m2 with m |m
  ·rcases p2 with p |p <;> grind
  ·rcases q2 with q |q <;> grind
end M
namespace M
open Go AI W
theorem aRK{a b:(Int×Int)×(Int×Int)}{x y:Rat}{n:Int}(ha:wT a.1 2021 (-3200) 1/\wT a.2 2021 (-3200) 1)(hb:wT b.1 2021 (-3200) 1/\wT b.2 2021 (-3200) 1)(h1:R.qz a.1<=x/\x<=R.qz a.2)(h2:R.qz b.1<=y/\y<=R.qz b.2)(hn:1<=n/\n<=70000) :
  SMul.aXG a b/\uE false (SMul.xI a b) n=true/\uE true (SMul.xJ a b) n=true/\(∃W,Bx (shD false (SMul.xI a b) n,shD true (SMul.xJ a b) n) (x*y) W 0)/\wT (shD false (SMul.xI a b) n) 70001 (-6400) 1/\wT (shD true (SMul.xJ a b) n) 70001 (-6400) 1:=by
 obtain⟨o1,f1⟩:=Gg ha.1 hb.1;obtain⟨o2,f2⟩:=Gg ha.1 hb.2;obtain⟨o3,f3⟩:=Gg ha.2 hb.1;obtain⟨o4,f4⟩:=Gg ha.2 hb.2;have ls:∀{p q:Int×Int},wT p 4042 (-6400) 1->wT q 4042 (-6400) 1->wT (Jk p q) 4042 (-6400) 1:=fun {p q} hp hq=>by rcases aAR p q with h |h <;> rw[h] <;> assumption
 have gt:∀{p q:Int×Int},wT p 4042 (-6400) 1->wT q 4042 (-6400) 1->wT (Eo p q) 4042 (-6400) 1:=fun {p q} hp hq=>by rcases aBH p q with h |h <;> rw[h] <;> assumption
 have g1:wT (SMul.xI a b) 4042 (-6400) 1:=ls (ls (ls f1 f2) f3) f4;have g2:wT (SMul.xJ a b) 4042 (-6400) 1:=gt (gt (gt f1 f2) f3) f4;obtain⟨q1,q2⟩:=aXF h1.1 h1.2 h2.1 h2.2;have B:Bx (SMul.xI a b,SMul.xJ a b) (x*y) (R.qz (SMul.xJ a b)-R.qz (SMul.xI a b)) 0:=⟨g1.pK,g2.pK,bZJ g1.bl (by decide),bZJ g2.bl (by decide),cEZ,by grind,by grind,cEZ⟩;have aFV:(1:Rat)<=R.pz 1100:=by rw[<-R.fA];exact R.cK (by decide)
 obtain⟨i1,i2,bx⟩:=Td B hn (by have:=g1.b;dsimp only;grind) (by have:=g2.b;dsimp only;grind);obtain⟨k,rfl⟩:=cDO (show 0<=n by omega);have bFX:=vV false (SMul.xI a b) k;have bHR:=vV true (SMul.xJ a b) k;exact⟨⟨o1,o2,o3,o4⟩,i1,i2,⟨_,bx⟩,⟨bx.pl,by omega,aQQ g1.e (by decide),Hr hn.1 g1.b⟩,⟨bx.ph,by omega,aQQ g2.e (by decide),Hr hn.1 g2.b⟩⟩
theorem Su{x:Int×Int}{n:Nat}(h:wT x n (-6400) 1):dY.vW x 1=true/\wT (dY.Am x 1) n (-6400) 2/\R.qz (dY.Am x 1)=2*R.qz x:=by
 obtain⟨⟨p1,p2,p3,p4⟩,hb,he,h1⟩:=h;unfold dY.vW dY.Am
 by_cases z:x.1=0
 ·rw[dqT z,if_pos z,R.pO z,aRA];refine⟨rfl,⟨bN.Ww,by show bl 0<=n;rw[zQ];omega,by decide,by rw[aRA,R.bQ cEZ];grind⟩,by grind⟩
 ·have t:bG x<=0:=qK z (by rw[R.fA];exact h1);have b0:=mY (n:=x.1.natAbs) (by omega);unfold bG at t;rw[dqF z,Bool.false_or,if_neg z,dqT (by omega),dqT (by omega)];have q:R.qz (x.1,x.2+1)=2*R.qz x:=by
   unfold R.qz;dsimp only;rw[R.iM];grind
  refine⟨rfl,⟨⟨p1,by dsimp only;omega,fun h=>absurd h z,p4⟩,hb,by dsimp only;omega,?_⟩,q⟩;rw[q,R.dV,R.bQ (show(0:Rat)<=2 by grind)];grind
theorem Zf{x y:Int×Int}{n:Nat}(hx:wT x n (-6400) 2)(hy:wT y n (-6400) 2):cB.jW x y=true/\wT (cB.kI x y) 6410 (-6400) 4:=by
 have two:(2:Rat)<=R.pz ((-6400:Int)+((6401:Nat):Int)):=by rw[show(-6400:Int)+((6401:Nat):Int)=1 by rfl,R.Eh];exact cEZ
 have ok:=Va hx.pK hy.pK hx.e hy.e (n:=6401) (by have:=hx.b;grind) (by have:=hy.b;grind) (by decide) (by decide) (by decide);have pK:=Cu hx.pK hy.pK ok;have v:R.ab (R.qz (cB.kI x y))<=4:=by
  rw[Ef];have:=R.xM (R.qz x) (R.qz y);have:=hx.b;have:=hy.b;grind
 have e:(-6400:Int)<=(cB.kI x y).2:=by
  unfold cB.kI;split
  ·exact hy.e
  ·split
   ·exact hx.e
   ·have h1:=hx.e;have h2:=hy.e
    by_cases z:cB.pU x y+cB.pT x y=0
    ·rw[z,iN];decide
    ·have:=vB (e:=cB.iV x y) z;have:(-6400:Int)<=cB.iV x y:=by unfold cB.iV;split <;> omega
     omega
 refine⟨ok,pK,?_,e,v⟩
 by_cases z:(cB.kI x y).1=0
 ·rw[z];show bl 0<=_;rw[zQ];omega
 ·have t:bG (cB.kI x y)<=2:=qK z (by
   rw[show(2:Int)=1+1 by rfl,R.iM,R.Eh];grind)
  unfold bG at t;omega
theorem aMP{x:Int×Int}(h:wT x 2021 (-3200) 1):wT x 70001 (-6400) 2:=⟨h.pK,by have:=h.bl;omega,by have:=h.e;omega,by have:=h.b;grind⟩
def Oj(b:Int):Prop:=(0<=b/\b<18446744073709551616)/\1<=b%9223372036854775808/4503599627370496/\b%9223372036854775808/4503599627370496<=2045
theorem Oj.d{b:Int}(h:Oj b):(0<=b+4503599627370496/\b+4503599627370496<18446744073709551616)/\(b+4503599627370496)%9223372036854775808=b%9223372036854775808+4503599627370496/\(b+4503599627370496)%9223372036854775808<9218868437227405312/\(b+4503599627370496)%9223372036854775808≠0/\b%9223372036854775808≠0:=by
 obtain⟨h1,h2,h3⟩:=h;omega
theorem Oj.q{b:Int}(h:Oj b):R.qz (aW.mV (b+4503599627370496))=2*R.qz (aW.mV b):=by
 obtain⟨d1,d2,d3,d4,d5⟩:=h.d;obtain⟨h1,h2,h3⟩:=h;have hs:jK.kJ (cG.sR 64)=9223372036854775808:=rfl;have hh:gJ.tF (cG.sR 64)=4503599627370496:=by decide
 have eZ:gW.wU 64 (b+4503599627370496)=gW.wU 64 b:=by
  unfold gW.wU jV.Em;rw[hs,hh,d2,bI,bI,show(b%9223372036854775808+4503599627370496)%4503599627370496=b%9223372036854775808%4503599627370496 by omega];congr 1
  by_cases c:(9223372036854775808:Int)<=b
  ·rw[dqT c,dqT (by omega)]
  ·rw[dqF c,dqF (by omega)]
 have eE:gW.xD 64 (b+4503599627370496)=gW.xD 64 b+1:=by
  unfold gW.xD jV.Ik;rw[hs,hh,d2,bI,bI];omega
 unfold aW.mV;rw[qB,qB,eZ,eE,R.iM];grind
theorem Oj.v{b p:Int}(h:Oj b)(hp:1<=p/\p<=2000):R.ab (Fm 1 (b+4503599627370496)-2*(Fm 1 b*Fm 2 b))<=2*R.Ep/\R.ab (2*(Fm 1 b*Fm 1 b)+Fm 2 (b+4503599627370496)-1)<=2*R.Ep:=by
 obtain⟨d1,d2,d3,d4,d5⟩:=h.d;have c1:=vT (fn:=1) (b:=b) (p:=p) ⟨by omega,hp⟩ (by decide);have c2:=vT (fn:=1) (b:=b+4503599627370496) (p:=p) ⟨d3,hp⟩ (by decide);obtain⟨r1,_⟩:=Fx h.1 c1 d5;obtain⟨r2,_⟩:=Fx d1 c2 d4;have n1:=Kt r1;have n2:=Kt r2;unfold Fm;rw[if_neg d4,if_neg d5,if_neg d5,if_neg d4];unfold vx R.fv;rw[if_pos rfl,if_pos rfl,if_neg (by decide),if_pos rfl,if_neg (by decide),if_pos rfl];rw[h.q]at n2 ⊢;exact R.double n1 n2
end M
namespace W
open Go AI M
namespace Vt
def E:=mE [(32,Oi.aJ),(9,bN.aJ),(33,Li.aJ)] 39 [37] [] []
def aF:=bd f7
theorem aU:Nk E aF:=nk
theorem start:aG E f7 aF []=letI B:=bN.An 1 4607182418800017408 20;letI A:=bN.An 2 9223372036854775808 7;letI C:=(isNeg A.fst.fst,M6.dg A.fst.fst.natAbs,A.fst.snd,isNeg A.snd.fst,M6.dg A.snd.fst.natAbs,A.snd.snd);aN ((0:Int)<=(13835058055282163712:Int)/\(13835058055282163712:Int)<(18446744073709551616:Int)) (aN ((0:Int)<=(9223372036854775808:Int)/\(9223372036854775808:Int)<(18446744073709551616:Int)) (aN ((0:Int)<=(4607182418800017408:Int)/\(4607182418800017408:Int)<(18446744073709551616:Int)) (aB (isNeg B.fst.fst) fun a=>aB (M6.dg B.fst.fst.natAbs) fun b=>aB (isNeg B.snd.fst) fun c=>aB (M6.dg B.snd.fst.natAbs) fun d=>letI F:=(a,b,B.fst.snd,c,d,B.snd.snd);aC (Oi.bBA 2 13835058055282163712 !=(-1:Int)) (some [D.s (sc (bool false))]) (aN (((0:Int)<=(9223372036854775808:Int)/\(9223372036854775808:Int)<(18446744073709551616:Int))/\dW (isNeg 1,M6.dg 1,(0:Int),isNeg 1,M6.dg 1,(0:Int))/\(0:Int)=(0:Int)/\dv (fO C)=A.fst/\dv (fR C)=A.snd) (aN (((0:Int)<=(4607182418800017408:Int)/\(4607182418800017408:Int)<(18446744073709551616:Int))/\dW F/\(0:Int)=(0:Int)/\dv (fO F)=B.fst/\dv (fR F)=B.snd) (some [D.s (sc (bool true))])))))):=eJ aU
theorem e1:bN.An 2 9223372036854775808 7=((1,0),(1,0)):=by
 rw[Kz (by rw[Lo];decide) (by decide),if_pos rfl]
theorem aQG:aW.mV 13835058055282163712=(-1,1):=by
 have e1:gW.wU 64 13835058055282163712=-(1*p2 52):=by decide
 have e2:gW.xD 64 13835058055282163712=-51:=by decide
 unfold aW.mV;rw[e1,e2,aKU,aRF _ _ (by omega)];show(-(bW 1 (-51+52)).1,(bW 1 (-51+52)).2)=_;rw[Rf (p:=(1,-51+52)) (by decide) (by decide)];rfl
theorem aUI:Real 13835058055282163712:=by
 refine⟨by decide,?_⟩;rw[Ur];decide
theorem bRP:Oi.bBA 2 13835058055282163712=-1:=by
 have c:dT.Cn 2 13835058055282163712 8=0:=by rw[Lo];decide
 rw[aWN (by decide) c];unfold Fm;rw[if_neg (by decide)];have nk:=Kt aUI;have x2:R.qz (aW.mV 13835058055282163712)=-2:=by
  rw[aQG];show((-1:Int):Rat)*R.pz 1=-2;rw[R.Eh,show((-1:Int):Rat)=-1 by norm_cast];grind
 obtain⟨p1,p2⟩:=R.iT;have m1:((-1:Int):Rat)=-1:=by norm_cast
 have k1:kx 13835058055282163712=-1:=by
  refine R.Zy aUI.x.fit nk ?_;rw[x2];unfold R.pC;rw[R.bY,m1];constructor <;> grind
 unfold vx;rw[k1,x2];have eV:R.fv 2 (-2) (-1)=R.sn (-2-((-1:Int):Rat)*(R.pi/2)):=rfl;rw[eV,m1];obtain⟨r,hr⟩:∃r,r=(-2:Rat) - -1*(R.pi/2):=⟨_,rfl⟩;rw[<-hr];have r0:r<0:=by grind
 have r1:R.ab r<=1:=by rw[R.bY];constructor <;> grind
 have s:=R.aAD (x:=0) (y:=r) (by rw[R.bQ cEZ];grind) r1;rw[R.bY,R.aQO,show r-0=r by grind,aFZ r0]at s;have:R.sn r<0:=by grind
 unfold aQR;rw[if_neg (by grind),if_pos this]
def sp:Prop×List D:=(True,[.s (.sc (.bool true))])
theorem spec(h:sp.1):aG E f7 aF []=some sp.2:=by
 refine start.trans ?_;rw[e1,bRP,gP ⟨by decide,by decide⟩,gP ⟨by decide,by decide⟩,gP ⟨by decide,by decide⟩,aE,aE,aE,aE,gA rfl];have q1:dW (rB (1,0) (1,0)):=⟨eQ bN.aEE,eQ bN.aEE,Im _⟩;have q2:dW (rB (bN.An 1 4607182418800017408 20).1 (bN.An 1 4607182418800017408 20).2):=bN.Rp (by decide);refine(gP ⟨⟨by decide,by decide⟩,q1,rfl,mZ _ _,nA _ _⟩).trans ?_;refine(gP ⟨⟨by decide,by decide⟩,q2,rfl,mZ _ _,nA _ _⟩).trans rfl
def aJ:dO:=orc0  sp
theorem ok:OK 7 aJ:=(eI E aF (aA Oi.ok (aA bN.ok (aA Li.ok aD))) func7).bIM spec
end Vt
namespace aPC
def E:=mE [] 6 [] [] []
def aF:=bd f34
theorem aU:Nk E aF:=nk
theorem start a:aG E f34 aF [D.s (sc (int u64 a))]=some [D.s (sc (bool (decide (a.tmod 9223372036854775808<(9218868437227405312:Int)))))]:=eJ aU
def sp(b:Int):Prop×List D:=(0<=b/\b<18446744073709551616,[.s (.sc (.bool (decide (b%9223372036854775808<9218868437227405312))))])
theorem spec:iH E f34 aF (pN .u64) sp:=by
 intro b h;have h:0<=b/\b<18446744073709551616:=h;refine(start b).trans ?_;rw[cGA h.1];rfl
def aJ:dO:=orc1 (pN .u64) sp
theorem ok:OK 34 aJ:=(eI E aF aD func34).oV rfl spec
end aPC
namespace aCP
def E:=mE [(34,aPC.aJ)] 15 [] [] []
def aF:=bd f8
theorem aU:Nk E aF:=nk
theorem start a b:aG E f8 aF [D.s (sc (int u64 a)),D.s (sc (int i64 b))]=letI A:=some [D.s (sc (bool false))];aN (0<=a/\a<18446744073709551616) (aC (decide (a%9223372036854775808<(9218868437227405312:Int))) (aC (decide (1<=b)) (some [D.s (sc (bool (decide (b<=2000))))]) A) A):=eJ aU
def sp(b p:Int):Prop×List D:=(0<=b/\b<18446744073709551616,[.s (.sc (.bool (decide (b%9223372036854775808<9218868437227405312/\1<=p/\p<=2000))))])
theorem spec:fF E f8 aF (pN .u64) (pN .i64) sp:=by
 intro b p h;refine(start b p).trans ((gP h).trans ?_);unfold sp
 by_cases c1:b%9223372036854775808<9218868437227405312
 ·rw[aO c1]
  by_cases c2:1<=p
  ·rw[aO c2]
   by_cases c3:p<=2000
   ·rw[dqT c3,dqT ⟨c1,c2,c3⟩]
   ·rw[dqF c3,dqF (fun h=>c3 h.2.2)]
  ·rw[aM c2,dqF (fun h=>c2 h.2.1)]
 ·rw[aM c1,dqF (fun h=>c1 h.1)]
def aJ:dO:=orc2 (pN .u64) (pN .i64) sp
theorem ok:OK 8 aJ:=(eI E aF (aA aPC.ok aD) func8).jZ rfl spec
end aCP
namespace Vj
def E:=mE [(48,yK.aJ)] 20 [] [] []
def aF:=bd f12
theorem aU:Nk E aF:=nk
theorem start a b c d e f g h i j k l:aG E f12 aF [D.agg [sc (bool a),ints u64 b,sc (int i64 c),sc (bool d),ints u64 e,sc (int i64 f)],D.agg [sc (bool g),ints u64 h,sc (int i64 i),sc (bool j),ints u64 k,sc (int i64 l)]]=aN (dW (a,b,c,d,e,f)/\dW (g,h,i,j,k,l)) (aB (yK.meet (a,b,c,d,e,f) (g,h,i,j,k,l)) fun m=>aC m (some [D.s (sc (bool true))]) (some [D.s (sc (bool false))])):=eJ aU
def sp(s t:uP):Prop×List D:=(dW s/\dW t,[.s (.sc (.bool (yK.meet s t)))])
theorem spec:fF E f12 aF sP sP sp:=by
 intro s t h;refine(start s.1 s.2.1 s.2.2.1 s.2.2.2.1 s.2.2.2.2.1 s.2.2.2.2.2 t.1 t.2.1 t.2.2.1 t.2.2.2.1 t.2.2.2.2.1 t.2.2.2.2.2).trans ((gP h).trans ?_);rw[aE];show aC (yK.meet s t) _ _=some [D.s (.sc (.bool (yK.meet s t)))];cases yK.meet s t <;> rfl
def aJ:dO:=orc2 sP sP sp
theorem ok:OK 12 aJ:=(eI E aF (aA yK.ok aD) func12).jZ rfl spec
end Vj
namespace aTP
def E:=mE [(45,sE.aJ),(61,oU.aJ),(62,Ca.aJ)] 26 [] [(3,[2,3])] [3]
def aF:=bd f23
theorem aU:Nk E aF:=nk
def J3 a b c d e f g h i:=lP E f23 aF 3 [bK 0 31 [bC a,eR b,cV c,bC d,eR e,cV f],bK 1 29 [bC g,eR h,cV i]]
theorem start a b c d e f g h i:aG E f23 aF [D.agg [sc (bool a),ints u64 b,sc (int i64 c),sc (bool d),ints u64 e,sc (int i64 f)],D.agg [sc (bool g),ints u64 h,sc (int i64 i)]]=aN (dW (a,b,c,d,e,f)) (aN (aQ (g,h,i)) (aTP.J3 a b c d e f g h i)):=eJ aU
theorem fH a b c d e f g h i:J3 a b c d e f g h i=aN (aQ (a,b,c)/\aQ (g,h,i)) (aC (decide (cI (dv (a,b,c)) (dv (g,h,i))<=0)) (aN (aQ (g,h,i)/\aQ (d,e,f)) (some [D.s (sc (bool (decide (cI (dv (g,h,i)) (dv (d,e,f))<=0)))),D.s (sc (int i64 0))])) (some [D.s (sc (bool false)),D.s (sc (int i64 0))])):=cJ aU
def sp(s:uP)(x:fB):Prop×List D:=(dW s/\aQ x,[.s (.sc (.bool (decide (cI (dv (fO s)) (dv x)<=0)&&decide (cI (dv x) (dv (fR s))<=0)))),.s (.sc (.int .i64 0))])
theorem spec:fF E f23 aF sP jQ sp:=by
 rintro s x ⟨h1,h2⟩;refine(start s.1 s.2.1 s.2.2.1 s.2.2.2.1 s.2.2.2.2.1 s.2.2.2.2.2 x.1 x.2.1 x.2.2).trans ?_;unfold sp
 try dsimp only
 have hL:aQ (s.1,s.2.1,s.2.2.1):=h1.1;have hH:aQ (s.2.2.2.1,s.2.2.2.2.1,s.2.2.2.2.2):=h1.2.1;have hx:aQ (x.1,x.2.1,x.2.2):=h2;rw[gP h1,gP h2,fH,gP ⟨hL,hx⟩];show aC (decide (cI (dv (fO s)) (dv x)<=0)) _ _=_
 by_cases hc:cI (dv (fO s)) (dv x)<=0
 ·rw[aO hc,gP ⟨hx,hH⟩,dqT hc,cBO];rfl
 ·rw[aM hc,dqF hc,cDW]
def aJ:dO:=orc2 sP jQ sp
theorem ok:OK 23 aJ:=(eI E aF (aA sE.ok (aA oU.ok (aA Ca.ok aD))) func23).jZ rfl spec
end aTP
namespace Vm
def E:=mE [(23,aTP.aJ),(24,aIG.aJ)] 19 [] [] []
def aF:=bd f15
theorem aU:Nk E aF:=nk
theorem start a c d e f g b:aG E f15 aF [D.agg [sc (bool a),ints u64 c,sc (int i64 d),sc (bool e),ints u64 f,sc (int i64 g)],D.s (sc (int i64 b))]=letI A:=(a,c,d,e,f,g);aN ((-9223372036854775808:Int)<=b/\b<9223372036854775808) (aB (isNeg (bW b 0).fst) fun h=>aB (M6.dg (bW b 0).fst.natAbs) fun i=>aB (bW b 0).snd fun j=>aN (dW A/\aQ (h,i,j)) (aB (decide (cI (dv (fO A)) (dv (h,i,j))<=0)&&decide (cI (dv (h,i,j)) (dv (fR A))<=0)) fun k=>aC k (some [D.s (sc (bool true))]) (some [D.s (sc (bool false))]))):=eJ aU
def sp(s:uP)(i:Int):Prop×List D:=(dW s/\(-9223372036854775808<=i/\i<9223372036854775808),[.s (.sc (.bool (decide (cI (dv (fO s)) (bW i 0)<=0)&&decide (cI (bW i 0) (dv (fR s))<=0))))])
theorem spec:fF E f15 aF sP (pN .i64) sp:=by
 rintro s i ⟨hs,hi⟩;refine(start s.1 s.2.1 s.2.2.1 s.2.2.2.1 s.2.2.2.2.1 s.2.2.2.2.2 i).trans ((gP hi).trans ?_);have b:bl i.natAbs<=64:=eF.2 (by have:(2:Nat)^64=18446744073709551616:=rfl;omega);have hd:aQ (isNeg (bW i 0).1,M6.dg (bW i 0).1.natAbs,(bW i 0).2):=eQ (jE (kZ (by omega) (by omega)) (by omega));have e:dv (isNeg (bW i 0).1,M6.dg (bW i 0).1.natAbs,(bW i 0).2)=bW i 0:=fK _;rw[aE,aE,aE,gP ⟨hs,hd⟩,e,aE];show aC (decide (cI (dv (fO s)) (bW i 0)<=0)&&decide (cI (bW i 0) (dv (fR s))<=0)) _ _=some [D.s (.sc (.bool (decide (cI (dv (fO s)) (bW i 0)<=0)&&decide (cI (bW i 0) (dv (fR s))<=0))))];cases (decide (cI (dv (fO s)) (bW i 0)<=0)&&decide (cI (bW i 0) (dv (fR s))<=0)) <;> rfl
def aJ:dO:=orc2 sP (pN .i64) sp
theorem ok:OK 15 aJ:=(eI E aF (aA aTP.ok (aA aIG.ok aD)) func15).jZ rfl spec
end Vm
namespace LawDoubles16
def E:=mE [(7,Vt.aJ),(8,aCP.aJ),(9,bN.aJ),(10,SMul.aJ),(11,aCH.aJ),(12,Vj.aJ),(13,rH.aJ),(14,bAE.aJ),(15,Vm.aJ)] 144 [142] [(6,[0,1]),(15,[1,7,13])] [6,15]
def aF:=bd f3
theorem aU:Nk E aF:=nk
def J6 a b:=lP E f3 aF 6 [dR a,bJ b]
def aIF a b c d e f g h i j k l m:=lP E f3 aF 15 [bJ a,bK 1 31 [bC b,eR c,cV d,bC e,eR f,cV g],bK 2 31 [bC h,eR i,cV j,bC k,eR l,cV m]]
theorem start a b:aG E f3 aF [D.s (sc (int u64 a)),D.s (sc (int i64 b))]=letI B:=some [D.s (sc (bool true))];letI A:=u64.wrap ((a.tmod 9223372036854775808).tdiv 4503599627370496)+1;aN True (aN (0<=a/\a<18446744073709551616) (aB (decide (a%9223372036854775808<(9218868437227405312:Int)/\1<=b/\b<=2000)) fun c=>aC (!c) B (aC (u64.wrap A==1) B (aC (decide (2046<u64.wrap A)) B (LawDoubles16.J6 a b))))):=eJ aU
theorem sW a b:J6 a b=letI W:=i64.wrap (b+8);letI O:=a+4503599627370496;letI I:=bN.An 2 a b;letI H:=bN.An 1 a b;letI G:=some [D.s (sc (bool false))];letI A:=u64.wrap O;letI N:=bN.An 2 A b;letI K:=bN.An 1 A b;aN (0<=a/\a<18446744073709551616) (aB (isNeg H.fst.fst) fun c=>aB (M6.dg H.fst.fst.natAbs) fun d=>aB H.fst.snd fun e=>aB (isNeg H.snd.fst) fun f=>aB (M6.dg H.snd.fst.natAbs) fun g=>aB H.snd.snd fun h=>letI P:=(c,d,e,f,g,h);aB (dT.Cn 1 a b) fun i=>aN (0<=a/\a<18446744073709551616) (aB (isNeg I.fst.fst) fun j=>aB (M6.dg I.fst.fst.natAbs) fun k=>aB I.fst.snd fun l=>aB (isNeg I.snd.fst) fun m=>aB (M6.dg I.snd.fst.natAbs) fun n=>aB I.snd.snd fun o=>letI Q:=(j,k,l,m,n,o);letI Y:=SMul.xI (SMul.eS P) (SMul.eS Q);letI X:=SMul.xJ (SMul.eS P) (SMul.eS Q);letI C:=M.shD true X W;letI B:=M.shD false Y W;aB (dT.Cn 2 a b) fun p=>aN (0<=u64.wrap O/\u64.wrap O<18446744073709551616) (aB (isNeg K.fst.fst) fun q=>aB (M6.dg K.fst.fst.natAbs) fun r=>aB K.fst.snd fun s=>aB (isNeg K.snd.fst) fun t=>aB (M6.dg K.snd.fst.natAbs) fun u=>aB K.snd.snd fun v=>aB (dT.Cn 1 A b) fun w=>aN (0<=u64.wrap O/\u64.wrap O<18446744073709551616) (aB (isNeg N.fst.fst) fun x=>aB (M6.dg N.fst.fst.natAbs) fun y=>aB N.fst.snd fun z=>aB (isNeg N.snd.fst) fun aa=>aB (M6.dg N.snd.fst.natAbs) fun ab=>aB N.snd.snd fun ac=>aB (dT.Cn 2 A b) fun ad=>aN ((dW P/\dW Q)/\(1<=i64.wrap (b+8)/\i64.wrap (b+8)<=70000)/\SMul.aXG (dv (fO P),dv (fR P)) (dv (fO Q),dv (fR Q))/\uE false Y W=true/\uE true X W=true) (aB (isNeg B.fst) fun ae=>aB (M6.dg B.fst.natAbs) fun af=>aB B.snd fun ag=>aB (isNeg C.fst) fun ah=>aB (M6.dg C.fst.natAbs) fun ai=>aB C.snd fun aj=>letI F:=(ae,af,ag,ah,ai,aj);letI U:=dY.Am (dv (fR F)) 1;letI T:=dY.Am (dv (fO F)) 1;aN (dW F/\((-1048576:Int)<=(1:Int)/\(1:Int)<=(1048576:Int))/\dY.vW (dv (fO F)) 1=true/\dY.vW (dv (fR F)) 1=true) (aB (isNeg T.fst) fun ak=>aB (M6.dg T.fst.natAbs) fun al=>aB T.snd fun am=>aB (isNeg U.fst) fun an=>aB (M6.dg U.fst.natAbs) fun ao=>aB U.snd fun ap=>letI Z:=(ak,al,am,an,ao,ap);aC (i !=0) G (aC (p !=0) G (aC (w !=0) G (aC (ad !=0) G (aN (dW Z/\dW (q,r,s,t,u,v)) (aB (yK.meet Z (q,r,s,t,u,v)) fun aq=>aC (!aq) G (LawDoubles16.aIF b c d e f g h x y z aa ab ac)))))))))))):=cJ aU
theorem Pb a b c d e f g h i j k l m:aIF a b c d e f g h i j k l m=letI P:=(h,i,j,k,l,m);letI B:=i64.wrap (a+8);letI A:=(b,c,d,e,f,g);letI U:=dv (fR A);letI T:=dv (fO A);letI H:=rH.Eb T U;letI Y:=M.shD true H B;letI G:=rH.Ea T U;letI W:=M.shD false G B;aN (dW A/\(1<=i64.wrap (a+8)/\i64.wrap (a+8)<=70000)/\(bZ.jJ T T=true/\bZ.jJ U U=true)/\uE false G B=true/\uE true H B=true) (aB (isNeg W.fst) fun n=>aB (M6.dg W.fst.natAbs) fun o=>aB W.snd fun p=>aB (isNeg Y.fst) fun q=>aB (M6.dg Y.fst.natAbs) fun r=>aB Y.snd fun s=>letI I:=(n,o,p,q,r,s);letI N:=dY.Am (dv (fR I)) 1;letI K:=dY.Am (dv (fO I)) 1;aN (dW I/\((-1048576:Int)<=(1:Int)/\(1:Int)<=(1048576:Int))/\dY.vW (dv (fO I)) 1=true/\dY.vW (dv (fR I)) 1=true) (aB (isNeg K.fst) fun t=>aB (M6.dg K.fst.natAbs) fun u=>aB K.snd fun v=>aB (isNeg N.fst) fun w=>aB (M6.dg N.fst.natAbs) fun x=>aB N.snd fun y=>letI O:=(t,u,v,w,x,y);letI F:=cB.kI (dv (fR O)) (dv (fR P));letI Z:=M.shD true F B;letI C:=cB.kI (dv (fO O)) (dv (fO P));letI X:=M.shD false C B;aN (dW O/\dW P/\(1<=i64.wrap (a+8)/\i64.wrap (a+8)<=70000)/\(cB.jW (dv (fO O)) (dv (fO P))=true/\cB.jW (dv (fR O)) (dv (fR P))=true)/\uE false C B=true/\uE true F B=true) (aB (isNeg X.fst) fun z=>aB (M6.dg X.fst.natAbs) fun aa=>aB X.snd fun ab=>aB (isNeg Z.fst) fun ac=>aB (M6.dg Z.fst.natAbs) fun ad=>aB Z.snd fun ae=>letI Q:=(z,aa,ab,ac,ad,ae);aN (dW Q/\(-9223372036854775808:Int)<=(1:Int)/\(1:Int)<(9223372036854775808:Int)) (aB (decide (cI (dv (fO Q)) (bW 1 0)<=0)&&decide (cI (bW 1 0) (dv (fR Q))<=0)) fun af=>some [D.s (sc (bool af))])))):=cJ aU
def sp(b p:Int):Prop×List D:=(0<=b/\b<18446744073709551616,[.s (.sc (.bool true))])
theorem bFI(a b:Int×Int):SMul.eS (rB a b)=(a,b):=by
 show(dv (fO (rB a b)),dv (fR (rB a b)))=(a,b);rw[mZ,nA]
theorem bNK{A C:(Int×Int)×(Int×Int)}{S V:Rat}{p:Int}(hp:1<=p/\p<=2000)(sA:dW (rB A.1 A.2))(sC:dW (rB C.1 C.2))(a1:wT A.1 2021 (-3200) 1)(a2:wT A.2 2021 (-3200) 1)(c1:wT C.1 2021 (-3200) 1)(c2:wT C.2 2021 (-3200) 1)
  (hS:R.qz A.1<=S/\S<=R.qz A.2) (hV:R.qz C.1<=V/\V<=R.qz C.2) (hd:R.ab (2*(S*S)+V-1)<=2*R.Ep) :
  aIF p (isNeg A.1.1) (M6.dg A.1.1.natAbs) A.1.2 (isNeg A.2.1) (M6.dg A.2.1.natAbs) A.2.2 (isNeg C.1.1) (M6.dg C.1.1.natAbs) C.1.2 (isNeg C.2.1) (M6.dg C.2.1.natAbs) C.2.2=some [.s (.sc (.bool true))]:=by
 have w:i64.wrap (p+8)=p+8:=wrap_i64;have n8:1<=p+8/\p+8<=70000:=⟨by omega,by omega⟩;obtain⟨i1,i2,⟨W1,aZT⟩,g1,g2⟩:=aQN a1 a2 hS.1 hS.2 n8;have m1:=(Kr a1).1;have m2:=(Kr a2).1;obtain⟨o1,f1,q1⟩:=Su g1;obtain⟨o2,f2,q2⟩:=Su g2;rw[Pb,w,bN.fold,bN.fold,mZ,nA,mZ,nA];refine(gP ⟨sA,n8,⟨m1,m2⟩,i1,i2⟩).trans ?_;rw[aE,aE,aE,aE,aE,aE,bN.fold,mZ,nA];have t1:=aZT.Ft;have bIS:=aZT.lo;have bKT:=aZT.hi;dsimp only at t1 bIS bKT;generalize M.shD false (rH.Ea A.1 A.2) (p+8)=x1 at *;generalize M.shD true (rH.Eb A.1 A.2) (p+8)=x2 at *;refine(gP ⟨t1,by decide,o1,o2⟩).trans ?_;rw[aE,aE,aE,aE,aE,aE,bN.fold,mZ,nA];have t2:dW (rB (dY.Am x1 1) (dY.Am x2 1)):=Cq f1.pK f2.pK (mB.2 (by rw[q1,q2];grind));obtain⟨y1,k1⟩:=Zf f1 (aMP c1);obtain⟨y2,k2⟩:=Zf f2 (aMP c2);have B:Bx (cB.kI (dY.Am x1 1) C.1,cB.kI (dY.Am x2 1) C.2) (2*(S*S)+V) (R.qz (cB.kI (dY.Am x2 1) C.2)-R.qz (cB.kI (dY.Am x1 1) C.1)) 0:=by
  refine⟨k1.pK,k2.pK,bZJ k1.bl (by decide),bZJ k2.bl (by decide),cEZ,?_,?_,cEZ⟩
  ·dsimp only;rw[Ef,q1];grind
  ·dsimp only;rw[Ef,q2];grind
 have aFV:(4:Rat)<=R.pz 1100:=by
  have:=R.cK (show(1+1:Int)<=1100 by decide);rw[R.iM,R.Eh]at this;grind
 obtain⟨j1,j2,bx⟩:=Td B n8 (by have:=k1.b;dsimp only;grind) (by have:=k2.b;dsimp only;grind);refine(gP ⟨t2,sC,n8,⟨y1,y2⟩,j1,j2⟩).trans ?_;obtain⟨k,hk⟩:=cDO (show 0<=p+8 by omega);have bFX:=vV false (cB.kI (dY.Am x1 1) C.1) k;have bHR:=vV true (cB.kI (dY.Am x2 1) C.2) k;rw[<-hk]at bFX bHR;have so:=bx.Ft;have lo:=bx.lo;have hi:=bx.hi;dsimp only at so lo hi;generalize M.shD false (cB.kI (dY.Am x1 1) C.1) (p+8)=z1 at *;generalize M.shD true (cB.kI (dY.Am x2 1) C.2) (p+8)=z2 at *;generalize 2*(S*S)+V=T at *;rw[R.bY]at hd;have et:=R.Yh;have es:=R.Il (n:=3002) (by omega);rw[R.aUL,show -((3002:Nat):Int)=-3000-1-1 by rfl]at es;have p1:=R.oW (-3000);have p2:=R.oW (-3000-1);have p0:=R.dK (-3000-1-1);have one:R.qz (bW 1 0)=1:=by rw[qB];exact oA
 have aWS:=oA;have L:R.qz z1<=1:=by
  refine Rat.not_lt.1 fun hc=>?_
  have:=Kw (q:=z1) (q':=(1,0)) (g:=-3000) (δ:=2*R.Ep) (Xd bFX (by omega) (by grind)) (by decide) (by rw[aWS];grind) (by grind);grind
 have H:1<=R.qz z2:=by
  have:=Kw (q:=(1,0)) (q':=z2) (g:=-3000) (δ:=2*R.Ep) (by decide) (Xd bHR (by omega) (by grind)) (by rw[aWS];grind) (by grind);grind
 rw[aE,aE,aE,aE,aE,aE,bN.fold];refine(gP ⟨so,by decide,by decide⟩).trans ?_;rw[aE,mZ,nA,dqT (mB.2 (by rw[one];exact L)),dqT (mB.2 (by rw[one];exact H))];rfl
theorem bYJ{b p:Int}(h:Oj b)(hp:1<=p/\p<=2000):J6 b p=some [.s (.sc (.bool true))]:=by
 obtain⟨d1,d2,d3,d4,d5⟩:=h.d;obtain⟨v1,v2⟩:=h.v hp;have hb:=h.1;have wd:u64.wrap (b+4503599627370496)=b+4503599627370496:=wrap_u64 d1.1 d1.2;have fb:b%9223372036854775808<9218868437227405312/\1<=p/\p<=2000:=⟨by omega,hp⟩;have fd:(b+4503599627370496)%9223372036854775808<9218868437227405312/\1<=p/\p<=2000:=⟨d3,hp⟩;rw[sW,wd];clear wd;generalize b+4503599627370496=d at *;have e1:=vT (fn:=1) fb (by decide);have e2:=vT (fn:=2) fb (by decide);have e3:=vT (fn:=1) fd (by decide);have e4:=vT (fn:=2) fd (by decide);have s1:=bN.Rp (fn:=1) (p:=p) hb;have s2:=bN.Rp (fn:=2) (p:=p) hb;have s3:=bN.Rp (fn:=1) (p:=p) d1;have s4:=bN.Rp (fn:=2) (p:=p) d1;have h1:=La hb e1;have h2:=La hb e2;have h3:=La d1 e3;have h4:=La d1 e4;have f1:=Ky (fn:=1) hb fb (by decide);have f2:=Ky (fn:=2) hb fb (by decide);have f3:=Ky (fn:=1) d1 fd (by decide);have f4:=Ky (fn:=2) d1 fd (by decide);have w:i64.wrap (p+8)=p+8:=wrap_i64;have n8:1<=p+8/\p+8<=70000:=⟨by omega,by omega⟩;obtain⟨mo,i1,i2,⟨W1,aZT⟩,g1,g2⟩:=aRK (a:=bN.An 1 b p) (b:=bN.An 2 b p) f1 f2 h1 h2 n8;obtain⟨o1,k1,q1⟩:=Su g1;obtain⟨o2,k2,q2⟩:=Su g2;have two:=bNK hp s1 s4 f1.1 f1.2 f4.1 f4.2 h1 h4 v2;rw[gP hb];rw[aE,aE,aE,aE,aE,aE,aE,gP hb,aE,aE,aE,aE,aE,aE,aE,gP d1,aE,aE,aE,aE,aE,aE,aE,gP d1,aE,aE,aE,aE,aE,aE,aE,two,e1,e2,e3,e4,w];generalize bN.An 1 b p=A at *;generalize bN.An 2 b p=B at *;generalize bN.An 1 d p=C at *;rw[bN.fold,bN.fold,bN.fold,bFI,bFI,mZ,nA,mZ,nA];refine(gP ⟨⟨s1,s2⟩,n8,mo,i1,i2⟩).trans ?_;rw[aE,aE,aE,aE,aE,aE,bN.fold,mZ,nA];have t1:=aZT.Ft;have bIS:=aZT.lo;have bKT:=aZT.hi;change dW (rB (shD false (SMul.xI (A.1,A.2) (B.1,B.2)) (p+8)) (shD true (SMul.xJ (A.1,A.2) (B.1,B.2)) (p+8)))at t1;change R.qz (shD false (SMul.xI (A.1,A.2) (B.1,B.2)) (p+8))+0<=_ at bIS;change _<=R.qz (shD true (SMul.xJ (A.1,A.2) (B.1,B.2)) (p+8))at bKT;change dY.vW (shD false (SMul.xI (A.1,A.2) (B.1,B.2)) (p+8)) 1=true at o1;change dY.vW (shD true (SMul.xJ (A.1,A.2) (B.1,B.2)) (p+8)) 1=true at o2;change wT (dY.Am (shD false (SMul.xI (A.1,A.2) (B.1,B.2)) (p+8)) 1) _ _ _ at k1;change wT (dY.Am (shD true (SMul.xJ (A.1,A.2) (B.1,B.2)) (p+8)) 1) _ _ _ at k2;change R.qz (dY.Am (shD false (SMul.xI (A.1,A.2) (B.1,B.2)) (p+8)) 1)=2*R.qz (shD false (SMul.xI (A.1,A.2) (B.1,B.2)) (p+8))at q1;change R.qz (dY.Am (shD true (SMul.xJ (A.1,A.2) (B.1,B.2)) (p+8)) 1)=2*R.qz (shD true (SMul.xJ (A.1,A.2) (B.1,B.2)) (p+8))at q2;generalize M.shD false (SMul.xI (A.1,A.2) (B.1,B.2)) (p+8)=x1 at *;generalize M.shD true (SMul.xJ (A.1,A.2) (B.1,B.2)) (p+8)=x2 at *;refine(gP ⟨t1,by decide,o1,o2⟩).trans ?_;rw[aE,aE,aE,aE,aE,aE,bN.fold,gA rfl,gA rfl,gA rfl,gA rfl];have t2:dW (rB (dY.Am x1 1) (dY.Am x2 1)):=Cq k1.pK k2.pK (mB.2 (by rw[q1,q2];grind));refine(gP ⟨t2,s3⟩).trans ?_;rw[R.bY]at v1;have es:=R.Il (n:=6402) (by omega);rw[R.aUL,show -((6402:Nat):Int)=-6400-1-1 by rfl]at es;have p1:=R.oW (-6400);have p2:=R.oW (-6400-1);have p0:=R.dK (-6400-1-1);have c1:R.qz (dY.Am x1 1)<=R.qz C.2:=Kw (g:=-6400) (δ:=2*R.Ep) k1.e (by have:=f3.2.e;omega) (by rw[q1];grind) (by grind);have c2:R.qz C.1<=R.qz (dY.Am x2 1):=Kw (g:=-6400) (δ:=2*R.Ep) (by have:=f3.1.e;omega) k2.e (by rw[q2];grind) (by grind);have m:yK.meet (rB (dY.Am x1 1) (dY.Am x2 1)) (rB C.1 C.2)=true:=aLA (by rw[mZ,nA,q1,q2];grind) (by rw[mZ,nA];grind) (by rw[mZ,nA];exact c1) (by rw[mZ,nA];exact c2);rw[aE,m,cAN,bF]
theorem spec:fF E f3 aF (pN .u64) (pN .i64) sp:=by
 intro b p hb;have hb:0<=b/\b<18446744073709551616:=hb;refine(start b p).trans ((gP trivial).trans ((gP hb).trans ?_));rw[aE]
 by_cases c1:b%9223372036854775808<9218868437227405312/\1<=p/\p<=2000
 ·have t1:b.tmod 9223372036854775808=b%9223372036854775808:=cGA (by omega);have t2:(b%9223372036854775808).tdiv 4503599627370496=b%9223372036854775808/4503599627370496:=Int.tdiv_eq_ediv_of_nonneg (by omega);rw[dqT c1,cAN,bF,t1,t2,wrap_u64 (n:=b%9223372036854775808/4503599627370496),wrap_u64]
  by_cases c2:b%9223372036854775808/4503599627370496+1=1
  ·rw[dU c2];rfl
  ·rw[cP c2]
   by_cases c3:2046<b%9223372036854775808/4503599627370496+1
   ·rw[aO c3];rfl
   ·rw[aM c3];exact bYJ ⟨hb,by omega,by omega⟩ c1.2
 ·rw[dqF c1,cKD,bT];rfl
def aJ:dO:=orc2 (pN .u64) (pN .i64) sp
theorem fnok:tJ prog E 3 f3 aF:=Yb qP mixed (lT _ rfl (aA Vt.ok (aA aCP.ok (aA bN.ok (aA SMul.ok (aA aCH.ok (aA Vj.ok (aA rH.ok (aA bAE.ok (aA Vm.ok aD))))))))) (oD)) func3 rfl rfl rfl
theorem ok:nR prog base.glob 3 aJ:=fnok.jZ rfl spec
end LawDoubles16
end W
namespace AI
open Go Go.RowKit Go.ChangeShapes Go.WideShapes Go.ChangeAt
abbrev noX:Nat->Prop:=fun _=>False
theorem aTF{w:World}{a:Addr}{v:Value}(h:w.cell? a=some v):a=⟨a.block,a.off,none⟩/\a.block<w.heap.size:=by
 unfold World.cell? at h;split at h
 ·rename_i c t fr hb;split at h
  ·cases h
  ·rename_i hs;obtain⟨b,o,s⟩:=a;cases s with
   |some x=>simp at hs
   |none=>exact⟨rfl,(Array.getElem?_eq_some_iff.1 hb).1⟩
 ·cases h
section
variable {H:Type} {enc:TypeId×Value->H} {P:Program} {w:World} {held:Bool} {sp:Nat->Bool}
theorem glob_ints{name:String}{g:Nat}{t e:TypeId}{k:IntKind}{n fuel:Nat}{ns:List Int}{cs:Array Value}{p:List MemPlace}(hg:P.globalNamed name=some g)(hv:w.var? P name=some cs)(ht:P.underlying t=some (.array n e))(he:P.underlying e=some (.int k))(hc:P.cellsOf e=1)(hn:ns.length=n)(aEP:0<n)
  (hd:DataW.trod enc P w 0 sp held fuel t cs.toList=some (.agg (ns.map fun m=>.lit (.int k m)),p)):g<w.heap.size/\¬noX g/\vM noX w g 0 (xZ k ns):=by
 obtain⟨xs,m1,_,hx,_,Dp,bVI⟩:=DataW.trod_array ht hd;simp only[Prod.mk.injEq,DataW.agg.injEq]at hx;have cell:∀i v,ns[i]?=some v->w.cell? ⟨g,i,none⟩=some (.int k v):=by
  intro i v hi;have jM:i<n:=by have:=(List.getElem?_eq_some_iff.1 hi).1;omega
  have h1:=bVI i jM;have bOG:xs[i]?=some xs[i]:=bZD (by omega);rw[bOG,hc,Nat.mul_one]at h1;obtain⟨m,e1,e2,_⟩:=DataW.trod_int he h1;have h2:=congrArg (fun l=>l[i]?) hx.1;simp only[bYR,hi,bOG,e2,Option.map_some]at h2;have bUG:v=m:=by simpa using h2
  subst bUG;have h3:((cs.toList.drop i).take 1)[0]?=some (.int k v):=by rw[e1];rfl
  rw[List.getElem?_take,aR,List.getElem?_drop]at h3;have h4:=World.var?_cell hg hv i;rw[h4];simpa using h3
 have h0:ns[0]?=some ns[0]:=bZD (by omega);have hb:=(aTF (cell 0 _ h0)).2;refine⟨hb,id,fun i s hs=>⟨hb,id,?_⟩⟩;unfold xZ at hs;rw[bYR]at hs;obtain⟨v,bTI,rfl⟩:=Option.map_eq_some_iff.1 hs;refine⟨_,by rw[Nat.zero_add];exact cell i v bTI,rfl,rfl⟩
end
theorem wf64{n:Int}(h:(Lit.int .u64 n).wf=true):0<=n/\n<18446744073709551616:=by
 have h2:u64.min<=n/\n<=u64.max:=by simpa [Lit.wf] using h
 have e1:u64.min=0:=rfl;have e2:u64.max=18446744073709551615:=rfl;omega
theorem calls_true{P:Program}{G:Nat->Option (IntKind×List Int)}{f:FuncId}{ds:List D}(hc:Contract P G f ds [.s (.sc (.bool true))]){w:World}{vs:List Value}(hG:GlobOk G noX w)(hl:ds.length=vs.length)
  (hr:∀(i:Nat) (d:D) (v:Value),ds[i]?=some d->vs[i]?=some v->oZ noX w d v):Calls P f vs.toArray w fun e w'=>e=.returned (.bool true)/\Below w.heap.size w w':=by
 refine(hc noX w vs (fun _ h=>h.elim) hG hl hr).mono ?_;rintro e w' ⟨Ae,rfl,hb,g,hl,_,hr⟩
 match Ae,hl with
 | [v],_ =>
  have:=hr 0 _ v rfl rfl;obtain⟨rfl,_⟩:=this;exact⟨rfl,hb⟩
end AI
end Go.Proofs.YtcnlagnipklcmaaGreatDoor
end
