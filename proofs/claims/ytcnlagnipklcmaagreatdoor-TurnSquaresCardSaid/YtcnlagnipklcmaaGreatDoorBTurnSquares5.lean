/- Contracts of functions and laws, for the claim on TurnSquares. -/
import Derived.WalkKit
import Derived.ProofKit
import Derived.OpenShut
import Derived.Carry
import Derived.LaidMore
import Derived.MakeChecks
import Derived.Test.YtcnlagnipklcmaaGreatDoorBTurnSquares4
set_option linter.unusedVariables false
set_option linter.unusedSimpArgs false
set_option exponentiation.threshold 10000000
noncomputable section
open Go.IntKind(i8 i16 i32 i64 u8 u16 u32 u64)
open Go.Proofs.Tryz
open Nat renaming le_trans->bMS,pow_pos->bOV,pow_succ->bQV,pow_lt_pow_iff_right->cAI,lt_of_le_of_lt->bSL,div_add_mod->bRC
open Rat renaming le_of_lt->bRD,le_refl->bSK,intCast_add->bXT
open Int renaming toNat_natCast->bPS,mul_assoc->bSJ,eq_ofNat_of_zero_le->bQY,emod_nonneg->bVA
open Bool renaming true_and->bOX,false_and->bRF,not_true->bNW,and_false->bRI,false_or->bNX,and_eq_true->bMC
open List renaming getElem?_eq_getElem->bMM,getElem?_map->bMA
namespace Go.Proofs.YtcnlagnipklcmaaGreatDoor
open Go.Value(int bool slice)
open AI.S(sc ints)
namespace W
open Go AI M
namespace cB
def E:=mE [(25,bM.aH),(46,mH.aH),(26,bA.aH),(76,Rr.aH),(77,Oj.aH),(78,Vh.aH),(70,Oe.aH),(79,Rq.aH)] 71 [22,68] [] []
def aE:=bd f30
theorem aU:Nk E aE:=nk
theorem start a:aF E f30 aE [D.s (sc (int u64 a))]=letI N:=sc (int i64 0);letI I:=bif fM 1 (-1:Int)then aL 1 (-1:Int)else((0:Int),(0:Int));letI B:=bif eT.hI 64 a&&cA.iB 64 a then aL (bM.lZ 64 a) (bM.mA 64 a)else((0:Int),(0:Int));aO (((64:Int)=(32:Int)\/(64:Int)=(64:Int))/\0<=a/\a<18446744073709551616) (aC (isNeg B.fst) fun b=>aC (M6.dg B.fst.natAbs) fun c=>aC B.snd fun d=>letI O:=dv (b,c,d);letI H:=bif mH.Jc O 1 then mH.aID O 1 else((0:Int),(0:Int));aC (bif eT.hI 64 a then bif cA.iB 64 a then(0:Int)else(6:Int)else(2:Int)) fun e=>aB (e !=0) (some [D.s N,D.agg [sc (bool false),sc (slice none 0 0),sc (int i64 0)],D.s (sc (int i64 e))]) (aO (aJ (b,c,d)/\(-9223372036854775808:Int)<=(1:Int)/\(1:Int)<(9223372036854775808:Int)) (aC (isNeg H.fst) fun f=>aC (M6.dg H.fst.natAbs) fun g=>aC H.snd fun h=>aO (((-9223372036854775808:Int)<=(1:Int)/\(1:Int)<(9223372036854775808:Int))/\(-9223372036854775808:Int)<=(-1:Int)/\(-1:Int)<(9223372036854775808:Int)) (aC (isNeg I.fst) fun i=>aC (M6.dg I.fst.natAbs) fun j=>aC I.snd fun k=>letI C:=bif bA.gJ (dv (f,g,h)) (dv (i,j,k))then bA.jL (dv (f,g,h)) (dv (i,j,k))else((0:Int),(0:Int));aO (aJ (f,g,h)/\aJ (i,j,k)) (aC (isNeg C.fst) fun l=>aC (M6.dg C.fst.natAbs) fun m=>aC C.snd fun n=>letI G:=bif nM.qC (dv (l,m,n)) 0 then nM.wX (dv (l,m,n)) 0 else((0:Int),(0:Int));aO (aJ (l,m,n)/\(-4611686018427387904:Int)<=(0:Int)/\(0:Int)<(4611686018427387904:Int)) (aC (isNeg G.fst) fun o=>aC (M6.dg G.fst.natAbs) fun p=>aC G.snd fun q=>letI K:=bif fit (M6.val p*(2:Nat)^q.toNat)then wv (o,p)*(↑((2:Nat)^q.toNat):Int)else(0:Int);letI F:=bif mH.Jc (dv (o,p,q)) (-1:Int)then mH.aID (dv (o,p,q)) (-1:Int)else((0:Int),(0:Int));aO (aJ (o,p,q)/\(-9223372036854775808:Int)<=(-1:Int)/\(-1:Int)<(9223372036854775808:Int)) (aC (isNeg F.fst) fun r=>aC (M6.dg F.fst.natAbs) fun s=>aC F.snd fun t=>letI P:=dv (r,s,t);letI A:=bif bA.gJ O (-P.fst,P.snd)then bA.jL O (-P.fst,P.snd)else((0:Int),(0:Int));aO (aJ (b,c,d)/\aJ (r,s,t)) (aC (isNeg A.fst) fun u=>aC (M6.dg A.fst.natAbs) fun v=>aC A.snd fun w=>aB (decide (q<2)) (aO (jY (o,p)/\0<=q/\q<4611686018427387904) (aC (isNeg K) fun x=>aC (M6.dg K.natAbs) fun y=>aO (jY (x,y)) (aC (wv (x,y)%4) fun z=>some [D.s (sc (int i64 z)),D.agg [sc (bool u),ints u64 v,sc (int i64 w)],D.s N]))) (some [D.s N,D.agg [sc (bool u),ints u64 v,sc (int i64 w)],D.s N]))))))))):=eJ aU
def yZ(p:Int×Int):Int:=if 0<=p.2 then p.1*p2 (p.2+1)else(p.1*4+p2 (-p.2))/p2 (1-p.2)
def Mb(p:Int×Int):Int:=if 0<=p.2 then 0 else p.1*2-yZ p*p2 (-p.2)
def zA(p:Int×Int):Int×Int:=aL (Mb p) (p.2-1)
def nQ(a:Int):Int×Int:=aL (bM.lZ 64 a) (bM.mA 64 a)
def sp(a:Int):Prop×List D:=(0<=a/\a<18446744073709551616,[.s (.sc (.int .i64 (bif cA.iB 64 a then yZ (nQ a)%4 else 0))),dD (bif cA.iB 64 a then zA (nQ a)else(0,0)),.s (.sc (.int .i64 (bif cA.iB 64 a then 0 else 6)))])
theorem cO{a:Int}(_:0<=a)(hf:cA.iB 64 a=true):(bM.lZ 64 a).natAbs<2^53/\-1074<=bM.mA 64 a/\bM.mA 64 a<=971:=by
 have Eg:0<=a%dJ.dW (aM.gW 64):=by rw[show dJ.dW (aM.gW 64)=9223372036854775808 from rfl];omega
 have qB:a%dJ.dW (aM.gW 64)<kT.mK (aM.gW 64):=of_decide_eq_true hf;have hm:=bM.Th aM.vK Eg;have hx:=bM.Uc aM.vK Eg qB;refine⟨?_,hx.1,?_⟩
 ·unfold bM.lZ;rw[kB];have:=hm.2;rw[show aM.gW 64=(64,53,-1074,9221120237041090561)from rfl]at *;omega
 ·unfold bM.mA iF.Ej;rw[show kT.mK (aM.gW 64)=9218868437227405312 from rfl]at qB;rw[show cY.lR (aM.gW 64)=4503599627370496 from rfl];rw[show(aM.gW 64).2.2.1=-1074 from rfl];split <;> omega
theorem aCP{a:Int}(h0:0<=a)(hf:cA.iB 64 a=true):iS (nQ a)/\(nQ a).1.natAbs<2^53/\-1074<=(nQ a).2/\(nQ a).2<=1024:=by
 obtain⟨h1,h2,h3⟩:=cO h0 hf;have hb:bl (bM.lZ 64 a).natAbs<=53:=dU.2 h1;have ha:=Am (bM.lZ 64 a) (bM.mA 64 a);refine⟨eZ (fJ (by omega) (by omega)) (by omega),?_,?_⟩
 ·unfold nQ;omega
 ·unfold nQ
  by_cases hz:bM.lZ 64 a=0
  ·rw[hz,cV];exact⟨by show(-1074:Int)<=0;omega,by show(0:Int)<=1024;omega⟩
  ·have:=(jH (e:=bM.mA 64 a) hz).2;have:=Aa (n:=(bM.lZ 64 a).natAbs) (by omega);omega
theorem spec:aGC E f30 aE (pN .u64) sp:=by
 rintro a ⟨h0,h1⟩;have hp:eT.hI 64 a=true:=rfl;unfold sp
 try dsimp only
 cases hf:cA.iB 64 a with
 |false =>
  have s:=start a;rw[gP ⟨.inr rfl,h0,h1⟩,hp,hf,vl,vl,vl,vl,qF (by decide)]at s;refine⟨_,s,.cons (vW.refl _) (.cons ?_ (fP.refl _))⟩;unfold dD;rw[cond_false,show((0,0):Int×Int).1.natAbs=0 from rfl,M6.bJ];exact vW.agg (.cons (yN.refl _) (.cons (yN.nil _) (uH.refl _)))
 |true =>
  refine⟨_,(start a).trans ((gP ⟨.inr rfl,h0,h1⟩).trans ?_),fP.refl _⟩
  try dsimp only[cond_true]
  have e1:(bif eT.hI 64 a&&cA.iB 64 a then aL (bM.lZ 64 a) (bM.mA 64 a)else((0:Int),(0:Int)))=nQ a:=by rw[hp,hf];rfl
  have bLJ:(bif eT.hI 64 a then bif cA.iB 64 a then(0:Int)else 6 else 2)=0:=by rw[hp,hf];rfl
  rw[e1,bLJ,nS,vl,fD rfl];obtain⟨Qa,hm,aHG,Zc⟩:=aCP h0 hf;generalize nQ a=p at *;obtain⟨m,e⟩:=p;have hs:aL m e=(m,e):=Qa.same
  try dsimp only at hm aHG Zc
  have bm:bl m.natAbs<=53:=dU.2 hm;rw[gP ⟨cK Qa,by omega,by omega⟩,cT];have bK:bl (yZ (m,e)).natAbs<=1100:=by
   unfold yZ
   try dsimp only
   split
   ·have:=xA (n:=e+1) (k:=1025) bm (by omega);omega
   ·refine aPN ?_ _;have b1:=xA (z:=m) (n:=2) (k:=2) bm (by omega);have b2:=xA (z:=1) (n:=-e) (k:=1074) xB (by omega);rw[Int.one_mul]at b2;exact bMS (Ul (n:=1075) (bMS b1 (by omega)) b2) (by omega)
  have hR:zA (m,e)=aL (if 0<=e then 0 else m*2-yZ (m,e)*p2 (-e)) (e-1):=rfl;have hK:yZ (m,e)=if 0<=e then m*p2 (e+1)else(m*4+p2 (-e))/p2 (1-e):=rfl
  generalize yZ (m,e)=K at *;generalize zA (m,e)=R at *;rw[<-hs];have e2:(bif mH.Jc (aL m e) 1 then mH.aID (aL m e) 1 else((0:Int),(0:Int)))=aL m (e+1):=by
   rw[Pj (by omega) (by omega),We];rfl
  have e3:(bif fM 1 (-1)then aL 1 (-1)else((0:Int),(0:Int)))=aL 1 (-1):=by
   rw[fJ (by omega) (by have:=xB;omega)];rfl
  have bGK:iS (aL m (e+1)):=eZ (fJ (by omega) (by omega)) (by omega);have p3:iS (aL 1 (-1)):=eZ (fJ (by omega) (by have:=xB;omega)) (by have:=xB;omega);rw[e2,e3,nS,gP ⟨by omega,by omega⟩,nS,gP ⟨cK bGK,cK p3⟩,cT,cT];obtain⟨S,G,hS,hG0,bBE,Qb,aJG,aQT⟩:∃S G:Int,bl S.natAbs<=1100/\-1100<=G/\G<=-1/\bA.gJ (aL m (e+1)) (aL 1 (-1))=true/\bA.jL (aL m (e+1)) (aL 1 (-1))=aL S G/\S/p2 (0-G)=K:=by
   by_cases hc:0<=e
   ·have b1:=xA (z:=m) (n:=e+1 - -1) (k:=1026) bm (by omega);have b2:=xA (z:=1) (n:=-1 - -1) (k:=0) xB (by omega);refine⟨_,-1,bMS (Ul (n:=1080) (bMS b1 (by omega)) (bMS b2 (by omega))) (by omega),by omega,by omega,yF (G:=-1) (by omega) (by omega) (by omega) (by omega) (by omega) (by omega),Be (by omega) (by omega),?_⟩;rw[hK,if_pos hc,show e+1 - -1=e+1+1 by omega,pV (by omega) (by omega),show p2 (0 - -1)=2 from rfl,show p2 (-1 - -1)=1 from rfl,aCM];generalize p2 (e+1)=q;rw[<-bSJ];omega
   ·have b1:=xA (z:=m) (n:=e+1-(e-1)) (k:=2) bm (by omega);have b2:=xA (z:=1) (n:=-1-(e-1)) (k:=1074) xB (by omega);refine⟨_,e-1,bMS (Ul (n:=1080) (bMS b1 (by omega)) (bMS b2 (by omega))) (by omega),by omega,by omega,yF (G:=e-1) (by omega) (by omega) (by omega) (by omega) (by omega) (by omega),Be (by omega) (by omega),?_⟩;rw[hK,if_neg hc,show e+1-(e-1)=2 by omega,show -1-(e-1)=-e by omega,Int.one_mul,show p2 2=4 from rfl,show 0-(e-1)=1-e by omega]
  have e4:(bif bA.gJ (aL m (e+1)) (aL 1 (-1))then bA.jL (aL m (e+1)) (aL 1 (-1))else((0:Int),(0:Int)))=aL S G:=by rw[Qb,aJG];rfl
  have p4:iS (aL S G):=eZ (fJ (by omega) (by omega)) (by omega);have e5:(bif nM.qC (aL S G) 0 then nM.wX (aL S G) 0 else((0:Int),(0:Int)))=aL K 0:=by
   rw[Tz (by omega) (by omega) (by rw[aQT];omega),Zh (by omega),aQT];rfl
  have p5:iS (aL K 0):=eZ (fJ (by omega) (by omega)) (by omega);rw[e4,nS,gP ⟨cK p4,by omega,by omega⟩,cT,e5,nS,gP ⟨cK p5,by omega,by omega⟩,cT];have e6:(bif mH.Jc (aL K 0) (-1)then mH.aID (aL K 0) (-1)else((0:Int),(0:Int)))=aL K (-1):=by
   rw[Pj (by omega) (by omega),We];rfl
  have p6:iS (aL K (-1)):=eZ (fJ (by omega) (by omega)) (by omega);rw[e6,nS,gP ⟨cK (hs▸Qa),cK p6⟩,cT,<-Ps];have e7:(bif bA.gJ (aL m e) (aL (-K) (-1))then bA.jL (aL m e) (aL (-K) (-1))else((0:Int),(0:Int)))=R:=by
   rw[hR]
   by_cases hc:0<=e
   ·have b1:=xA (z:=m) (n:=e - -1) (k:=1026) bm (by omega);have b2:=xA (z:=-K) (n:=-1 - -1) (k:=0) (No bK) (by omega);rw[yF (G:=-1) (by omega) (by omega) (by omega) (by omega) (by omega) (by omega),Be (G:=-1) (by omega) (by omega),if_pos hc,hK,if_pos hc,show e - -1=e+1 by omega,show p2 (-1 - -1)=1 from rfl,Int.mul_one];rw[show m*p2 (e+1)+-(m*p2 (e+1))=0 by omega,cV,cV];rfl
   ·have b1:=xA (z:=m) (n:=e-(e-1)) (k:=1) bm (by omega);have b2:=xA (z:=-K) (n:=-1-(e-1)) (k:=1074) (No bK) (by omega);rw[yF (G:=e-1) (by omega) (by omega) (by omega) (by omega) (by omega) (by omega),Be (G:=e-1) (by omega) (by omega),if_neg hc,show e-(e-1)=1 by omega,show -1-(e-1)=-e by omega,aCM,Int.neg_mul,<-Int.sub_eq_add_neg];rfl
  rw[e7,nS];have gK:=Tf (z:=K) (e:=0) (G:=0) (by omega);rw[Int.sub_self,Int.sub_zero,Wo,Int.mul_one]at gK;have bIS:0<=(aL K 0).2:=by
   by_cases hz:K=0
   ·rw[hz,cV];exact Int.le_refl 0
   ·exact kY hz
  have bHM:M6.val (M6.dg (aL K 0).1.natAbs)=(aL K 0).1.natAbs:=M6.bI _;have Ji:fit (M6.val (M6.dg (aL K 0).1.natAbs)*2^(aL K 0).2.toNat)=true:=by
   rw[bHM,<-Uu,gK];exact decide_eq_true (by omega)
  by_cases hc:(aL K 0).2<2
  ·rw[aN hc,gP ⟨(cK p5).Eb,by omega,by omega⟩,rT,Ji];have e8:(bif true then(aL K 0).1*((2^(aL K 0).2.toNat:Nat):Int)else(0:Int))=K:=gK;rw[e8,vl,vl,gP (mN (by omega)),rT,vl];rfl
  ·rw[aI hc];have:K%4=0:=by
    have e9:p2 (aL K 0).2=p2 ((aL K 0).2-2)*4:=by
     have:=pV (m:=(aL K 0).2-2) (n:=2) (by omega) (by omega);rwa [show(aL K 0).2-2+2=(aL K 0).2 by omega]at this
    rw[e9,<-bSJ]at gK;generalize (aL K 0).1*p2 ((aL K 0).2-2)=q at *;omega
   rw[this];rfl
def aH:dG:=orc1 (pN .u64) sp
theorem ok:OK 30 aH:=(eF E aE (aA bM.ok (aA mH.ok (aA bA.ok (aA Rr.ok (aA Oj.ok (aA Vh.ok (aA Oe.ok (aA Rq.ok aD)))))))) func30).aRM rfl spec
end cB
end W
namespace M
open Go AI W
def tv(fn k:Int)(s c:Rat):Rat:=if fn=4 then R.rs k s c else if fn=5 then R.rc k s c else R.rs k s c/R.rc k s c
def tS(r:Int×Int)(p:Int):(Int×Int)×(Int×Int):=gS (fL.zK r (p+16)).1 (fL.zK r (p+16)).2 (p+18)
def tC(r:Int×Int)(p:Int):(Int×Int)×(Int×Int):=gC (fL.zK r (p+16)).1 (fL.zK r (p+16)).2 (p+18)
def tE(fn k:Int)(r:Int×Int)(p:Int):(Int×Int)×(Int×Int):=jT.aKU fn (k%4).toNat (tS r p) (tC r p) (p+16)
def tO(fn k:Int)(r:Int×Int)(p:Int):(Int×Int)×(Int×Int):=(shD false (tE fn k r p).1 (p+20),shD true (tE fn k r p).2 (p+20))
structure bFP(fn k:Int)(r:Int×Int)(p:Int):Prop where
 ci:fL.aJX r (p+16)
 sS:dP (mI (tS r p).1 (tS r p).2)
 sC:dP (mI (tC r p).1 (tC r p).2)
 qu:jT.aIJ (p+16) (VTurned.trn (tS r p) (tC r p) (k%4).toNat).1 (VTurned.trn (tS r p) (tC r p) (k%4).toNat).2
 re:dP (mI (tE fn k r p).1 (tE fn k r p).2)
 s1:nT false (tE fn k r p).1 (p+20)=true
 s2:nT true (tE fn k r p).2 (p+20)=true
 v0:tv fn k (R.sn (R.qz r*R.pi)) (R.cs (R.qz r*R.pi))≠0
 vl:R.pz (-1075)<=R.ab (tv fn k (R.sn (R.qz r*R.pi)) (R.cs (R.qz r*R.pi)))
 vh:R.ab (tv fn k (R.sn (R.qz r*R.pi)) (R.cs (R.qz r*R.pi)))<=R.pz 1075
 bx:Bx (tO fn k r p) (tv fn k (R.sn (R.qz r*R.pi)) (R.cs (R.qz r*R.pi))) (R.pz (-p-1)*R.ab (tv fn k (R.sn (R.qz r*R.pi)) (R.cs (R.qz r*R.pi)))) (mg (p-7))
 bits:(bl (tO fn k r p).1.1.natAbs:Int)<=p+21/\(bl (tO fn k r p).2.1.natAbs:Int)<=p+21
 bBP:-p-1200<=(tO fn k r p).1.2/\-p-1200<=(tO fn k r p).2.2
 on:fn=4\/fn=5->On (tO fn k r p)
theorem Xx{s:(Int×Int)×(Int×Int)}{V ρ m:Rat}(h:Bx s V (ρ*R.ab V) m)(r1:ρ<=1/4)(V0:V≠0) :
  3/4*R.ab V<=R.ab (R.qz s.1)/\R.ab (R.qz s.1)<=5/4*R.ab V/\3/4*R.ab V<=R.ab (R.qz s.2)/\R.ab (R.qz s.2)<=5/4*R.ab V/\0<R.ab V:=by
 obtain⟨_,_,_,_,m0,lo,hi,wd⟩:=h;have a0:0<R.ab V:=by
  unfold R.ab;split <;> grind
 have k:=R.aG (bRD a0) (show 0<=1/4-ρ by grind);generalize hρ:ρ*R.ab V=W at *
 by_cases c:0<V
 ·have e:R.ab V=V:=R.bN (bRD c);rw[e]at a0 k hρ;rw[e];rw[R.bN (show 0<=R.qz s.1 by grind),R.bN (show 0<=R.qz s.2 by grind)];exact⟨by grind,by grind,by grind,by grind,c⟩
 ·have e:R.ab V=-V:=by unfold R.ab;rw[if_neg (by grind)]
  rw[e]at a0 k hρ;rw[e];rw[<-R.gT,R.bN (show 0<=-R.qz s.1 by grind),<-R.gT,R.bN (show 0<=-R.qz s.2 by grind)];exact⟨by grind,by grind,by grind,by grind,by grind⟩
theorem Sm{fn k:Int}{r:Int×Int}{p:Int}(h:aRF r)(hp:1<=p/\p<=66000)(hf:fn=4\/fn=5\/fn=6):bFP fn k r p:=by
 obtain⟨ci,tr⟩:=aPQ h hp;obtain⟨_,_,bs,bc,os,oc⟩:=tr;obtain⟨ρ,hρ⟩:∃ρ,ρ=R.qz r*R.pi:=⟨_,rfl⟩;obtain⟨bDC,bDB⟩:=R.sA;have ar:R.ab ρ=R.ab (R.qz r)*R.pi:=by rw[hρ,R.fS,R.bN (show 0<=R.pi by grind)]
 have a0:=R.aQ (R.qz r);have rg:3*R.pz (-1075)<=R.ab ρ:=by
  rw[ar];have:=h.g;have:=R.aG a0 (show 0<=R.pi-3 by grind);grind
 have rn:R.ab ρ<=79/100:=by
  rw[ar];have:=h.q;have:=R.aG a0 (show 0<=314160/100000-R.pi by grind);grind
 rw[<-hρ]at bs bc;rw[show gS (fL.zK r (p+16)).1 (fL.zK r (p+16)).2 (p+18)=tS r p from rfl]at bs os;rw[show gC (fL.zK r (p+16)).1 (fL.zK r (p+16)).2 (p+18)=tC r p from rfl]at bc oc;rw[show -(p-7)-12=-p-5 by omega]at bs bc;have bGJ:=R.dS (-1075);have l75:R.pz (-1075)<=1/4:=by
  have:=R.dM (show(-1075:Int)<=-2 by omega);have e:=R.fZ 0 (n:=2) (c:=4) (by norm_cast);rw[R.fC,show(0:Int)-((2:Nat):Int)=-2 by rfl]at e;grind
 obtain⟨c1,c2⟩:=R.Xs (r:=ρ) (by grind);have s0:R.pz (-1075)<=R.ab (R.sn ρ)/\R.ab (R.sn ρ)<=1:=by
  rw[<-R.aMZ (by grind)];obtain⟨a,b⟩:=R.aBW (R.aQ ρ) (by grind);constructor <;> grind
 have s1:R.pz (-1075)<=R.ab (R.cs ρ)/\R.ab (R.cs ρ)<=1:=by
  rw[R.bN (show 0<=R.cs ρ by grind)];constructor <;> grind
 obtain⟨S,hS⟩:∃S,S=R.rs k (R.sn ρ) (R.cs ρ):=⟨_,rfl⟩;obtain⟨C,hC⟩:∃C,C=R.rc k (R.sn ρ) (R.cs ρ):=⟨_,rfl⟩;have sS:R.pz (-1075)<=R.ab S/\R.ab S<=1:=by
  rw[hS,aKZ];split <;> assumption
 have sC:R.pz (-1075)<=R.ab C/\R.ab C<=1:=by
  rw[hC,aLA];split <;> assumption
 have aCS:∀v:Rat,R.pz (-1075)<=R.ab v->v≠0:=fun v hv hz=>by rw[hz,R.bN bSK]at hv;grind
 have S0:=aCS _ sS.1;have C0:=aCS _ sC.1;obtain⟨z,hz⟩:∃z,z=R.pz (-p-20):=⟨_,rfl⟩;have z0:=R.dS (-p-20);rw[<-hz]at z0;have pw:∀(a:Int) (n:Nat) (c:Rat),a=-p-20+(n:Int)->((2^n:Nat):Rat)=c->R.pz a=c*z:=fun a n c ha hc=>by
  rw[ha,R.dT,hc,hz];grind
 have e5:=pw (-p-5) 15 32768 (by omega) (by norm_cast);have e1:=pw (-p-1) 19 524288 (by omega) (by norm_cast);have aRC:=pw (2-(p+16)) 6 64 (by omega) (by norm_cast);have bLG:=pw (1-(p+20)) 1 2 (by omega) (by norm_cast);have zs:z<=1/2097152:=by
  have:=R.dM (show -p-20<=-21 by omega);have e:=R.fZ 0 (n:=21) (c:=2097152) (by norm_cast);rw[R.fC,show(0:Int)-((21:Nat):Int)=-21 by rfl]at e;grind
 obtain⟨b1,b2⟩:=Bx.trn bs bc (k:=k);rw[<-hS]at b1;rw[<-hC]at b2;have aXZ:=On.trn os oc (k%4).toNat;obtain⟨t,ht⟩:∃t,t=VTurned.trn (tS r p) (tC r p) (k%4).toNat:=⟨_,rfl⟩;rw[<-ht]at b1 b2 aXZ;have b1:Bx t.1 S (R.pz (-p-5)*R.ab S) (mg (p-7)):=by
  refine Kx b1 ?_;rw[hS,aKZ];split <;> exact bSK
 have b2:Bx t.2 C (R.pz (-p-5)*R.ab C) (mg (p-7)):=by
  refine Kx b2 ?_;rw[hC,aLA];split <;> exact bSK
 rw[e5]at b1 b2;have n1:=aFT b1 (by grind) S0;have n2:=aFT b2 (by grind) C0;have h1300:R.pz (-1300)<=R.pz (-1075)/2:=by
  have:=R.uN (-1075);have:=R.dM (show(-1300:Int)<=-1075-1 by omega);grind
 have z1:Rs t.1.1:=Lw b1.bl (Dl (by grind)) (by grind) (by grind);have z2:Rs t.1.2:=Lw b1.bh (Dl (by grind)) (by grind) (by grind);have z3:Rs t.2.1:=Lw b2.bl (Dl (by grind)) (by grind) (by grind);have z4:Rs t.2.2:=Lw b2.bh (Dl (by grind)) (by grind) (by grind);have bEV:S/C*C=S:=by grind
 obtain⟨q0,q1,q2,bq⟩:=aNE (p:=p+16) b1 b2 S0 C0 sC.2 (by grind) (by grind) bEV (by omega) z1 z2 z3 z4;rw[aRC]at bq;have aV:R.ab (S/C)*R.ab C=R.ab S:=by rw[<-R.fS,bEV]
 have i75:R.pz (-1075)*R.pz 1075=1:=by rw[<-R.mD];exact R.fC
 have P75:1<=R.pz 1075:=by rw[<-R.fC];exact R.dM (by omega)
 have tV:R.pz (-1075)<=R.ab (S/C)/\R.ab (S/C)<=R.pz 1075:=by
  have a0:=R.aQ (S/C);generalize R.ab (S/C)=a at *;constructor
  ·have:=R.aG a0 (show 0<=1-R.ab C by grind);grind
  ·refine R.dK bGJ ?_;have:=R.aG a0 (show 0<=R.ab C-R.pz (-1075) by grind);grind
 have bLR:=aCS _ tV.1;obtain⟨V,hV⟩:∃V,V=tv fn k (R.sn ρ) (R.cs ρ):=⟨_,rfl⟩;obtain⟨bE,vl,vh,V0,oE⟩:Bx (tE fn k r p) V (200000*z*R.ab V) (mg (p-7))/\R.pz (-1075)<=R.ab V/\R.ab V<=R.pz 1075/\V≠0/\(fn=4\/fn=5->On (tE fn k r p)):=by
  rcases hf with rfl |rfl |rfl
  ·have a:V=S:=by rw[hV,hS];rfl
   have b:tE 4 k r p=t.1:=by rw[ht];rfl
   rw[a,b];exact⟨Kx b1 (by have:=R.aG (bRD z0) (R.aQ S);grind),sS.1,by grind,S0,fun _=>aXZ.1⟩
  ·have a:V=C:=by rw[hV,hC];rfl
   have b:tE 5 k r p=t.2:=by rw[ht];rfl
   rw[a,b];exact⟨Kx b2 (by have:=R.aG (bRD z0) (R.aQ C);grind),sC.1,by grind,C0,fun _=>aXZ.2⟩
  ·have a:V=S/C:=by rw[hV,hS,hC];rfl
   have b:tE 6 k r p=(aL (iX.Oo (p+16) t.1.1 t.1.2 t.2.1 t.2.2).1 (iX.Oo (p+16) t.1.1 t.1.2 t.2.1 t.2.2).2,aL (iX.Oq (p+16) t.1.1 t.1.2 t.2.1 t.2.2).1 (iX.Oq (p+16) t.1.1 t.1.2 t.2.1 t.2.2).2):=by rw[ht];rfl
   rw[a,b];exact⟨Kx bq (by have:=R.aG (bRD z0) (R.aQ (S/C));grind),tV.1,tV.2,bLR,fun h=>by omega⟩
 have nE:=Xx bE (by grind) V0;have P1100:2*R.pz 1075<=R.pz 1100:=by rw[<-R.jG];exact R.dM (by omega)
 obtain⟨bGD,bGC,bO⟩:=aNK (n:=p+20) bE (by omega) (by grind) (by grind);rw[bLG]at bO;have bX:Bx (tO fn k r p) V (524288*z*R.ab V) (mg (p-7)):=by
  refine Kx bO ?_;have k1:=R.aG (bRD z0) (show 0<=5/4*R.ab V-R.ab (R.qz (tE fn k r p).1) by grind);have k2:=R.aG (bRD z0) (show 0<=5/4*R.ab V-R.ab (R.qz (tE fn k r p).2) by grind);have k3:=R.aG (bRD z0) (R.aQ V);grind
 have g1:=wI false (tE fn k r p).1 (p+20).toNat;have g2:=wI true (tE fn k r p).2 (p+20).toNat;rw[show(((p+20).toNat:Nat):Int)=p+20 by omega]at g1 g2;have nX:=Xx bX (by grind) V0;have m1:(tO fn k r p).1.1≠0:=Dl (by grind);have m2:(tO fn k r p).2.1≠0:=Dl (by grind);have x1:=Wa (up:=false) (p:=(tE fn k r p).1) (n:=p+20) m1;have x2:=Wa (up:=true) (p:=(tE fn k r p).2) (n:=p+20) m2;have h1076:R.pz (-1076)<=3/4*R.pz (-1075):=by
  have:=R.uN (-1075);rw[show(-1075:Int)-1=-1076 by rfl]at this;grind
 have y1:=Fs (p:=(tE fn k r p).1) (E:=-1076) (Dl (by grind)) (by grind);have y2:=Fs (p:=(tE fn k r p).2) (E:=-1076) (Dl (by grind)) (by grind);have aNX:tv fn k (R.sn (R.qz r*R.pi)) (R.cs (R.qz r*R.pi))=V:=by rw[<-hρ,hV]
 refine⟨ci,bs.Sr,bc.Sr,?_,bE.Sr,bGD,bGC,?_,?_,?_,?_,?_,?_,?_⟩
 ·rw[<-ht];exact⟨q0,⟨bMS z1.1 (by omega),bMS z2.1 (by omega),bMS z3.1 (by omega),bMS z4.1 (by omega)⟩,q1,q2⟩
 ·rw[aNX];exact V0
 ·rw[aNX];exact vl
 ·rw[aNX];exact vh
 ·rw[aNX,e1];exact bX
 ·constructor
  ·show((bl (shD false (tE fn k r p).1 (p+20)).1.natAbs:Nat):Int)<=_;omega
  ·show((bl (shD true (tE fn k r p).2 (p+20)).1.natAbs:Nat):Int)<=_;omega
 ·constructor
  ·show -p-1200<=(shD false (tE fn k r p).1 (p+20)).2;omega
  ·show -p-1200<=(shD true (tE fn k r p).2 (p+20)).2;omega
 ·intro h2;exact⟨Lx (by omega) (oE h2).1,Lx (by omega) (oE h2).2⟩
theorem aIG{m e:Int}(he:e<0):-p2 (-1-e)<=cB.Mb (m,e)/\cB.Mb (m,e)<p2 (-1-e):=by
 unfold cB.Mb cB.yZ
 try dsimp only
 rw[aX,aX];have h1:p2 (-e)=p2 (-1-e)*2:=by
  have:=pV (m:=-1-e) (n:=1) (by omega) (by omega);rwa [show -1-e+1=-e by omega]at this
 have h2:p2 (1-e)=p2 (-1-e)*4:=by
  have:=pV (m:=-1-e) (n:=2) (by omega) (by omega);rwa [show -1-e+2=1-e by omega]at this
 rw[h1,h2];have hp:=Gm (-1-e);generalize p2 (-1-e)=v at *;have a1:=Int.mul_ediv_add_emod (m*4+v*2) (v*4);have a2:=bVA (m*4+v*2) (show v*4≠0 by omega);have a3:=Int.emod_lt_of_pos (m*4+v*2) (show 0<v*4 by omega);generalize (m*4+v*2)/(v*4)=K at *;have e1:v*4*K=K*v*4:=by rw[Int.mul_comm,bSJ]
 have e2:K*(v*2)=K*v*2:=by rw[bSJ]
 rw[e1]at a1;rw[e2];generalize K*v=t at *;omega
theorem aND{a:Int×Int}(he:-1074<=a.2/\a.2<=-2)(ho:a.1%2=1):aRF (cB.zA a):=by
 obtain⟨m,e⟩:=a;dsimp only at he ho;have rr:=aIG (m:=m) (e:=e) (by omega);have hR:cB.Mb (m,e)=m*2-cB.yZ (m,e)*p2 (-e):=by
  unfold cB.Mb;dsimp only;rw[aX]
 have hD:cB.zA (m,e)=aL (cB.Mb (m,e)) (e-1):=rfl;have h4:p2 (-e)=p2 (-2-e)*4:=by
  have:=pV (m:=-2-e) (n:=2) (by omega) (by omega);rwa [show -2-e+2=-e by omega]at this
 rw[h4,<-bSJ]at hR;rw[hD];generalize cB.yZ (m,e)*p2 (-2-e)=q at hR;generalize cB.Mb (m,e)=z at *;have z0:z≠0:=by omega
 obtain⟨j,hj⟩:=bQY (show 0<=-1-e by omega);have hp:p2 (-1-e)=((2^j:Nat):Int):=by rw[hj,Gn]
 have za:z.natAbs<=2^j:=by omega
 have zb:bl z.natAbs<=j+1:=dU.2 (by rw[bQV];have:=bOV (n:=j) (show 0<2 by decide);omega);have tl:tz z.natAbs<=j:=by
  have:=Fq (n:=z.natAbs) (by omega);rcases Nat.lt_or_ge j (tz z.natAbs)with h |h
  ·have h5:2^(j+1)<=2^tz z.natAbs:=fQ;rw[bQV]at h5;have:=bOV (n:=j) (show 0<2 by decide);omega
  ·exact h
 have x1:=(jH (e:=e-1) z0).2;have eq:R.qz (aL z (e-1))=R.qz (z,e-1):=mB _ _;have e1:R.pz (e-1)*((2^j:Nat):Rat)=1/4:=by
  rw[<-R.dT,show e-1+(j:Int)=-2 by omega];have e:=R.fZ 0 (n:=2) (c:=4) (by norm_cast);rw[R.fC,show(0:Int)-((2:Nat):Int)=-2 by rfl]at e;grind
 have P:=R.dS (e-1);refine⟨eZ (fJ (by omega) (by omega)) (by omega),bMS (oT _ _) (by omega),by omega,?_,?_⟩
 ·rw[eq,Ro];have h1:(z.natAbs:Rat)<=((2^j:Nat):Rat):=by exact_mod_cast za
  have:=R.aG (bRD P) (show 0<=((2^j:Nat):Rat)-(z.natAbs:Rat) by grind);dsimp only;grind
 ·rw[eq,Ro];have h1:(1:Rat)<=(z.natAbs:Rat):=by exact_mod_cast(show 1<=z.natAbs by omega)
  have:=R.aG (bRD P) (show 0<=(z.natAbs:Rat)-1 by grind);have:=R.dM (show(-1075:Int)<=e-1 by omega);dsimp only;grind
end M
namespace M
open Go AI W
theorem tP{a:Int×Int}{n:Nat}{E:Int}(h:Ry a n E 1)(hn:n+n<=524288)(hE:-500000<=E/\E<=0):aZ.fU a a=true/\Ry (aZ.bQ a a) (n+n) (E+E) 1:=by
 have b:=bMS (Cu a.1.natAbs a.1.natAbs) (Nat.add_le_add h.bl h.bl);rw[<-Int.natAbs_mul]at b;have he:=h.e;have eU:=h.qJ.2.1;have i:fM (a.1*a.1) (a.2+a.2)=true:=by
  have:=h.qJ;refine fJ (by omega) ?_
  by_cases z:a.1=0
  ·have:=h.qJ.2.2.1 z;rw[z,this];show(0:Int)+0+((bl (0*0:Int).natAbs:Nat):Int)<=1048577;decide
  ·have t:bC a<=0:=xR z (by rw[R.fC];exact h.b);have:=qE (n:=a.1.natAbs) (by omega);unfold bC at t;omega
 refine⟨?_,?_,?_,?_,?_⟩
 ·unfold aZ.fU fit;rw[i,decide_eq_true (by omega)];rfl
 ·exact eZ i (by omega)
 ·exact bMS (oT _ _) b
 ·unfold aZ.bQ
  by_cases z:a.1*a.1=0
  ·rw[z,cV];show E+E<=0;omega
  ·have:=kY (e:=a.2+a.2) z;omega
 ·rw[qU,R.fS];have h0:=R.aQ (R.qz a);have h1:=h.b;have:=R.aG h0 (show 0<=1-R.ab (R.qz a) by grind);grind
theorem aJN{n:Nat}{E:Int}(hE:E<=0):Ry (0,0) n E 1:=by
 refine⟨?_,by show bl 0<=_;rw[Fj];omega,hE,by rw[aRY,R.bN bSK];grind⟩;have e:aL 0 0=(0,0):=cV ..;exact e▸eZ (fJ (by decide +kernel) (by decide +kernel)) (by decide +kernel)
theorem aIA{a b:Int×Int}{n:Nat}{E:Int}(ha:Ry a n E 1)(hb:Ry b n E 1)(hn:n+n<=524288)(hE:-500000<=E/\E<=0):Ry (mL.yH a b) (n+n) (E+E) 1/\Ry (mL.yI a b) (n+n) (E+E) 1:=by
 have q:Ry (0,0) (n+n) (E+E) 1:=aJN (by omega);have x:=(tP ha hn hE).2;have y:=(tP hb hn hE).2;constructor
 ·unfold mL.yH;cases (decide (bZ a (0,0)<=0)&&decide (0<=bZ b (0,0)))
  ·rw[cond_false];rcases Ti (aZ.bQ a a) (aZ.bQ b b)with h |h <;> rw[h] <;> assumption
  ·exact q
 ·unfold mL.yI;rcases Tx (aZ.bQ a a) (aZ.bQ b b)with h |h <;> rw[h] <;> assumption
theorem Pc{a b:Int×Int}{V:Rat}{n E:Int}{N:Nat}(ha:Ry a N E 1)(hb:Ry b N E 1)(hN:N+N<=524288)(hE:-500000<=E/\E<=0)(h1:R.qz a<=V)(h2:V<=R.qz b)(hn:1<=n/\n<=70000) :
  nT false (mL.yH a b) n=true/\nT true (mL.yI a b) n=true/\(∃W,Bx (shD false (mL.yH a b) n,shD true (mL.yI a b) n) (V*V) W 0)/\Ry (shD false (mL.yH a b) n) 70001 (E+E) 1/\Ry (shD true (mL.yI a b) n) 70001 (E+E) 1:=by
 obtain⟨f1,f2⟩:=aIA ha hb hN hE;obtain⟨q1,q2⟩:=aMX h1 h2;have aVL:(1:Rat)<=R.pz 1100:=by rw[<-R.fC];exact R.dM (by decide)
 obtain⟨i1,i2,bx⟩:=Fa (s:=(mL.yH a b,mL.yI a b)) (V:=V*V) (m:=0) f1.qJ f2.qJ bSK (by dsimp only;grind) (by dsimp only;grind) bSK hn (by have:=f1.b;dsimp only;grind) (by have:=f2.b;dsimp only;grind);obtain⟨k,rfl⟩:=bQY (show 0<=n by omega);have bl1:=wI false (mL.yH a b) k;have bl2:=wI true (mL.yI a b) k;exact⟨i1,i2,⟨_,bx⟩,⟨bx.pl,by omega,aIC f1.e (by omega),Lx hn.1 f1.b⟩,⟨bx.ph,by omega,aIC f2.e (by omega),Lx hn.1 f2.b⟩⟩
theorem Rn{x y:Int×Int}{n:Nat}{E:Int}(hx:Ry x n E 1)(hy:Ry y n E 1)(hE:-490000<=E/\E<=0):bA.gJ x y=true/\iS (bA.jL x y)/\E<=(bA.jL x y).2/\R.ab (R.qz (bA.jL x y))<=2:=by
 obtain⟨j,hj⟩:=bQY (show 0<=-E by omega);have one:(1:Rat)<=R.pz (E+(j:Int)):=by rw[show E+(j:Int)=0 by omega,R.fC];exact bSK
 have ok:=Ut hx.qJ hy.qJ hx.e hy.e (n:=j) (by have:=hx.b;grind) (by have:=hy.b;grind) (by omega) (by omega) (by omega);refine⟨ok,Ai hx.qJ hy.qJ ok,Nu hx.e hy.e hE.2,?_⟩;rw[Gf];have:=R.Hx (R.qz x) (R.qz y);have:=hx.b;have:=hy.b;grind
theorem Kj(n:Nat):(1:Rat)=(((2^n:Nat):Int):Rat)*R.pz (-(n:Int)):=by
 have:=R.Tc (n:Int);rw[R.oF]at this;rw[Rat.intCast_natCast];exact this.symm
theorem Aw{n:Nat}(hn:n<=1000000):2*R.sQ<=R.pz (-(n:Int)):=by
 have h1:=aER (n:=n+1) (by omega);have h3:=R.uN (-(n:Int));rw[show -(n:Int)-1=-((n+1:Nat):Int) by omega]at h3;grind
theorem aEE{q:Int×Int}{T:Rat}{n:Nat}(hn:n<=1000000)(hg:-(n:Int)<=q.2)(h:R.qz q<=T)(hT:T<=1+R.sQ):R.qz q<=1:=by
 refine Rat.not_lt.1 fun hc=>?_
 have e:=Ih.Wq (p:=q) hg;have o:=Kj n;have P:=R.dS (-(n:Int));have ep:=Aw hn;have E:=R.oW;generalize R.pz (-(n:Int))=z at *;generalize q.1*2^(q.2 - -(n:Int)).toNat=m at *;generalize ((2^n:Nat):Int)=w at *;have lt:w<m:=by
  have:(w:Rat)<(m:Rat):=Rat.not_le.1 fun hh=>by
   have:=R.aG (bRD P) (show 0<=(w:Rat)-(m:Rat) by grind);grind
  exact_mod_cast this
 have ge:((w+1:Int):Rat)<=(m:Rat):=by exact_mod_cast(show w+1<=m by omega)
 rw[bXT]at ge;have one:((1:Int):Rat)=1:=by norm_cast
 rw[one]at ge;have:=R.aG (bRD P) (show 0<=(m:Rat)-((w:Rat)+1) by grind);grind
theorem aEF{q:Int×Int}{T:Rat}{n:Nat}(hn:n<=1000000)(hg:-(n:Int)<=q.2)(h:T<=R.qz q)(hT:1-R.sQ<=T):1<=R.qz q:=by
 refine Rat.not_lt.1 fun hc=>?_
 have e:=Ih.Wq (p:=q) hg;have o:=Kj n;have P:=R.dS (-(n:Int));have ep:=Aw hn;have E:=R.oW;generalize R.pz (-(n:Int))=z at *;generalize q.1*2^(q.2 - -(n:Int)).toNat=m at *;generalize ((2^n:Nat):Int)=w at *;have lt:m<w:=by
  have:(m:Rat)<(w:Rat):=Rat.not_le.1 fun hh=>by
   have:=R.aG (bRD P) (show 0<=(m:Rat)-(w:Rat) by grind);grind
  exact_mod_cast this
 have ge:((m+1:Int):Rat)<=(w:Rat):=by exact_mod_cast(show m+1<=w by omega)
 rw[bXT]at ge;have one:((1:Int):Rat)=1:=by norm_cast
 rw[one]at ge;have:=R.aG (bRD P) (show 0<=(w:Rat)-((m:Rat)+1) by grind);grind
end M
namespace W
open Go AI M
namespace Df
def E:=mE [(157,aM.aH)] 12 [] [] []
def aE:=bd f106
theorem aU:Nk E aE:=nk
theorem start a:aF E f106 aE [D.s (sc (int i64 a))]=letI A:=aM.gW a;aO True (aB (A.fst==0&&(A.snd.fst==0&&(A.snd.snd.fst==0&&(A.snd.snd.snd==0&&true)))) (some [D.s (sc (int u64 0)),D.s (sc (int i64 1))]) (some [D.s (sc (int u64 A.snd.snd.snd)),D.s (sc (int i64 0))])):=eJ aU
def aEH(f:Int):Bool:=decide (f=32\/f=64)
def sp(f:Int):Prop×List D:=(True,[.s (.sc (.int .u64 (aM.gW f).2.2.2)),.s (.sc (.int .i64 (bif aEH f then 0 else 1)))])
theorem spec:gO E f106 aE (pN .i64) sp:=by
 intro f h;refine(start f).trans ((gP trivial).trans ?_);unfold sp aEH
 try dsimp only
 by_cases h1:f=32
 ·subst h1;rfl
 ·by_cases h2:f=64
  ·subst h2;rfl
  ·have:aM.gW f=(0,0,0,0):=by unfold aM.gW;rw[if_neg h1,if_neg h2]
   rw[this,decide_eq_false (by omega)];rfl
def aH:dG:=orc1 (pN .i64) sp
theorem ok:OK 106 aH:=(eF E aE (aA aM.ok aD) func106).nN rfl spec
end Df
namespace nH
def E:=mE [] 13 [] [] []
def aE:=bd f53
theorem aU:Nk E aE:=nk
theorem start a:aF E f53 aE [D.s (sc (int i64 a))]=letI A:=some [D.s (sc (bool true))];aB (a==4) A (aB (a==5) A (some [D.s (sc (bool (a==6)))])):=eJ aU
def uV(a:Int):Bool:=decide (a=4\/a=5\/a=6)
def sp(a:Int):Prop×List D:=(True,[.s (.sc (.bool (uV a)))])
theorem spec:gO E f53 aE (pN .i64) sp:=by
 intro a h;refine(start a).trans ?_;unfold sp uV
 try dsimp only
 by_cases h1:a=4
 ·rw[cN h1,decide_eq_true (by omega)]
 ·rw[bV h1]
  by_cases h2:a=5
  ·rw[cN h2,decide_eq_true (by omega)]
  ·rw[bV h2]
   by_cases h3:a=6
   ·rw[beq_iff_eq.2 h3,decide_eq_true (by omega)]
   ·rw[beq_eq_false_iff_ne.2 h3,decide_eq_false (by omega)]
def aH:dG:=orc1 (pN .i64) sp
theorem ok:OK 53 aH:=(eF E aE aD func53).nN rfl spec
end nH
namespace Cy
def E:=mE [] 5 [] [] []
def aE:=bd f159
theorem aU:Nk E aE:=nk
theorem start a:aF E f159 aE [D.s (sc (int i64 a))]=aB (a==32) (some [D.s (sc (int u64 2139095040))]) (some [D.s (sc (int u64 9218868437227405312))]):=eJ aU
def sp(f:Int):Prop×List D:=(f=32\/f=64,[.s (.sc (.int .u64 (kT.mK (aM.gW f))))])
theorem spec:gO E f159 aE (pN .i64) sp:=by
 intro f h;refine(start f).trans ?_;rcases h with rfl |rfl <;> rfl
def aH:dG:=orc1 (pN .i64) sp
theorem ok:OK 159 aH:=(eF E aE aD func159).nN rfl spec
end Cy
namespace aGZ
def E:=mE [(172,dJ.aH)] 13 [] [] []
def aE:=bd f200
theorem aU:Nk E aE:=nk
theorem start a d e f b c:aF E f200 aE [D.agg [sc (int i64 a),sc (int i64 d),sc (int i64 e),sc (int u64 f)],D.s (sc (bool b)),D.s (sc (int u64 c))]=aB b (aO (aM.Bh (a,d,e,f)) (some [D.s (sc (int u64 (eN BinOp.or u64 c (dJ.dW (a,d,e,f)))))])) (some [D.s (sc (int u64 c))]):=eJ aU
def sp(s:Int×Int×Int×Int)(b:Bool)(c:Int):Prop×List D:=(aM.Bh s,[.s (.sc (.int .u64 (bif b then eN .or .u64 c (dJ.dW s)else c)))])
theorem spec:sR E f200 aE (pG (.pair (sN .i64) (.pair (sN .i64) (.pair (sN .i64) (sN .u64))))) pB (pN .u64) sp:=by
 intro s b c h;refine(start s.1 s.2.1 s.2.2.1 s.2.2.2 b c).trans ?_;cases b with
 |true=>exact gP h
 |false=>rfl
def aH:dG:=orc3 (pG (.pair (sN .i64) (.pair (sN .i64) (.pair (sN .i64) (sN .u64))))) pB (pN .u64) sp
theorem ok:OK 200 aH:=(eF E aE (aA dJ.ok aD) func200).Al rfl spec
end aGZ
namespace pT
def E:=mE [(157,aM.aH),(200,aGZ.aH),(170,aGB.aH),(176,xM.aH),(120,cY.aH),(119,kT.aH)] 102 [25,80,101] [(8,[1,2,3,10]),(13,[1,2,3,10,12])] [8,13]
def aE:=bd f160
theorem aU:Nk E aE:=nk
def J8 a b c d e f g:=kV E f160 aE 8 [Lk a,cZ b,bP c,cQ 3 90 [cI d,cI e,cI f,aHS g]]
def Rx a b c d e f g h:=kV E f160 aE 13 [Lk a,cZ b,bP c,cQ 3 90 [cI d,cI e,cI f,aHS g],bP h]
theorem start a b c d:aF E f160 aE [D.s (sc (int i64 a)),D.s (sc (bool b)),D.s (sc (int u64 c)),D.s (sc (int i64 d))]=letI B:=some [D.s (sc (int u64 0)),D.s (sc (int i64 5))];letI A:=aM.gW a;letI C:=(A.fst,A.snd.fst,A.snd.snd.fst,A.snd.snd.snd);aO True (aB (A.fst==0&&(A.snd.fst==0&&(A.snd.snd.fst==0&&(A.snd.snd.snd==0&&true)))) (some [D.s (sc (int u64 0)),D.s (sc (int i64 1))]) (aB (c==0) (aO (aM.Bh C) (some [D.s (sc (int u64 (bif b then eN BinOp.or u64 0 (dJ.dW C)else(0:Int)))),D.s (sc (int i64 0))])) (aB (decide (d<i64.wrap (A.snd.snd.fst-64))) B (aB (decide (i64.wrap (A.snd.snd.fst+4096)<d)) B (pT.J8 b c d A.fst A.snd.fst A.snd.snd.fst A.snd.snd.snd))))):=eJ aU
theorem sW a b c d e f g:J8 a b c d e f g=letI C:=some [D.s (sc (int u64 0)),D.s (sc (int i64 5))];letI B:=(↑(tz b.toNat):Int);letI A:=(↑((2:Nat)^min (if b=0 then(64:Int)else B).toNat 64):Int);letI F:=(↑(bl (b/A).toNat):Int);aO (0<=b/\b<18446744073709551616) (if(if b=0 then(64:Int)else B)<0 then none else aO (0<=b/A/\b/A<(18446744073709551616:Int)) (aB (decide (e<F)) C (aB (decide (i64.wrap (c+if b=0 then(64:Int)else B)<f)) C (pT.Rx a (b/A) (i64.wrap (c+if b=0 then(64:Int)else B)) d e f g F)))):=cJ aU
theorem zU a b c d e f g h:Rx a b c d e f g h=letI F:=(d,e,f,g);letI C:=aM.Bh F;letI B:=b*(↑((2:Nat)^min (if i64.wrap (c-f)<i64.wrap (e-h)then i64.wrap (c-f)else i64.wrap (e-h)).toNat 64):Int);letI A:=u64.wrap (u64.wrap (u64.wrap (i64.wrap (i64.wrap (i64.wrap (c-if i64.wrap (c-f)<i64.wrap (e-h)then i64.wrap (c-f)else i64.wrap (e-h))-f)+1))-1)*cY.lR F)+u64.wrap B;if(if i64.wrap (c-f)<i64.wrap (e-h)then i64.wrap (c-f)else i64.wrap (e-h))<0 then none else aO C (aB (decide (u64.wrap B<cY.lR F)) (aO C (some [D.s (sc (int u64 (bif a then eN BinOp.or u64 (u64.wrap B) (dJ.dW F)else u64.wrap B))),D.s (sc (int i64 0))])) (aO C (aO C (aB (decide (kT.mK F<=u64.wrap A)) (some [D.s (sc (int u64 0)),D.s (sc (int i64 5))]) (aO C (some [D.s (sc (int u64 (bif a then eN BinOp.or u64 (u64.wrap A) (dJ.dW F)else u64.wrap A))),D.s (sc (int i64 0))])))))):=cJ aU
def Yg(s:Int×Int×Int×Int)(b:Bool)(c:Int):Int:=bif b then c+dJ.dW s else c
def Ll(s:Int×Int×Int×Int)(m:Nat)(e:Int):Nat:=(if e-s.2.2.1<s.2.1-(bl m:Int)then e-s.2.2.1 else s.2.1-(bl m:Int)).toNat
def Vz(s:Int×Int×Int×Int)(m:Nat)(e:Int):Option Int :=
 if((m*2^Ll s m e:Nat):Int)<cY.lR s then some ((m*2^Ll s m e:Nat):Int)
 else if kT.mK s<=(e-(Ll s m e:Nat)-s.2.2.1)*cY.lR s+((m*2^Ll s m e:Nat):Int)then none
 else some ((e-(Ll s m e:Nat)-s.2.2.1)*cY.lR s+((m*2^Ll s m e:Nat):Int))
def aDB(s:Int×Int×Int×Int)(m:Nat)(e:Int):Option Int :=
 if e<s.2.2.1-64\/s.2.2.1+4096<e then none
 else if s.2.1<(bl (m/2^tz m):Int)\/e+(tz m:Int)<s.2.2.1 then none
 else Vz s (m/2^tz m) (e+(tz m:Int))
def aMP(s:Int×Int×Int×Int)(b:Bool)(o:Option Int):Int:=match o with
 |some c=>Yg s b c
 |none=>0
def aVA(o:Option Int):Int:=match o with
 |some _=>0
 |none=>5
def Dm(s:Int×Int×Int×Int)(m e:Int):Option Int:=if m=0 then some 0 else aDB s m.toNat e
def aRV(s:Int×Int×Int×Int)(b:Bool)(o:Option Int):List D:=[.s (.sc (.int .u64 (aMP s b o))),.s (.sc (.int .i64 (aVA o)))]
theorem xV{s:Int×Int×Int×Int}(hs:aM.Bh s){b:Bool}{c:Int}(h0:0<=c)(h1:c<dJ.dW s):(bif b then eN .or .u64 c (dJ.dW s)else c)=Yg s b c:=by
 unfold Yg;cases b with
 |false=>rfl
 |true =>
  try dsimp only[cond_true]
  obtain⟨n,rfl⟩:=bQY h0;rcases hs with rfl |rfl
  ·rw[show dJ.dW (32,24,-149,2143289345)=2147483648 from rfl]at *;rw[Ym (by omega) (by omega) (by omega) (by omega)];have:=Cc (c:=n) (n:=1) (k:=31) (by omega);rw[show(2147483648:Int).toNat=2^31*1 from rfl,bPS,this];omega
  ·rw[show dJ.dW (64,53,-1074,9221120237041090561)=9223372036854775808 from rfl]at *;rw[Ym (by omega) (by omega) (by omega) (by omega)];have:=Cc (c:=n) (n:=1) (k:=63) (by omega);rw[show(9223372036854775808:Int).toNat=2^63*1 from rfl,bPS,this];omega
theorem j13{s:Int×Int×Int×Int}(hs:aM.Bh s)(b:Bool)(m:Nat)(e:Int)(h1:(bl m:Int)<=s.2.1)(h2:s.2.2.1<=e)(h3:e<=3000)(hm:m≠0) :
  Rx b (m:Int) e s.1 s.2.1 s.2.2.1 s.2.2.2 (bl m:Int)=some (aRV s b (Vz s m e)):=by
 have hb:=qE hm;have iN:m*2^Ll s m e<2^(bl m+Ll s m e):=by
  rw[Nat.pow_add];exact Nat.mul_lt_mul_of_lt_of_le (vM m) (Nat.le_refl _) (bOV (by decide))
 have aHF:((bl m+Ll s m e:Nat):Int)<=s.2.1:=by
  unfold Ll;split <;> omega
 have aSZ:((Ll s m e:Nat):Int)<=e-s.2.2.1:=by
  unfold Ll;split <;> omega
 rw[zU];have aWH:∀k:Nat,s.2.1<=(k:Int)->m*2^Ll s m e<2^k:=fun k hk=>Nat.lt_of_lt_of_le iN (Nat.pow_le_pow_right (by decide) (by omega))
 have low:-1074<=s.2.2.1/\s.2.2.1<=0/\s.2.1<=53:=by rcases hs with rfl |rfl <;> ((try dsimp only);omega)
 rw[wrap_i64 (n:=e-s.2.2.1),wrap_i64 (n:=s.2.1-(bl m:Int))];have bHP:(if e-s.2.2.1<s.2.1-(bl m:Int)then e-s.2.2.1 else s.2.1-(bl m:Int))=((Ll s m e:Nat):Int):=by
  unfold Ll;split <;> omega
 rw[bHP,aX,bPS,show min (Ll s m e) 64=Ll s m e by omega,<-Int.natCast_mul,gP hs];unfold Vz;generalize Ll s m e=u at *;generalize m*2^u=M at *;rcases hs with rfl |rfl
 ·have hM:=aWH 24 (by decide);simp only[show cY.lR (32,24,-149,2143289345)=8388608 from rfl,show kT.mK (32,24,-149,2143289345)=2139095040 from rfl]at *;rw[wrap_u64 (n:=(M:Int)),wrap_i64 (n:=e-(u:Int)),wrap_i64 (n:=e-(u:Int) - -149),wrap_i64 (n:=e-(u:Int) - -149+1),wrap_u64 (n:=e-(u:Int) - -149+1),wrap_u64 (n:=e-(u:Int) - -149+1-1),show e-(u:Int) - -149+1-1=e-(u:Int) - -149 by omega,wrap_u64 (n:=(e-(u:Int) - -149)*8388608),wrap_u64 (n:=(e-(u:Int) - -149)*8388608+(M:Int))]
  by_cases c1:(M:Int)<8388608
  ·rw[aN c1,if_pos c1,gP aM.two32,xV aM.two32 (by omega) (by show(M:Int)<2147483648;omega)];rfl
  ·rw[aI c1,if_neg c1,gP aM.two32,gP aM.two32]
   by_cases c2:2139095040<=(e-(u:Int) - -149)*8388608+(M:Int)
   ·rw[aN c2,if_pos c2];rfl
   ·rw[aI c2,if_neg c2,gP aM.two32,xV aM.two32 (by omega) (by show _<2147483648;omega)];rfl
 ·have hM:=aWH 53 (by decide);simp only[show cY.lR (64,53,-1074,9221120237041090561)=4503599627370496 from rfl,show kT.mK (64,53,-1074,9221120237041090561)=9218868437227405312 from rfl]at *
  by_cases c1:(M:Int)<4503599627370496
  ·rw[wrap_u64 (n:=(M:Int)),aN c1,if_pos c1,gP aM.vK,xV aM.vK (by omega) (by show(M:Int)<9223372036854775808;omega)];rfl
  ·rw[wrap_u64 (n:=(M:Int)),wrap_i64 (n:=e-(u:Int)),wrap_i64 (n:=e-(u:Int) - -1074),wrap_i64 (n:=e-(u:Int) - -1074+1),wrap_u64 (n:=e-(u:Int) - -1074+1),wrap_u64 (n:=e-(u:Int) - -1074+1-1),show e-(u:Int) - -1074+1-1=e-(u:Int) - -1074 by omega];rw[wrap_u64 (n:=(e-(u:Int) - -1074)*4503599627370496),wrap_u64 (n:=(e-(u:Int) - -1074)*4503599627370496+(M:Int)),aI c1,if_neg c1,gP aM.vK,gP aM.vK]
   by_cases c2:9218868437227405312<=(e-(u:Int) - -1074)*4503599627370496+(M:Int)
   ·rw[aN c2,if_pos c2];rfl
   ·rw[aI c2,if_neg c2,gP aM.vK,xV aM.vK (by omega) (by show _<9223372036854775808;omega)];rfl
def sp(f:Int)(b:Bool)(m e:Int):Prop×List D:=((f=32\/f=64)/\(0<=m/\m<18446744073709551616)/\-4000<=e/\e<=2900,[.s (.sc (.int .u64 (aMP (aM.gW f) b (Dm (aM.gW f) m e)))),.s (.sc (.int .i64 (aVA (Dm (aM.gW f) m e))))])
theorem spec:aGD E f160 aE (pN .i64) pB (pN .u64) (pN .i64) sp:=by
 rintro f b m e ⟨hf,⟨aQO,aZO⟩,aHG,Zc⟩;refine(start f b m e).trans ((gP trivial).trans ?_);show _=some (aRV (aM.gW f) b (Dm (aM.gW f) m e));unfold Dm;have hs:aM.Bh (aM.gW f):=by
  rcases hf with rfl |rfl
  ·exact .inl rfl
  ·exact .inr rfl
 generalize aM.gW f=s at *;obtain⟨n,rfl⟩:=bQY aQO;have low:-1074<=s.2.2.1/\s.2.2.1<=0/\s.2.1<=53:=by rcases hs with rfl |rfl <;> ((try dsimp only);omega)
 have Dp:(s.1==0&&(s.2.1==0&&(s.2.2.1==0&&(s.2.2.2==0&&true))))=false:=by rcases hs with rfl |rfl <;> rfl
 have Yt:0<dJ.dW s:=by unfold dJ.dW;split <;> omega
 rw[Ht Dp]
 by_cases h0:(n:Int)=0
 ·rw[cN h0,if_pos h0];refine(gP hs).trans ?_;rw[xV hs (by omega) Yt];rfl
 ·have Eg:n≠0:=by omega
  have ht:=Fq Eg;have aWL:tz n<64:=(cAI (by decide:1<2)).1 (bSL ht (by omega));rw[bV h0,if_neg h0,wrap_i64 (n:=s.2.2.1-64),wrap_i64 (n:=s.2.2.1+4096)];unfold aDB
  by_cases c1:e<s.2.2.1-64
  ·rw[aN c1,if_pos (.inl c1)];rfl
  ·rw[aI c1]
   by_cases c2:s.2.2.1+4096<e
   ·rw[aN c2,if_pos (.inr c2)];rfl
   ·rw[aI c2,aX,sW,if_neg h0,bPS,aX,gP,bPS,show min (tz n) 64=tz n by omega,<-Int.natCast_ediv,bPS,wrap_i64 (n:=e+(tz n:Int))];have hd:n/2^tz n≠0:=fun h=>by have:=(oS n Eg).2;rw[h]at this;cases this
    have hl:n/2^tz n<=n:=Nat.div_le_self _ _;generalize n/2^tz n=q at *;rw[gP]
    by_cases c3:s.2.1<(bl q:Int)
    ·rw[aN c3,if_pos (.inl c3)];rfl
    ·rw[aI c3]
     by_cases c4:e+(tz n:Int)<s.2.2.1
     ·rw[aN c4,if_pos (.inr c4)];rfl
     ·rw[aI c4,aX,j13 hs b _ _ (by omega) (by omega) (by omega) hd]
def aH:dG:=orc4 (pN .i64) pB (pN .u64) (pN .i64) sp
theorem ok:OK 160 aH:=(eF E aE (aA aM.ok (aA aGZ.ok (aA aGB.ok (aA xM.ok (aA cY.ok (aA kT.ok aD)))))) func160).aSB rfl spec
end pT
namespace Nw
def E:=mE [] 14 [] [] []
def aE:=bd f158
theorem aU:Nk E aE:=nk
theorem start a b c:aF E f158 aE [D.s (sc (int i64 a)),D.s (sc (bool b)),D.s (sc (int u64 c))]=aB b (if i64.wrap (a-1)<0 then none else some [D.s (sc (int u64 (eN BinOp.or u64 c (u64.wrap ((1:Int)*(↑((2:Nat)^min (i64.wrap (a-1)).toNat 64):Int))))))]) (some [D.s (sc (int u64 c))]):=eJ aU
def sp(f:Int)(b:Bool)(c:Int):Prop×List D:=((f=32\/f=64)/\0<=c/\c<dJ.dW (aM.gW f),[.s (.sc (.int .u64 (pT.Yg (aM.gW f) b c)))])
theorem spec:sR E f158 aE (pN .i64) pB (pN .u64) sp:=by
 rintro f b c ⟨hf,h0,h1⟩;refine(start f b c).trans ?_;have hs:aM.Bh (aM.gW f):=cA.Ep hf;unfold sp
 try dsimp only
 rw[<-pT.xV hs h0 h1];cases b with
 |false=>rfl
 |true=>rcases hf with rfl |rfl <;> rfl
def aH:dG:=orc3 (pN .i64) pB (pN .u64) sp
theorem ok:OK 158 aH:=(eF E aE aD func158).Al rfl spec
end Nw
namespace sJ
def E:=mE [(159,Cy.aH),(158,Nw.aH),(160,pT.aH)] 27 [15,23] [] []
def aE:=bd f107
theorem aU:Nk E aE:=nk
theorem start a b c:aF E f107 aE [D.s (sc (int i64 a)),D.agg [sc (int i64 b),sc (bool c)]]=letI A:=aM.gW a;aB (b==2) (aO (a=32\/a=64) (aO ((a=32\/a=64)/\0<=kT.mK A/\kT.mK A<dJ.dW A) (some [D.s (sc (int u64 (pT.Yg A c (kT.mK A))))]))) (aO ((a=32\/a=64)/\(0<=u64.wrap b/\u64.wrap b<18446744073709551616)/\(-4000:Int)<=(0:Int)/\(0:Int)<=(2900:Int)) (some [D.s (sc (int u64 (pT.aMP A c (pT.Dm A (u64.wrap b) 0))))])):=eJ aU
def Yl(f:Int)(s:Int)(n:Bool):Int:=pT.Yg (aM.gW f) n (if s=2 then kT.mK (aM.gW f)else if s=1 then(if f=32 then 1065353216 else 4607182418800017408)else 0)
def sp(f:Int)(v:Int×Bool):Prop×List D:=((f=32\/f=64)/\(v.1=0\/v.1=1\/v.1=2),[.s (.sc (.int .u64 (Yl f v.1 v.2)))])
theorem Pn:pT.Dm (aM.gW 64) 1 0=some 4607182418800017408/\pT.Dm (aM.gW 32) 1 0=some 1065353216:=by
 have b1:bl 1=1:=rfl;have t1:tz (1:Int).toNat=0:=yW rfl;unfold pT.Dm pT.aDB pT.Vz pT.Ll;rw[t1];exact⟨rfl,rfl⟩
theorem spec:fI E f107 aE (pN .i64) (pG (.pair (sN .i64) sB)) sp:=by
 rintro f v ⟨hf,hv⟩;obtain⟨s,n⟩:=v;refine(start f s n).trans ?_;unfold sp Yl
 try dsimp only at *
 have hi:0<=kT.mK (aM.gW f)/\kT.mK (aM.gW f)<dJ.dW (aM.gW f):=by
  rcases hf with rfl |rfl
  ·exact⟨by show(0:Int)<=2139095040;omega,by show(2139095040:Int)<2147483648;omega⟩
  ·exact⟨by show(0:Int)<=9218868437227405312;omega,by show(9218868437227405312:Int)<9223372036854775808;omega⟩
 rcases hv with rfl |rfl |rfl
 ·rw[bV,show u64.wrap 0=0 from rfl,gP ⟨hf,by omega,by omega⟩];rfl
 ·rw[bV,show u64.wrap 1=1 from rfl,gP ⟨hf,by omega,by omega⟩];rcases hf with rfl |rfl
  ·rw[Pn.2];rfl
  ·rw[Pn.1];rfl
 ·rw[cN rfl,gP hf,gP ⟨hf,hi⟩];rfl
def aH:dG:=orc2 (pN .i64) (pG (.pair (sN .i64) sB)) sp
theorem ok:OK 107 aH:=(eF E aE (aA Cy.ok (aA Nw.ok (aA pT.ok aD))) func107).lA rfl spec
end sJ
namespace nG
def E:=mE [] 19 [] [] []
def aE:=bd f109
theorem aU:Nk E aE:=nk
theorem start a b c:aF E f109 aE [D.agg [sc (bool a),ints u64 b,sc (int i64 c)]]=aB (decide (0<c)) (some [D.s (sc (int i64 1))]) (aB (c==0) (some [D.s (sc (int i64 2))]) (aB (c==(-1:Int)) (some [D.s (sc (int i64 3))]) (aB (c==(-2:Int)) (some [D.s (sc (int i64 4))]) (some [D.s (sc (int i64 0))])))):=eJ aU
def oH(e:Int):Int:=if 0<e then 1 else if e=0 then 2 else if e=-1 then 3 else if e=-2 then 4 else 0
def sp(x:dR):Prop×List D:=(True,[.s (.sc (.int .i64 (oH x.2.2)))])
theorem spec:gO E f109 aE gZ sp:=by
 intro x h;refine(start x.1 x.2.1 x.2.2).trans ?_;unfold sp oH
 try dsimp only
 by_cases h1:0<x.2.2
 ·rw[aN h1,if_pos h1]
 ·rw[aI h1,if_neg h1]
  by_cases h2:x.2.2=0
  ·rw[cN h2,if_pos h2]
  ·rw[bV h2,if_neg h2]
   by_cases h3:x.2.2=-1
   ·rw[cN h3,if_pos h3]
   ·rw[bV h3,if_neg h3]
    by_cases h4:x.2.2=-2
    ·rw[cN h4,if_pos h4]
    ·rw[bV h4,if_neg h4]
def aH:dG:=orc1 gZ sp
theorem ok:OK 109 aH:=(eF E aE aD func109).nN rfl spec
end nG
namespace dV
def E:=mE [(109,nG.aH),(79,Rq.aH)] 97 [] [] []
def aE:=bd f55
theorem aU:Nk E aE:=nk
theorem start a b c d:aF E f55 aE [D.s (sc (int i64 a)),D.agg [sc (bool b),ints u64 c,sc (int i64 d)]]=letI Z:=bool false;letI Y:=bool (wv (b,c)%4==(3:Int));letI X:=int i64 0;letI U:=nG.oH d==1;letI O:=nG.oH d==3;letI N:=some [D.agg [sc X,sc Z],D.s (sc Z)];letI I:=nG.oH d==2;letI F:=sc (bool true);letI T:=some [D.agg [sc X,sc (bool b)],D.s F];letI Q:=some [D.agg [sc (int i64 1),sc (bool I)],D.s F];letI P:=some [D.agg [sc X,sc (bool (b !=I))],D.s F];letI G:=some [D.agg [sc (int i64 1),sc Y],D.s F];letI C:=aB (a==6) (aB (nG.oH d==4) G N) N;letI H:=aB (a==6) (aB O (some [D.agg [sc (int i64 2),sc Y],D.s F]) C) C;letI A:=aB (a==6) (aB U P (aB I P H)) H;letI K:=aB (a==5) (aB O (some [D.agg [sc X,sc Z],D.s F]) A) A;letI B:=aB (a==5) (aB U Q (aB I Q K)) K;letI W:=aB (a==4) (aB O G B) B;aO True (aO (jY (b,c)) (aB (a==4) (aB U T (aB I T W)) W)):=eJ aU
def yA(fn:Int)(p:Int×Int):Int×Bool×Bool :=
 if fn=4 then(if 0<=p.2 then(0,isNeg p.1,true)else if p.2=-1 then(1,p.1%4==3,true)else(0,false,false))
 else if fn=5 then(if 0<=p.2 then(1,p.2==0,true)else if p.2=-1 then(0,false,true)else(0,false,false))
 else if fn=6 then(if 0<=p.2 then(0,isNeg p.1 !=(p.2==0),true)else if p.2=-1 then(2,p.1%4==3,true)else if p.2=-2 then(1,p.1%4==3,true)else(0,false,false))
 else(0,false,false)
def sp(fn:Int)(x:dR):Prop×List D:=(aJ x,[.agg [.sc (.int .i64 (yA fn (dv x)).1),.sc (.bool (yA fn (dv x)).2.1)],.s (.sc (.bool (yA fn (dv x)).2.2))])
theorem spec:fI E f55 aE (pN .i64) gZ sp:=by
 intro fn x h;have h:aJ x:=h;refine(start fn x.1 x.2.1 x.2.2).trans ((gP trivial).trans ((gP h.Eb).trans ?_));have hw:=h.Eb.cells.1;obtain⟨b,a,e⟩:=x
 try dsimp only at *
 unfold sp yA dv
 try dsimp only
 rw[hw];generalize wv (b,a)=z;have Sg:(0<e/\nG.oH e=1)\/(e=0/\nG.oH e=2)\/(e=-1/\nG.oH e=3)\/(e=-2/\nG.oH e=4)\/(e < -2/\nG.oH e=0):=by
  unfold nG.oH;split
  ·omega
  ·split
   ·omega
   ·split
    ·omega
    ·split <;> omega
 generalize nG.oH e=pv at *
 by_cases h4:fn=4
 ·subst h4;rcases Sg with ⟨he,rfl⟩ |⟨rfl,rfl⟩ |⟨rfl,rfl⟩ |⟨rfl,rfl⟩ |⟨he,rfl⟩
  ·rw[if_pos rfl,aT];rfl
  ·rfl
  ·rfl
  ·rfl
  ·rw[if_pos rfl,aX,aX];rfl
 ·by_cases h5:fn=5
  ·subst h5;rcases Sg with ⟨he,rfl⟩ |⟨rfl,rfl⟩ |⟨rfl,rfl⟩ |⟨rfl,rfl⟩ |⟨he,rfl⟩
   ·rw[aX,if_pos rfl,aT,beq_eq_false_iff_ne.2 (show e≠0 by omega)];rfl
   ·rfl
   ·rfl
   ·rfl
   ·rw[aX,if_pos rfl,aX,aX];rfl
  ·by_cases h6:fn=6
   ·subst h6;rcases Sg with ⟨he,rfl⟩ |⟨rfl,rfl⟩ |⟨rfl,rfl⟩ |⟨rfl,rfl⟩ |⟨he,rfl⟩
    ·rw[aX,aX,if_pos rfl,aT,beq_eq_false_iff_ne.2 (show e≠0 by omega)];rfl
    ·rfl
    ·rfl
    ·rfl
    ·rw[aX,aX,if_pos rfl,aX,aX,aX];rfl
   ·rw[if_neg h4,if_neg h5,if_neg h6];simp only[beq_eq_false_iff_ne.2 h4,beq_eq_false_iff_ne.2 h5,beq_eq_false_iff_ne.2 h6,bF]
def aH:dG:=orc2 (pN .i64) gZ sp
theorem ok:OK 55 aH:=(eF E aE (aA nG.ok (aA Rq.ok aD)) func55).lA rfl spec
end dV
namespace fT
def E:=mE [(106,Df.aH),(53,nH.aH),(91,Is.aH),(107,sJ.aH),(25,bM.aH),(55,dV.aH)] 67 [18,31,48,66] [(4,[0,1,2,9]),(15,[0,1,2])] [4,15]
def aE:=bd f50
theorem aU:Nk E aE:=nk
def J4 a b c d:=kV E f50 aE 4 [bP a,bP b,cZ c,cZ d]
def aQC a b c:=kV E f50 aE 15 [bP a,bP b,cZ c]
theorem start a b c:aF E f50 aE [D.s (sc (int i64 a)),D.s (sc (int i64 b)),D.s (sc (int u64 c))]=letI A:=some [D.s (sc (int u64 0)),D.s (sc (bool false)),D.s (sc (int i64 1))];aO True (aC (aM.gW a).snd.snd.snd fun d=>aC (bif Df.aEH a then(0:Int)else(1:Int)) fun e=>aB (e !=0) A (aO True (aB (!nH.uV b) A (fT.J4 a b c d)))):=eJ aU
theorem Rw a b c d:J4 a b c d=letI C:=sc (int i64 0);letI B:=sc (bool true);letI A:=some [D.s (sc (int u64 d)),D.s B,D.s C];aO ((a=32\/a=64)/\0<=c/\c<18446744073709551616) (aC (bif eT.hI a c then lN.lF (aM.gW a) (c%dJ.dW (aM.gW a))else(0:Int)) fun e=>aC (bif eT.hI a c then(0:Int)else(2:Int)) fun f=>aB (f !=0) (some [D.s (sc (int u64 0)),D.s (sc (bool false)),D.s (sc (int i64 f))]) (aB (e==4) A (aB (e==3) A (aB (e==0) (aB (b==5) (aO ((a=32\/a=64)/\((1:Int)=(0:Int)\/(1:Int)=(1:Int)\/(1:Int)=(2:Int))) (aC (sJ.Yl a 1 false) fun g=>some [D.s (sc (int u64 g)),D.s B,D.s C])) (some [D.s (sc (int u64 c)),D.s B,D.s C])) (fT.aQC a b c))))):=cJ aU
theorem Vc a b c:aQC a b c=letI A:=bif eT.hI a c&&cA.iB a c then aL (bM.lZ a c) (bM.mA a c)else((0:Int),(0:Int));aO ((a=32\/a=64)/\0<=c/\c<18446744073709551616) (aC (isNeg A.fst) fun d=>aC (M6.dg A.fst.natAbs) fun e=>aC A.snd fun f=>letI B:=dV.yA b (dv (d,e,f));aO (aJ (d,e,f)) (aC B.fst fun g=>aC B.snd.fst fun h=>aC B.snd.snd fun i=>aB (!i) (some [D.s (sc (int u64 0)),D.s (sc (bool false)),D.s (sc (int i64 0))]) (aO ((a=32\/a=64)/\(g=0\/g=1\/g=2)) (some [D.s (sc (int u64 (sJ.Yl a g h))),D.s (sc (bool true)),D.s (sc (int i64 0))])))):=cJ aU
def oJ(f b:Int):Int×Int:=aL (bM.lZ f b) (bM.mA f b)
theorem Gr{f b:Int}(h:f=32\/f=64)(_:0<=b)(hf:cA.iB f b=true):iS (oJ f b)/\(bM.lZ f b).natAbs<2^53/\-1074<=bM.mA f b/\bM.mA f b<=1023:=by
 have hs:=cA.Ep h;have Eg:0<=b%dJ.dW (aM.gW f):=by unfold dJ.dW;split <;> omega
 have qB:b%dJ.dW (aM.gW f)<kT.mK (aM.gW f):=of_decide_eq_true hf;have hm:=bM.Th hs Eg;have hx:=bM.Uc hs Eg qB;have hz:(bM.lZ f b).natAbs<2^53:=by
  unfold bM.lZ;rw[kB];omega
 have he:-1074<=bM.mA f b/\bM.mA f b<=1023:=⟨hx.1,by unfold bM.mA;omega⟩;have hb:bl (bM.lZ f b).natAbs<=53:=dU.2 hz;exact⟨eZ (fJ (by omega) (by omega)) (by omega),hz,he⟩
def Nb(f fn b:Int):Int×Bool×Int :=
 if Df.aEH f=false\/nH.uV fn=false then(0,false,1)
 else if eT.hI f b=false then(0,false,2)
 else if lN.lF (aM.gW f) (b%dJ.dW (aM.gW f))=4\/lN.lF (aM.gW f) (b%dJ.dW (aM.gW f))=3 then((aM.gW f).2.2.2,true,0)
 else if lN.lF (aM.gW f) (b%dJ.dW (aM.gW f))=0 then(if fn=5 then sJ.Yl f 1 false else b,true,0)
 else if(dV.yA fn (oJ f b)).2.2=true then(sJ.Yl f (dV.yA fn (oJ f b)).1 (dV.yA fn (oJ f b)).2.1,true,0)
 else(0,false,0)
def sp(f fn b:Int):Prop×List D:=(0<=b/\b<18446744073709551616,[.s (.sc (.int .u64 (Nb f fn b).1)),.s (.sc (.bool (Nb f fn b).2.1)),.s (.sc (.int .i64 (Nb f fn b).2.2))])
theorem Nc(fn:Int)(p:Int×Int):(dV.yA fn p).1=0\/(dV.yA fn p).1=1\/(dV.yA fn p).1=2:=by
 unfold dV.yA
 repeat' split
 all_goals simp
theorem Zw{f b:Int}(h:f=32\/f=64)(c3:lN.lF (aM.gW f) (b%dJ.dW (aM.gW f))≠3)(c4:lN.lF (aM.gW f) (b%dJ.dW (aM.gW f))≠4):cA.iB f b=true:=by
 unfold cA.iB;have hi:cY.lR (aM.gW f)<kT.mK (aM.gW f)/\0<cY.lR (aM.gW f):=by
  rcases h with rfl |rfl
  ·exact⟨by show(8388608:Int)<2139095040;omega,by show(0:Int)<8388608;omega⟩
  ·exact⟨by show(4503599627370496:Int)<9218868437227405312;omega,by show(0:Int)<4503599627370496;omega⟩
 generalize b%dJ.dW (aM.gW f)=n at *;refine decide_eq_true ?_;unfold lN.lF at c3 c4
 by_cases h0:n=0
 ·omega
 ·by_cases h1:n<cY.lR (aM.gW f)
  ·omega
  ·by_cases h2:n<kT.mK (aM.gW f)
   ·exact h2
   ·rw[if_neg h0,if_neg h1,if_neg h2]at c3 c4
    by_cases h3:n=kT.mK (aM.gW f)
    ·rw[if_pos h3]at c3;exact(c3 rfl).elim
    ·rw[if_neg h3]at c4;exact(c4 rfl).elim
theorem spec:sR E f50 aE (pN .i64) (pN .i64) (pN .u64) sp:=by
 intro f fn b h;have h:0<=b/\b<18446744073709551616:=h;refine(start f fn b).trans ((gP trivial).trans ?_);rw[vl,vl,gP trivial];unfold sp Nb;cases hq:Df.aEH f with
 |false=>rw[if_pos (.inl rfl)];rfl
 |true =>
  have hf:f=32\/f=64:=of_decide_eq_true hq;rw[cond_true,fD rfl];cases hk:nH.uV fn with
  |false=>rw[if_pos (.inr rfl)];rfl
  |true =>
   rw[if_neg (by simp),bNW,bF,Rw,gP ⟨hf,h⟩,vl,vl];cases hp:eT.hI f b with
   |false=>rw[if_pos rfl];rfl
   |true =>
    rw[if_neg (by simp),cond_true,cond_true,fD rfl]
    by_cases c4:lN.lF (aM.gW f) (b%dJ.dW (aM.gW f))=4
    ·rw[cN c4,if_pos (.inl c4)]
    ·rw[bV c4]
     by_cases c3:lN.lF (aM.gW f) (b%dJ.dW (aM.gW f))=3
     ·rw[cN c3,if_pos (.inr c3)]
     ·rw[bV c3,if_neg (fun h=>h.elim c4 c3)];have qB:=Zw hf c3 c4
      by_cases c0:lN.lF (aM.gW f) (b%dJ.dW (aM.gW f))=0
      ·rw[cN c0,if_pos c0]
       by_cases h5:fn=5
       ·rw[cN h5,if_pos h5,gP ⟨hf,.inr (.inl rfl)⟩];rfl
       ·rw[bV h5,if_neg h5]
      ·rw[bV c0,if_neg c0,Vc,gP ⟨hf,h⟩];have e1:(bif eT.hI f b&&cA.iB f b then aL (bM.lZ f b) (bM.mA f b)else((0:Int),(0:Int)))=oJ f b:=by rw[hp,qB];rfl
       rw[e1,nS,gP (cK (Gr hf h.1 qB).1),cT,vl,vl,vl];cases hv:(dV.yA fn (oJ f b)).2.2 with
       |false=>rw[if_neg (by simp)];try rfl
       |true=>rw[if_pos rfl,bNW,bF,gP ⟨hf,Nc _ _⟩];try rfl
def aH:dG:=orc3 (pN .i64) (pN .i64) (pN .u64) sp
theorem ok:OK 50 aH:=(eF E aE (aA Df.ok (aA nH.ok (aA Is.ok (aA sJ.ok (aA bM.ok (aA dV.ok aD)))))) func50).Al rfl spec
end fT
namespace zL
def E:=mE [(76,Rr.aH)] 8 [] [] []
def aE:=bd f54
theorem aU:Nk E aE:=nk
theorem start a:aF E f54 aE [D.s (sc (int i64 a))]=letI A:=bif fM a 0 then aL a 0 else((0:Int),(0:Int));letI C:=M6.dg A.fst.natAbs;letI B:=bool (isNeg A.fst);aO (((-9223372036854775808:Int)<=a/\a<9223372036854775808)/\(-9223372036854775808:Int)<=(0:Int)/\(0:Int)<(9223372036854775808:Int)) (aO (((-9223372036854775808:Int)<=a/\a<9223372036854775808)/\(-9223372036854775808:Int)<=(0:Int)/\(0:Int)<(9223372036854775808:Int)) (some [D.agg [sc B,ints u64 C,sc (int i64 A.snd),sc B,ints u64 C,sc (int i64 A.snd)]])):=eJ aU
def sD(p q:Int×Int):D:=.agg [.sc (.bool (isNeg p.1)),.ints .u64 (M6.dg p.1.natAbs),.sc (.int .i64 p.2),.sc (.bool (isNeg q.1)),.ints .u64 (M6.dg q.1.natAbs),.sc (.int .i64 q.2)]
def sp(m:Int):Prop×List D:=(-9223372036854775808<=m/\m<9223372036854775808,[sD (aL m 0) (aL m 0)])
theorem spec:gO E f54 aE (pN .i64) sp:=by
 intro m h;have h:-9223372036854775808<=m/\m<9223372036854775808:=h;refine(start m).trans ?_;have hb:bl m.natAbs<=64:=dU.2 (by omega);rw[gP ⟨h,by omega,by omega⟩,gP ⟨h,by omega,by omega⟩];have e:(bif fM m 0 then aL m 0 else((0:Int),(0:Int)))=aL m 0:=by rw[fJ (by omega) (by omega)];rfl
 rw[e];rfl
def aH:dG:=orc1 (pN .i64) sp
theorem ok:OK 54 aH:=(eF E aE (aA Rr.ok aD) func54).nN rfl spec
end zL
namespace gD
def E:=mE [(53,nH.aH),(25,bM.aH),(54,zL.aH),(55,dV.aH)] 98 [33] [(3,[0,1,2,6])] [3]
def aE:=bd f18
theorem aU:Nk E aE:=nk
def J3 a b c d e f g:=kV E f18 aE 3 [bP a,cZ b,bP c,cQ 3 31 [bW d,sc (slice none 0 0),cI e,bW f,sc (slice none 0 0),cI g]]
theorem start a b c:aF E f18 aE [D.s (sc (int i64 a)),D.s (sc (int u64 b)),D.s (sc (int i64 c))]=letI A:=some [D.agg [sc (bool false),sc (slice none 0 0),sc (int i64 0),sc (bool false),sc (slice none 0 0),sc (int i64 0)],D.s (sc (int i64 1))];aO True (aB (!nH.uV a) A (aB (decide (c<1)) A (aB (decide (66000<c)) A (gD.J3 a b c false 0 false 0)))):=eJ aU
theorem fR a b c d e f g:J3 a b c d e f g=letI N:=bool false;letI I:=aL 0 0;letI P:=M6.dg I.fst.natAbs;letI H:=aL 1 0;letI O:=M6.dg H.fst.natAbs;letI G:=slice none 0 0;letI C:=int i64 0;letI A:=bif eT.hI 64 b&&cA.iB 64 b then aL (bM.lZ 64 b) (bM.mA 64 b)else((0:Int),(0:Int));aO (((64:Int)=(32:Int)\/(64:Int)=(64:Int))/\0<=b/\b<18446744073709551616) (aC (isNeg A.fst) fun h=>aC (M6.dg A.fst.natAbs) fun i=>aC A.snd fun j=>letI F:=dV.yA a (dv (h,i,j));aC (bif eT.hI 64 b then bif cA.iB 64 b then(0:Int)else(6:Int)else(2:Int)) fun k=>aB (k !=0) (some [D.agg [sc N,sc G,sc C,sc N,sc G,sc C],D.s (sc (int i64 k))]) (aB ((i.length:Int)==(0:Int)) (aB (a==5) (aO ((-9223372036854775808:Int)<=(1:Int)/\(1:Int)<(9223372036854775808:Int)) (aC (isNeg H.fst) fun l=>aC O fun m=>aC H.snd fun n=>aC (isNeg H.fst) fun o=>aC O fun p=>aC H.snd fun q=>some [D.agg [sc (bool l),ints u64 m,sc (int i64 n),sc (bool o),ints u64 p,sc (int i64 q)],D.s (sc C)])) (aO ((-9223372036854775808:Int)<=(0:Int)/\(0:Int)<(9223372036854775808:Int)) (aC (isNeg I.fst) fun r=>aC P fun s=>aC I.snd fun t=>aC (isNeg I.fst) fun u=>aC P fun v=>aC I.snd fun w=>some [D.agg [sc (bool r),ints u64 s,sc (int i64 t),sc (bool u),ints u64 v,sc (int i64 w)],D.s (sc C)]))) (aO (aJ (h,i,j)) (aC F.fst fun x=>letI K:=aL x 0;letI T:=M6.dg K.fst.natAbs;letI B:=aL (i64.wrap ((0:Int)-x)) 0;letI Q:=M6.dg B.fst.natAbs;aC F.snd.fst fun y=>aC F.snd.snd fun z=>aB z (aB (x==2) (some [D.agg [sc N,sc G,sc C,sc N,sc G,sc C],D.s (sc (int i64 6))]) (aB y (aO ((-9223372036854775808:Int)<=i64.wrap ((0:Int)-x)/\i64.wrap ((0:Int)-x)<9223372036854775808) (aC (isNeg B.fst) fun aa=>aC Q fun ab=>aC B.snd fun ac=>aC (isNeg B.fst) fun ad=>aC Q fun ae=>aC B.snd fun af=>some [D.agg [sc (bool aa),ints u64 ab,sc (int i64 ac),sc (bool ad),ints u64 ae,sc (int i64 af)],D.s (sc C)])) (aO ((-9223372036854775808:Int)<=x/\x<9223372036854775808) (aC (isNeg K.fst) fun ag=>aC T fun ah=>aC K.snd fun ai=>aC (isNeg K.fst) fun aj=>aC T fun ak=>aC K.snd fun al=>some [D.agg [sc (bool ag),ints u64 ah,sc (int i64 ai),sc (bool aj),ints u64 ak,sc (int i64 al)],D.s (sc C)])))) none)))):=cJ aU
def yM(fn:Int)(b:Int):Int:=if(fT.oJ 64 b).1=0 then(if fn=5 then 1 else 0)else if(dV.yA fn (fT.oJ 64 b)).2.1=true then -(dV.yA fn (fT.oJ 64 b)).1 else(dV.yA fn (fT.oJ 64 b)).1
def aGS(fn b p:Int):Prop:=nH.uV fn=true/\1<=p/\p<=66000/\cA.iB 64 b=true/\((fT.oJ 64 b).1≠0->(dV.yA fn (fT.oJ 64 b)).2.2=true/\(dV.yA fn (fT.oJ 64 b)).1≠2)
def sp(fn b p:Int):Prop×List D:=((0<=b/\b<18446744073709551616)/\aGS fn b p,[zL.sD (aL (yM fn b) 0) (aL (yM fn b) 0),.s (.sc (.int .i64 0))])
theorem spec:sR E f18 aE (pN .i64) (pN .u64) (pN .i64) sp:=by
 rintro fn b p ⟨h,hk,zW,tI,hf,hx⟩;refine(start fn b p).trans ((gP trivial).trans ?_);have hp:eT.hI 64 b=true:=rfl;have e1:(bif eT.hI 64 b&&cA.iB 64 b then aL (bM.lZ 64 b) (bM.mA 64 b)else((0:Int),(0:Int)))=fT.oJ 64 b:=by rw[hp,hf];rfl
 have e2:(bif eT.hI 64 b then bif cA.iB 64 b then(0:Int)else 6 else 2)=0:=by rw[hp,hf];rfl
 rw[hk,bNW,bF,aI,aI,fR,gP ⟨.inr rfl,h⟩,e1,e2,nS,vl,fD rfl];have Qa:=(fT.Gr (.inr rfl) h.1 hf).1;unfold sp yM
 try dsimp only
 generalize fT.oJ 64 b=q at *;have hl:(M6.dg q.1.natAbs).length=0↔q.1=0:=by rw[M6.gI];omega
 by_cases hz:q.1=0
 ·rw[cN (by have:=hl.2 hz;omega),if_pos hz]
  by_cases h5:fn=5
  ·rw[cN h5,if_pos h5,gP];rfl
  ·rw[bV h5,if_neg h5,gP];rfl
 ·obtain⟨aNW,aAM⟩:=hx hz;have hs:=fT.Nc fn q;rw[bV (fun h=>hz (hl.1 (by omega))),if_neg hz,gP (cK Qa),cT,vl,vl,vl,aNW,bT,bV aAM];cases hn:(dV.yA fn q).2.1 with
  |false=>rw[bF,if_neg (by simp),gP];rfl
  |true=>rw[bT,if_pos rfl,wrap_i64 (n:=0-(dV.yA fn q).1),Int.zero_sub,gP];rfl
def aH:dG:=orc3 (pN .i64) (pN .u64) (pN .i64) sp
theorem ok:OK 18 aH:=(eF E aE (aA nH.ok (aA bM.ok (aA zL.ok (aA dV.ok aD)))) func18).Al rfl spec
end gD
namespace lI
def E:=mE [(53,nH.aH),(25,bM.aH),(54,zL.aH),(55,dV.aH),(30,cB.aH),(56,fL.aH),(57,jT.aH),(38,aPR.aH)] 98 [33] [(3,[0,1,2,6])] [3]
def aE:=bd f18
theorem aU:Nk E aE:=nk
def J3 a b c d e f g:=kV E f18 aE 3 [bP a,cZ b,bP c,cQ 3 31 [bW d,sc (slice none 0 0),cI e,bW f,sc (slice none 0 0),cI g]]
theorem start a b c:aF E f18 aE [D.s (sc (int i64 a)),D.s (sc (int u64 b)),D.s (sc (int i64 c))]=letI A:=some [D.agg [sc (bool false),sc (slice none 0 0),sc (int i64 0),sc (bool false),sc (slice none 0 0),sc (int i64 0)],D.s (sc (int i64 1))];aO True (aB (!nH.uV a) A (aB (decide (c<1)) A (aB (decide (66000<c)) A (lI.J3 a b c false 0 false 0)))):=eJ aU
theorem fR a b c d e f g:J3 a b c d e f g=letI F1:=bool false;letI A1:=aL 0 0;letI G1:=M6.dg A1.fst.natAbs;letI Z:=aL 1 0;letI I1:=M6.dg Z.fst.natAbs;letI Y:=slice none 0 0;letI X:=i64.wrap (c+16);letI Q:=int i64 0;letI K:=i64.wrap (c+20);letI G:=bif cA.iB 64 b then cB.zA (cB.nQ b)else((0:Int),(0:Int));letI F:=i64.wrap (c+16)+2;letI C:=bif eT.hI 64 b&&cA.iB 64 b then aL (bM.lZ 64 b) (bM.mA 64 b)else((0:Int),(0:Int));aO (((64:Int)=(32:Int)\/(64:Int)=(64:Int))/\0<=b/\b<18446744073709551616) (aC (isNeg C.fst) fun h=>aC (M6.dg C.fst.natAbs) fun i=>aC C.snd fun j=>letI T:=dV.yA a (dv (h,i,j));aC (bif eT.hI 64 b then bif cA.iB 64 b then(0:Int)else(6:Int)else(2:Int)) fun k=>aB (k !=0) (some [D.agg [sc F1,sc Y,sc Q,sc F1,sc Y,sc Q],D.s (sc (int i64 k))]) (aB ((i.length:Int)==(0:Int)) (aB (a==5) (aO ((-9223372036854775808:Int)<=(1:Int)/\(1:Int)<(9223372036854775808:Int)) (aC (isNeg Z.fst) fun l=>aC I1 fun m=>aC Z.snd fun n=>aC (isNeg Z.fst) fun o=>aC I1 fun p=>aC Z.snd fun q=>some [D.agg [sc (bool l),ints u64 m,sc (int i64 n),sc (bool o),ints u64 p,sc (int i64 q)],D.s (sc Q)])) (aO ((-9223372036854775808:Int)<=(0:Int)/\(0:Int)<(9223372036854775808:Int)) (aC (isNeg A1.fst) fun r=>aC G1 fun s=>aC A1.snd fun t=>aC (isNeg A1.fst) fun u=>aC G1 fun v=>aC A1.snd fun w=>some [D.agg [sc (bool r),ints u64 s,sc (int i64 t),sc (bool u),ints u64 v,sc (int i64 w)],D.s (sc Q)]))) (aO (aJ (h,i,j)) (aC T.fst fun x=>letI B1:=aL x 0;letI H1:=M6.dg B1.fst.natAbs;letI H:=aL (i64.wrap ((0:Int)-x)) 0;letI K1:=M6.dg H.fst.natAbs;aC T.snd.fst fun y=>aC T.snd.snd fun z=>aB z (aB (x==2) (some [D.agg [sc F1,sc Y,sc Q,sc F1,sc Y,sc Q],D.s (sc (int i64 6))]) (aB y (aO ((-9223372036854775808:Int)<=i64.wrap ((0:Int)-x)/\i64.wrap ((0:Int)-x)<9223372036854775808) (aC (isNeg H.fst) fun aa=>aC K1 fun ab=>aC H.snd fun ac=>aC (isNeg H.fst) fun ad=>aC K1 fun ae=>aC H.snd fun af=>some [D.agg [sc (bool aa),ints u64 ab,sc (int i64 ac),sc (bool ad),ints u64 ae,sc (int i64 af)],D.s (sc Q)])) (aO ((-9223372036854775808:Int)<=x/\x<9223372036854775808) (aC (isNeg B1.fst) fun ag=>aC H1 fun ah=>aC B1.snd fun ai=>aC (isNeg B1.fst) fun aj=>aC H1 fun ak=>aC B1.snd fun al=>some [D.agg [sc (bool ag),ints u64 ah,sc (int i64 ai),sc (bool aj),ints u64 ak,sc (int i64 al)],D.s (sc Q)])))) (aO (0<=b/\b<18446744073709551616) (aC (bif cA.iB 64 b then cB.yZ (cB.nQ b)%4 else(0:Int)) fun am=>aC (isNeg G.fst) fun an=>aC (M6.dg G.fst.natAbs) fun ao=>aC G.snd fun ap=>letI A:=fL.zK (dv (an,ao,ap)) X;letI P:=gC A.fst A.snd F;letI O:=gS A.fst A.snd F;aO (aJ (an,ao,ap)/\(1<=i64.wrap (c+16)/\i64.wrap (c+16)<=66500)/\fL.aJX (dv (an,ao,ap)) X) (aC (isNeg O.fst.fst) fun aq=>aC (M6.dg O.fst.fst.natAbs) fun ar=>aC O.fst.snd fun au=>aC (isNeg O.snd.fst) fun av=>aC (M6.dg O.snd.fst.natAbs) fun aw=>aC O.snd.snd fun ax=>letI C1:=(aq,ar,au,av,aw,ax);aC (isNeg P.fst.fst) fun ay=>aC (M6.dg P.fst.fst.natAbs) fun az=>aC P.fst.snd fun ba=>aC (isNeg P.snd.fst) fun bb=>aC (M6.dg P.snd.fst.natAbs) fun bc=>aC P.snd.snd fun be=>letI D1:=(ay,az,ba,bb,bc,be);letI N:=VTurned.trn (jT.eS C1) (jT.eS D1) am.toNat;letI B:=jT.aKU a am.toNat (jT.eS C1) (jT.eS D1) X;aO ((dP C1/\dP D1)/\(0<=am/\am<=3)/\(1<=i64.wrap (c+16)/\i64.wrap (c+16)<=70000)/\(a≠4->a≠5->jT.aIJ X N.fst N.snd)) (aC (isNeg B.fst.fst) fun bf=>aC (M6.dg B.fst.fst.natAbs) fun bg=>aC B.fst.snd fun bh=>aC (isNeg B.snd.fst) fun bi=>aC (M6.dg B.snd.fst.natAbs) fun bj=>aC B.snd.snd fun bk=>letI I:=(bf,bg,bh,bi,bj,bk);letI W:=M.shD true (dv (fF I)) K;letI U:=M.shD false (dv (fB I)) K;aO (dP I/\(1<=i64.wrap (c+20)/\i64.wrap (c+20)<=70000)/\nT false (dv (fB I)) K=true/\nT true (dv (fF I)) K=true) (aC (isNeg U.fst) fun bm=>aC (M6.dg U.fst.natAbs) fun bn=>aC U.snd fun bo=>aC (isNeg W.fst) fun bp=>aC (M6.dg W.fst.natAbs) fun bq=>aC W.snd fun br=>some [D.agg [sc (bool bm),ints u64 bn,sc (int i64 bo),sc (bool bp),ints u64 bq,sc (int i64 br)],D.s (sc Q)]))))))))):=cJ aU
def aHL(fn b:Int):Bool:=(fT.oJ 64 b).1==0||(dV.yA fn (fT.oJ 64 b)).2.2
def aLE(fn b:Int):Bool:=(fT.oJ 64 b).1 !=0&&(dV.yA fn (fT.oJ 64 b)).2.2&&(dV.yA fn (fT.oJ 64 b)).1==2
def aBK(fn b p:Int):(Int×Int)×(Int×Int):=bif aHL fn b then(bif aLE fn b then((0,0),(0,0))else(aL (gD.yM fn b) 0,aL (gD.yM fn b) 0))else tO fn (cB.yZ (cB.nQ b)) (cB.zA (cB.nQ b)) p
def sp(fn b p:Int):Prop×List D:=((0<=b/\b<18446744073709551616)/\(fn=4\/fn=5\/fn=6)/\(1<=p/\p<=66000)/\cA.iB 64 b=true,[vU (aBK fn b p).1 (aBK fn b p).2,.s (.sc (.int .i64 (bif aLE fn b then 6 else 0)))])
theorem fold(a b:Int×Int):(isNeg a.1,M6.dg a.1.natAbs,a.2,isNeg b.1,M6.dg b.1.natAbs,b.2)=mI a b:=rfl
theorem aCR{fn b:Int}(h:0<=b)(hf:cA.iB 64 b=true)(h4:fn=4\/fn=5\/fn=6)(hx:aHL fn b=false):aRF (cB.zA (cB.nQ b)):=by
 obtain⟨hp,hm,e0,e1⟩:=cB.aCP h hf;unfold aHL at hx;rw[show fT.oJ 64 b=cB.nQ b from rfl]at hx;generalize cB.nQ b=q at *;have z0:q.1≠0:=fun hz=>by rw[hz]at hx;exact Bool.noConfusion hx
 have hv:(dV.yA fn q).2.2=false:=by
  cases hc:(dV.yA fn q).2.2 with
  |false=>rfl
  |true=>rw[hc,Bool.or_true]at hx;exact Bool.noConfusion hx
 have he:q.2<=-2:=by
  rcases Int.lt_or_le (-2) q.2 with iN |hle
  ·exfalso;unfold dV.yA at hv
   by_cases c0:0<=q.2
   ·rcases h4 with rfl |rfl |rfl <;> simp[c0]at hv
   ·have c1:q.2=-1:=by omega
    rcases h4 with rfl |rfl |rfl <;> simp[c1]at hv
  ·exact hle
 exact aND ⟨e0,he⟩ (hp.2.2.2 z0)
theorem spec:aVR E f18 aE (pN .i64) (pN .u64) (pN .i64) sp:=by
 rintro fn b p ⟨h,h4,⟨zW,tI⟩,hf⟩;have hp:eT.hI 64 b=true:=rfl;have hk:nH.uV fn=true:=by rcases h4 with rfl |rfl |rfl <;> rfl
 have e1:(bif eT.hI 64 b&&cA.iB 64 b then aL (bM.lZ 64 b) (bM.mA 64 b)else((0:Int),(0:Int)))=fT.oJ 64 b:=by rw[hp,hf];rfl
 have e2:(bif eT.hI 64 b then bif cA.iB 64 b then(0:Int)else 6 else 2)=0:=by rw[hp,hf];rfl
 have s:=(start fn b p).trans (gP trivial);rw[hk,bNW,bF,aI,aI,fR,gP ⟨.inr rfl,h⟩,e1,e2,nS,vl,fD rfl]at s;have Qa:=(fT.Gr (.inr rfl) h.1 hf).1;have hn:aHL fn b=false->aRF (cB.zA (cB.nQ b)):=aCR h.1 hf h4;have hnum:fT.oJ 64 b=cB.nQ b:=rfl;unfold sp aBK;dsimp only;unfold aHL aLE gD.yM at *;generalize fT.oJ 64 b=q at *;have hl:(M6.dg q.1.natAbs).length=0↔q.1=0:=by rw[M6.gI];omega
 by_cases hz:q.1=0
 ·refine⟨_,s.trans ?_,fP.refl _⟩;rw[cN (by have:=hl.2 hz;omega),if_pos hz,hz]
  by_cases h5:fn=5
  ·rw[cN h5,if_pos h5,gP];rfl
  ·rw[bV h5,if_neg h5,gP];rfl
 ·rw[bV (fun h=>hz (hl.1 (by omega))),gP (cK Qa),cT,vl,vl,vl]at s;rw[show(q.1==0)=false from beq_eq_false_iff_ne.2 hz,show(q.1 !=0)=true by simp[hz],bNX,bOX,if_neg hz];have hn:=fun hx=>hn (by rw[show(q.1==0)=false from beq_eq_false_iff_ne.2 hz,bNX];exact hx)
  have hs:=fT.Nc fn q;cases hv:(dV.yA fn q).2.2 with
  |true =>
   rw[hv,bT]at s;rw[cond_true,bOX]
   by_cases c2:(dV.yA fn q).1=2
   ·rw[cN c2]at s;rw[c2];refine⟨_,s,.cons ?_ (fP.refl _)⟩;show vW _ (vU (0,0) (0,0));unfold vU;dsimp only;rw[show(0:Int).natAbs=0 from rfl,M6.bJ];exact vW.agg (.cons (yN.refl _) (.cons (yN.nil _) (.cons (yN.refl _) (.cons (yN.refl _) (.cons (yN.nil _) (uH.refl _))))))
   ·rw[bV c2]at s;rw[show((dV.yA fn q).1==2)=false from beq_eq_false_iff_ne.2 c2];refine⟨_,s.trans ?_,fP.refl _⟩;cases hg:(dV.yA fn q).2.1 with
    |false=>rw[bF,if_neg (by simp),gP];rfl
    |true=>rw[bT,if_pos rfl,wrap_i64 (n:=0-(dV.yA fn q).1),Int.zero_sub,gP];rfl
  |false =>
   have hr:=hn hv;rw[hv,bF,gP h,hf]at s;rw[cond_false,bRF];dsimp only[cond_true]at s;have N:=Sm (k:=cB.yZ (cB.nQ b)) hr ⟨zW,tI⟩ h4;have w1:i64.wrap (p+16)=p+16:=wrap_i64;have w2:i64.wrap (p+20)=p+20:=wrap_i64;have bLH:p+16+2=p+18:=by omega
   have N2:=N.bx.Sr;generalize cB.yZ (cB.nQ b)=k at *;generalize cB.zA (cB.nQ b)=r at *;rw[vl,nS,w1,cT,bLH]at s;have s:=s.trans (gP ⟨cK hr.qJ,⟨by omega,by omega⟩,N.ci⟩);rw[show gS (fL.zK r (p+16)).1 (fL.zK r (p+16)).2 (p+18)=tS r p from rfl,show gC (fL.zK r (p+16)).1 (fL.zK r (p+16)).2 (p+18)=tC r p from rfl]at s;have eS:jT.eS (mI (tS r p).1 (tS r p).2)=tS r p:=by
    show(dv (fB (mI _ _)),dv (fF (mI _ _)))=_;rw[nU,nV]
   have eC:jT.eS (mI (tC r p).1 (tC r p).2)=tC r p:=by
    show(dv (fB (mI _ _)),dv (fF (mI _ _)))=_;rw[nU,nV]
   rw[aK,aK,aK,aK,aK,aK,aK,aK,aK,aK,aK,aK,fold,fold,eS,eC]at s;have s:=s.trans (gP ⟨⟨N.sS,N.sC⟩,⟨bVA _ (by decide),by omega⟩,⟨by omega,by omega⟩,fun _ _=>N.qu⟩);rw[show jT.aKU fn (k%4).toNat (tS r p) (tC r p) (p+16)=tE fn k r p from rfl,aK,aK,aK,aK,aK,aK,fold,w2,nU,nV]at s;have s:=s.trans (gP ⟨N.re,⟨by omega,by omega⟩,N.s1,N.s2⟩);exact⟨_,s,fP.refl _⟩
def aH:dG:=orc3 (pN .i64) (pN .u64) (pN .i64) sp
theorem ok:OK 18 aH:=(eF E aE (aA nH.ok (aA bM.ok (aA zL.ok (aA dV.ok (aA cB.ok (aA fL.ok (aA jT.ok (aA aPR.ok aD)))))))) func18).bCQ rfl spec
end lI
end W
namespace M
open Go AI W
structure aKP(s:(Int×Int)×(Int×Int))(V:Rat)(p:Int):Prop where
 f1:Ry s.1 66021 (-p-1200) 1
 f2:Ry s.2 66021 (-p-1200) 1
 lo:R.qz s.1<=V
 hi:V<=R.qz s.2
theorem aKP.sp{s:(Int×Int)×(Int×Int)}{V:Rat}{p:Int}(h:aKP s V p):dP (mI s.1 s.2):=by
 have:=h.lo;have:=h.hi;exact uL h.f1.qJ h.f2.qJ (jR.2 (by grind))
theorem Nf{z p:Int}(hz:z=0\/z=1\/z=-1)(hp:1<=p):aKP (aL z 0,aL z 0) (z:Rat) p:=by
 have b:bl z.natAbs<=1:=by rcases hz with rfl |rfl |rfl <;> exact dU.2 (by decide)
 have e:R.qz (aL z 0)=(z:Rat):=by rw[mB,R.fC,Rat.mul_one]
 have f:Ry (aL z 0) 66021 (-p-1200) 1:=by
  refine⟨eZ (fJ (by omega) (by omega)) (by omega),bMS (oT _ _) (by omega),?_,?_⟩
  ·by_cases h0:z=0
   ·rw[h0,cV];show -p-1200<=0;omega
   ·have:=kY (e:=0) h0;omega
  ·rw[e];rcases hz with rfl |rfl |rfl
   ·rw[show((0:Int):Rat)=0 by norm_cast,R.bN bSK];grind
   ·rw[show((1:Int):Rat)=1 by norm_cast,R.bN (by grind)];exact bSK
   ·rw[show((-1:Int):Rat)=-1 by norm_cast,R.gT,R.bN (by grind)];exact bSK
 exact⟨f,f,by dsimp only;rw[e];exact bSK,by dsimp only;rw[e];exact bSK⟩
theorem aRU(k:Int)(s c:Rat):R.rs k s c*R.rs k s c+R.rc k s c*R.rc k s c=s*s+c*c:=by
 unfold R.rs R.rc;have h4:k%4=0\/k%4=1\/k%4=2\/k%4=3:=by omega
 rcases h4 with h |h |h |h
 ·rw[if_pos h,if_pos h]
 ·rw[if_neg (show ¬k%4=0 by omega),if_pos h,if_neg (show ¬k%4=0 by omega),if_pos h];grind
 ·rw[if_neg (show ¬k%4=0 by omega),if_neg (show ¬k%4=1 by omega),if_pos h,if_neg (show ¬k%4=0 by omega),if_neg (show ¬k%4=1 by omega),if_pos h];grind
 ·rw[if_neg (show ¬k%4=0 by omega),if_neg (show ¬k%4=1 by omega),if_neg (show ¬k%4=2 by omega),if_neg (show ¬k%4=0 by omega),if_neg (show ¬k%4=1 by omega),if_neg (show ¬k%4=2 by omega)];grind
theorem Xk(b:Int):(lI.aLE 4 b=false/\lI.aLE 5 b=false/\lI.aHL 4 b=lI.aHL 5 b)/\(lI.aHL 4 b=true ->
  (gD.yM 4 b=0/\(gD.yM 5 b=1\/gD.yM 5 b=-1))\/((gD.yM 4 b=1\/gD.yM 4 b=-1)/\gD.yM 5 b=0)):=by
 unfold lI.aLE lI.aHL gD.yM dV.yA;generalize fT.oJ 64 b=q;obtain⟨m,e⟩:=q;dsimp only
 by_cases z:m=0
 ·by_cases c0:0<=e
  ·simp[z,c0]
  ·by_cases c1:e=-1 <;> simp[z,c0,c1]
 ·by_cases c0:0<=e
  ·cases hm:(e==0) <;> simp[z,c0,hm]
  ·by_cases c1:e=-1
   ·cases hm:(m%4==3) <;> simp[z,c1,hm]
   ·simp[z,c0,c1]
theorem aET{fn k:Int}{r:Int×Int}{p:Int}(N:bFP fn k r p)(hp:1<=p/\p<=66000)(h:fn=4\/fn=5):aKP (tO fn k r p) (tv fn k (R.sn (R.qz r*R.pi)) (R.cs (R.qz r*R.pi))) p:=by
 have:=N.bits;have:=N.bBP;have o:=N.on h;have lo:=N.bx.lo;have hi:=N.bx.hi;have m0:=N.bx.m0;exact⟨⟨N.bx.pl,by omega,by omega,o.1⟩,⟨N.bx.ph,by omega,by omega,o.2⟩,by grind,by grind⟩
theorem aCH{r:Int×Int}(h:aRF r):R.ab (R.sn (R.qz r*R.pi)*R.sn (R.qz r*R.pi)+R.cs (R.qz r*R.pi)*R.cs (R.qz r*R.pi)-1)<=R.sQ:=by
 obtain⟨bDC,bDB⟩:=R.sA;refine R.aIK ?_;rw[R.fS,R.bN (show 0<=R.pi by grind)];have a0:=R.aQ (R.qz r);have:=h.q;have:=R.aG a0 (show 0<=4-R.pi by grind);grind
theorem aHX{b p:Int}(hb:0<=b)(hf:cA.iB 64 b=true)(hp:1<=p/\p<=66000):∃S C:Rat,aKP (lI.aBK 4 b p) S p/\aKP (lI.aBK 5 b p) C p/\R.ab (S*S+C*C-1)<=R.sQ:=by
 obtain⟨⟨p4,p5,bFH⟩,hx⟩:=Xk b;have ep:=R.oW;cases hc:lI.aHL 4 b with
 |true =>
  have hx:=hx hc;unfold lI.aBK;rw[<-bFH,hc,p4,p5,cond_true,cond_true,cond_false,cond_false];refine⟨_,_,Nf (by omega) hp.1,Nf (by omega) hp.1,?_⟩;have one:((1:Int):Rat)=1:=by norm_cast
  have aNP:((-1:Int):Rat)=-1:=by norm_cast
  have bGQ:((0:Int):Rat)=0:=by norm_cast
  have fin:∀x:Rat,x=0->R.ab x<=R.sQ:=fun x h0=>by rw[h0,R.bN bSK];exact bRD ep
  refine fin _ ?_;rcases hx with ⟨h0,h1 |h1⟩ |⟨h0 |h0,h1⟩ <;> rw[h0,h1,bGQ] <;> (try rw[one]) <;> (try rw[aNP]) <;> grind
 |false =>
  have hr:=lI.aCR hb hf (.inl rfl) hc;unfold lI.aBK;rw[<-bFH,hc,cond_false,cond_false];refine⟨_,_,aET (Sm hr hp (.inl rfl)) hp (.inl rfl),aET (Sm hr hp (.inr (.inl rfl))) hp (.inr rfl),?_⟩;have:=aCH hr;have e:=aRU (cB.yZ (cB.nQ b)) (R.sn (R.qz (cB.zA (cB.nQ b))*R.pi)) (R.cs (R.qz (cB.zA (cB.nQ b))*R.pi));rw[<-e]at this;exact this
end M
namespace W
open Go AI M
namespace aGE
def E:=mE [(75,aGF.aH)] 28 [26] [] []
def aE:=bd f29
theorem aU:Nk E aE:=nk
theorem start a b c d e f:aF E f29 aE [D.agg [sc (bool a),ints u64 b,sc (int i64 c)],D.agg [sc (bool d),ints u64 e,sc (int i64 f)]]=letI A:=some [D.s (sc (bool false))];aB (a==d) (aB (c==f) (aO (b.length<=4398046511104/\e.length<=4398046511104) (some [D.s (sc (bool (decide (b=e))))])) A) A:=eJ aU
def sp(x y:dR):Prop×List D:=(aJ x/\aJ y,[.s (.sc (.bool (decide (dv x=dv y))))])
theorem aCF{x y:Bool×List Int×Int}(hx:aJ x)(hy:aJ y):dv x=dv y↔x=y:=by
 constructor
 ·intro h;have e:=congrArg M.dD h;rw[hx.dD,hy.dD]at e;obtain⟨b,a,e1⟩:=x;obtain⟨c,d,f⟩:=y;simp at e;obtain⟨h1,h2,h3⟩:=e;rw[h1,h2,h3]
 ·intro h;rw[h]
theorem spec:fI E f29 aE gZ gZ sp:=by
 rintro x y ⟨hx,hy⟩;refine(start x.1 x.2.1 x.2.2 y.1 y.2.1 y.2.2).trans ?_;have lx:=hx.len;have ly:=hy.len;have hs:=aCF hx hy;show _=some [D.s (.sc (.bool (decide (dv x=dv y))))];obtain⟨b,a,e⟩:=x;obtain⟨c,d,f⟩:=y
 try dsimp only at *
 by_cases h1:b=c
 ·subst h1;rw[aFX (by simp)]
  by_cases h2:e=f
  ·rw[cN h2,gP];subst h2
   by_cases h3:a=d
   ·rw[decide_eq_true h3,decide_eq_true (hs.2 (by rw[h3]))]
   ·rw[decide_eq_false h3,decide_eq_false (fun h=>h3 (by have:=hs.1 h;simpa using this))]
  ·rw[bV h2,decide_eq_false (fun h=>h2 (by have:=hs.1 h;simp at this;exact this.2))]
 ·rw[Ht (by simpa using h1),decide_eq_false (fun h=>h1 (by have:=hs.1 h;simp at this;exact this.1))]
def aH:dG:=orc2 gZ gZ sp
theorem ok:OK 29 aH:=(eF E aE (aA aGF.ok aD) func29).lA rfl spec
end aGE
namespace Il
def E:=mE [(29,aGE.aH)] 17 [15] [] []
def aE:=bd f51
theorem aU:Nk E aE:=nk
theorem start a b c d e f g h i j k l:aF E f51 aE [D.agg [sc (bool a),ints u64 b,sc (int i64 c),sc (bool d),ints u64 e,sc (int i64 f)],D.agg [sc (bool g),ints u64 h,sc (int i64 i),sc (bool j),ints u64 k,sc (int i64 l)]]=aO (aJ (a,b,c)/\aJ (g,h,i)) (aB (decide (dv (a,b,c)=dv (g,h,i))) (aO (aJ (d,e,f)/\aJ (j,k,l)) (some [D.s (sc (bool (decide (dv (d,e,f)=dv (j,k,l)))))])) (some [D.s (sc (bool false))])):=eJ aU
abbrev qN:=Bool×List Int×Int×Bool×List Int×Int
def lo(x:qN):dR:=(x.1,x.2.1,x.2.2.1)
def hi(x:qN):dR:=(x.2.2.2.1,x.2.2.2.2.1,x.2.2.2.2.2)
def sp(x y:qN):Prop×List D:=((aJ (lo x)/\aJ (lo y))/\aJ (hi x)/\aJ (hi y),[.s (.sc (.bool (decide (dv (lo x)=dv (lo y))&&decide (dv (hi x)=dv (hi y)))))])
theorem spec:fI E f51 aE qK qK sp:=by
 rintro x y ⟨h1,h2⟩;refine(start x.1 x.2.1 x.2.2.1 x.2.2.2.1 x.2.2.2.2.1 x.2.2.2.2.2 y.1 y.2.1 y.2.2.1 y.2.2.2.1 y.2.2.2.2.1 y.2.2.2.2.2).trans ((gP h1).trans ?_)
 by_cases hc:dv (lo x)=dv (lo y)
 ·have:decide (dv (x.1,x.2.1,x.2.2.1)=dv (y.1,y.2.1,y.2.2.1))=true:=decide_eq_true hc;rw[this,bT];refine(gP h2).trans ?_;unfold sp;rw[decide_eq_true hc,bOX];rfl
 ·have:decide (dv (x.1,x.2.1,x.2.2.1)=dv (y.1,y.2.1,y.2.2.1))=false:=decide_eq_false hc;rw[this,bF];unfold sp;rw[decide_eq_false hc,bRF]
def aH:dG:=orc2 qK qK sp
theorem ok:OK 51 aH:=(eF E aE (aA aGE.ok aD) func51).lA rfl spec
end Il
namespace Bf
def E:=mE [(227,aXH.aH)] 29 [] [(6,[0,3]),(4,[0,3])] [6]
def aE:=bd f201
theorem aU:Nk E aE:=nk
def L4 a b:=nO E f201 aE 4 [wA a,bP b]
def J6 a b:=kV E f201 aE 6 [wA a,bP b]
def L6 a b:=nO E f201 aE 6 [wA a,bP b]
theorem start a:aF E f201 aE [D.s (ints u32 a)]=aB ((a.length:Int)==(0:Int)) (some [D.s (sc (int i64 0))]) (Bf.L4 a 0):=eJ aU
theorem kS a b:L4 a b=letI A:=b.tdiv 32;aB (decide (i64.wrap A<(a.length:Int))) (if 0<=i64.wrap A/\i64.wrap A<(a.length:Int)then aB (a.getD (i64.wrap A).toNat 0==(0:Int)) (Bf.L4 a (i64.wrap (b+32))) (Bf.J6 a b)else none) (Bf.J6 a b):=lJ aU
theorem Lh a b:J6 a b=Bf.L6 a b:=cJ aU
theorem yV a b:L6 a b=aO (cE a/\a.length<=1099511627776/\(-9223372036854775808:Int)<=b/\b<9223372036854775808) (aB ((if b<0 then(0:Int)else(↑(val a/(2:Nat)^b.toNat%2):Int))==0) (Bf.L6 a (i64.wrap (b+1))) (some [D.s (sc (int i64 b))])):=lJ aU
theorem aRQ{v k:Nat}(hv:v≠0)(h:v%2^k=0):k<=tz v:=by
 have hd:=bRC v (2^k);rw[h,Nat.add_zero]at hd;have hq:v/2^k≠0:=fun hq=>by rw[hq,Nat.mul_zero]at hd;omega
 have:=Lm hq k;rw[hd]at this;omega
theorem lp{a:List Int}(ha:cE a)(hl:a.length<=1099511627776)(hv:val a≠0)(ht:tz (val a)<70368744177664):∀(d n:Nat),n+d=tz (val a)->L6 a (n:Int)=some [D.s (.sc (.int .i64 (tz (val a):Int)))]:=by
 have hs:=oS _ hv;intro d
 induction d with
 |zero =>
  intro n hd;have:n=tz (val a):=by omega
  subst this;rw[yV,gP ⟨ha,hl,by omega,by omega⟩,aX,bPS,bV]
 |succ d ih =>
  intro n hd;have h0:val a/2^n%2=0:=by
   have aJC:=bRC (val a) (2^tz (val a));rw[hs.1,Nat.add_zero]at aJC;have:val a=2^n*(2*(2^d*(val a/2^tz (val a)))):=by
    have e:2^tz (val a)=2^n*(2*2^d):=by rw[<-hd,Nat.pow_add,bQV,Nat.mul_comm (2^d)]
    generalize val a/2^tz (val a)=q at *;rw[<-Nat.mul_assoc 2,<-Nat.mul_assoc (2^n),<-e];exact aJC.symm
   rw[this,Nat.mul_div_cancel_left _ (bOV (by decide))];omega
  rw[yV,gP ⟨ha,hl,by omega,by omega⟩,aX,bPS,h0,cN (show((0:Nat):Int)=0 from rfl),wrap_i64];exact ih (n+1) (by omega)
theorem skip{a:List Int}(ha:cE a)(hl:a.length<=1099511627776)(hv:val a≠0)(ht:tz (val a)<70368744177664):∀(d i:Nat),i+d=a.length->val (a.take i)=0->L4 a ((32*i:Nat):Int)=some [D.s (.sc (.int .i64 (tz (val a):Int)))]:=by
 have key:∀i,val (a.take i)=0->32*i<=tz (val a)/\i<a.length:=by
  intro i h0;have iN:i<a.length:=by
   rcases Nat.lt_or_ge i a.length with h |h
   ·exact h
   ·rw[List.take_of_length_le h]at h0;exact(hv h0).elim
  refine⟨aRQ hv ?_,iN⟩;have h1:=fX a (n:=i) (by omega);rw[h0,Nat.zero_add]at h1;rw[<-Kh,h1,Nat.mul_mod_right]
 intro d
 induction d with
 |zero=>intro i hd h0;have:=key i h0;omega
 |succ d ih =>
  intro i hd h0;have hk:=key i h0;have t1:(((32*i:Nat):Int)).tdiv 32=(i:Int):=by rw[Int.tdiv_eq_ediv_of_nonneg (by omega)];omega
  have g:=ha.get i;rw[kS,t1,wrap_i64 (n:=(i:Int)),aN,aT,bPS]
  by_cases hc:a.getD i 0=0
  ·rw[cN hc,wrap_i64];have:=ih (i+1) (by omega) (by rw[cD,h0,hc];simp);rw[show((32*i:Nat):Int)+32=((32*(i+1):Nat):Int) by omega];exact this
  ·rw[bV hc,Lh];exact lp ha hl hv ht (tz (val a)-32*i) (32*i) (by omega)
def sp(a:List Int):Prop×List D:=(cF a/\a.length<=1099511627776,[.s (.sc (.int .i64 (if val a=0 then 0 else(tz (val a):Int))))])
theorem spec:gO E f201 aE (pI .u32) sp:=by
 rintro a ⟨ha,hl⟩;refine(start a).trans ?_;show _=some [D.s (.sc (.int .i64 (if val a=0 then 0 else(tz (val a):Int))))]
 by_cases h0:a.length=0
 ·rw[cN,if_pos ((cS ha).1 h0)]
 ·have hv:val a≠0:=fun h=>h0 ((cS ha).2 h)
  have ht:tz (val a)<70368744177664:=by
   have h1:=Fq hv;have h2:=cO ha.iU;rw[Kh]at h2;have:=(cAI (by decide:1<2)).1 (bSL h1 h2);omega
  rw[bV,if_neg hv];exact skip ha.iU hl hv ht a.length 0 (by omega) (by simp[val])
def aH:dG:=orc1 (pI .u32) sp
theorem ok:OK 201 aH:=(eF E aE (aA aXH.ok aD) func201).nN rfl spec
end Bf
namespace Dx
def E:=mE [(201,Bf.aH),(202,bCF.aH),(140,Mk.aH),(133,bCC.aH)] 52 [] [(5,[1,2,4]),(9,[1,2,4,6,7])] [5,9]
def aE:=bd f161
theorem aU:Nk E aE:=nk
def J5 a b c d e:=kV E f161 aE 5 [bP a,cQ 1 117 [bW b,aRP c],cQ 2 29 [bW d,sc (slice none 0 0),cI e]]
def J9 a b c d e f g:=kV E f161 aE 9 [bP a,cQ 1 117 [bW b,aRP c],cQ 2 29 [bW d,sc (slice none 0 0),cI e],bP f,wA g]
theorem start a c b:aF E f161 aE [D.agg [sc (bool a),ints u32 c],D.s (sc (int i64 b))]=letI B:=int i64 0;letI A:=some [D.agg [sc (bool false),sc (slice none 0 0),sc B],D.s (sc (int i64 5))];aB ((c.length:Int)==(0:Int)) (some [D.agg [sc (bool false),sc (slice none 0 0),sc B],D.s (sc B)]) (aB (decide (1048576<b)) A (aB (decide (b<(-1099511627776:Int))) A (Dx.J5 b a c false 0))):=eJ aU
theorem Ip a b c d e:J5 a b c d e=letI A:=some [D.agg [sc (bool false),sc (slice none 0 0),sc (int i64 0)],D.s (sc (int i64 5))];aO (cF c/\c.length<=1099511627776) (aC (if val c=0 then(0:Int)else(↑(tz (val c)):Int)) fun f=>aO (cE c/\c.length<=1099511627776/\f<9223372036854775808) (aC (dg (val c/(2:Nat)^f.toNat)) fun g=>aB (decide (16384<(g.length:Int))) A (aB (decide (i64.wrap (a+f)<(-1048576:Int))) A (aB (decide (1048576<i64.wrap (a+f))) A (Dx.J9 a b c d e f g))))):=cJ aU
theorem Ru a b c d e f g:J9 a b c d e f g=letI A:=(isNeg (zs b (val g)),dg (zs b (val g)).natAbs);aO (cE g/\g.length<=4398046511104) (aO (aGA A) (aC (isNeg (zv A)) fun h=>aC (M6.dg (zv A).natAbs) fun i=>some [D.agg [sc (bool h),ints u64 i,sc (int i64 (i64.wrap (a+f)))],D.s (sc (int i64 0))])):=cJ aU
def jV(z e:Int):Bool:=fM z e&&fit (aL z e).1.natAbs
def sp(x:Bool×List Int)(e:Int):Prop×List D:=(aGA x/\x.2.length<=268435456/\-4611686018427387904<=e/\e<4611686018427387904,dE (jV (zv x) e) (aL (zv x) e))
theorem kC(p:Int×Int)(ok:Bool)(n:Int)(h1:ok=true->p=(0,0))(h2:n=bif ok then 0 else 5):fP [D.agg [.sc (.bool false),.sc (.slice none 0 0),.sc (.int .i64 0)],.s (.sc (.int .i64 n))] (dE ok p):=by
 subst h2;have:(bif ok then p else((0:Int),(0:Int)))=(0,0):=by
  cases ok with
  |true=>exact h1 rfl
  |false=>rfl
 unfold dE;rw[this];refine .cons ?_ (fP.refl _);unfold dD;rw[show((0,0):Int×Int).1.natAbs=0 from rfl,M6.bJ];exact vW.agg (.cons (yN.refl _) (.cons (yN.nil _) (uH.refl _)))
theorem Yq{n k:Nat}(h:bl n<=32*k):(dg n).length<=k:=cR (by rw[Kh];exact dU.1 h)
theorem aJM{n:Nat}:fit n=decide ((dg n).length<=16384):=by
 unfold fit
 by_cases h:bl n<=524288
 ·rw[decide_eq_true h,decide_eq_true (Yq (k:=16384) (by omega))]
 ·rw[decide_eq_false h,decide_eq_false (fun hl=>h ?_)];have:=aFV (iO n) hl;rw[bI]at this;omega
theorem spec:El E f161 aE aWC (pN .i64) sp:=by
 rintro x e ⟨hx,lx,aHG,Zc⟩;have s:=start x.1 x.2 e;have hz:=cS hx.1;have bx:=aFV hx.1.iU lx;have hn:=hx.1;obtain⟨b,a⟩:=x
 try dsimp only at *
 unfold sp
 try dsimp only
 have ha:(zv (b,a)).natAbs=val a:=aMO (b,a)
 by_cases h0:a.length=0
 ·have hv:zv (b,a)=0:=by have:=hz.1 h0;omega
  rw[cN]at s;exact⟨_,s,kC _ _ _ (fun _=>by rw[hv,cV]) (by unfold jV;rw[hv,cV];rfl)⟩
 ·have hv:val a≠0:=fun h=>h0 (hz.2 h)
  have hw:zv (b,a)≠0:=by omega
  have ht:=Aa hv;obtain⟨n1,n2⟩:=jH (e:=e) hw;rw[ha]at n2;have Iz:fM (zv (b,a)) e=(decide (-1048576<=e+(tz (val a):Int))&&decide (e+(tz (val a):Int)<=1048576)):=by
   unfold fM;rw[decide_eq_false hw,bNX,ha]
  have bED:aL (zv (b,a)) e=(zs b (val a/2^tz (val a)),e+(tz (val a):Int)):=by
   unfold aL;rw[if_neg hw,ha];have:=aAV (b:=b) (bOV (n:=tz (val a)) (show 0<2 by decide)) (oS _ hv).1;rw[<-this];rfl
  have Ji:fit (aL (zv (b,a)) e).1.natAbs=decide ((dg (val a/2^tz (val a))).length<=16384):=by
   rw[bED,<-aJM]
   try dsimp only
   rw[kB]
  have no:fM (zv (b,a)) e=false->jV (zv (b,a)) e=false:=fun h=>by unfold jV;rw[h];rfl
  rw[bV]at s
  by_cases c1:1048576<e
  ·rw[aN c1]at s;exact⟨_,s,kC _ _ _ (fun h=>by rw[no (by rw[Iz,decide_eq_false (show ¬e+(tz (val a):Int)<=1048576 by omega),bRI])]at h;cases h) (by rw[no (by rw[Iz,decide_eq_false (show ¬e+(tz (val a):Int)<=1048576 by omega),bRI])];rfl)⟩
  ·rw[aI c1]at s
   by_cases c2:e < -1099511627776
   ·rw[aN c2]at s;have hf:jV (zv (b,a)) e=false:=no (by rw[Iz,decide_eq_false (show ¬-1048576<=e+(tz (val a):Int) by omega),bRF]);exact⟨_,s,kC _ _ _ (fun h=>by rw[hf]at h;cases h) (by rw[hf];rfl)⟩
   ·have aLV:=Tk (val a) (2^tz (val a));rw[show(dg (val a)).length=a.length from aIP hn]at aLV;rw[aI c2,Ip,gP ⟨hn,by omega⟩,if_neg hv,vl,gP ⟨hn.iU,by omega,by omega⟩,bPS,vl,wrap_i64 (n:=e+(tz (val a):Int)) (by omega) (by omega)]at s
    by_cases c3:(16384:Int)<((dg (val a/2^tz (val a))).length:Int)
    ·rw[aN c3]at s;have hf:jV (zv (b,a)) e=false:=by unfold jV;rw[Ji,decide_eq_false (by omega),bRI]
     exact⟨_,s,kC _ _ _ (fun h=>by rw[hf]at h;cases h) (by rw[hf];rfl)⟩
    ·rw[aI c3]at s
     by_cases c4:e+(tz (val a):Int) < -1048576
     ·rw[aN c4]at s;have hf:jV (zv (b,a)) e=false:=no (by rw[Iz,decide_eq_false (show ¬-1048576<=e+(tz (val a):Int) by omega),bRF]);exact⟨_,s,kC _ _ _ (fun h=>by rw[hf]at h;cases h) (by rw[hf];rfl)⟩
     ·rw[aI c4]at s
      by_cases c5:1048576<e+(tz (val a):Int)
      ·rw[aN c5]at s;have hf:jV (zv (b,a)) e=false:=no (by rw[Iz,decide_eq_false (show ¬e+(tz (val a):Int)<=1048576 by omega),bRI]);exact⟨_,s,kC _ _ _ (fun h=>by rw[hf]at h;cases h) (by rw[hf];rfl)⟩
      ·have aLN:aGA (isNeg (zs b (val a/2^tz (val a))),dg (zs b (val a/2^tz (val a))).natAbs):=aAW (by rw[kB];omega);rw[aI c5,Ru,gP ⟨iO _,by omega⟩,bI,gP aLN,aKQ,vl,vl,wrap_i64 (n:=e+(tz (val a):Int)) (by omega) (by omega)]at s;refine⟨_,s,?_⟩;have ht:jV (zv (b,a)) e=true:=by
        unfold jV;rw[Iz,Ji,decide_eq_true (show -1048576<=e+(tz (val a):Int) by omega),decide_eq_true (show e+(tz (val a):Int)<=1048576 by omega),decide_eq_true (by omega)];rfl
       rw[ht,bED];exact fP.refl _
def aH:dG:=orc2 aWC (pN .i64) sp
theorem ok:OK 161 aH:=(eF E aE (aA Bf.ok (aA bCF.ok (aA Mk.ok (aA bCC.ok aD)))) func161).aAF rfl spec
end Dx
namespace Vg
def E:=mE [(89,bCD.aH),(161,Dx.aH)] 12 [] [] []
def aE:=bd f108
theorem aU:Nk E aE:=nk
theorem start a:aF E f108 aE [D.s (sc (int i64 a))]=letI B:=(isNeg a,dg a.natAbs);letI A:=bif Dx.jV (zv B) 0 then aL (zv B) 0 else((0:Int),(0:Int));aO ((-9223372036854775808:Int)<=a/\a<9223372036854775808) (aO (aGA B/\(dg a.natAbs).length<=268435456/\(-4611686018427387904:Int)<=(0:Int)/\(0:Int)<(4611686018427387904:Int)) (aC (isNeg A.fst) fun b=>aC (M6.dg A.fst.natAbs) fun c=>aC A.snd fun d=>some [D.agg [sc (bool b),ints u64 c,sc (int i64 d)]])):=eJ aU
def sp(a:Int):Prop×List D:=(-9223372036854775808<=a/\a<9223372036854775808,[dD (aL a 0)])
theorem spec:gO E f108 aE (pN .i64) sp:=by
 intro a h;have h:-9223372036854775808<=a/\a<9223372036854775808:=h;have hb:bl a.natAbs<=64:=dU.2 (by omega);have hl:(dg a.natAbs).length<=2:=cR (by omega);refine(start a).trans ((gP h).trans ((gP ⟨aAW (by omega),by(try dsimp only);omega,by omega,by omega⟩).trans ?_));rw[aKQ];have:Dx.jV a 0=true:=by
  unfold Dx.jV fit;have:=Am a 0;rw[fJ (by omega) (by omega),decide_eq_true (bMS (gN this) (by omega))];rfl
 rw[this,cond_true,nS];rfl
def aH:dG:=orc1 (pN .i64) sp
theorem ok:OK 108 aH:=(eF E aE (aA bCD.ok (aA Dx.ok aD)) func108).nN rfl spec
end Vg
namespace Uz
def E:=mE [(108,Vg.aH)] 8 [] [] []
def aE:=bd f52
theorem aU:Nk E aE:=nk
theorem start a:aF E f52 aE [D.s (sc (int i64 a))]=letI A:=aL a 0;letI B:=M6.dg A.fst.natAbs;aO ((-9223372036854775808:Int)<=a/\a<9223372036854775808) (aC (isNeg A.fst) fun b=>aC B fun c=>aC A.snd fun d=>aO ((-9223372036854775808:Int)<=a/\a<9223372036854775808) (aC (isNeg A.fst) fun e=>aC B fun f=>aC A.snd fun g=>some [D.agg [sc (bool b),ints u64 c,sc (int i64 d),sc (bool e),ints u64 f,sc (int i64 g)]])):=eJ aU
def sp(m:Int):Prop×List D:=(-9223372036854775808<=m/\m<9223372036854775808,[zL.sD (aL m 0) (aL m 0)])
theorem spec:gO E f52 aE (pN .i64) sp:=by
 intro m h;have h:-9223372036854775808<=m/\m<9223372036854775808:=h;refine(start m).trans ?_;rw[gP h,nS,gP h,nS];rfl
def aH:dG:=orc1 (pN .i64) sp
theorem ok:OK 52 aH:=(eF E aE (aA Vg.ok aD) func52).nN rfl spec
end Uz
namespace Va
def E:=mE [(30,cB.aH),(50,fT.aH),(18,gD.aH),(51,Il.aH),(52,Uz.aH)] 59 [57] [] []
def aE:=bd f16
theorem aU:Nk E aE:=nk
theorem start:aF E f16 aE []=letI B:=aL (-1:Int) 0;letI F:=M6.dg B.fst.natAbs;letI A:=aL (gD.yM 4 4609434218613702656) 0;letI C:=M6.dg A.fst.natAbs;aO ((0:Int)<=(4598175219545276416:Int)/\(4598175219545276416:Int)<(18446744073709551616:Int)) (aC (isNeg (bif cA.iB 64 4598175219545276416 then cB.zA (cB.nQ 4598175219545276416)else((0:Int),(0:Int))).fst) fun a=>aO ((0:Int)<=(4609434218613702656:Int)/\(4609434218613702656:Int)<(18446744073709551616:Int)) (aO (((0:Int)<=(4609434218613702656:Int)/\(4609434218613702656:Int)<(18446744073709551616:Int))/\gD.aGS 4 4609434218613702656 7) (aC (isNeg A.fst) fun b=>aC C fun c=>aC A.snd fun d=>aC (isNeg A.fst) fun e=>aC C fun f=>aC A.snd fun g=>aB (!a) (some [D.s (sc (bool false))]) (aO ((-9223372036854775808:Int)<=(-1:Int)/\(-1:Int)<(9223372036854775808:Int)) (aC (isNeg B.fst) fun h=>aC F fun i=>aC B.snd fun j=>aC (isNeg B.fst) fun k=>aC F fun l=>aC B.snd fun m=>aO ((aJ (b,c,d)/\aJ (h,i,j))/\aJ (e,f,g)/\aJ (k,l,m)) (aC (decide (dv (Il.lo (b,c,d,e,f,g))=dv (Il.lo (h,i,j,k,l,m)))&&decide (dv (Il.hi (b,c,d,e,f,g))=dv (Il.hi (h,i,j,k,l,m)))) fun n=>some [D.s (sc (bool n))])))))):=eJ aU
theorem aYA:cB.nQ 4598175219545276416=(1,-2):=by
 have e1:bM.lZ 64 4598175219545276416=1*p2 52:=by decide
 have e2:bM.mA 64 4598175219545276416=-54:=by decide
 unfold cB.nQ;rw[e1,e2,uR _ _ (by omega)];exact tL (p:=(1,-2)) (by decide) (by decide)
theorem aSD:fT.oJ 64 4609434218613702656=(3,-1):=by
 have e1:bM.lZ 64 4609434218613702656=3*p2 51:=by decide
 have e2:bM.mA 64 4609434218613702656=-52:=by decide
 unfold fT.oJ;rw[e1,e2,uR _ _ (by omega)];exact tL (p:=(3,-1)) (by decide) (by decide)
theorem aXM:cB.zA (1,-2)=(-1,-2):=by
 have e1:cB.Mb (1,-2)=-(1*p2 1):=by decide
 unfold cB.zA;rw[e1,Ps,uR _ _ (by omega)];show(-(aL 1 (-2)).1,(aL 1 (-2)).2)=_;rw[tL (p:=(1,-2)) (by decide) (by decide)]
theorem bBN:cA.iB 64 4598175219545276416=true:=by decide
theorem bBM:cA.iB 64 4609434218613702656=true:=by decide
theorem aVB:gD.aGS 4 4609434218613702656 7/\gD.yM 4 4609434218613702656=-1:=by
 refine⟨⟨rfl,by omega,by omega,bBM,fun _=>?_⟩,?_⟩
 ·rw[aSD];exact⟨rfl,by decide⟩
 ·unfold gD.yM;rw[aSD];rfl
def sp:Prop×List D:=(True,[.s (.sc (.bool true))])
theorem spec(h:sp.1):aF E f16 aE []=some sp.2:=by
 have hn:iS (aL (-1) 0):=eZ (fJ (by omega) (by have:=No xB;omega)) (by have:=No xB;omega);refine start.trans ?_;rw[bBN,cond_true,aYA,aXM,gP,vl,gP,gP ⟨by omega,aVB.1⟩,aVB.2];show aC (isNeg (aL (-1) 0).1) _=_;rw[nS,nS];show aO _ (aC (isNeg (aL (-1) 0).1) _)=_;rw[gP,nS,nS,gP ⟨⟨cK hn,cK hn⟩,cK hn,cK hn⟩,vl,decide_eq_true rfl,decide_eq_true rfl];rfl
def aH:dG:=orc0  sp
theorem ok:OK 16 aH:=(eF E aE (aA cB.ok (aA fT.ok (aA gD.ok (aA Il.ok (aA Uz.ok aD))))) func16).aXW spec
end Va
namespace Of
def E:=mE [] 6 [] [] []
def aE:=bd f28
theorem aU:Nk E aE:=nk
theorem start a:aF E f28 aE [D.s (sc (int u64 a))]=some [D.s (sc (bool (decide (a.tmod 9223372036854775808<(9218868437227405312:Int)))))]:=eJ aU
def sp(b:Int):Prop×List D:=(0<=b/\b<18446744073709551616,[.s (.sc (.bool (cA.iB 64 b)))])
theorem spec:gO E f28 aE (pN .u64) sp:=by
 intro b h;have h:0<=b/\b<18446744073709551616:=h;refine(start b).trans ?_;rw[Int.tmod_eq_emod_of_nonneg h.1];rfl
def aH:dG:=orc1 (pN .u64) sp
theorem ok:OK 28 aH:=(eF E aE aD func28).nN rfl spec
end Of
namespace Le
def E:=mE [(28,Of.aH)] 15 [] [] []
def aE:=bd f17
theorem aU:Nk E aE:=nk
theorem start a b:aF E f17 aE [D.s (sc (int u64 a)),D.s (sc (int i64 b))]=letI A:=some [D.s (sc (bool false))];aO (0<=a/\a<18446744073709551616) (aB (cA.iB 64 a) (aB (decide (1<=b)) (some [D.s (sc (bool (decide (b<=66000))))]) A) A):=eJ aU
def aEJ(b p:Int):Bool:=cA.iB 64 b&&(decide (1<=p)&&decide (p<=66000))
def sp(b p:Int):Prop×List D:=(0<=b/\b<18446744073709551616,[.s (.sc (.bool (aEJ b p)))])
theorem spec:fI E f17 aE (pN .u64) (pN .i64) sp:=by
 intro b p h;refine(start b p).trans ((gP h).trans ?_);unfold sp aEJ;dsimp only;cases hf:cA.iB 64 b with
 |false=>rfl
 |true =>
  rw[bT,bOX]
  by_cases c:1<=p
  ·rw[aN c,decide_eq_true c,bOX]
  ·rw[aI c,decide_eq_false c,bRF]
def aH:dG:=orc2 (pN .u64) (pN .i64) sp
theorem ok:OK 17 aH:=(eF E aE (aA Of.ok aD) func17).lA rfl spec
end Le
namespace aKI
def E:=mE [(45,pO.aH),(61,kA.aH),(62,zO.aH)] 26 [] [(3,[2,3])] [3]
def aE:=bd f23
theorem aU:Nk E aE:=nk
def J3 a b c d e f g h i:=kV E f23 aE 3 [cQ 0 31 [bW a,dZ b,cI c,bW d,dZ e,cI f],cQ 1 29 [bW g,dZ h,cI i]]
theorem start a b c d e f g h i:aF E f23 aE [D.agg [sc (bool a),ints u64 b,sc (int i64 c),sc (bool d),ints u64 e,sc (int i64 f)],D.agg [sc (bool g),ints u64 h,sc (int i64 i)]]=aO (dP (a,b,c,d,e,f)) (aO (aJ (g,h,i)) (aKI.J3 a b c d e f g h i)):=eJ aU
theorem fR a b c d e f g h i:J3 a b c d e f g h i=aO (aJ (a,b,c)/\aJ (g,h,i)) (aB (decide (bZ (dv (a,b,c)) (dv (g,h,i))<=0)) (aO (aJ (g,h,i)/\aJ (d,e,f)) (some [D.s (sc (bool (decide (bZ (dv (g,h,i)) (dv (d,e,f))<=0)))),D.s (sc (int i64 0))])) (some [D.s (sc (bool false)),D.s (sc (int i64 0))])):=cJ aU
def sp(s:qN)(x:dR):Prop×List D:=(dP s/\aJ x,[.s (.sc (.bool (decide (bZ (dv (fB s)) (dv x)<=0)&&decide (bZ (dv x) (dv (fF s))<=0)))),.s (.sc (.int .i64 0))])
theorem spec:fI E f23 aE qK gZ sp:=by
 rintro s x ⟨h1,h2⟩;refine(start s.1 s.2.1 s.2.2.1 s.2.2.2.1 s.2.2.2.2.1 s.2.2.2.2.2 x.1 x.2.1 x.2.2).trans ?_;unfold sp
 try dsimp only
 have hL:aJ (s.1,s.2.1,s.2.2.1):=h1.1;have hH:aJ (s.2.2.2.1,s.2.2.2.2.1,s.2.2.2.2.2):=h1.2.1;have hx:aJ (x.1,x.2.1,x.2.2):=h2;rw[gP h1,gP h2,fR,gP ⟨hL,hx⟩];show aB (decide (bZ (dv (fB s)) (dv x)<=0)) _ _=_
 by_cases hc:bZ (dv (fB s)) (dv x)<=0
 ·rw[aN hc,gP ⟨hx,hH⟩,decide_eq_true hc,bOX];rfl
 ·rw[aI hc,decide_eq_false hc,bRF]
def aH:dG:=orc2 qK gZ sp
theorem ok:OK 23 aH:=(eF E aE (aA pO.ok (aA kA.ok (aA zO.ok aD))) func23).lA rfl spec
end aKI
namespace Od
def E:=mE [(48,xH.aH)] 20 [11] [] []
def aE:=bd f22
theorem aU:Nk E aE:=nk
theorem start a b c d e f g h i j k l:aF E f22 aE [D.agg [sc (bool a),ints u64 b,sc (int i64 c),sc (bool d),ints u64 e,sc (int i64 f)],D.agg [sc (bool g),ints u64 h,sc (int i64 i),sc (bool j),ints u64 k,sc (int i64 l)]]=aO (dP (a,b,c,d,e,f)/\dP (g,h,i,j,k,l)) (aC (xH.meet (a,b,c,d,e,f) (g,h,i,j,k,l)) fun m=>some [D.s (sc (bool m))]):=eJ aU
def sp(s t:qN):Prop×List D:=(dP s/\dP t,[.s (.sc (.bool (xH.meet s t)))])
theorem spec:fI E f22 aE qK qK sp:=by
 intro s t h;refine(start s.1 s.2.1 s.2.2.1 s.2.2.2.1 s.2.2.2.2.1 s.2.2.2.2.2 t.1 t.2.1 t.2.2.1 t.2.2.2.1 t.2.2.2.2.1 t.2.2.2.2.2).trans ((gP h).trans ?_);rw[aK];rfl
def aH:dG:=orc2 qK qK sp
theorem ok:OK 22 aH:=(eF E aE (aA xH.ok aD) func22).lA rfl spec
end Od
namespace LawSquares
def E:=mE [(16,Va.aH),(17,Le.aH),(18,lI.aH),(13,mL.aH),(14,aPS.aH),(23,aKI.aH),(24,aGV.aH),(22,Od.aH)] 100 [98] [(12,[5,7,13])] [12]
def aE:=bd f5
theorem aU:Nk E aE:=nk
def aRI a b c d e f g h i j k l m n o p q r:=kV E f5 aE 12 [cQ 0 31 [bW a,dZ b,cI c,bW d,dZ e,cI f],cQ 1 31 [bW g,dZ h,cI i,bW j,dZ k,cI l],cQ 2 31 [bW m,dZ n,cI o,bW p,dZ q,cI r]]
theorem start a b:aF E f5 aE [D.s (sc (int u64 a)),D.s (sc (int i64 b))]=letI H1:=some [D.s (sc (bool false))];letI U:=i64.wrap (b+140);letI Q:=lI.aBK 5 a b;letI P:=lI.aBK 4 a b;letI A:=i64.wrap (b+70);aO True (aO (0<=a/\a<18446744073709551616) (aB (!Le.aEJ a b) (some [D.s (sc (bool true))]) (aO ((0<=a/\a<18446744073709551616)/\((4:Int)=(4:Int)\/(4:Int)=(5:Int)\/(4:Int)=(6:Int))/\(1<=b/\b<=66000)/\cA.iB 64 a=true) (aC (isNeg P.fst.fst) fun c=>aC (M6.dg P.fst.fst.natAbs) fun d=>aC P.fst.snd fun e=>aC (isNeg P.snd.fst) fun f=>aC (M6.dg P.snd.fst.natAbs) fun g=>aC P.snd.snd fun h=>letI B:=(c,d,e,f,g,h);letI Z:=dv (fF B);letI Y:=dv (fB B);letI I:=mL.yI Y Z;letI F1:=M.shD true I A;letI H:=mL.yH Y Z;letI C1:=M.shD false H A;aC (bif lI.aLE 4 a then(6:Int)else(0:Int)) fun i=>aO ((0<=a/\a<18446744073709551616)/\((5:Int)=(4:Int)\/(5:Int)=(5:Int)\/(5:Int)=(6:Int))/\(1<=b/\b<=66000)/\cA.iB 64 a=true) (aC (isNeg Q.fst.fst) fun j=>aC (M6.dg Q.fst.fst.natAbs) fun k=>aC Q.fst.snd fun l=>aC (isNeg Q.snd.fst) fun m=>aC (M6.dg Q.snd.fst.natAbs) fun n=>aC Q.snd.snd fun o=>letI C:=(j,k,l,m,n,o);letI B1:=dv (fF C);letI A1:=dv (fB C);letI N:=mL.yI A1 B1;letI G1:=M.shD true N A;letI K:=mL.yH A1 B1;letI D1:=M.shD false K A;aC (bif lI.aLE 5 a then(6:Int)else(0:Int)) fun p=>aO (dP B/\(1<=i64.wrap (b+70)/\i64.wrap (b+70)<=70000)/\(aZ.fU Y Y=true/\aZ.fU Z Z=true)/\nT false H A=true/\nT true I A=true) (aC (isNeg C1.fst) fun q=>aC (M6.dg C1.fst.natAbs) fun r=>aC C1.snd fun s=>aC (isNeg F1.fst) fun t=>aC (M6.dg F1.fst.natAbs) fun u=>aC F1.snd fun v=>letI T:=(q,r,s,t,u,v);aO (dP C/\(1<=i64.wrap (b+70)/\i64.wrap (b+70)<=70000)/\(aZ.fU A1 A1=true/\aZ.fU B1 B1=true)/\nT false K A=true/\nT true N A=true) (aC (isNeg D1.fst) fun w=>aC (M6.dg D1.fst.natAbs) fun x=>aC D1.snd fun y=>aC (isNeg G1.fst) fun z=>aC (M6.dg G1.fst.natAbs) fun aa=>aC G1.snd fun ab=>letI O:=(w,x,y,z,aa,ab);letI X:=bA.jL (dv (fB T)) (dv (fB O));letI W:=bA.jL (dv (fF T)) (dv (fF O));letI G:=M.shD true W U;letI F:=M.shD false X U;aO (dP T/\dP O/\(1<=i64.wrap (b+140)/\i64.wrap (b+140)<=70000)/\(bA.gJ (dv (fB T)) (dv (fB O))=true/\bA.gJ (dv (fF T)) (dv (fF O))=true)/\nT false X U=true/\nT true W U=true) (aC (isNeg F.fst) fun ac=>aC (M6.dg F.fst.natAbs) fun ad=>aC F.snd fun ae=>aC (isNeg G.fst) fun af=>aC (M6.dg G.fst.natAbs) fun ag=>aC G.snd fun ah=>aB (i !=0) H1 (aB (p !=0) H1 (LawSquares.aRI c d e f g h j k l m n o ac ad ae af ag ah)))))))))):=eJ aU
theorem Vd a b c d e f g h i j k l m n o p q r:aRI a b c d e f g h i j k l m n o p q r=letI G:=(m,n,o,p,q,r);letI F:=some [D.s (sc (bool false))];letI C:=aL (-1:Int) 0;letI A:=aL 1 0;letI H:=M6.dg A.fst.natAbs;aO ((-9223372036854775808:Int)<=(1:Int)/\(1:Int)<(9223372036854775808:Int)) (aC (isNeg A.fst) fun s=>aC H fun t=>aC A.snd fun u=>aO (dP G/\aJ (s,t,u)) (aC (decide (bZ (dv (fB G)) (dv (s,t,u))<=0)&&decide (bZ (dv (s,t,u)) (dv (fF G))<=0)) fun v=>aO ((-9223372036854775808:Int)<=(-1:Int)/\(-1:Int)<(9223372036854775808:Int)) (aC (isNeg C.fst) fun w=>aC (M6.dg C.fst.natAbs) fun x=>aC C.snd fun y=>aO ((-9223372036854775808:Int)<=(1:Int)/\(1:Int)<(9223372036854775808:Int)) (aC (isNeg A.fst) fun z=>aC H fun aa=>aC A.snd fun ab=>letI B:=(w,x,y,z,aa,ab);aB v (aO (dP (a,b,c,d,e,f)/\dP B) (aC (xH.meet (a,b,c,d,e,f) B) fun ac=>aB ac (aO (dP (g,h,i,j,k,l)/\dP B) (aC (xH.meet (g,h,i,j,k,l) B) fun ad=>some [D.s (sc (bool ad))])) F)) F)))):=cJ aU
def sp(b p:Int):Prop×List D:=(0<=b/\b<18446744073709551616,[.s (.sc (.bool true))])
theorem fold(a b:Int×Int):(isNeg a.1,M6.dg a.1.natAbs,a.2,isNeg b.1,M6.dg b.1.natAbs,b.2)=mI a b:=rfl
theorem unit:(iS (aL 1 0)/\iS (aL (-1) 0))/\R.qz (aL 1 0)=1/\R.qz (aL (-1) 0)=-1:=by
 refine⟨⟨(Nf (z:=1) (p:=1) (by omega) (by omega)).f1.qJ,(Nf (z:=-1) (p:=1) (by omega) (by omega)).f1.qJ⟩,?_,?_⟩
 ·rw[mB,R.fC];norm_cast
 ·rw[mB,R.fC];have aNP:((-1:Int):Rat)=-1:=by norm_cast
  rw[aNP];grind
theorem Wv{s:(Int×Int)×(Int×Int)}{V:Rat}{p:Int}(h:aKP s V p):xH.meet (mI s.1 s.2) (mI (aL (-1) 0) (aL 1 0))=true:=by
 obtain⟨_,u1,u2⟩:=unit;have b:=h.f1.b;have lo:=h.lo;have hi:=h.hi;rw[R.dY]at b;refine aIS (V:=R.qz s.1) ?_ ?_
 ·rw[nU,nV];constructor <;> grind
 ·rw[nU,nV,u1,u2];constructor <;> grind
theorem tail{s c z:(Int×Int)×(Int×Int)}{S C:Rat}{p:Int}(hs:aKP s S p)(hc:aKP c C p)(hz:dP (mI z.1 z.2))(L:R.qz z.1<=1)(H:1<=R.qz z.2) :
  aRI (isNeg s.1.1) (M6.dg s.1.1.natAbs) s.1.2 (isNeg s.2.1) (M6.dg s.2.1.natAbs) s.2.2 (isNeg c.1.1) (M6.dg c.1.1.natAbs) c.1.2 (isNeg c.2.1) (M6.dg c.2.1.natAbs) c.2.2 (isNeg z.1.1) (M6.dg z.1.1.natAbs) z.1.2 (isNeg z.2.1) (M6.dg z.2.1.natAbs) z.2.2=some [.s (.sc (.bool true))]:=by
 obtain⟨⟨p1,p2⟩,u1,u2⟩:=unit;have hu:dP (mI (aL (-1) 0) (aL 1 0)):=uL p2 p1 (jR.2 (by rw[u1,u2];grind));rw[Vd,gP (by decide)];simp only[aK];rw[fold,fold,fold,fold,gP ⟨hz,cK p1⟩,gP (by decide),gP (by decide),cT,nU,nV,decide_eq_true (jR.2 (by rw[u1];exact L)),decide_eq_true (jR.2 (by rw[u1];exact H)),Bool.and_true,bT,gP ⟨hs.sp,hu⟩,Wv hs,bT,gP ⟨hc.sp,hu⟩,Wv hc]
theorem spec:fI E f5 aE (pN .u64) (pN .i64) sp:=by
 intro b p hb;have hb:0<=b/\b<18446744073709551616:=hb;refine(start b p).trans ((gP trivial).trans ((gP hb).trans ?_));cases Ji:Le.aEJ b p with
 |false=>rfl
 |true =>
  unfold Le.aEJ at Ji;rw[bMC,bMC]at Ji;obtain⟨hf,h1,h2⟩:=Ji;have hp:1<=p/\p<=66000:=⟨of_decide_eq_true h1,of_decide_eq_true h2⟩;obtain⟨S,C,es,ec,bLL⟩:=aHX hb.1 hf hp;obtain⟨⟨p4,p5,_⟩,_⟩:=Xk b;have w:i64.wrap (p+70)=p+70:=wrap_i64;have w2:i64.wrap (p+140)=p+140:=wrap_i64;have aWD:1<=p+70/\p+70<=70000:=⟨by omega,by omega⟩;have aSG:1<=p+140/\p+140<=70000:=⟨by omega,by omega⟩;have hN:66021+66021<=524288:=by decide
  have hE:-500000<=-p-1200/\-p-1200<=0:=⟨by omega,by omega⟩;obtain⟨i1,i2,⟨W1,bBY⟩,g1,g2⟩:=Pc es.f1 es.f2 hN hE es.lo es.hi aWD;obtain⟨i3,i4,⟨W2,bBX⟩,g3,g4⟩:=Pc ec.f1 ec.f2 hN hE ec.lo ec.hi aWD;have m1:=(tP es.f1 hN hE).1;have m2:=(tP es.f2 hN hE).1;have m3:=(tP ec.f1 hN hE).1;have m4:=(tP ec.f2 hN hE).1;rw[bNW,bF,gP ⟨hb,.inl rfl,hp,hf⟩,p4,p5];generalize lI.aBK 4 b p=s at *;generalize lI.aBK 5 b p=c at *;rw[aK,aK,aK,aK,aK,aK,aK,gP ⟨hb,.inr (.inl rfl),hp,hf⟩,aK,aK,aK,aK,aK,aK,aK,w,w2,fold,fold,nU,nV,nU,nV];refine(gP ⟨es.sp,aWD,⟨m1,m2⟩,i1,i2⟩).trans ?_;rw[aK,aK,aK,aK,aK,aK];refine(gP ⟨ec.sp,aWD,⟨m3,m4⟩,i3,i4⟩).trans ?_;rw[aK,aK,aK,aK,aK,aK,fold,fold];have t1:=bBY.Sr;have t2:=bBX.Sr;have bGX:=bBY.lo;have bJC:=bBY.hi;have bGW:=bBX.lo;have aUG:=bBX.hi;dsimp only at t1 t2 bGX bJC bGW aUG;generalize M.shD false (mL.yH s.1 s.2) (p+70)=x1 at *;generalize M.shD true (mL.yI s.1 s.2) (p+70)=x2 at *;generalize M.shD false (mL.yH c.1 c.2) (p+70)=y1 at *;generalize M.shD true (mL.yI c.1 c.2) (p+70)=y2 at *;rw[nU,nV,nU,nV];have aUY:-490000<=-p-1200+(-p-1200)/\-p-1200+(-p-1200)<=0:=⟨by omega,by omega⟩;obtain⟨a1,k1,e1,v1⟩:=Rn g1 g3 aUY;obtain⟨a2,k2,e2,v2⟩:=Rn g2 g4 aUY;have aVL:(2:Rat)<=R.pz 1100:=by rw[<-R.aCJ];exact R.dM (by decide)
  obtain⟨j1,j2,bx⟩:=Fa (s:=(bA.jL x1 y1,bA.jL x2 y2)) (V:=S*S+C*C) (m:=0) k1 k2 bSK (by dsimp only;rw[Gf];grind) (by dsimp only;rw[Gf];grind) bSK aSG (by dsimp only;grind) (by dsimp only;grind);refine(gP ⟨t1,t2,aSG,⟨a1,a2⟩,j1,j2⟩).trans ?_;have f1:=aIC (up:=false) (n:=p+140) e1 aUY.2;have f2:=aIC (up:=true) (n:=p+140) e2 aUY.2;have so:=bx.Sr;have lo:=bx.lo;have hi:=bx.hi;dsimp only at so lo hi f1 f2;generalize M.shD false (bA.jL x1 y1) (p+140)=z1 at *;generalize M.shD true (bA.jL x2 y2) (p+140)=z2 at *;rw[R.dY]at bLL;have et:=R.oW;have L:R.qz z1<=1:=aEE (n:=140000) (T:=S*S+C*C) (by decide) (by omega) (by grind) (by grind);have H:1<=R.qz z2:=aEF (n:=140000) (T:=S*S+C*C) (by decide) (by omega) (by grind) (by grind);simp only[aK,cond_false];rw[fD rfl,fD rfl];exact tail (z:=(z1,z2)) es ec so L H
def aH:dG:=orc2 (pN .u64) (pN .i64) sp
theorem fnok:qI prog E 5 f5 aE:=Zj pD mixed (kG _ rfl (aA Va.ok (aA Le.ok (aA lI.ok (aA mL.ok (aA aPS.ok (aA aKI.ok (aA aGV.ok (aA Od.ok aD)))))))) (mF)) func5 rfl rfl rfl
theorem ok:kZ prog base.glob 5 aH:=fnok.lA rfl spec
end LawSquares
end W
namespace AI
open Go Go.RowKit Go.ChangeShapes Go.WideShapes Go.ChangeAt
abbrev noX:Nat->Prop:=fun _=>False
theorem aJY{w:World}{a:Addr}{v:Value}(h:w.cell? a=some v):a=⟨a.block,a.off,none⟩/\a.block<w.heap.size:=by
 unfold World.cell? at h;split at h
 ·rename_i c t fr hb;split at h
  ·cases h
  ·rename_i hs;obtain⟨b,o,s⟩:=a;cases s with
   |some x=>simp at hs
   |none=>exact⟨rfl,(Array.getElem?_eq_some_iff.1 hb).1⟩
 ·cases h
section
variable {H:Type} {enc:TypeId×Value->H} {P:Program} {w:World} {held:Bool} {sp:Nat->Bool}
theorem glob_ints{name:String}{g:Nat}{t e:TypeId}{k:IntKind}{n fuel:Nat}{ns:List Int}{cs:Array Value}{p:List MemPlace}(hg:P.globalNamed name=some g)(hv:w.var? P name=some cs)(ht:P.underlying t=some (.array n e))(he:P.underlying e=some (.int k))(hc:P.cellsOf e=1)(hn:ns.length=n)(Eg:0<n)
  (hd:DataW.trod enc P w 0 sp held fuel t cs.toList=some (.agg (ns.map fun m=>.lit (.int k m)),p)):g<w.heap.size/\¬noX g/\rJ noX w g 0 (tR k ns):=by
 obtain⟨xs,m1,_,hx,_,Sc,bJO⟩:=DataW.trod_array ht hd;simp only[Prod.mk.injEq,DataW.agg.injEq]at hx;have cell:∀i v,ns[i]?=some v->w.cell? ⟨g,i,none⟩=some (.int k v):=by
  intro i v hi;have iN:i<n:=by have:=(List.getElem?_eq_some_iff.1 hi).1;omega
  have h1:=bJO i iN;have bDL:xs[i]?=some xs[i]:=bMM (by omega);rw[bDL,hc,Nat.mul_one]at h1;obtain⟨m,e1,e2,_⟩:=DataW.trod_int he h1;have h2:=congrArg (fun l=>l[i]?) hx.1;simp only[bMA,hi,bDL,e2,Option.map_some]at h2;have bII:v=m:=by simpa using h2
  subst bII;have h3:((cs.toList.drop i).take 1)[0]?=some (.int k v):=by rw[e1];rfl
  rw[List.getElem?_take,aT,List.getElem?_drop]at h3;have h4:=World.var?_cell hg hv i;rw[h4];simpa using h3
 have h0:ns[0]?=some ns[0]:=bMM (by omega);have hb:=(aJY (cell 0 _ h0)).2;refine⟨hb,id,fun i s hs=>⟨hb,id,?_⟩⟩;unfold tR at hs;rw[bMA]at hs;obtain⟨v,aSX,rfl⟩:=Option.map_eq_some_iff.1 hs;refine⟨_,by rw[Nat.zero_add];exact cell i v aSX,rfl,rfl⟩
end
theorem wf64{n:Int}(h:(Lit.int .u64 n).wf=true):0<=n/\n<18446744073709551616:=by
 have h2:u64.min<=n/\n<=u64.max:=by simpa [Lit.wf] using h
 have e1:u64.min=0:=rfl;have e2:u64.max=18446744073709551615:=rfl;omega
theorem calls_true{P:Program}{G:Nat->Option (IntKind×List Int)}{f:FuncId}{ds:List D}(hc:Contract P G f ds [.s (.sc (.bool true))]){w:World}{vs:List Value}(hG:GlobOk G noX w)(hl:ds.length=vs.length)
  (hr:∀(i:Nat) (d:D) (v:Value),ds[i]?=some d->vs[i]?=some v->lK noX w d v):Calls P f vs.toArray w fun e w'=>e=.returned (.bool true)/\Below w.heap.size w w':=by
 refine(hc noX w vs (fun _ h=>h.elim) hG hl hr).mono ?_;rintro e w' ⟨vJ,rfl,hb,g,hl,_,hr⟩
 match vJ,hl with
 | [v],_ =>
  have:=hr 0 _ v rfl rfl;obtain⟨rfl,_⟩:=this;exact⟨rfl,hb⟩
end AI
end Go.Proofs.YtcnlagnipklcmaaGreatDoor
end
