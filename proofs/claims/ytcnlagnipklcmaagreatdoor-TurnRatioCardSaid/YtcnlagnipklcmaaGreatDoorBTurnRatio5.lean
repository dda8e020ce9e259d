/- Contracts of functions and laws, for the claim on TurnRatio. -/
import Derived.WalkKit
import Derived.ProofKit
import Derived.OpenShut
import Derived.Carry
import Derived.LaidMore
import Derived.MakeChecks
import Derived.Test.YtcnlagnipklcmaaGreatDoorBTurnRatio4
set_option linter.unusedVariables false
set_option linter.unusedSimpArgs false
set_option exponentiation.threshold 10000000
noncomputable section
open Go.IntKind(i8 i16 i32 i64 u8 u16 u32 u64)
open Go.Proofs.Tryz
open Rat renaming le_of_lt->bSJ,le_refl->bTP,intCast_add->bYY
open Nat renaming le_trans->bNX,pow_pos->bQA,pow_succ->bSA,pow_lt_pow_iff_right->cBP,lt_of_le_of_lt->bTQ,div_add_mod->bSI
open Int renaming toNat_natCast->bQX,mul_assoc->bTO,eq_ofNat_of_zero_le->bSE,emod_nonneg->bWF
open Bool renaming not_true->bPB,true_and->bQC,false_and->bSL,and_false->bSO,false_or->bPC,and_eq_true->bNH
open List renaming getElem?_eq_getElem->bNR,getElem?_map->bNF
namespace Go.Proofs.YtcnlagnipklcmaaGreatDoor
open Go.Value(int bool slice)
open AI.S(sc ints)
namespace W
open Go AI M
namespace aZ
def E:=mE [(25,bQ.aH),(46,mK.aH),(26,bM.aH),(76,Sg.aH),(77,Pb.aH),(78,Vs.aH),(70,Ow.aH),(79,Se.aH)] 71 [22,68] [] []
def aE:=bd f30
theorem aU:Nk E aE:=nk
theorem start a:aF E f30 aE [D.s (sc (int u64 a))]=letI N:=sc (int i64 0);letI I:=bif fN 1 (-1:Int)then aK 1 (-1:Int)else((0:Int),(0:Int));letI B:=bif fB.iA 64 a&&bP.gW 64 a then aK (bQ.mD 64 a) (bQ.mF 64 a)else((0:Int),(0:Int));aQ (((64:Int)=(32:Int)\/(64:Int)=(64:Int))/\0<=a/\a<18446744073709551616) (aC (isNeg B.fst) fun b=>aC (M6.dg B.fst.natAbs) fun c=>aC B.snd fun d=>letI O:=dv (b,c,d);letI H:=bif mK.Jj O 1 then mK.aJA O 1 else((0:Int),(0:Int));aC (bif fB.iA 64 a then bif bP.gW 64 a then(0:Int)else(6:Int)else(2:Int)) fun e=>aB (e !=0) (some [D.s N,D.agg [sc (bool false),sc (slice none 0 0),sc (int i64 0)],D.s (sc (int i64 e))]) (aQ (aJ (b,c,d)/\(-9223372036854775808:Int)<=(1:Int)/\(1:Int)<(9223372036854775808:Int)) (aC (isNeg H.fst) fun f=>aC (M6.dg H.fst.natAbs) fun g=>aC H.snd fun h=>aQ (((-9223372036854775808:Int)<=(1:Int)/\(1:Int)<(9223372036854775808:Int))/\(-9223372036854775808:Int)<=(-1:Int)/\(-1:Int)<(9223372036854775808:Int)) (aC (isNeg I.fst) fun i=>aC (M6.dg I.fst.natAbs) fun j=>aC I.snd fun k=>letI C:=bif bM.jZ (dv (f,g,h)) (dv (i,j,k))then bM.oT (dv (f,g,h)) (dv (i,j,k))else((0:Int),(0:Int));aQ (aJ (f,g,h)/\aJ (i,j,k)) (aC (isNeg C.fst) fun l=>aC (M6.dg C.fst.natAbs) fun m=>aC C.snd fun n=>letI G:=bif nT.qC (dv (l,m,n)) 0 then nT.xC (dv (l,m,n)) 0 else((0:Int),(0:Int));aQ (aJ (l,m,n)/\(-4611686018427387904:Int)<=(0:Int)/\(0:Int)<(4611686018427387904:Int)) (aC (isNeg G.fst) fun o=>aC (M6.dg G.fst.natAbs) fun p=>aC G.snd fun q=>letI K:=bif fit (M6.val p*(2:Nat)^q.toNat)then wv (o,p)*(↑((2:Nat)^q.toNat):Int)else(0:Int);letI F:=bif mK.Jj (dv (o,p,q)) (-1:Int)then mK.aJA (dv (o,p,q)) (-1:Int)else((0:Int),(0:Int));aQ (aJ (o,p,q)/\(-9223372036854775808:Int)<=(-1:Int)/\(-1:Int)<(9223372036854775808:Int)) (aC (isNeg F.fst) fun r=>aC (M6.dg F.fst.natAbs) fun s=>aC F.snd fun t=>letI P:=dv (r,s,t);letI A:=bif bM.jZ O (-P.fst,P.snd)then bM.oT O (-P.fst,P.snd)else((0:Int),(0:Int));aQ (aJ (b,c,d)/\aJ (r,s,t)) (aC (isNeg A.fst) fun u=>aC (M6.dg A.fst.natAbs) fun v=>aC A.snd fun w=>aB (decide (q<2)) (aQ (kA (o,p)/\0<=q/\q<4611686018427387904) (aC (isNeg K) fun x=>aC (M6.dg K.natAbs) fun y=>aQ (kA (x,y)) (aC (wv (x,y)%4) fun z=>some [D.s (sc (int i64 z)),D.agg [sc (bool u),ints u64 v,sc (int i64 w)],D.s N]))) (some [D.s N,D.agg [sc (bool u),ints u64 v,sc (int i64 w)],D.s N]))))))))):=eJ aU
def uP(p:Int×Int):Int:=if 0<=p.2 then p.1*p2 (p.2+1)else(p.1*4+p2 (-p.2))/p2 (1-p.2)
def Ek(p:Int×Int):Int:=if 0<=p.2 then 0 else p.1*2-uP p*p2 (-p.2)
def wQ(p:Int×Int):Int×Int:=aK (Ek p) (p.2-1)
def lR(a:Int):Int×Int:=aK (bQ.mD 64 a) (bQ.mF 64 a)
def sp(a:Int):Prop×List D:=(0<=a/\a<18446744073709551616,[.s (.sc (.int .i64 (bif bP.gW 64 a then uP (lR a)%4 else 0))),dD (bif bP.gW 64 a then wQ (lR a)else(0,0)),.s (.sc (.int .i64 (bif bP.gW 64 a then 0 else 6)))])
theorem cK{a:Int}(_:0<=a)(hf:bP.gW 64 a=true):(bQ.mD 64 a).natAbs<2^53/\-1074<=bQ.mF 64 a/\bQ.mF 64 a<=971:=by
 have Eo:0<=a%dM.dX (aM.gY 64):=by rw[show dM.dX (aM.gY 64)=9223372036854775808 from rfl];omega
 have qB:a%dM.dX (aM.gY 64)<kW.mM (aM.gY 64):=of_decide_eq_true hf;have hm:=bQ.Tx aM.tP Eo;have hx:=bQ.Up aM.tP Eo qB;refine⟨?_,hx.1,?_⟩
 ·unfold bQ.mD;rw[kD];have:=hm.2;rw[show aM.gY 64=(64,53,-1074,9221120237041090561)from rfl]at *;omega
 ·unfold bQ.mF iG.Es;rw[show kW.mM (aM.gY 64)=9218868437227405312 from rfl]at qB;rw[show cX.lT (aM.gY 64)=4503599627370496 from rfl];rw[show(aM.gY 64).2.2.1=-1074 from rfl];split <;> omega
theorem Tt{a:Int}(h0:0<=a)(hf:bP.gW 64 a=true):jG (lR a)/\(lR a).1.natAbs<2^53/\-1074<=(lR a).2/\(lR a).2<=1024:=by
 obtain⟨h1,h2,h3⟩:=cK h0 hf;have hb:bl (bQ.mD 64 a).natAbs<=53:=dV.2 h1;have ha:=Am (bQ.mD 64 a) (bQ.mF 64 a);refine⟨fM (fP (by omega) (by omega)) (by omega),?_,?_⟩
 ·unfold lR;omega
 ·unfold lR
  by_cases hz:bQ.mD 64 a=0
  ·rw[hz,dO];exact⟨by show(-1074:Int)<=0;omega,by show(0:Int)<=1024;omega⟩
  ·have:=(jK (e:=bQ.mF 64 a) hz).2;have:=zX (n:=(bQ.mD 64 a).natAbs) (by omega);omega
theorem spec:aHD E f30 aE (pN .u64) sp:=by
 rintro a ⟨h0,h1⟩;have hp:fB.iA 64 a=true:=rfl;unfold sp
 try dsimp only
 cases hf:bP.gW 64 a with
 |false =>
  have s:=start a;rw[gP ⟨.inr rfl,h0,h1⟩,hp,hf,vl,vl,vl,vl,qF (by decide)]at s;refine⟨_,s,.cons (vZ.refl _) (.cons ?_ (fX.refl _))⟩;unfold dD;rw[cond_false,show((0,0):Int×Int).1.natAbs=0 from rfl,M6.bN];exact vZ.agg (.cons (yQ.refl _) (.cons (yQ.nil _) (uK.refl _)))
 |true =>
  refine⟨_,(start a).trans ((gP ⟨.inr rfl,h0,h1⟩).trans ?_),fX.refl _⟩
  try dsimp only[cond_true]
  have e1:(bif fB.iA 64 a&&bP.gW 64 a then aK (bQ.mD 64 a) (bQ.mF 64 a)else((0:Int),(0:Int)))=lR a:=by rw[hp,hf];rfl
  have bMQ:(bif fB.iA 64 a then bif bP.gW 64 a then(0:Int)else 6 else 2)=0:=by rw[hp,hf];rfl
  rw[e1,bMQ,nZ,vl,gT rfl];obtain⟨Qm,hm,aII,Zw⟩:=Tt h0 hf;generalize lR a=p at *;obtain⟨m,e⟩:=p;have hs:aK m e=(m,e):=Qm.same
  try dsimp only at hm aII Zw
  have bm:bl m.natAbs<=53:=dV.2 hm;rw[gP ⟨cQ Qm,by omega,by omega⟩,dK];have bK:bl (uP (m,e)).natAbs<=1100:=by
   unfold uP
   try dsimp only
   split
   ·have:=xF (n:=e+1) (k:=1025) bm (by omega);omega
   ·refine aQF ?_ _;have b1:=xF (z:=m) (n:=2) (k:=2) bm (by omega);have b2:=xF (z:=1) (n:=-e) (k:=1074) vF (by omega);rw[Int.one_mul]at b2;exact bNX (Uy (n:=1075) (bNX b1 (by omega)) b2) (by omega)
  have hR:wQ (m,e)=aK (if 0<=e then 0 else m*2-uP (m,e)*p2 (-e)) (e-1):=rfl;have hK:uP (m,e)=if 0<=e then m*p2 (e+1)else(m*4+p2 (-e))/p2 (1-e):=rfl
  generalize uP (m,e)=K at *;generalize wQ (m,e)=R at *;rw[<-hs];have e2:(bif mK.Jj (aK m e) 1 then mK.aJA (aK m e) 1 else((0:Int),(0:Int)))=aK m (e+1):=by
   rw[Pu (by omega) (by omega),Wq];rfl
  have e3:(bif fN 1 (-1)then aK 1 (-1)else((0:Int),(0:Int)))=aK 1 (-1):=by
   rw[fP (by omega) (by have:=vF;omega)];rfl
  have bHV:jG (aK m (e+1)):=fM (fP (by omega) (by omega)) (by omega);have p3:jG (aK 1 (-1)):=fM (fP (by omega) (by have:=vF;omega)) (by have:=vF;omega);rw[e2,e3,nZ,gP ⟨by omega,by omega⟩,nZ,gP ⟨cQ bHV,cQ p3⟩,dK,dK];obtain⟨S,G,hS,hG0,bCE,Qn,aKF,aRL⟩:∃S G:Int,bl S.natAbs<=1100/\-1100<=G/\G<=-1/\bM.jZ (aK m (e+1)) (aK 1 (-1))=true/\bM.oT (aK m (e+1)) (aK 1 (-1))=aK S G/\S/p2 (0-G)=K:=by
   by_cases hc:0<=e
   ·have b1:=xF (z:=m) (n:=e+1 - -1) (k:=1026) bm (by omega);have b2:=xF (z:=1) (n:=-1 - -1) (k:=0) vF (by omega);refine⟨_,-1,bNX (Uy (n:=1080) (bNX b1 (by omega)) (bNX b2 (by omega))) (by omega),by omega,by omega,yK (G:=-1) (by omega) (by omega) (by omega) (by omega) (by omega) (by omega),Bd (by omega) (by omega),?_⟩;rw[hK,if_pos hc,show e+1 - -1=e+1+1 by omega,pV (by omega) (by omega),show p2 (0 - -1)=2 from rfl,show p2 (-1 - -1)=1 from rfl,aDI];generalize p2 (e+1)=q;rw[<-bTO];omega
   ·have b1:=xF (z:=m) (n:=e+1-(e-1)) (k:=2) bm (by omega);have b2:=xF (z:=1) (n:=-1-(e-1)) (k:=1074) vF (by omega);refine⟨_,e-1,bNX (Uy (n:=1080) (bNX b1 (by omega)) (bNX b2 (by omega))) (by omega),by omega,by omega,yK (G:=e-1) (by omega) (by omega) (by omega) (by omega) (by omega) (by omega),Bd (by omega) (by omega),?_⟩;rw[hK,if_neg hc,show e+1-(e-1)=2 by omega,show -1-(e-1)=-e by omega,Int.one_mul,show p2 2=4 from rfl,show 0-(e-1)=1-e by omega]
  have e4:(bif bM.jZ (aK m (e+1)) (aK 1 (-1))then bM.oT (aK m (e+1)) (aK 1 (-1))else((0:Int),(0:Int)))=aK S G:=by rw[Qn,aKF];rfl
  have p4:jG (aK S G):=fM (fP (by omega) (by omega)) (by omega);have e5:(bif nT.qC (aK S G) 0 then nT.xC (aK S G) 0 else((0:Int),(0:Int)))=aK K 0:=by
   rw[Um (by omega) (by omega) (by rw[aRL];omega),aAC (by omega),aRL];rfl
  have p5:jG (aK K 0):=fM (fP (by omega) (by omega)) (by omega);rw[e4,nZ,gP ⟨cQ p4,by omega,by omega⟩,dK,e5,nZ,gP ⟨cQ p5,by omega,by omega⟩,dK];have e6:(bif mK.Jj (aK K 0) (-1)then mK.aJA (aK K 0) (-1)else((0:Int),(0:Int)))=aK K (-1):=by
   rw[Pu (by omega) (by omega),Wq];rfl
  have p6:jG (aK K (-1)):=fM (fP (by omega) (by omega)) (by omega);rw[e6,nZ,gP ⟨cQ (hs▸Qm),cQ p6⟩,dK,<-Qf];have e7:(bif bM.jZ (aK m e) (aK (-K) (-1))then bM.oT (aK m e) (aK (-K) (-1))else((0:Int),(0:Int)))=R:=by
   rw[hR]
   by_cases hc:0<=e
   ·have b1:=xF (z:=m) (n:=e - -1) (k:=1026) bm (by omega);have b2:=xF (z:=-K) (n:=-1 - -1) (k:=0) (Oc bK) (by omega);rw[yK (G:=-1) (by omega) (by omega) (by omega) (by omega) (by omega) (by omega),Bd (G:=-1) (by omega) (by omega),if_pos hc,hK,if_pos hc,show e - -1=e+1 by omega,show p2 (-1 - -1)=1 from rfl,Int.mul_one];rw[show m*p2 (e+1)+-(m*p2 (e+1))=0 by omega,dO,dO];rfl
   ·have b1:=xF (z:=m) (n:=e-(e-1)) (k:=1) bm (by omega);have b2:=xF (z:=-K) (n:=-1-(e-1)) (k:=1074) (Oc bK) (by omega);rw[yK (G:=e-1) (by omega) (by omega) (by omega) (by omega) (by omega) (by omega),Bd (G:=e-1) (by omega) (by omega),if_neg hc,show e-(e-1)=1 by omega,show -1-(e-1)=-e by omega,aDI,Int.neg_mul,<-Int.sub_eq_add_neg];rfl
  rw[e7,nZ];have gK:=Tu (z:=K) (e:=0) (G:=0) (by omega);rw[Int.sub_self,Int.sub_zero,Xd,Int.mul_one]at gK;have bKB:0<=(aK K 0).2:=by
   by_cases hz:K=0
   ·rw[hz,dO];exact Int.le_refl 0
   ·exact nJ hz
  have bIV:M6.val (M6.dg (aK K 0).1.natAbs)=(aK K 0).1.natAbs:=M6.bJ _;have Jo:fit (M6.val (M6.dg (aK K 0).1.natAbs)*2^(aK K 0).2.toNat)=true:=by
   rw[bIV,<-Vf,gK];exact decide_eq_true (by omega)
  by_cases hc:(aK K 0).2<2
  ·rw[aO hc,gP ⟨(cQ p5).Dr,by omega,by omega⟩,rT,Jo];have e8:(bif true then(aK K 0).1*((2^(aK K 0).2.toNat:Nat):Int)else(0:Int))=K:=gK;rw[e8,vl,vl,gP (mR (by omega)),rT,vl];rfl
  ·rw[aI hc];have:K%4=0:=by
    have e9:p2 (aK K 0).2=p2 ((aK K 0).2-2)*4:=by
     have:=pV (m:=(aK K 0).2-2) (n:=2) (by omega) (by omega);rwa [show(aK K 0).2-2+2=(aK K 0).2 by omega]at this
    rw[e9,<-bTO]at gK;generalize (aK K 0).1*p2 ((aK K 0).2-2)=q at *;omega
   rw[this];rfl
def aH:dC:=orc1 (pN .u64) sp
theorem ok:OK 30 aH:=(eI E aE (aA bQ.ok (aA mK.ok (aA bM.ok (aA Sg.ok (aA Pb.ok (aA Vs.ok (aA Ow.ok (aA Se.ok aD)))))))) func30).aSD rfl spec
end aZ
end W
namespace M
open Go AI W
def tv(fn k:Int)(s c:Rat):Rat:=if fn=4 then R.rs k s c else if fn=5 then R.rc k s c else R.rs k s c/R.rc k s c
def tS(r:Int×Int)(p:Int):(Int×Int)×(Int×Int):=gS (fT.zK r (p+16)).1 (fT.zK r (p+16)).2 (p+18)
def tC(r:Int×Int)(p:Int):(Int×Int)×(Int×Int):=gC (fT.zK r (p+16)).1 (fT.zK r (p+16)).2 (p+18)
def tE(fn k:Int)(r:Int×Int)(p:Int):(Int×Int)×(Int×Int):=jU.aLT fn (k%4).toNat (tS r p) (tC r p) (p+16)
def tO(fn k:Int)(r:Int×Int)(p:Int):(Int×Int)×(Int×Int):=(shD false (tE fn k r p).1 (p+20),shD true (tE fn k r p).2 (p+20))
structure bGV(fn k:Int)(r:Int×Int)(p:Int):Prop where
 ci:fT.aKY r (p+16)
 sS:eB (mQ (tS r p).1 (tS r p).2)
 sC:eB (mQ (tC r p).1 (tC r p).2)
 qu:jU.aJH (p+16) (VTurned.trn (tS r p) (tC r p) (k%4).toNat).1 (VTurned.trn (tS r p) (tC r p) (k%4).toNat).2
 re:eB (mQ (tE fn k r p).1 (tE fn k r p).2)
 s1:wA false (tE fn k r p).1 (p+20)=true
 s2:wA true (tE fn k r p).2 (p+20)=true
 v0:tv fn k (R.sn (R.qz r*R.pi)) (R.cs (R.qz r*R.pi))≠0
 vl:R.pz (-1075)<=R.ab (tv fn k (R.sn (R.qz r*R.pi)) (R.cs (R.qz r*R.pi)))
 vh:R.ab (tv fn k (R.sn (R.qz r*R.pi)) (R.cs (R.qz r*R.pi)))<=R.pz 1075
 bx:Bx (tO fn k r p) (tv fn k (R.sn (R.qz r*R.pi)) (R.cs (R.qz r*R.pi))) (R.pz (-p-1)*R.ab (tv fn k (R.sn (R.qz r*R.pi)) (R.cs (R.qz r*R.pi)))) (mg (p-6))
 bGR:fn=4\/fn=5->Bx (tO fn k r p) (tv fn k (R.sn (R.qz r*R.pi)) (R.cs (R.qz r*R.pi))) (R.pz (-p-5)*R.ab (tv fn k (R.sn (R.qz r*R.pi)) (R.cs (R.qz r*R.pi)))) (mg (p-6))
 bits:(bl (tO fn k r p).1.1.natAbs:Int)<=p+21/\(bl (tO fn k r p).2.1.natAbs:Int)<=p+21
 bCO:-p-1200<=(tO fn k r p).1.2/\-p-1200<=(tO fn k r p).2.2
 on:fn=4\/fn=5->On (tO fn k r p)
theorem Yo{s:(Int×Int)×(Int×Int)}{V ρ m:Rat}(h:Bx s V (ρ*R.ab V) m)(r1:ρ<=1/4)(V0:V≠0) :
  3/4*R.ab V<=R.ab (R.qz s.1)/\R.ab (R.qz s.1)<=5/4*R.ab V/\3/4*R.ab V<=R.ab (R.qz s.2)/\R.ab (R.qz s.2)<=5/4*R.ab V/\0<R.ab V:=by
 obtain⟨_,_,_,_,m0,lo,hi,wd⟩:=h;have a0:0<R.ab V:=by
  unfold R.ab;split <;> grind
 have k:=R.aG (bSJ a0) (show 0<=1/4-ρ by grind);generalize hρ:ρ*R.ab V=W at *
 by_cases c:0<V
 ·have e:R.ab V=V:=R.bG (bSJ c);rw[e]at a0 k hρ;rw[e];rw[R.bG (show 0<=R.qz s.1 by grind),R.bG (show 0<=R.qz s.2 by grind)];exact⟨by grind,by grind,by grind,by grind,c⟩
 ·have e:R.ab V=-V:=by unfold R.ab;rw[if_neg (by grind)]
  rw[e]at a0 k hρ;rw[e];rw[<-R.fW,R.bG (show 0<=-R.qz s.1 by grind),<-R.fW,R.bG (show 0<=-R.qz s.2 by grind)];exact⟨by grind,by grind,by grind,by grind,by grind⟩
theorem Bu{fn k:Int}{r:Int×Int}{p:Int}(h:aQK r)(hp:1<=p/\p<=66000)(hf:fn=4\/fn=5\/fn=6):bGV fn k r p:=by
 obtain⟨ci,tr⟩:=aQI h hp;obtain⟨_,_,bs,bc,os,oc⟩:=tr;obtain⟨ρ,hρ⟩:∃ρ,ρ=R.qz r*R.pi:=⟨_,rfl⟩;obtain⟨aSR,aSQ⟩:=R.iO;have ar:R.ab ρ=R.ab (R.qz r)*R.pi:=by rw[hρ,R.fG,R.bG (show 0<=R.pi by grind)]
 have a0:=R.aN (R.qz r);have rg:3*R.pz (-1075)<=R.ab ρ:=by
  rw[ar];have:=h.g;have:=R.aG a0 (show 0<=R.pi-3 by grind);grind
 have rn:R.ab ρ<=79/100:=by
  rw[ar];have:=h.q;have:=R.aG a0 (show 0<=314160/100000-R.pi by grind);grind
 rw[<-hρ]at bs bc;rw[show gS (fT.zK r (p+16)).1 (fT.zK r (p+16)).2 (p+18)=tS r p from rfl]at bs os;rw[show gC (fT.zK r (p+16)).1 (fT.zK r (p+16)).2 (p+18)=tC r p from rfl]at bc oc;rw[show -(p-6)-12=-p-6 by omega]at bs bc;have bEB:=R.dJ (-1075);have l75:R.pz (-1075)<=1/4:=by
  have:=R.dR (show(-1075:Int)<=-2 by omega);have e:=R.fJ 0 (n:=2) (c:=4) (by norm_cast);rw[R.fS,show(0:Int)-((2:Nat):Int)=-2 by rfl]at e;grind
 obtain⟨c1,c2⟩:=R.Lc (r:=ρ) (by grind);have s0:R.pz (-1075)<=R.ab (R.sn ρ)/\R.ab (R.sn ρ)<=1:=by
  rw[<-R.aCP (by grind)];obtain⟨a,b⟩:=R.Wl (R.aN ρ) (by grind);constructor <;> grind
 have s1:R.pz (-1075)<=R.ab (R.cs ρ)/\R.ab (R.cs ρ)<=1:=by
  rw[R.bG (show 0<=R.cs ρ by grind)];constructor <;> grind
 obtain⟨S,hS⟩:∃S,S=R.rs k (R.sn ρ) (R.cs ρ):=⟨_,rfl⟩;obtain⟨C,hC⟩:∃C,C=R.rc k (R.sn ρ) (R.cs ρ):=⟨_,rfl⟩;have sS:R.pz (-1075)<=R.ab S/\R.ab S<=1:=by
  rw[hS,aLX];split <;> assumption
 have sC:R.pz (-1075)<=R.ab C/\R.ab C<=1:=by
  rw[hC,aDC];split <;> assumption
 have aDN:∀v:Rat,R.pz (-1075)<=R.ab v->v≠0:=fun v hv hz=>by rw[hz,R.bG bTP]at hv;grind
 have S0:=aDN _ sS.1;have C0:=aDN _ sC.1;obtain⟨z,hz⟩:∃z,z=R.pz (-p-20):=⟨_,rfl⟩;have z0:=R.dJ (-p-20);rw[<-hz]at z0;have pw:∀(a:Int) (n:Nat) (c:Rat),a=-p-20+(n:Int)->((2^n:Nat):Rat)=c->R.pz a=c*z:=fun a n c ha hc=>by
  rw[ha,R.dW,hc,hz];grind
 have e6:=pw (-p-6) 14 16384 (by omega) (by norm_cast);have e5:=pw (-p-5) 15 32768 (by omega) (by norm_cast);have e1:=pw (-p-1) 19 524288 (by omega) (by norm_cast);have aRU:=pw (2-(p+16)) 6 64 (by omega) (by norm_cast);have bGJ:=pw (1-(p+20)) 1 2 (by omega) (by norm_cast);have zs:z<=1/2097152:=by
  have:=R.dR (show -p-20<=-21 by omega);have e:=R.fJ 0 (n:=21) (c:=2097152) (by norm_cast);rw[R.fS,show(0:Int)-((21:Nat):Int)=-21 by rfl]at e;grind
 obtain⟨b1,b2⟩:=Bx.trn bs bc (k:=k);rw[<-hS]at b1;rw[<-hC]at b2;have aYX:=On.trn os oc (k%4).toNat;obtain⟨t,ht⟩:∃t,t=VTurned.trn (tS r p) (tC r p) (k%4).toNat:=⟨_,rfl⟩;rw[<-ht]at b1 b2 aYX;have b1:Bx t.1 S (R.pz (-p-6)*R.ab S) (mg (p-6)):=by
  refine Hw b1 ?_;rw[hS,aLX];split <;> exact bTP
 have b2:Bx t.2 C (R.pz (-p-6)*R.ab C) (mg (p-6)):=by
  refine Hw b2 ?_;rw[hC,aDC];split <;> exact bTP
 rw[e6]at b1 b2;have n1:=Nz b1 (by grind) S0;have n2:=Nz b2 (by grind) C0;have aVU:R.pz (-1300)<=R.pz (-1075)/2:=by
  have:=R.pU (-1075);have:=R.dR (show(-1300:Int)<=-1075-1 by omega);grind
 have z1:Ev t.1.1:=wM b1.bl (sV (by grind)) (by grind) (by grind);have z2:Ev t.1.2:=wM b1.bh (sV (by grind)) (by grind) (by grind);have z3:Ev t.2.1:=wM b2.bl (sV (by grind)) (by grind) (by grind);have z4:Ev t.2.2:=wM b2.bh (sV (by grind)) (by grind) (by grind);have aVQ:S/C*C=S:=by grind
 obtain⟨q0,q1,q2,bq⟩:=aDF (p:=p+16) b1 b2 S0 C0 sC.2 (by grind) (by grind) aVQ (by omega) z1 z2 z3 z4;rw[aRU]at bq;have aV:R.ab (S/C)*R.ab C=R.ab S:=by rw[<-R.fG,aVQ]
 have i75:R.pz (-1075)*R.pz 1075=1:=by rw[<-R.mH];exact R.fS
 have P75:1<=R.pz 1075:=by rw[<-R.fS];exact R.dR (by omega)
 have tV:R.pz (-1075)<=R.ab (S/C)/\R.ab (S/C)<=R.pz 1075:=by
  have a0:=R.aN (S/C);generalize R.ab (S/C)=a at *;constructor
  ·have:=R.aG a0 (show 0<=1-R.ab C by grind);grind
  ·refine R.cN bEB ?_;have:=R.aG a0 (show 0<=R.ab C-R.pz (-1075) by grind);grind
 have bMW:=aDN _ tV.1;obtain⟨V,hV⟩:∃V,V=tv fn k (R.sn ρ) (R.cs ρ):=⟨_,rfl⟩;obtain⟨bE,vl,vh,V0,oE⟩:Bx (tE fn k r p) V (200000*z*R.ab V) (mg (p-6))/\R.pz (-1075)<=R.ab V/\R.ab V<=R.pz 1075/\V≠0/\(fn=4\/fn=5->On (tE fn k r p)/\Bx (tE fn k r p) V (16384*z*R.ab V) (mg (p-6))):=by
  rcases hf with rfl |rfl |rfl
  ·have a:V=S:=by rw[hV,hS];rfl
   have b:tE 4 k r p=t.1:=by rw[ht];rfl
   rw[a,b];exact⟨Hw b1 (by have:=R.aG (bSJ z0) (R.aN S);grind),sS.1,by grind,S0,fun _=>⟨aYX.1,b1⟩⟩
  ·have a:V=C:=by rw[hV,hC];rfl
   have b:tE 5 k r p=t.2:=by rw[ht];rfl
   rw[a,b];exact⟨Hw b2 (by have:=R.aG (bSJ z0) (R.aN C);grind),sC.1,by grind,C0,fun _=>⟨aYX.2,b2⟩⟩
  ·have a:V=S/C:=by rw[hV,hS,hC];rfl
   have b:tE 6 k r p=(aK (fL.Ci (p+16) t.1.1 t.1.2 t.2.1 t.2.2).1 (fL.Ci (p+16) t.1.1 t.1.2 t.2.1 t.2.2).2,aK (fL.Cj (p+16) t.1.1 t.1.2 t.2.1 t.2.2).1 (fL.Cj (p+16) t.1.1 t.1.2 t.2.1 t.2.2).2):=by rw[ht];rfl
   rw[a,b];exact⟨Hw bq (by have:=R.aG (bSJ z0) (R.aN (S/C));grind),tV.1,tV.2,bMW,fun h=>by omega⟩
 have nE:=Yo bE (by grind) V0;have P1100:2*R.pz 1075<=R.pz 1100:=by rw[<-R.jJ];exact R.dR (by omega)
 obtain⟨bHM,bHL,bO⟩:=aDL (n:=p+20) bE (by omega) (by grind) (by grind);rw[bGJ]at bO;have bX:Bx (tO fn k r p) V (524288*z*R.ab V) (mg (p-6)):=by
  refine Hw bO ?_;have k1:=R.aG (bSJ z0) (show 0<=5/4*R.ab V-R.ab (R.qz (tE fn k r p).1) by grind);have k2:=R.aG (bSJ z0) (show 0<=5/4*R.ab V-R.ab (R.qz (tE fn k r p).2) by grind);have k3:=R.aG (bSJ z0) (R.aN V);grind
 have bY:fn=4\/fn=5->Bx (tO fn k r p) V (32768*z*R.ab V) (mg (p-6)):=by
  intro h;obtain⟨_,_,b⟩:=aDL (n:=p+20) (oE h).2 (by omega) (by grind) (by grind);rw[bGJ]at b;refine Hw b ?_;have k1:=R.aG (bSJ z0) (show 0<=5/4*R.ab V-R.ab (R.qz (tE fn k r p).1) by grind);have k2:=R.aG (bSJ z0) (show 0<=5/4*R.ab V-R.ab (R.qz (tE fn k r p).2) by grind);have k3:=R.aG (bSJ z0) (R.aN V);grind
 have g1:=Ab false (tE fn k r p).1 (p+20).toNat;have g2:=Ab true (tE fn k r p).2 (p+20).toNat;rw[show(((p+20).toNat:Nat):Int)=p+20 by omega]at g1 g2;have nX:=Yo bX (by grind) V0;have m1:(tO fn k r p).1.1≠0:=sV (by grind);have m2:(tO fn k r p).2.1≠0:=sV (by grind);have x1:=Wn (up:=false) (p:=(tE fn k r p).1) (n:=p+20) m1;have x2:=Wn (up:=true) (p:=(tE fn k r p).2) (n:=p+20) m2;have h1076:R.pz (-1076)<=3/4*R.pz (-1075):=by
  have:=R.pU (-1075);rw[show(-1075:Int)-1=-1076 by rfl]at this;grind
 have y1:=Bw (p:=(tE fn k r p).1) (E:=-1076) (sV (by grind)) (by grind);have y2:=Bw (p:=(tE fn k r p).2) (E:=-1076) (sV (by grind)) (by grind);have aML:tv fn k (R.sn (R.qz r*R.pi)) (R.cs (R.qz r*R.pi))=V:=by rw[<-hρ,hV]
 refine⟨ci,bs.Yz,bc.Yz,?_,bE.Yz,bHM,bHL,?_,?_,?_,?_,?_,?_,?_,?_⟩
 ·rw[<-ht];exact⟨q0,⟨bNX z1.1 (by omega),bNX z2.1 (by omega),bNX z3.1 (by omega),bNX z4.1 (by omega)⟩,q1,q2⟩
 ·rw[aML];exact V0
 ·rw[aML];exact vl
 ·rw[aML];exact vh
 ·rw[aML,e1];exact bX
 ·rw[aML,e5];exact bY
 ·constructor
  ·show((bl (shD false (tE fn k r p).1 (p+20)).1.natAbs:Nat):Int)<=_;omega
  ·show((bl (shD true (tE fn k r p).2 (p+20)).1.natAbs:Nat):Int)<=_;omega
 ·constructor
  ·show -p-1200<=(shD false (tE fn k r p).1 (p+20)).2;omega
  ·show -p-1200<=(shD true (tE fn k r p).2 (p+20)).2;omega
 ·intro h2;exact⟨aCX (by omega) (oE h2).1.1,aCX (by omega) (oE h2).1.2⟩
theorem aJD{m e:Int}(he:e<0):-p2 (-1-e)<=aZ.Ek (m,e)/\aZ.Ek (m,e)<p2 (-1-e):=by
 unfold aZ.Ek aZ.uP
 try dsimp only
 rw[aX,aX];have h1:p2 (-e)=p2 (-1-e)*2:=by
  have:=pV (m:=-1-e) (n:=1) (by omega) (by omega);rwa [show -1-e+1=-e by omega]at this
 have h2:p2 (1-e)=p2 (-1-e)*4:=by
  have:=pV (m:=-1-e) (n:=2) (by omega) (by omega);rwa [show -1-e+2=1-e by omega]at this
 rw[h1,h2];have hp:=Gr (-1-e);generalize p2 (-1-e)=v at *;have a1:=Int.mul_ediv_add_emod (m*4+v*2) (v*4);have a2:=bWF (m*4+v*2) (show v*4≠0 by omega);have a3:=Int.emod_lt_of_pos (m*4+v*2) (show 0<v*4 by omega);generalize (m*4+v*2)/(v*4)=K at *;have e1:v*4*K=K*v*4:=by rw[Int.mul_comm,bTO]
 have e2:K*(v*2)=K*v*2:=by rw[bTO]
 rw[e1]at a1;rw[e2];generalize K*v=t at *;omega
theorem aNX{a:Int×Int}(he:-1074<=a.2/\a.2<=-2)(ho:a.1%2=1):aQK (aZ.wQ a):=by
 obtain⟨m,e⟩:=a;dsimp only at he ho;have rr:=aJD (m:=m) (e:=e) (by omega);have hR:aZ.Ek (m,e)=m*2-aZ.uP (m,e)*p2 (-e):=by
  unfold aZ.Ek;dsimp only;rw[aX]
 have hD:aZ.wQ (m,e)=aK (aZ.Ek (m,e)) (e-1):=rfl;have h4:p2 (-e)=p2 (-2-e)*4:=by
  have:=pV (m:=-2-e) (n:=2) (by omega) (by omega);rwa [show -2-e+2=-e by omega]at this
 rw[h4,<-bTO]at hR;rw[hD];generalize aZ.uP (m,e)*p2 (-2-e)=q at hR;generalize aZ.Ek (m,e)=z at *;have z0:z≠0:=by omega
 obtain⟨j,hj⟩:=bSE (show 0<=-1-e by omega);have hp:p2 (-1-e)=((2^j:Nat):Int):=by rw[hj,Gs]
 have za:z.natAbs<=2^j:=by omega
 have zb:bl z.natAbs<=j+1:=dV.2 (by rw[bSA];have:=bQA (n:=j) (show 0<2 by decide);omega);have tl:tz z.natAbs<=j:=by
  have:=Fx (n:=z.natAbs) (by omega);rcases Nat.lt_or_ge j (tz z.natAbs)with h |h
  ·have h5:2^(j+1)<=2^tz z.natAbs:=fY;rw[bSA]at h5;have:=bQA (n:=j) (show 0<2 by decide);omega
  ·exact h
 have x1:=(jK (e:=e-1) z0).2;have eq:R.qz (aK z (e-1))=R.qz (z,e-1):=mT _ _;have e1:R.pz (e-1)*((2^j:Nat):Rat)=1/4:=by
  rw[<-R.dW,show e-1+(j:Int)=-2 by omega];have e:=R.fJ 0 (n:=2) (c:=4) (by norm_cast);rw[R.fS,show(0:Int)-((2:Nat):Int)=-2 by rfl]at e;grind
 have P:=R.dJ (e-1);refine⟨fM (fP (by omega) (by omega)) (by omega),bNX (qV _ _) (by omega),by omega,?_,?_⟩
 ·rw[eq,Sc];have h1:(z.natAbs:Rat)<=((2^j:Nat):Rat):=by exact_mod_cast za
  have:=R.aG (bSJ P) (show 0<=((2^j:Nat):Rat)-(z.natAbs:Rat) by grind);dsimp only;grind
 ·rw[eq,Sc];have h1:(1:Rat)<=(z.natAbs:Rat):=by exact_mod_cast(show 1<=z.natAbs by omega)
  have:=R.aG (bSJ P) (show 0<=(z.natAbs:Rat)-1 by grind);have:=R.dR (show(-1075:Int)<=e-1 by omega);dsimp only;grind
end M
namespace M
open Go AI W
theorem Xy{n:Nat}{E:Int}(hE:E<=0):aYE (0,0) n E 1:=by
 refine⟨?_,by show bl 0<=_;rw[yH];omega,hE,by rw[aSO,R.bG bTP];grind⟩;have e:aK 0 0=(0,0):=dO ..;exact e▸fM (fP (by decide +kernel) (by decide +kernel)) (by decide +kernel)
theorem Kr(n:Nat):(1:Rat)=(((2^n:Nat):Int):Rat)*R.pz (-(n:Int)):=by
 have:=R.Tq (n:Int);rw[R.oH]at this;rw[Rat.intCast_natCast];exact this.symm
theorem Nq{n:Nat}(hn:n<=1000000):2*R.sO<=R.pz (-(n:Int)):=by
 have h1:=aFP (n:=n+1) (by omega);have h3:=R.pU (-(n:Int));rw[show -(n:Int)-1=-((n+1:Nat):Int) by omega]at h3;grind
theorem Qx{q:Int×Int}{T δ:Rat}{n:Nat}(E:0<δ)(ep:2*δ<=R.pz (-(n:Int)))(hg:-(n:Int)<=q.2)(h:R.qz q<=T)(hT:T<=1+δ):R.qz q<=1:=by
 refine Rat.not_lt.1 fun hc=>?_
 have e:=Im.Xg (p:=q) hg;have o:=Kr n;have P:=R.dJ (-(n:Int));generalize R.pz (-(n:Int))=z at *;generalize q.1*2^(q.2 - -(n:Int)).toNat=m at *;generalize ((2^n:Nat):Int)=w at *;have lt:w<m:=by
  have:(w:Rat)<(m:Rat):=Rat.not_le.1 fun hh=>by
   have:=R.aG (bSJ P) (show 0<=(w:Rat)-(m:Rat) by grind);grind
  exact_mod_cast this
 have ge:((w+1:Int):Rat)<=(m:Rat):=by exact_mod_cast(show w+1<=m by omega)
 rw[bYY]at ge;have one:((1:Int):Rat)=1:=by norm_cast
 rw[one]at ge;have:=R.aG (bSJ P) (show 0<=(m:Rat)-((w:Rat)+1) by grind);grind
theorem Qy{q:Int×Int}{T δ:Rat}{n:Nat}(E:0<δ)(ep:2*δ<=R.pz (-(n:Int)))(hg:-(n:Int)<=q.2)(h:T<=R.qz q)(hT:1-δ<=T):1<=R.qz q:=by
 refine Rat.not_lt.1 fun hc=>?_
 have e:=Im.Xg (p:=q) hg;have o:=Kr n;have P:=R.dJ (-(n:Int));generalize R.pz (-(n:Int))=z at *;generalize q.1*2^(q.2 - -(n:Int)).toNat=m at *;generalize ((2^n:Nat):Int)=w at *;have lt:m<w:=by
  have:(m:Rat)<(w:Rat):=Rat.not_le.1 fun hh=>by
   have:=R.aG (bSJ P) (show 0<=(m:Rat)-(w:Rat) by grind);grind
  exact_mod_cast this
 have ge:((m+1:Int):Rat)<=(w:Rat):=by exact_mod_cast(show m+1<=w by omega)
 rw[bYY]at ge;have one:((1:Int):Rat)=1:=by norm_cast
 rw[one]at ge;have:=R.aG (bSJ P) (show 0<=(w:Rat)-((m:Rat)+1) by grind);grind
end M
namespace W
open Go AI M
namespace Dp
def E:=mE [(157,aM.aH)] 12 [] [] []
def aE:=bd f106
theorem aU:Nk E aE:=nk
theorem start a:aF E f106 aE [D.s (sc (int i64 a))]=letI A:=aM.gY a;aQ True (aB (A.fst==0&&(A.snd.fst==0&&(A.snd.snd.fst==0&&(A.snd.snd.snd==0&&true)))) (some [D.s (sc (int u64 0)),D.s (sc (int i64 1))]) (some [D.s (sc (int u64 A.snd.snd.snd)),D.s (sc (int i64 0))])):=eJ aU
def aFF(f:Int):Bool:=decide (f=32\/f=64)
def sp(f:Int):Prop×List D:=(True,[.s (.sc (.int .u64 (aM.gY f).2.2.2)),.s (.sc (.int .i64 (bif aFF f then 0 else 1)))])
theorem spec:gO E f106 aE (pN .i64) sp:=by
 intro f h;refine(start f).trans ((gP trivial).trans ?_);unfold sp aFF
 try dsimp only
 by_cases h1:f=32
 ·subst h1;rfl
 ·by_cases h2:f=64
  ·subst h2;rfl
  ·have:aM.gY f=(0,0,0,0):=by unfold aM.gY;rw[if_neg h1,if_neg h2]
   rw[this,decide_eq_false (by omega)];rfl
def aH:dC:=orc1 (pN .i64) sp
theorem ok:OK 106 aH:=(eI E aE (aA aM.ok aD) func106).nD rfl spec
end Dp
namespace nQ
def E:=mE [] 13 [] [] []
def aE:=bd f53
theorem aU:Nk E aE:=nk
theorem start a:aF E f53 aE [D.s (sc (int i64 a))]=letI A:=some [D.s (sc (bool true))];aB (a==4) A (aB (a==5) A (some [D.s (sc (bool (a==6)))])):=eJ aU
def uX(a:Int):Bool:=decide (a=4\/a=5\/a=6)
def sp(a:Int):Prop×List D:=(True,[.s (.sc (.bool (uX a)))])
theorem spec:gO E f53 aE (pN .i64) sp:=by
 intro a h;refine(start a).trans ?_;unfold sp uX
 try dsimp only
 by_cases h1:a=4
 ·rw[cF h1,decide_eq_true (by omega)]
 ·rw[bS h1]
  by_cases h2:a=5
  ·rw[cF h2,decide_eq_true (by omega)]
  ·rw[bS h2]
   by_cases h3:a=6
   ·rw[beq_iff_eq.2 h3,decide_eq_true (by omega)]
   ·rw[beq_eq_false_iff_ne.2 h3,decide_eq_false (by omega)]
def aH:dC:=orc1 (pN .i64) sp
theorem ok:OK 53 aH:=(eI E aE aD func53).nD rfl spec
end nQ
namespace Dg
def E:=mE [] 5 [] [] []
def aE:=bd f159
theorem aU:Nk E aE:=nk
theorem start a:aF E f159 aE [D.s (sc (int i64 a))]=aB (a==32) (some [D.s (sc (int u64 2139095040))]) (some [D.s (sc (int u64 9218868437227405312))]):=eJ aU
def sp(f:Int):Prop×List D:=(f=32\/f=64,[.s (.sc (.int .u64 (kW.mM (aM.gY f))))])
theorem spec:gO E f159 aE (pN .i64) sp:=by
 intro f h;refine(start f).trans ?_;rcases h with rfl |rfl <;> rfl
def aH:dC:=orc1 (pN .i64) sp
theorem ok:OK 159 aH:=(eI E aE aD func159).nD rfl spec
end Dg
namespace aIA
def E:=mE [(172,dM.aH)] 13 [] [] []
def aE:=bd f200
theorem aU:Nk E aE:=nk
theorem start a d e f b c:aF E f200 aE [D.agg [sc (int i64 a),sc (int i64 d),sc (int i64 e),sc (int u64 f)],D.s (sc (bool b)),D.s (sc (int u64 c))]=aB b (aQ (aM.Bg (a,d,e,f)) (some [D.s (sc (int u64 (eY BinOp.or u64 c (dM.dX (a,d,e,f)))))])) (some [D.s (sc (int u64 c))]):=eJ aU
def sp(s:Int×Int×Int×Int)(b:Bool)(c:Int):Prop×List D:=(aM.Bg s,[.s (.sc (.int .u64 (bif b then eY .or .u64 c (dM.dX s)else c)))])
theorem spec:tL E f200 aE (pG (.pair (sN .i64) (.pair (sN .i64) (.pair (sN .i64) (sN .u64))))) pB (pN .u64) sp:=by
 intro s b c h;refine(start s.1 s.2.1 s.2.2.1 s.2.2.2 b c).trans ?_;cases b with
 |true=>exact gP h
 |false=>rfl
def aH:dC:=orc3 (pG (.pair (sN .i64) (.pair (sN .i64) (.pair (sN .i64) (sN .u64))))) pB (pN .u64) sp
theorem ok:OK 200 aH:=(eI E aE (aA dM.ok aD) func200).Bp rfl spec
end aIA
namespace pS
def E:=mE [(157,aM.aH),(200,aIA.aH),(170,aHC.aH),(176,xQ.aH),(120,cX.aH),(119,kW.aH)] 102 [25,80,101] [(8,[1,2,3,10]),(13,[1,2,3,10,12])] [8,13]
def aE:=bd f160
theorem aU:Nk E aE:=nk
def J8 a b c d e f g:=lD E f160 aE 8 [Lv a,cY b,bR c,dG 3 90 [cP d,cP e,cP f,aIR g]]
def Sl a b c d e f g h:=lD E f160 aE 13 [Lv a,cY b,bR c,dG 3 90 [cP d,cP e,cP f,aIR g],bR h]
theorem start a b c d:aF E f160 aE [D.s (sc (int i64 a)),D.s (sc (bool b)),D.s (sc (int u64 c)),D.s (sc (int i64 d))]=letI B:=some [D.s (sc (int u64 0)),D.s (sc (int i64 5))];letI A:=aM.gY a;letI C:=(A.fst,A.snd.fst,A.snd.snd.fst,A.snd.snd.snd);aQ True (aB (A.fst==0&&(A.snd.fst==0&&(A.snd.snd.fst==0&&(A.snd.snd.snd==0&&true)))) (some [D.s (sc (int u64 0)),D.s (sc (int i64 1))]) (aB (c==0) (aQ (aM.Bg C) (some [D.s (sc (int u64 (bif b then eY BinOp.or u64 0 (dM.dX C)else(0:Int)))),D.s (sc (int i64 0))])) (aB (decide (d<i64.wrap (A.snd.snd.fst-64))) B (aB (decide (i64.wrap (A.snd.snd.fst+4096)<d)) B (pS.J8 b c d A.fst A.snd.fst A.snd.snd.fst A.snd.snd.snd))))):=eJ aU
theorem vW a b c d e f g:J8 a b c d e f g=letI C:=some [D.s (sc (int u64 0)),D.s (sc (int i64 5))];letI B:=(↑(tz b.toNat):Int);letI A:=(↑((2:Nat)^min (if b=0 then(64:Int)else B).toNat 64):Int);letI F:=(↑(bl (b/A).toNat):Int);aQ (0<=b/\b<18446744073709551616) (if(if b=0 then(64:Int)else B)<0 then none else aQ (0<=b/A/\b/A<(18446744073709551616:Int)) (aB (decide (e<F)) C (aB (decide (i64.wrap (c+if b=0 then(64:Int)else B)<f)) C (pS.Sl a (b/A) (i64.wrap (c+if b=0 then(64:Int)else B)) d e f g F)))):=cJ aU
theorem zQ a b c d e f g h:Sl a b c d e f g h=letI F:=(d,e,f,g);letI C:=aM.Bg F;letI B:=b*(↑((2:Nat)^min (if i64.wrap (c-f)<i64.wrap (e-h)then i64.wrap (c-f)else i64.wrap (e-h)).toNat 64):Int);letI A:=u64.wrap (u64.wrap (u64.wrap (i64.wrap (i64.wrap (i64.wrap (c-if i64.wrap (c-f)<i64.wrap (e-h)then i64.wrap (c-f)else i64.wrap (e-h))-f)+1))-1)*cX.lT F)+u64.wrap B;if(if i64.wrap (c-f)<i64.wrap (e-h)then i64.wrap (c-f)else i64.wrap (e-h))<0 then none else aQ C (aB (decide (u64.wrap B<cX.lT F)) (aQ C (some [D.s (sc (int u64 (bif a then eY BinOp.or u64 (u64.wrap B) (dM.dX F)else u64.wrap B))),D.s (sc (int i64 0))])) (aQ C (aQ C (aB (decide (kW.mM F<=u64.wrap A)) (some [D.s (sc (int u64 0)),D.s (sc (int i64 5))]) (aQ C (some [D.s (sc (int u64 (bif a then eY BinOp.or u64 (u64.wrap A) (dM.dX F)else u64.wrap A))),D.s (sc (int i64 0))])))))):=cJ aU
def Za(s:Int×Int×Int×Int)(b:Bool)(c:Int):Int:=bif b then c+dM.dX s else c
def Lw(s:Int×Int×Int×Int)(m:Nat)(e:Int):Nat:=(if e-s.2.2.1<s.2.1-(bl m:Int)then e-s.2.2.1 else s.2.1-(bl m:Int)).toNat
def Wm(s:Int×Int×Int×Int)(m:Nat)(e:Int):Option Int :=
 if((m*2^Lw s m e:Nat):Int)<cX.lT s then some ((m*2^Lw s m e:Nat):Int)
 else if kW.mM s<=(e-(Lw s m e:Nat)-s.2.2.1)*cX.lT s+((m*2^Lw s m e:Nat):Int)then none
 else some ((e-(Lw s m e:Nat)-s.2.2.1)*cX.lT s+((m*2^Lw s m e:Nat):Int))
def aDX(s:Int×Int×Int×Int)(m:Nat)(e:Int):Option Int :=
 if e<s.2.2.1-64\/s.2.2.1+4096<e then none
 else if s.2.1<(bl (m/2^tz m):Int)\/e+(tz m:Int)<s.2.2.1 then none
 else Wm s (m/2^tz m) (e+(tz m:Int))
def aNK(s:Int×Int×Int×Int)(b:Bool)(o:Option Int):Int:=match o with
 |some c=>Za s b c
 |none=>0
def aVV(o:Option Int):Int:=match o with
 |some _=>0
 |none=>5
def Dx(s:Int×Int×Int×Int)(m e:Int):Option Int:=if m=0 then some 0 else aDX s m.toNat e
def aSL(s:Int×Int×Int×Int)(b:Bool)(o:Option Int):List D:=[.s (.sc (.int .u64 (aNK s b o))),.s (.sc (.int .i64 (aVV o)))]
theorem xZ{s:Int×Int×Int×Int}(hs:aM.Bg s){b:Bool}{c:Int}(h0:0<=c)(h1:c<dM.dX s):(bif b then eY .or .u64 c (dM.dX s)else c)=Za s b c:=by
 unfold Za;cases b with
 |false=>rfl
 |true =>
  try dsimp only[cond_true]
  obtain⟨n,rfl⟩:=bSE h0;rcases hs with rfl |rfl
  ·rw[show dM.dX (32,24,-149,2143289345)=2147483648 from rfl]at *;rw[Zg (by omega) (by omega) (by omega) (by omega)];have:=Cm (c:=n) (n:=1) (k:=31) (by omega);rw[show(2147483648:Int).toNat=2^31*1 from rfl,bQX,this];omega
  ·rw[show dM.dX (64,53,-1074,9221120237041090561)=9223372036854775808 from rfl]at *;rw[Zg (by omega) (by omega) (by omega) (by omega)];have:=Cm (c:=n) (n:=1) (k:=63) (by omega);rw[show(9223372036854775808:Int).toNat=2^63*1 from rfl,bQX,this];omega
theorem j13{s:Int×Int×Int×Int}(hs:aM.Bg s)(b:Bool)(m:Nat)(e:Int)(h1:(bl m:Int)<=s.2.1)(h2:s.2.2.1<=e)(h3:e<=3000)(hm:m≠0) :
  Sl b (m:Int) e s.1 s.2.1 s.2.2.1 s.2.2.2 (bl m:Int)=some (aSL s b (Wm s m e)):=by
 have hb:=sE hm;have iN:m*2^Lw s m e<2^(bl m+Lw s m e):=by
  rw[Nat.pow_add];exact Nat.mul_lt_mul_of_lt_of_le (vP m) (Nat.le_refl _) (bQA (by decide))
 have aIG:((bl m+Lw s m e:Nat):Int)<=s.2.1:=by
  unfold Lw;split <;> omega
 have aTS:((Lw s m e:Nat):Int)<=e-s.2.2.1:=by
  unfold Lw;split <;> omega
 rw[zQ];have aXC:∀k:Nat,s.2.1<=(k:Int)->m*2^Lw s m e<2^k:=fun k hk=>Nat.lt_of_lt_of_le iN (Nat.pow_le_pow_right (by decide) (by omega))
 have low:-1074<=s.2.2.1/\s.2.2.1<=0/\s.2.1<=53:=by rcases hs with rfl |rfl <;> ((try dsimp only);omega)
 rw[wrap_i64 (n:=e-s.2.2.1),wrap_i64 (n:=s.2.1-(bl m:Int))];have bIY:(if e-s.2.2.1<s.2.1-(bl m:Int)then e-s.2.2.1 else s.2.1-(bl m:Int))=((Lw s m e:Nat):Int):=by
  unfold Lw;split <;> omega
 rw[bIY,aX,bQX,show min (Lw s m e) 64=Lw s m e by omega,<-Int.natCast_mul,gP hs];unfold Wm;generalize Lw s m e=u at *;generalize m*2^u=M at *;rcases hs with rfl |rfl
 ·have hM:=aXC 24 (by decide);simp only[show cX.lT (32,24,-149,2143289345)=8388608 from rfl,show kW.mM (32,24,-149,2143289345)=2139095040 from rfl]at *;rw[wrap_u64 (n:=(M:Int)),wrap_i64 (n:=e-(u:Int)),wrap_i64 (n:=e-(u:Int) - -149),wrap_i64 (n:=e-(u:Int) - -149+1),wrap_u64 (n:=e-(u:Int) - -149+1),wrap_u64 (n:=e-(u:Int) - -149+1-1),show e-(u:Int) - -149+1-1=e-(u:Int) - -149 by omega,wrap_u64 (n:=(e-(u:Int) - -149)*8388608),wrap_u64 (n:=(e-(u:Int) - -149)*8388608+(M:Int))]
  by_cases c1:(M:Int)<8388608
  ·rw[aO c1,if_pos c1,gP aM.two32,xZ aM.two32 (by omega) (by show(M:Int)<2147483648;omega)];rfl
  ·rw[aI c1,if_neg c1,gP aM.two32,gP aM.two32]
   by_cases c2:2139095040<=(e-(u:Int) - -149)*8388608+(M:Int)
   ·rw[aO c2,if_pos c2];rfl
   ·rw[aI c2,if_neg c2,gP aM.two32,xZ aM.two32 (by omega) (by show _<2147483648;omega)];rfl
 ·have hM:=aXC 53 (by decide);simp only[show cX.lT (64,53,-1074,9221120237041090561)=4503599627370496 from rfl,show kW.mM (64,53,-1074,9221120237041090561)=9218868437227405312 from rfl]at *
  by_cases c1:(M:Int)<4503599627370496
  ·rw[wrap_u64 (n:=(M:Int)),aO c1,if_pos c1,gP aM.tP,xZ aM.tP (by omega) (by show(M:Int)<9223372036854775808;omega)];rfl
  ·rw[wrap_u64 (n:=(M:Int)),wrap_i64 (n:=e-(u:Int)),wrap_i64 (n:=e-(u:Int) - -1074),wrap_i64 (n:=e-(u:Int) - -1074+1),wrap_u64 (n:=e-(u:Int) - -1074+1),wrap_u64 (n:=e-(u:Int) - -1074+1-1),show e-(u:Int) - -1074+1-1=e-(u:Int) - -1074 by omega];rw[wrap_u64 (n:=(e-(u:Int) - -1074)*4503599627370496),wrap_u64 (n:=(e-(u:Int) - -1074)*4503599627370496+(M:Int)),aI c1,if_neg c1,gP aM.tP,gP aM.tP]
   by_cases c2:9218868437227405312<=(e-(u:Int) - -1074)*4503599627370496+(M:Int)
   ·rw[aO c2,if_pos c2];rfl
   ·rw[aI c2,if_neg c2,gP aM.tP,xZ aM.tP (by omega) (by show _<9223372036854775808;omega)];rfl
def sp(f:Int)(b:Bool)(m e:Int):Prop×List D:=((f=32\/f=64)/\(0<=m/\m<18446744073709551616)/\-4000<=e/\e<=2900,[.s (.sc (.int .u64 (aNK (aM.gY f) b (Dx (aM.gY f) m e)))),.s (.sc (.int .i64 (aVV (Dx (aM.gY f) m e))))])
theorem spec:aHE E f160 aE (pN .i64) pB (pN .u64) (pN .i64) sp:=by
 rintro f b m e ⟨hf,⟨aRG,bAN⟩,aII,Zw⟩;refine(start f b m e).trans ((gP trivial).trans ?_);show _=some (aSL (aM.gY f) b (Dx (aM.gY f) m e));unfold Dx;have hs:aM.Bg (aM.gY f):=by
  rcases hf with rfl |rfl
  ·exact .inl rfl
  ·exact .inr rfl
 generalize aM.gY f=s at *;obtain⟨n,rfl⟩:=bSE aRG;have low:-1074<=s.2.2.1/\s.2.2.1<=0/\s.2.1<=53:=by rcases hs with rfl |rfl <;> ((try dsimp only);omega)
 have Br:(s.1==0&&(s.2.1==0&&(s.2.2.1==0&&(s.2.2.2==0&&true))))=false:=by rcases hs with rfl |rfl <;> rfl
 have Zn:0<dM.dX s:=by unfold dM.dX;split <;> omega
 rw[Hz Br]
 by_cases h0:(n:Int)=0
 ·rw[cF h0,if_pos h0];refine(gP hs).trans ?_;rw[xZ hs (by omega) Zn];rfl
 ·have Eo:n≠0:=by omega
  have ht:=Fx Eo;have aXG:tz n<64:=(cBP (by decide:1<2)).1 (bTQ ht (by omega));rw[bS h0,if_neg h0,wrap_i64 (n:=s.2.2.1-64),wrap_i64 (n:=s.2.2.1+4096)];unfold aDX
  by_cases c1:e<s.2.2.1-64
  ·rw[aO c1,if_pos (.inl c1)];rfl
  ·rw[aI c1]
   by_cases c2:s.2.2.1+4096<e
   ·rw[aO c2,if_pos (.inr c2)];rfl
   ·rw[aI c2,aX,vW,if_neg h0,bQX,aX,gP,bQX,show min (tz n) 64=tz n by omega,<-Int.natCast_ediv,bQX,wrap_i64 (n:=e+(tz n:Int))];have hd:n/2^tz n≠0:=fun h=>by have:=(oW n Eo).2;rw[h]at this;cases this
    have hl:n/2^tz n<=n:=Nat.div_le_self _ _;generalize n/2^tz n=q at *;rw[gP]
    by_cases c3:s.2.1<(bl q:Int)
    ·rw[aO c3,if_pos (.inl c3)];rfl
    ·rw[aI c3]
     by_cases c4:e+(tz n:Int)<s.2.2.1
     ·rw[aO c4,if_pos (.inr c4)];rfl
     ·rw[aI c4,aX,j13 hs b _ _ (by omega) (by omega) (by omega) hd]
def aH:dC:=orc4 (pN .i64) pB (pN .u64) (pN .i64) sp
theorem ok:OK 160 aH:=(eI E aE (aA aM.ok (aA aIA.ok (aA aHC.ok (aA xQ.ok (aA cX.ok (aA kW.ok aD)))))) func160).aSU rfl spec
end pS
namespace Oj
def E:=mE [] 14 [] [] []
def aE:=bd f158
theorem aU:Nk E aE:=nk
theorem start a b c:aF E f158 aE [D.s (sc (int i64 a)),D.s (sc (bool b)),D.s (sc (int u64 c))]=aB b (if i64.wrap (a-1)<0 then none else some [D.s (sc (int u64 (eY BinOp.or u64 c (u64.wrap ((1:Int)*(↑((2:Nat)^min (i64.wrap (a-1)).toNat 64):Int))))))]) (some [D.s (sc (int u64 c))]):=eJ aU
def sp(f:Int)(b:Bool)(c:Int):Prop×List D:=((f=32\/f=64)/\0<=c/\c<dM.dX (aM.gY f),[.s (.sc (.int .u64 (pS.Za (aM.gY f) b c)))])
theorem spec:tL E f158 aE (pN .i64) pB (pN .u64) sp:=by
 rintro f b c ⟨hf,h0,h1⟩;refine(start f b c).trans ?_;have hs:aM.Bg (aM.gY f):=bP.Fa hf;unfold sp
 try dsimp only
 rw[<-pS.xZ hs h0 h1];cases b with
 |false=>rfl
 |true=>rcases hf with rfl |rfl <;> rfl
def aH:dC:=orc3 (pN .i64) pB (pN .u64) sp
theorem ok:OK 158 aH:=(eI E aE aD func158).Bp rfl spec
end Oj
namespace sG
def E:=mE [(159,Dg.aH),(158,Oj.aH),(160,pS.aH)] 27 [15,23] [] []
def aE:=bd f107
theorem aU:Nk E aE:=nk
theorem start a b c:aF E f107 aE [D.s (sc (int i64 a)),D.agg [sc (int i64 b),sc (bool c)]]=letI A:=aM.gY a;aB (b==2) (aQ (a=32\/a=64) (aQ ((a=32\/a=64)/\0<=kW.mM A/\kW.mM A<dM.dX A) (some [D.s (sc (int u64 (pS.Za A c (kW.mM A))))]))) (aQ ((a=32\/a=64)/\(0<=u64.wrap b/\u64.wrap b<18446744073709551616)/\(-4000:Int)<=(0:Int)/\(0:Int)<=(2900:Int)) (some [D.s (sc (int u64 (pS.aNK A c (pS.Dx A (u64.wrap b) 0))))])):=eJ aU
def Zf(f:Int)(s:Int)(n:Bool):Int:=pS.Za (aM.gY f) n (if s=2 then kW.mM (aM.gY f)else if s=1 then(if f=32 then 1065353216 else 4607182418800017408)else 0)
def sp(f:Int)(v:Int×Bool):Prop×List D:=((f=32\/f=64)/\(v.1=0\/v.1=1\/v.1=2),[.s (.sc (.int .u64 (Zf f v.1 v.2)))])
theorem Qa:pS.Dx (aM.gY 64) 1 0=some 4607182418800017408/\pS.Dx (aM.gY 32) 1 0=some 1065353216:=by
 have b1:bl 1=1:=rfl;have t1:tz (1:Int).toNat=0:=yZ rfl;unfold pS.Dx pS.aDX pS.Wm pS.Lw;rw[t1];exact⟨rfl,rfl⟩
theorem spec:fO E f107 aE (pN .i64) (pG (.pair (sN .i64) sB)) sp:=by
 rintro f v ⟨hf,hv⟩;obtain⟨s,n⟩:=v;refine(start f s n).trans ?_;unfold sp Zf
 try dsimp only at *
 have hi:0<=kW.mM (aM.gY f)/\kW.mM (aM.gY f)<dM.dX (aM.gY f):=by
  rcases hf with rfl |rfl
  ·exact⟨by show(0:Int)<=2139095040;omega,by show(2139095040:Int)<2147483648;omega⟩
  ·exact⟨by show(0:Int)<=9218868437227405312;omega,by show(9218868437227405312:Int)<9223372036854775808;omega⟩
 rcases hv with rfl |rfl |rfl
 ·rw[bS,show u64.wrap 0=0 from rfl,gP ⟨hf,by omega,by omega⟩];rfl
 ·rw[bS,show u64.wrap 1=1 from rfl,gP ⟨hf,by omega,by omega⟩];rcases hf with rfl |rfl
  ·rw[Qa.2];rfl
  ·rw[Qa.1];rfl
 ·rw[cF rfl,gP hf,gP ⟨hf,hi⟩];rfl
def aH:dC:=orc2 (pN .i64) (pG (.pair (sN .i64) sB)) sp
theorem ok:OK 107 aH:=(eI E aE (aA Dg.ok (aA Oj.ok (aA pS.ok aD))) func107).lP rfl spec
end sG
namespace nP
def E:=mE [] 19 [] [] []
def aE:=bd f109
theorem aU:Nk E aE:=nk
theorem start a b c:aF E f109 aE [D.agg [sc (bool a),ints u64 b,sc (int i64 c)]]=aB (decide (0<c)) (some [D.s (sc (int i64 1))]) (aB (c==0) (some [D.s (sc (int i64 2))]) (aB (c==(-1:Int)) (some [D.s (sc (int i64 3))]) (aB (c==(-2:Int)) (some [D.s (sc (int i64 4))]) (some [D.s (sc (int i64 0))])))):=eJ aU
def oJ(e:Int):Int:=if 0<e then 1 else if e=0 then 2 else if e=-1 then 3 else if e=-2 then 4 else 0
def sp(x:dU):Prop×List D:=(True,[.s (.sc (.int .i64 (oJ x.2.2)))])
theorem spec:gO E f109 aE hZ sp:=by
 intro x h;refine(start x.1 x.2.1 x.2.2).trans ?_;unfold sp oJ
 try dsimp only
 by_cases h1:0<x.2.2
 ·rw[aO h1,if_pos h1]
 ·rw[aI h1,if_neg h1]
  by_cases h2:x.2.2=0
  ·rw[cF h2,if_pos h2]
  ·rw[bS h2,if_neg h2]
   by_cases h3:x.2.2=-1
   ·rw[cF h3,if_pos h3]
   ·rw[bS h3,if_neg h3]
    by_cases h4:x.2.2=-2
    ·rw[cF h4,if_pos h4]
    ·rw[bS h4,if_neg h4]
def aH:dC:=orc1 hZ sp
theorem ok:OK 109 aH:=(eI E aE aD func109).nD rfl spec
end nP
namespace dS
def E:=mE [(109,nP.aH),(79,Se.aH)] 97 [] [] []
def aE:=bd f55
theorem aU:Nk E aE:=nk
theorem start a b c d:aF E f55 aE [D.s (sc (int i64 a)),D.agg [sc (bool b),ints u64 c,sc (int i64 d)]]=letI Z:=bool false;letI Y:=bool (wv (b,c)%4==(3:Int));letI X:=int i64 0;letI U:=nP.oJ d==1;letI O:=nP.oJ d==3;letI N:=some [D.agg [sc X,sc Z],D.s (sc Z)];letI I:=nP.oJ d==2;letI F:=sc (bool true);letI T:=some [D.agg [sc X,sc (bool b)],D.s F];letI Q:=some [D.agg [sc (int i64 1),sc (bool I)],D.s F];letI P:=some [D.agg [sc X,sc (bool (b !=I))],D.s F];letI G:=some [D.agg [sc (int i64 1),sc Y],D.s F];letI C:=aB (a==6) (aB (nP.oJ d==4) G N) N;letI H:=aB (a==6) (aB O (some [D.agg [sc (int i64 2),sc Y],D.s F]) C) C;letI A:=aB (a==6) (aB U P (aB I P H)) H;letI K:=aB (a==5) (aB O (some [D.agg [sc X,sc Z],D.s F]) A) A;letI B:=aB (a==5) (aB U Q (aB I Q K)) K;letI W:=aB (a==4) (aB O G B) B;aQ True (aQ (kA (b,c)) (aB (a==4) (aB U T (aB I T W)) W)):=eJ aU
def wF(fn:Int)(p:Int×Int):Int×Bool×Bool :=
 if fn=4 then(if 0<=p.2 then(0,isNeg p.1,true)else if p.2=-1 then(1,p.1%4==3,true)else(0,false,false))
 else if fn=5 then(if 0<=p.2 then(1,p.2==0,true)else if p.2=-1 then(0,false,true)else(0,false,false))
 else if fn=6 then(if 0<=p.2 then(0,isNeg p.1 !=(p.2==0),true)else if p.2=-1 then(2,p.1%4==3,true)else if p.2=-2 then(1,p.1%4==3,true)else(0,false,false))
 else(0,false,false)
def sp(fn:Int)(x:dU):Prop×List D:=(aJ x,[.agg [.sc (.int .i64 (wF fn (dv x)).1),.sc (.bool (wF fn (dv x)).2.1)],.s (.sc (.bool (wF fn (dv x)).2.2))])
theorem spec:fO E f55 aE (pN .i64) hZ sp:=by
 intro fn x h;have h:aJ x:=h;refine(start fn x.1 x.2.1 x.2.2).trans ((gP trivial).trans ((gP h.Dr).trans ?_));have hw:=h.Dr.cells.1;obtain⟨b,a,e⟩:=x
 try dsimp only at *
 unfold sp wF dv
 try dsimp only
 rw[hw];generalize wv (b,a)=z;have Ss:(0<e/\nP.oJ e=1)\/(e=0/\nP.oJ e=2)\/(e=-1/\nP.oJ e=3)\/(e=-2/\nP.oJ e=4)\/(e < -2/\nP.oJ e=0):=by
  unfold nP.oJ;split
  ·omega
  ·split
   ·omega
   ·split
    ·omega
    ·split <;> omega
 generalize nP.oJ e=pv at *
 by_cases h4:fn=4
 ·subst h4;rcases Ss with ⟨he,rfl⟩ |⟨rfl,rfl⟩ |⟨rfl,rfl⟩ |⟨rfl,rfl⟩ |⟨he,rfl⟩
  ·rw[if_pos rfl,aT];rfl
  ·rfl
  ·rfl
  ·rfl
  ·rw[if_pos rfl,aX,aX];rfl
 ·by_cases h5:fn=5
  ·subst h5;rcases Ss with ⟨he,rfl⟩ |⟨rfl,rfl⟩ |⟨rfl,rfl⟩ |⟨rfl,rfl⟩ |⟨he,rfl⟩
   ·rw[aX,if_pos rfl,aT,beq_eq_false_iff_ne.2 (show e≠0 by omega)];rfl
   ·rfl
   ·rfl
   ·rfl
   ·rw[aX,if_pos rfl,aX,aX];rfl
  ·by_cases h6:fn=6
   ·subst h6;rcases Ss with ⟨he,rfl⟩ |⟨rfl,rfl⟩ |⟨rfl,rfl⟩ |⟨rfl,rfl⟩ |⟨he,rfl⟩
    ·rw[aX,aX,if_pos rfl,aT,beq_eq_false_iff_ne.2 (show e≠0 by omega)];rfl
    ·rfl
    ·rfl
    ·rfl
    ·rw[aX,aX,if_pos rfl,aX,aX,aX];rfl
   ·rw[if_neg h4,if_neg h5,if_neg h6];simp only[beq_eq_false_iff_ne.2 h4,beq_eq_false_iff_ne.2 h5,beq_eq_false_iff_ne.2 h6,bF]
def aH:dC:=orc2 (pN .i64) hZ sp
theorem ok:OK 55 aH:=(eI E aE (aA nP.ok (aA Se.ok aD)) func55).lP rfl spec
end dS
namespace fR
def E:=mE [(106,Dp.aH),(53,nQ.aH),(91,Ix.aH),(107,sG.aH),(25,bQ.aH),(55,dS.aH)] 67 [18,31,48,66] [(4,[0,1,2,9]),(15,[0,1,2])] [4,15]
def aE:=bd f50
theorem aU:Nk E aE:=nk
def J4 a b c d:=lD E f50 aE 4 [bR a,bR b,cY c,cY d]
def aQU a b c:=lD E f50 aE 15 [bR a,bR b,cY c]
theorem start a b c:aF E f50 aE [D.s (sc (int i64 a)),D.s (sc (int i64 b)),D.s (sc (int u64 c))]=letI A:=some [D.s (sc (int u64 0)),D.s (sc (bool false)),D.s (sc (int i64 1))];aQ True (aC (aM.gY a).snd.snd.snd fun d=>aC (bif Dp.aFF a then(0:Int)else(1:Int)) fun e=>aB (e !=0) A (aQ True (aB (!nQ.uX b) A (fR.J4 a b c d)))):=eJ aU
theorem Sk a b c d:J4 a b c d=letI C:=sc (int i64 0);letI B:=sc (bool true);letI A:=some [D.s (sc (int u64 d)),D.s B,D.s C];aQ ((a=32\/a=64)/\0<=c/\c<18446744073709551616) (aC (bif fB.iA a c then lO.lH (aM.gY a) (c%dM.dX (aM.gY a))else(0:Int)) fun e=>aC (bif fB.iA a c then(0:Int)else(2:Int)) fun f=>aB (f !=0) (some [D.s (sc (int u64 0)),D.s (sc (bool false)),D.s (sc (int i64 f))]) (aB (e==4) A (aB (e==3) A (aB (e==0) (aB (b==5) (aQ ((a=32\/a=64)/\((1:Int)=(0:Int)\/(1:Int)=(1:Int)\/(1:Int)=(2:Int))) (aC (sG.Zf a 1 false) fun g=>some [D.s (sc (int u64 g)),D.s B,D.s C])) (some [D.s (sc (int u64 c)),D.s B,D.s C])) (fR.aQU a b c))))):=cJ aU
theorem Vp a b c:aQU a b c=letI A:=bif fB.iA a c&&bP.gW a c then aK (bQ.mD a c) (bQ.mF a c)else((0:Int),(0:Int));aQ ((a=32\/a=64)/\0<=c/\c<18446744073709551616) (aC (isNeg A.fst) fun d=>aC (M6.dg A.fst.natAbs) fun e=>aC A.snd fun f=>letI B:=dS.wF b (dv (d,e,f));aQ (aJ (d,e,f)) (aC B.fst fun g=>aC B.snd.fst fun h=>aC B.snd.snd fun i=>aB (!i) (some [D.s (sc (int u64 0)),D.s (sc (bool false)),D.s (sc (int i64 0))]) (aQ ((a=32\/a=64)/\(g=0\/g=1\/g=2)) (some [D.s (sc (int u64 (sG.Zf a g h))),D.s (sc (bool true)),D.s (sc (int i64 0))])))):=cJ aU
def nI(f b:Int):Int×Int:=aK (bQ.mD f b) (bQ.mF f b)
theorem Gv{f b:Int}(h:f=32\/f=64)(_:0<=b)(hf:bP.gW f b=true):jG (nI f b)/\(bQ.mD f b).natAbs<2^53/\-1074<=bQ.mF f b/\bQ.mF f b<=1023:=by
 have hs:=bP.Fa h;have Eo:0<=b%dM.dX (aM.gY f):=by unfold dM.dX;split <;> omega
 have qB:b%dM.dX (aM.gY f)<kW.mM (aM.gY f):=of_decide_eq_true hf;have hm:=bQ.Tx hs Eo;have hx:=bQ.Up hs Eo qB;have hz:(bQ.mD f b).natAbs<2^53:=by
  unfold bQ.mD;rw[kD];omega
 have he:-1074<=bQ.mF f b/\bQ.mF f b<=1023:=⟨hx.1,by unfold bQ.mF;omega⟩;have hb:bl (bQ.mD f b).natAbs<=53:=dV.2 hz;exact⟨fM (fP (by omega) (by omega)) (by omega),hz,he⟩
def Nl(f fn b:Int):Int×Bool×Int :=
 if Dp.aFF f=false\/nQ.uX fn=false then(0,false,1)
 else if fB.iA f b=false then(0,false,2)
 else if lO.lH (aM.gY f) (b%dM.dX (aM.gY f))=4\/lO.lH (aM.gY f) (b%dM.dX (aM.gY f))=3 then((aM.gY f).2.2.2,true,0)
 else if lO.lH (aM.gY f) (b%dM.dX (aM.gY f))=0 then(if fn=5 then sG.Zf f 1 false else b,true,0)
 else if(dS.wF fn (nI f b)).2.2=true then(sG.Zf f (dS.wF fn (nI f b)).1 (dS.wF fn (nI f b)).2.1,true,0)
 else(0,false,0)
def sp(f fn b:Int):Prop×List D:=(0<=b/\b<18446744073709551616,[.s (.sc (.int .u64 (Nl f fn b).1)),.s (.sc (.bool (Nl f fn b).2.1)),.s (.sc (.int .i64 (Nl f fn b).2.2))])
theorem Nm(fn:Int)(p:Int×Int):(dS.wF fn p).1=0\/(dS.wF fn p).1=1\/(dS.wF fn p).1=2:=by
 unfold dS.wF
 repeat' split
 all_goals simp
theorem aAR{f b:Int}(h:f=32\/f=64)(c3:lO.lH (aM.gY f) (b%dM.dX (aM.gY f))≠3)(c4:lO.lH (aM.gY f) (b%dM.dX (aM.gY f))≠4):bP.gW f b=true:=by
 unfold bP.gW;have hi:cX.lT (aM.gY f)<kW.mM (aM.gY f)/\0<cX.lT (aM.gY f):=by
  rcases h with rfl |rfl
  ·exact⟨by show(8388608:Int)<2139095040;omega,by show(0:Int)<8388608;omega⟩
  ·exact⟨by show(4503599627370496:Int)<9218868437227405312;omega,by show(0:Int)<4503599627370496;omega⟩
 generalize b%dM.dX (aM.gY f)=n at *;refine decide_eq_true ?_;unfold lO.lH at c3 c4
 by_cases h0:n=0
 ·omega
 ·by_cases h1:n<cX.lT (aM.gY f)
  ·omega
  ·by_cases h2:n<kW.mM (aM.gY f)
   ·exact h2
   ·rw[if_neg h0,if_neg h1,if_neg h2]at c3 c4
    by_cases h3:n=kW.mM (aM.gY f)
    ·rw[if_pos h3]at c3;exact(c3 rfl).elim
    ·rw[if_neg h3]at c4;exact(c4 rfl).elim
theorem spec:tL E f50 aE (pN .i64) (pN .i64) (pN .u64) sp:=by
 intro f fn b h;have h:0<=b/\b<18446744073709551616:=h;refine(start f fn b).trans ((gP trivial).trans ?_);rw[vl,vl,gP trivial];unfold sp Nl;cases hq:Dp.aFF f with
 |false=>rw[if_pos (.inl rfl)];rfl
 |true =>
  have hf:f=32\/f=64:=of_decide_eq_true hq;rw[cond_true,gT rfl];cases hk:nQ.uX fn with
  |false=>rw[if_pos (.inr rfl)];rfl
  |true =>
   rw[if_neg (by simp),bPB,bF,Sk,gP ⟨hf,h⟩,vl,vl];cases hp:fB.iA f b with
   |false=>rw[if_pos rfl];rfl
   |true =>
    rw[if_neg (by simp),cond_true,cond_true,gT rfl]
    by_cases c4:lO.lH (aM.gY f) (b%dM.dX (aM.gY f))=4
    ·rw[cF c4,if_pos (.inl c4)]
    ·rw[bS c4]
     by_cases c3:lO.lH (aM.gY f) (b%dM.dX (aM.gY f))=3
     ·rw[cF c3,if_pos (.inr c3)]
     ·rw[bS c3,if_neg (fun h=>h.elim c4 c3)];have qB:=aAR hf c3 c4
      by_cases c0:lO.lH (aM.gY f) (b%dM.dX (aM.gY f))=0
      ·rw[cF c0,if_pos c0]
       by_cases h5:fn=5
       ·rw[cF h5,if_pos h5,gP ⟨hf,.inr (.inl rfl)⟩];rfl
       ·rw[bS h5,if_neg h5]
      ·rw[bS c0,if_neg c0,Vp,gP ⟨hf,h⟩];have e1:(bif fB.iA f b&&bP.gW f b then aK (bQ.mD f b) (bQ.mF f b)else((0:Int),(0:Int)))=nI f b:=by rw[hp,qB];rfl
       rw[e1,nZ,gP (cQ (Gv hf h.1 qB).1),dK,vl,vl,vl];cases hv:(dS.wF fn (nI f b)).2.2 with
       |false=>rw[if_neg (by simp)];try rfl
       |true=>rw[if_pos rfl,bPB,bF,gP ⟨hf,Nm _ _⟩];try rfl
def aH:dC:=orc3 (pN .i64) (pN .i64) (pN .u64) sp
theorem ok:OK 50 aH:=(eI E aE (aA Dp.ok (aA nQ.ok (aA Ix.ok (aA sG.ok (aA bQ.ok (aA dS.ok aD)))))) func50).Bp rfl spec
end fR
namespace zL
def E:=mE [(76,Sg.aH)] 8 [] [] []
def aE:=bd f54
theorem aU:Nk E aE:=nk
theorem start a:aF E f54 aE [D.s (sc (int i64 a))]=letI A:=bif fN a 0 then aK a 0 else((0:Int),(0:Int));letI C:=M6.dg A.fst.natAbs;letI B:=bool (isNeg A.fst);aQ (((-9223372036854775808:Int)<=a/\a<9223372036854775808)/\(-9223372036854775808:Int)<=(0:Int)/\(0:Int)<(9223372036854775808:Int)) (aQ (((-9223372036854775808:Int)<=a/\a<9223372036854775808)/\(-9223372036854775808:Int)<=(0:Int)/\(0:Int)<(9223372036854775808:Int)) (some [D.agg [sc B,ints u64 C,sc (int i64 A.snd),sc B,ints u64 C,sc (int i64 A.snd)]])):=eJ aU
def sD(p q:Int×Int):D:=.agg [.sc (.bool (isNeg p.1)),.ints .u64 (M6.dg p.1.natAbs),.sc (.int .i64 p.2),.sc (.bool (isNeg q.1)),.ints .u64 (M6.dg q.1.natAbs),.sc (.int .i64 q.2)]
def sp(m:Int):Prop×List D:=(-9223372036854775808<=m/\m<9223372036854775808,[sD (aK m 0) (aK m 0)])
theorem spec:gO E f54 aE (pN .i64) sp:=by
 intro m h;have h:-9223372036854775808<=m/\m<9223372036854775808:=h;refine(start m).trans ?_;have hb:bl m.natAbs<=64:=dV.2 (by omega);rw[gP ⟨h,by omega,by omega⟩,gP ⟨h,by omega,by omega⟩];have e:(bif fN m 0 then aK m 0 else((0:Int),(0:Int)))=aK m 0:=by rw[fP (by omega) (by omega)];rfl
 rw[e];rfl
def aH:dC:=orc1 (pN .i64) sp
theorem ok:OK 54 aH:=(eI E aE (aA Sg.ok aD) func54).nD rfl spec
end zL
namespace cV
def E:=mE [(53,nQ.aH),(25,bQ.aH),(54,zL.aH),(55,dS.aH)] 98 [33] [(3,[0,1,2,6])] [3]
def aE:=bd f18
theorem aU:Nk E aE:=nk
def J3 a b c d e f g:=lD E f18 aE 3 [bR a,cY b,bR c,dG 3 31 [cG d,sc (slice none 0 0),cP e,cG f,sc (slice none 0 0),cP g]]
theorem start a b c:aF E f18 aE [D.s (sc (int i64 a)),D.s (sc (int u64 b)),D.s (sc (int i64 c))]=letI A:=some [D.agg [sc (bool false),sc (slice none 0 0),sc (int i64 0),sc (bool false),sc (slice none 0 0),sc (int i64 0)],D.s (sc (int i64 1))];aQ True (aB (!nQ.uX a) A (aB (decide (c<1)) A (aB (decide (66000<c)) A (cV.J3 a b c false 0 false 0)))):=eJ aU
theorem gL a b c d e f g:J3 a b c d e f g=letI N:=bool false;letI I:=aK 0 0;letI P:=M6.dg I.fst.natAbs;letI H:=aK 1 0;letI O:=M6.dg H.fst.natAbs;letI G:=slice none 0 0;letI C:=int i64 0;letI A:=bif fB.iA 64 b&&bP.gW 64 b then aK (bQ.mD 64 b) (bQ.mF 64 b)else((0:Int),(0:Int));aQ (((64:Int)=(32:Int)\/(64:Int)=(64:Int))/\0<=b/\b<18446744073709551616) (aC (isNeg A.fst) fun h=>aC (M6.dg A.fst.natAbs) fun i=>aC A.snd fun j=>letI F:=dS.wF a (dv (h,i,j));aC (bif fB.iA 64 b then bif bP.gW 64 b then(0:Int)else(6:Int)else(2:Int)) fun k=>aB (k !=0) (some [D.agg [sc N,sc G,sc C,sc N,sc G,sc C],D.s (sc (int i64 k))]) (aB ((i.length:Int)==(0:Int)) (aB (a==5) (aQ ((-9223372036854775808:Int)<=(1:Int)/\(1:Int)<(9223372036854775808:Int)) (aC (isNeg H.fst) fun l=>aC O fun m=>aC H.snd fun n=>aC (isNeg H.fst) fun o=>aC O fun p=>aC H.snd fun q=>some [D.agg [sc (bool l),ints u64 m,sc (int i64 n),sc (bool o),ints u64 p,sc (int i64 q)],D.s (sc C)])) (aQ ((-9223372036854775808:Int)<=(0:Int)/\(0:Int)<(9223372036854775808:Int)) (aC (isNeg I.fst) fun r=>aC P fun s=>aC I.snd fun t=>aC (isNeg I.fst) fun u=>aC P fun v=>aC I.snd fun w=>some [D.agg [sc (bool r),ints u64 s,sc (int i64 t),sc (bool u),ints u64 v,sc (int i64 w)],D.s (sc C)]))) (aQ (aJ (h,i,j)) (aC F.fst fun x=>letI K:=aK x 0;letI T:=M6.dg K.fst.natAbs;letI B:=aK (i64.wrap ((0:Int)-x)) 0;letI Q:=M6.dg B.fst.natAbs;aC F.snd.fst fun y=>aC F.snd.snd fun z=>aB z (aB (x==2) (some [D.agg [sc N,sc G,sc C,sc N,sc G,sc C],D.s (sc (int i64 6))]) (aB y (aQ ((-9223372036854775808:Int)<=i64.wrap ((0:Int)-x)/\i64.wrap ((0:Int)-x)<9223372036854775808) (aC (isNeg B.fst) fun aa=>aC Q fun ab=>aC B.snd fun ac=>aC (isNeg B.fst) fun ad=>aC Q fun ae=>aC B.snd fun af=>some [D.agg [sc (bool aa),ints u64 ab,sc (int i64 ac),sc (bool ad),ints u64 ae,sc (int i64 af)],D.s (sc C)])) (aQ ((-9223372036854775808:Int)<=x/\x<9223372036854775808) (aC (isNeg K.fst) fun ag=>aC T fun ah=>aC K.snd fun ai=>aC (isNeg K.fst) fun aj=>aC T fun ak=>aC K.snd fun al=>some [D.agg [sc (bool ag),ints u64 ah,sc (int i64 ai),sc (bool aj),ints u64 ak,sc (int i64 al)],D.s (sc C)])))) none)))):=cJ aU
def mN(fn:Int)(b:Int):Int:=if(fR.nI 64 b).1=0 then(if fn=5 then 1 else 0)else if(dS.wF fn (fR.nI 64 b)).2.1=true then -(dS.wF fn (fR.nI 64 b)).1 else(dS.wF fn (fR.nI 64 b)).1
def aHU(fn b p:Int):Prop:=nQ.uX fn=true/\1<=p/\p<=66000/\bP.gW 64 b=true/\((fR.nI 64 b).1≠0->(dS.wF fn (fR.nI 64 b)).2.2=true/\(dS.wF fn (fR.nI 64 b)).1≠2)
def sp(fn b p:Int):Prop×List D:=((0<=b/\b<18446744073709551616)/\aHU fn b p,[zL.sD (aK (mN fn b) 0) (aK (mN fn b) 0),.s (.sc (.int .i64 0))])
theorem spec:tL E f18 aE (pN .i64) (pN .u64) (pN .i64) sp:=by
 rintro fn b p ⟨h,hk,zR,tM,hf,hx⟩;refine(start fn b p).trans ((gP trivial).trans ?_);have hp:fB.iA 64 b=true:=rfl;have e1:(bif fB.iA 64 b&&bP.gW 64 b then aK (bQ.mD 64 b) (bQ.mF 64 b)else((0:Int),(0:Int)))=fR.nI 64 b:=by rw[hp,hf];rfl
 have e2:(bif fB.iA 64 b then bif bP.gW 64 b then(0:Int)else 6 else 2)=0:=by rw[hp,hf];rfl
 rw[hk,bPB,bF,aI,aI,gL,gP ⟨.inr rfl,h⟩,e1,e2,nZ,vl,gT rfl];have Qm:=(fR.Gv (.inr rfl) h.1 hf).1;unfold sp mN
 try dsimp only
 generalize fR.nI 64 b=q at *;have hl:(M6.dg q.1.natAbs).length=0↔q.1=0:=by rw[M6.fZ];omega
 by_cases hz:q.1=0
 ·rw[cF (by have:=hl.2 hz;omega),if_pos hz]
  by_cases h5:fn=5
  ·rw[cF h5,if_pos h5,gP];rfl
  ·rw[bS h5,if_neg h5,gP];rfl
 ·obtain⟨aON,aBG⟩:=hx hz;have hs:=fR.Nm fn q;rw[bS (fun h=>hz (hl.1 (by omega))),if_neg hz,gP (cQ Qm),dK,vl,vl,vl,aON,bT,bS aBG];cases hn:(dS.wF fn q).2.1 with
  |false=>rw[bF,if_neg (by simp),gP];rfl
  |true=>rw[bT,if_pos rfl,wrap_i64 (n:=0-(dS.wF fn q).1),Int.zero_sub,gP];rfl
def aH:dC:=orc3 (pN .i64) (pN .u64) (pN .i64) sp
theorem ok:OK 18 aH:=(eI E aE (aA nQ.ok (aA bQ.ok (aA zL.ok (aA dS.ok aD)))) func18).Bp rfl spec
end cV
namespace eQ
def E:=mE [(53,nQ.aH),(25,bQ.aH),(54,zL.aH),(55,dS.aH),(30,aZ.aH),(56,fT.aH),(57,jU.aH),(38,aQJ.aH)] 98 [33] [(3,[0,1,2,6])] [3]
def aE:=bd f18
theorem aU:Nk E aE:=nk
def J3 a b c d e f g:=lD E f18 aE 3 [bR a,cY b,bR c,dG 3 31 [cG d,sc (slice none 0 0),cP e,cG f,sc (slice none 0 0),cP g]]
theorem start a b c:aF E f18 aE [D.s (sc (int i64 a)),D.s (sc (int u64 b)),D.s (sc (int i64 c))]=letI A:=some [D.agg [sc (bool false),sc (slice none 0 0),sc (int i64 0),sc (bool false),sc (slice none 0 0),sc (int i64 0)],D.s (sc (int i64 1))];aQ True (aB (!nQ.uX a) A (aB (decide (c<1)) A (aB (decide (66000<c)) A (eQ.J3 a b c false 0 false 0)))):=eJ aU
theorem gL a b c d e f g:J3 a b c d e f g=letI F1:=bool false;letI A1:=aK 0 0;letI G1:=M6.dg A1.fst.natAbs;letI Z:=aK 1 0;letI I1:=M6.dg Z.fst.natAbs;letI Y:=slice none 0 0;letI X:=i64.wrap (c+16);letI Q:=int i64 0;letI K:=i64.wrap (c+20);letI G:=bif bP.gW 64 b then aZ.wQ (aZ.lR b)else((0:Int),(0:Int));letI F:=i64.wrap (c+16)+2;letI C:=bif fB.iA 64 b&&bP.gW 64 b then aK (bQ.mD 64 b) (bQ.mF 64 b)else((0:Int),(0:Int));aQ (((64:Int)=(32:Int)\/(64:Int)=(64:Int))/\0<=b/\b<18446744073709551616) (aC (isNeg C.fst) fun h=>aC (M6.dg C.fst.natAbs) fun i=>aC C.snd fun j=>letI T:=dS.wF a (dv (h,i,j));aC (bif fB.iA 64 b then bif bP.gW 64 b then(0:Int)else(6:Int)else(2:Int)) fun k=>aB (k !=0) (some [D.agg [sc F1,sc Y,sc Q,sc F1,sc Y,sc Q],D.s (sc (int i64 k))]) (aB ((i.length:Int)==(0:Int)) (aB (a==5) (aQ ((-9223372036854775808:Int)<=(1:Int)/\(1:Int)<(9223372036854775808:Int)) (aC (isNeg Z.fst) fun l=>aC I1 fun m=>aC Z.snd fun n=>aC (isNeg Z.fst) fun o=>aC I1 fun p=>aC Z.snd fun q=>some [D.agg [sc (bool l),ints u64 m,sc (int i64 n),sc (bool o),ints u64 p,sc (int i64 q)],D.s (sc Q)])) (aQ ((-9223372036854775808:Int)<=(0:Int)/\(0:Int)<(9223372036854775808:Int)) (aC (isNeg A1.fst) fun r=>aC G1 fun s=>aC A1.snd fun t=>aC (isNeg A1.fst) fun u=>aC G1 fun v=>aC A1.snd fun w=>some [D.agg [sc (bool r),ints u64 s,sc (int i64 t),sc (bool u),ints u64 v,sc (int i64 w)],D.s (sc Q)]))) (aQ (aJ (h,i,j)) (aC T.fst fun x=>letI B1:=aK x 0;letI H1:=M6.dg B1.fst.natAbs;letI H:=aK (i64.wrap ((0:Int)-x)) 0;letI K1:=M6.dg H.fst.natAbs;aC T.snd.fst fun y=>aC T.snd.snd fun z=>aB z (aB (x==2) (some [D.agg [sc F1,sc Y,sc Q,sc F1,sc Y,sc Q],D.s (sc (int i64 6))]) (aB y (aQ ((-9223372036854775808:Int)<=i64.wrap ((0:Int)-x)/\i64.wrap ((0:Int)-x)<9223372036854775808) (aC (isNeg H.fst) fun aa=>aC K1 fun ab=>aC H.snd fun ac=>aC (isNeg H.fst) fun ad=>aC K1 fun ae=>aC H.snd fun af=>some [D.agg [sc (bool aa),ints u64 ab,sc (int i64 ac),sc (bool ad),ints u64 ae,sc (int i64 af)],D.s (sc Q)])) (aQ ((-9223372036854775808:Int)<=x/\x<9223372036854775808) (aC (isNeg B1.fst) fun ag=>aC H1 fun ah=>aC B1.snd fun ai=>aC (isNeg B1.fst) fun aj=>aC H1 fun ak=>aC B1.snd fun al=>some [D.agg [sc (bool ag),ints u64 ah,sc (int i64 ai),sc (bool aj),ints u64 ak,sc (int i64 al)],D.s (sc Q)])))) (aQ (0<=b/\b<18446744073709551616) (aC (bif bP.gW 64 b then aZ.uP (aZ.lR b)%4 else(0:Int)) fun am=>aC (isNeg G.fst) fun an=>aC (M6.dg G.fst.natAbs) fun ao=>aC G.snd fun ap=>letI A:=fT.zK (dv (an,ao,ap)) X;letI P:=gC A.fst A.snd F;letI O:=gS A.fst A.snd F;aQ (aJ (an,ao,ap)/\(1<=i64.wrap (c+16)/\i64.wrap (c+16)<=66500)/\fT.aKY (dv (an,ao,ap)) X) (aC (isNeg O.fst.fst) fun aq=>aC (M6.dg O.fst.fst.natAbs) fun ar=>aC O.fst.snd fun au=>aC (isNeg O.snd.fst) fun av=>aC (M6.dg O.snd.fst.natAbs) fun aw=>aC O.snd.snd fun ax=>letI C1:=(aq,ar,au,av,aw,ax);aC (isNeg P.fst.fst) fun ay=>aC (M6.dg P.fst.fst.natAbs) fun az=>aC P.fst.snd fun ba=>aC (isNeg P.snd.fst) fun bb=>aC (M6.dg P.snd.fst.natAbs) fun bc=>aC P.snd.snd fun be=>letI D1:=(ay,az,ba,bb,bc,be);letI N:=VTurned.trn (jU.eS C1) (jU.eS D1) am.toNat;letI B:=jU.aLT a am.toNat (jU.eS C1) (jU.eS D1) X;aQ ((eB C1/\eB D1)/\(0<=am/\am<=3)/\(1<=i64.wrap (c+16)/\i64.wrap (c+16)<=70000)/\(a≠4->a≠5->jU.aJH X N.fst N.snd)) (aC (isNeg B.fst.fst) fun bf=>aC (M6.dg B.fst.fst.natAbs) fun bg=>aC B.fst.snd fun bh=>aC (isNeg B.snd.fst) fun bi=>aC (M6.dg B.snd.fst.natAbs) fun bj=>aC B.snd.snd fun bk=>letI I:=(bf,bg,bh,bi,bj,bk);letI W:=M.shD true (dv (gN I)) K;letI U:=M.shD false (dv (gM I)) K;aQ (eB I/\(1<=i64.wrap (c+20)/\i64.wrap (c+20)<=70000)/\wA false (dv (gM I)) K=true/\wA true (dv (gN I)) K=true) (aC (isNeg U.fst) fun bm=>aC (M6.dg U.fst.natAbs) fun bn=>aC U.snd fun bo=>aC (isNeg W.fst) fun bp=>aC (M6.dg W.fst.natAbs) fun bq=>aC W.snd fun br=>some [D.agg [sc (bool bm),ints u64 bn,sc (int i64 bo),sc (bool bp),ints u64 bq,sc (int i64 br)],D.s (sc Q)]))))))))):=cJ aU
def No(fn b:Int):Bool:=(fR.nI 64 b).1==0||(dS.wF fn (fR.nI 64 b)).2.2
def Px(fn b:Int):Bool:=(fR.nI 64 b).1 !=0&&(dS.wF fn (fR.nI 64 b)).2.2&&(dS.wF fn (fR.nI 64 b)).1==2
def Fz(fn b p:Int):(Int×Int)×(Int×Int):=bif No fn b then(bif Px fn b then((0,0),(0,0))else(aK (cV.mN fn b) 0,aK (cV.mN fn b) 0))else tO fn (aZ.uP (aZ.lR b)) (aZ.wQ (aZ.lR b)) p
def sp(fn b p:Int):Prop×List D:=((0<=b/\b<18446744073709551616)/\(fn=4\/fn=5\/fn=6)/\(1<=p/\p<=66000)/\bP.gW 64 b=true,[yM (Fz fn b p).1 (Fz fn b p).2,.s (.sc (.int .i64 (bif Px fn b then 6 else 0)))])
theorem fold(a b:Int×Int):(isNeg a.1,M6.dg a.1.natAbs,a.2,isNeg b.1,M6.dg b.1.natAbs,b.2)=mQ a b:=rfl
theorem Tv{fn b:Int}(h:0<=b)(hf:bP.gW 64 b=true)(h4:fn=4\/fn=5\/fn=6)(hx:No fn b=false):aQK (aZ.wQ (aZ.lR b)):=by
 obtain⟨hp,hm,e0,e1⟩:=aZ.Tt h hf;unfold No at hx;rw[show fR.nI 64 b=aZ.lR b from rfl]at hx;generalize aZ.lR b=q at *;have z0:q.1≠0:=fun hz=>by rw[hz]at hx;exact Bool.noConfusion hx
 have hv:(dS.wF fn q).2.2=false:=by
  cases hc:(dS.wF fn q).2.2 with
  |false=>rfl
  |true=>rw[hc,Bool.or_true]at hx;exact Bool.noConfusion hx
 have he:q.2<=-2:=by
  rcases Int.lt_or_le (-2) q.2 with iN |hle
  ·exfalso;unfold dS.wF at hv
   by_cases c0:0<=q.2
   ·rcases h4 with rfl |rfl |rfl <;> simp[c0]at hv
   ·have c1:q.2=-1:=by omega
    rcases h4 with rfl |rfl |rfl <;> simp[c1]at hv
  ·exact hle
 exact aNX ⟨e0,he⟩ (hp.2.2.2 z0)
theorem spec:aWM E f18 aE (pN .i64) (pN .u64) (pN .i64) sp:=by
 rintro fn b p ⟨h,h4,⟨zR,tM⟩,hf⟩;have hp:fB.iA 64 b=true:=rfl;have hk:nQ.uX fn=true:=by rcases h4 with rfl |rfl |rfl <;> rfl
 have e1:(bif fB.iA 64 b&&bP.gW 64 b then aK (bQ.mD 64 b) (bQ.mF 64 b)else((0:Int),(0:Int)))=fR.nI 64 b:=by rw[hp,hf];rfl
 have e2:(bif fB.iA 64 b then bif bP.gW 64 b then(0:Int)else 6 else 2)=0:=by rw[hp,hf];rfl
 have s:=(start fn b p).trans (gP trivial);rw[hk,bPB,bF,aI,aI,gL,gP ⟨.inr rfl,h⟩,e1,e2,nZ,vl,gT rfl]at s;have Qm:=(fR.Gv (.inr rfl) h.1 hf).1;have hn:No fn b=false->aQK (aZ.wQ (aZ.lR b)):=Tv h.1 hf h4;have hnum:fR.nI 64 b=aZ.lR b:=rfl;unfold sp Fz;dsimp only;unfold No Px cV.mN at *;generalize fR.nI 64 b=q at *;have hl:(M6.dg q.1.natAbs).length=0↔q.1=0:=by rw[M6.fZ];omega
 by_cases hz:q.1=0
 ·refine⟨_,s.trans ?_,fX.refl _⟩;rw[cF (by have:=hl.2 hz;omega),if_pos hz,hz]
  by_cases h5:fn=5
  ·rw[cF h5,if_pos h5,gP];rfl
  ·rw[bS h5,if_neg h5,gP];rfl
 ·rw[bS (fun h=>hz (hl.1 (by omega))),gP (cQ Qm),dK,vl,vl,vl]at s;rw[show(q.1==0)=false from beq_eq_false_iff_ne.2 hz,show(q.1 !=0)=true by simp[hz],bPC,bQC,if_neg hz];have hn:=fun hx=>hn (by rw[show(q.1==0)=false from beq_eq_false_iff_ne.2 hz,bPC];exact hx)
  have hs:=fR.Nm fn q;cases hv:(dS.wF fn q).2.2 with
  |true =>
   rw[hv,bT]at s;rw[cond_true,bQC]
   by_cases c2:(dS.wF fn q).1=2
   ·rw[cF c2]at s;rw[c2];refine⟨_,s,.cons ?_ (fX.refl _)⟩;show vZ _ (yM (0,0) (0,0));unfold yM;dsimp only;rw[show(0:Int).natAbs=0 from rfl,M6.bN];exact vZ.agg (.cons (yQ.refl _) (.cons (yQ.nil _) (.cons (yQ.refl _) (.cons (yQ.refl _) (.cons (yQ.nil _) (uK.refl _))))))
   ·rw[bS c2]at s;rw[show((dS.wF fn q).1==2)=false from beq_eq_false_iff_ne.2 c2];refine⟨_,s.trans ?_,fX.refl _⟩;cases hg:(dS.wF fn q).2.1 with
    |false=>rw[bF,if_neg (by simp),gP];rfl
    |true=>rw[bT,if_pos rfl,wrap_i64 (n:=0-(dS.wF fn q).1),Int.zero_sub,gP];rfl
  |false =>
   have hr:=hn hv;rw[hv,bF,gP h,hf]at s;rw[cond_false,bSL];dsimp only[cond_true]at s;have N:=Bu (k:=aZ.uP (aZ.lR b)) hr ⟨zR,tM⟩ h4;have w1:i64.wrap (p+16)=p+16:=wrap_i64;have w2:i64.wrap (p+20)=p+20:=wrap_i64;have bMO:p+16+2=p+18:=by omega
   have N2:=N.bx.Yz;generalize aZ.uP (aZ.lR b)=k at *;generalize aZ.wQ (aZ.lR b)=r at *;rw[vl,nZ,w1,dK,bMO]at s;have s:=s.trans (gP ⟨cQ hr.uS,⟨by omega,by omega⟩,N.ci⟩);rw[show gS (fT.zK r (p+16)).1 (fT.zK r (p+16)).2 (p+18)=tS r p from rfl,show gC (fT.zK r (p+16)).1 (fT.zK r (p+16)).2 (p+18)=tC r p from rfl]at s;have eS:jU.eS (mQ (tS r p).1 (tS r p).2)=tS r p:=by
    show(dv (gM (mQ _ _)),dv (gN (mQ _ _)))=_;rw[qJ,qK]
   have eC:jU.eS (mQ (tC r p).1 (tC r p).2)=tC r p:=by
    show(dv (gM (mQ _ _)),dv (gN (mQ _ _)))=_;rw[qJ,qK]
   rw[aL,aL,aL,aL,aL,aL,aL,aL,aL,aL,aL,aL,fold,fold,eS,eC]at s;have s:=s.trans (gP ⟨⟨N.sS,N.sC⟩,⟨bWF _ (by decide),by omega⟩,⟨by omega,by omega⟩,fun _ _=>N.qu⟩);rw[show jU.aLT fn (k%4).toNat (tS r p) (tC r p) (p+16)=tE fn k r p from rfl,aL,aL,aL,aL,aL,aL,fold,w2,qJ,qK]at s;have s:=s.trans (gP ⟨N.re,⟨by omega,by omega⟩,N.s1,N.s2⟩);exact⟨_,s,fX.refl _⟩
def aH:dC:=orc3 (pN .i64) (pN .u64) (pN .i64) sp
theorem ok:OK 18 aH:=(eI E aE (aA nQ.ok (aA bQ.ok (aA zL.ok (aA dS.ok (aA aZ.ok (aA fT.ok (aA jU.ok (aA aQJ.ok aD)))))))) func18).bDQ rfl spec
end eQ
end W
namespace M
open Go AI W
structure aRZ(s:(Int×Int)×(Int×Int))(V:Rat)(p:Int):Prop where
 f1:aYE s.1 66021 (-p-1200) 1
 f2:aYE s.2 66021 (-p-1200) 1
 lo:R.qz s.1<=V
 hi:V<=R.qz s.2
theorem aRZ.sp{s:(Int×Int)×(Int×Int)}{V:Rat}{p:Int}(h:aRZ s V p):eB (mQ s.1 s.2):=by
 have:=h.lo;have:=h.hi;exact qQ h.f1.uS h.f2.uS (jT.2 (by grind))
theorem Ns{z p:Int}(hz:z=0\/z=1\/z=-1)(hp:1<=p):aRZ (aK z 0,aK z 0) (z:Rat) p:=by
 have b:bl z.natAbs<=1:=by rcases hz with rfl |rfl |rfl <;> exact dV.2 (by decide)
 have e:R.qz (aK z 0)=(z:Rat):=by rw[mT,R.fS,Rat.mul_one]
 have f:aYE (aK z 0) 66021 (-p-1200) 1:=by
  refine⟨fM (fP (by omega) (by omega)) (by omega),bNX (qV _ _) (by omega),?_,?_⟩
  ·by_cases h0:z=0
   ·rw[h0,dO];show -p-1200<=0;omega
   ·have:=nJ (e:=0) h0;omega
  ·rw[e];rcases hz with rfl |rfl |rfl
   ·rw[show((0:Int):Rat)=0 by norm_cast,R.bG bTP];grind
   ·rw[show((1:Int):Rat)=1 by norm_cast,R.bG (by grind)];exact bTP
   ·rw[show((-1:Int):Rat)=-1 by norm_cast,R.fW,R.bG (by grind)];exact bTP
 exact⟨f,f,by dsimp only;rw[e];exact bTP,by dsimp only;rw[e];exact bTP⟩
theorem aSK(k:Int)(s c:Rat):R.rs k s c*R.rs k s c+R.rc k s c*R.rc k s c=s*s+c*c:=by
 unfold R.rs R.rc;have h4:k%4=0\/k%4=1\/k%4=2\/k%4=3:=by omega
 rcases h4 with h |h |h |h
 ·rw[if_pos h,if_pos h]
 ·rw[if_neg (show ¬k%4=0 by omega),if_pos h,if_neg (show ¬k%4=0 by omega),if_pos h];grind
 ·rw[if_neg (show ¬k%4=0 by omega),if_neg (show ¬k%4=1 by omega),if_pos h,if_neg (show ¬k%4=0 by omega),if_neg (show ¬k%4=1 by omega),if_pos h];grind
 ·rw[if_neg (show ¬k%4=0 by omega),if_neg (show ¬k%4=1 by omega),if_neg (show ¬k%4=2 by omega),if_neg (show ¬k%4=0 by omega),if_neg (show ¬k%4=1 by omega),if_neg (show ¬k%4=2 by omega)];grind
theorem Nn(b:Int):(eQ.Px 4 b=false/\eQ.Px 5 b=false/\eQ.No 4 b=eQ.No 5 b)/\(eQ.No 4 b=true ->
  (cV.mN 4 b=0/\(cV.mN 5 b=1\/cV.mN 5 b=-1))\/((cV.mN 4 b=1\/cV.mN 4 b=-1)/\cV.mN 5 b=0)):=by
 unfold eQ.Px eQ.No cV.mN dS.wF;generalize fR.nI 64 b=q;obtain⟨m,e⟩:=q;dsimp only
 by_cases z:m=0
 ·by_cases c0:0<=e
  ·simp[z,c0]
  ·by_cases c1:e=-1 <;> simp[z,c0,c1]
 ·by_cases c0:0<=e
  ·cases hm:(e==0) <;> simp[z,c0,hm]
  ·by_cases c1:e=-1
   ·cases hm:(m%4==3) <;> simp[z,c1,hm]
   ·simp[z,c0,c1]
theorem aFR{fn k:Int}{r:Int×Int}{p:Int}(N:bGV fn k r p)(hp:1<=p/\p<=66000)(h:fn=4\/fn=5):aRZ (tO fn k r p) (tv fn k (R.sn (R.qz r*R.pi)) (R.cs (R.qz r*R.pi))) p:=by
 have:=N.bits;have:=N.bCO;have o:=N.on h;have lo:=N.bx.lo;have hi:=N.bx.hi;have m0:=N.bx.m0;exact⟨⟨N.bx.pl,by omega,by omega,o.1⟩,⟨N.bx.ph,by omega,by omega,o.2⟩,by grind,by grind⟩
theorem aDB{r:Int×Int}(h:aQK r):R.ab (R.sn (R.qz r*R.pi)*R.sn (R.qz r*R.pi)+R.cs (R.qz r*R.pi)*R.cs (R.qz r*R.pi)-1)<=R.sO:=by
 obtain⟨aSR,aSQ⟩:=R.iO;refine R.aDH ?_;rw[R.fG,R.bG (show 0<=R.pi by grind)];have a0:=R.aN (R.qz r);have:=h.q;have:=R.aG a0 (show 0<=4-R.pi by grind);grind
theorem aIW{b p:Int}(hb:0<=b)(hf:bP.gW 64 b=true)(hp:1<=p/\p<=66000):∃S C:Rat,aRZ (eQ.Fz 4 b p) S p/\aRZ (eQ.Fz 5 b p) C p/\R.ab (S*S+C*C-1)<=R.sO:=by
 obtain⟨⟨p4,p5,aVX⟩,hx⟩:=Nn b;have ep:=R.sZ;cases hc:eQ.No 4 b with
 |true =>
  have hx:=hx hc;unfold eQ.Fz;rw[<-aVX,hc,p4,p5,cond_true,cond_true,cond_false,cond_false];refine⟨_,_,Ns (by omega) hp.1,Ns (by omega) hp.1,?_⟩;have one:((1:Int):Rat)=1:=by norm_cast
  have aOH:((-1:Int):Rat)=-1:=by norm_cast
  have bIA:((0:Int):Rat)=0:=by norm_cast
  have fin:∀x:Rat,x=0->R.ab x<=R.sO:=fun x h0=>by rw[h0,R.bG bTP];exact bSJ ep
  refine fin _ ?_;rcases hx with ⟨h0,h1 |h1⟩ |⟨h0 |h0,h1⟩ <;> rw[h0,h1,bIA] <;> (try rw[one]) <;> (try rw[aOH]) <;> grind
 |false =>
  have hr:=eQ.Tv hb hf (.inl rfl) hc;unfold eQ.Fz;rw[<-aVX,hc,cond_false,cond_false];refine⟨_,_,aFR (Bu hr hp (.inl rfl)) hp (.inl rfl),aFR (Bu hr hp (.inr (.inl rfl))) hp (.inr rfl),?_⟩;have:=aDB hr;have e:=aSK (aZ.uP (aZ.lR b)) (R.sn (R.qz (aZ.wQ (aZ.lR b))*R.pi)) (R.cs (R.qz (aZ.wQ (aZ.lR b))*R.pi));rw[<-e]at this;exact this
end M
namespace M
open Go AI W
theorem aCF{k:Int}{ρ V e:Rat}(hρ:ρ=-(1/4)*R.pi)(he:e=if k%2=0 then -1 else 1)(hV:V*R.rc k (R.sn ρ) (R.cs ρ)=R.rs k (R.sn ρ) (R.cs ρ)):R.ab (V-e)<=2*R.Jg:=by
 obtain⟨aSR,aSQ⟩:=R.iO;have ar:R.ab ρ<=79/100:=by
  rw[R.cT];constructor <;> grind
 obtain⟨c1,c2⟩:=R.Lc (r:=ρ) (by grind);have t:=R.aNM (x:=ρ) (by grind);rw[show ρ+R.pi/2=-ρ by grind,R.Ny]at t;have e0:=R.Nr;have et:=R.Hp;generalize R.sn ρ=a at *;generalize R.cs ρ=c at *;rw[R.cT]at t;obtain⟨C,hC⟩:∃C,C=R.rc k a c:=⟨_,rfl⟩;have key:1/2<=R.ab C/\R.ab ((V-e)*C)<=R.Jg:=by
  rw[<-hC]at hV;have e1:(V-e)*C=R.rs k a c-e*R.rc k a c:=by rw[<-hC,<-hV];grind
  rw[e1,hC,he];unfold R.rs R.rc;have h4:k%4=0\/k%4=1\/k%4=2\/k%4=3:=by omega
  have lo:∀x:Rat,1/2<=x->1/2<=R.ab x:=fun x hx=>by rw[R.bG (by grind)];exact hx
  rcases h4 with h |h |h |h
  ·rw[if_pos h,if_pos h,aT];exact⟨lo _ (by grind),by rw[R.cT];constructor <;> grind⟩
  ·rw[if_neg (show ¬k%4=0 by omega),if_pos h,if_neg (show ¬k%4=0 by omega),if_pos h,aX];exact⟨lo _ (by grind),by rw[R.cT];constructor <;> grind⟩
  ·rw[if_neg (show ¬k%4=0 by omega),if_neg (show ¬k%4=1 by omega),if_pos h,if_neg (show ¬k%4=0 by omega),if_neg (show ¬k%4=1 by omega),if_pos h,aT];exact⟨by rw[R.fW];exact lo _ (by grind),by rw[R.cT];constructor <;> grind⟩
  ·rw[if_neg (show ¬k%4=0 by omega),if_neg (show ¬k%4=1 by omega),if_neg (show ¬k%4=2 by omega),if_neg (show ¬k%4=0 by omega),if_neg (show ¬k%4=1 by omega),if_neg (show ¬k%4=2 by omega),aX];exact⟨by rw[<-R.fW];exact lo _ (by grind),by rw[R.cT];constructor <;> grind⟩
 obtain⟨k1,k2⟩:=key;rw[R.fG]at k2;have a0:=R.aN (V-e);have:=R.aG a0 (show 0<=R.ab C-1/2 by grind);grind
theorem aFS{l h:Int×Int}{V e:Rat}(bGP:bl l.1.natAbs<=100000)(bGO:bl h.1.natAbs<=100000)(lo:R.qz l<=V)(hi:V<=R.qz h)(he:e=1\/e=-1)(hv:R.ab (V-e)<=2*R.Jg):R.qz l<=e/\e<=R.qz h:=by
 have e0:=R.Nr;have et:=R.Hp;have ep:2*(2*R.Jg)<=R.pz (-((100010:Nat):Int)):=by
  have h1:=R.La (n:=100020) (by omega);rw[R.aSP 100020]at h1;have h2:=R.fJ (-((100010:Nat):Int)) (n:=10) (c:=1024) (by norm_cast);rw[show -((100010:Nat):Int)-((10:Nat):Int)=-((100020:Nat):Int) by omega]at h2;have:=R.dJ (-((100020:Nat):Int));grind
 have ex:∀q:Int×Int,bl q.1.natAbs<=100000->1/2<=R.ab (R.qz q)->-((100010:Nat):Int)<=q.2:=by
  intro q hb h;have n0:q.1≠0:=sV (by grind);have t:-1<=bB q:=Bw n0 (by
   have:=R.pU 0;rw[R.fS,show(0:Int)-1=-1 by rfl]at this;grind)
  unfold bB at t;omega
 rw[R.cT]at hv;rcases he with rfl |rfl
 ·constructor
  ·by_cases c:R.qz l<=1/2
   ·grind
   ·exact Qx (δ:=2*R.Jg) (by grind) ep (ex l bGP (by rw[R.bG (by grind)];grind)) lo (by grind)
  ·by_cases c:2<=R.qz h
   ·grind
   ·exact Qy (δ:=2*R.Jg) (by grind) ep (ex h bGO (by rw[R.bG (by grind)];grind)) hi (by grind)
 ·constructor
  ·have:=Qy (q:=(-l.1,l.2)) (T:=-V) (δ:=2*R.Jg) (by grind) ep (ex l bGP (by rw[<-R.fW,R.bG (by grind)];grind)) (by rw[mG];grind) (by grind);rw[mG]at this;grind
  ·by_cases c:-1/2<=R.qz h
   ·grind
   ·have:=Qx (q:=(-h.1,h.2)) (T:=-V) (δ:=2*R.Jg) (by grind) ep (ex h bGO (by rw[<-R.fW,R.bG (by grind)];grind)) (by rw[mG];grind) (by grind);rw[mG]at this;grind
end M
namespace M
open Go AI W
structure bGW(s c t:(Int×Int)×(Int×Int))(q:Int):Prop where
 sg:gA.vM c.1 c.2≠0
 bl:(M.bl s.1.1.natAbs<=262144/\M.bl s.2.1.natAbs<=262144/\M.bl c.1.1.natAbs<=262144/\M.bl c.2.1.natAbs<=262144)
 i1:fN (fL.Ci q s.1 s.2 c.1 c.2).1 (fL.Ci q s.1 s.2 c.1 c.2).2=true
 i2:fN (fL.Cj q s.1 s.2 c.1 c.2).1 (fL.Cj q s.1 s.2 c.1 c.2).2=true
 so:eB (mQ (aK (fL.Ci q s.1 s.2 c.1 c.2).1 (fL.Ci q s.1 s.2 c.1 c.2).2) (aK (fL.Cj q s.1 s.2 c.1 c.2).1 (fL.Cj q s.1 s.2 c.1 c.2).2))
 m:∃V,(R.qz t.1<=V/\V<=R.qz t.2)/\R.qz (aK (fL.Ci q s.1 s.2 c.1 c.2).1 (fL.Ci q s.1 s.2 c.1 c.2).2)<=V/\V<=R.qz (aK (fL.Cj q s.1 s.2 c.1 c.2).1 (fL.Cj q s.1 s.2 c.1 c.2).2)
theorem aPS(b:Int)(h:eQ.No 4 b=true):eQ.No 6 b=true/\((cV.mN 5 b=0/\eQ.Px 6 b=true)\/((cV.mN 5 b=1\/cV.mN 5 b=-1)/\cV.mN 4 b=0/\eQ.Px 6 b=false/\cV.mN 6 b=0)):=by
 unfold eQ.Px eQ.No cV.mN dS.wF at *;generalize fR.nI 64 b=q at *;obtain⟨m,e⟩:=q;dsimp only at *
 by_cases z:m=0
 ·by_cases c0:0<=e
  ·simp[z,c0]
  ·by_cases c1:e=-1 <;> simp[z,c0,c1]
 ·by_cases c0:0<=e
  ·cases hm:(e==0) <;> simp[z,c0,hm]
  ·by_cases c1:e=-1
   ·simp[z,c1]
   ·simp[z,c0,c1]at h
theorem aFL{b:Int}(h0:0<=b)(hf:bP.gW 64 b=true)(h:eQ.No 4 b=false):eQ.Px 6 b=false/\(eQ.No 6 b=true->R.qz (aZ.wQ (aZ.lR b))=-(1/4)/\cV.mN 6 b=if aZ.uP (aZ.lR b)%2=0 then -1 else 1):=by
 obtain⟨hp,_,_,_⟩:=aZ.Tt h0 hf;unfold eQ.Px eQ.No cV.mN at *;rw[show fR.nI 64 b=aZ.lR b from rfl]at *;generalize aZ.lR b=q at *;obtain⟨m,e⟩:=q;have ho:=hp.2.2.2;unfold dS.wF at *;dsimp only at *
 by_cases z:m=0
 ·simp[z]at h
 ·by_cases c0:0<=e
  ·simp[z,c0]at h
  ·by_cases c1:e=-1
   ·simp[z,c1]at h
   ·by_cases c2:e=-2
    ·subst c2;have bED:=ho z;have hK:aZ.uP (m,-2)=(m+1)/2:=by
      unfold aZ.uP;dsimp only;rw[if_neg (by decide),show p2 (-(-2:Int))=4 by decide,show p2 (1-(-2:Int))=8 by decide];omega
     have hR:aZ.Ek (m,-2)=-2:=by
      unfold aZ.Ek;rw[hK];dsimp only;rw[if_neg (by decide),show p2 (-(-2:Int))=4 by decide];omega
     refine⟨by simp[z],fun _=>⟨?_,?_⟩⟩
     ·show R.qz (aK (aZ.Ek (m,-2)) (-2-1))=_;rw[mT,hR];have e3:=R.fJ 0 (n:=3) (c:=8) (by norm_cast);rw[R.fS,show(0:Int)-((3:Nat):Int)=-2-1 by rfl]at e3;have:((-2:Int):Rat)=-2:=by norm_cast
      rw[this];grind
     ·rw[hK]
      by_cases h3:m%4=3
      ·have:(m+1)/2%2=0:=by omega
       simp[z,h3,this]
      ·have:¬(m+1)/2%2=0:=by omega
       simp[z,h3,this]
    ·simp[z,c0,c1,c2]
theorem bLF{r:Int×Int}(h:aQK r):R.ab (R.sn (R.qz r*R.pi))<=1/\R.ab (R.cs (R.qz r*R.pi))<=1:=by
 obtain⟨aSR,aSQ⟩:=R.iO;have a0:=R.aN (R.qz r);have ar:R.ab (R.qz r*R.pi)<=79/100:=by
  rw[R.fG,R.bG (show 0<=R.pi by grind)];have:=h.q;have:=R.aG a0 (show 0<=314160/100000-R.pi by grind);grind
 generalize R.qz r*R.pi=ρ at *;obtain⟨c1,c2⟩:=R.Lc (r:=ρ) (by grind);constructor
 ·rw[<-R.aCP (by grind)];obtain⟨x,y⟩:=R.Wl (R.aN ρ) (by grind);grind
 ·rw[R.bG (by grind)];grind
theorem aJE{e:Int}(he:e=1\/e=-1){q:Int}(hq:4<=q/\q<=70000):bGW ((0,0),(0,0)) ((e,0),(e,0)) ((0,0),(0,0)) q:=by
 have z0:Ev (0,0):=⟨by show bl 0<=_;rw[yH];omega,by decide,by decide⟩;have z1:Ev (1,0):=⟨bNX vF (by decide),by decide,by decide⟩;have o0:bl (0:Int).natAbs<=262144:=by show bl 0<=_;rw[yH];omega
 have oe:bl e.natAbs<=262144:=bNX (dV.2 (show e.natAbs<2^1 by omega)) (by decide);obtain⟨i1,p1,_⟩:=Ww false (p:=q) (by omega) z0 z1;obtain⟨i2,p2,_⟩:=Ww true (p:=q) (by omega) z0 z1;have q0:(0:Rat)*R.qz (1,0)=R.qz (0,0):=by rw[aSO];grind
 have n1:=(xW false (x:=(0,0)) (y:=(1,0)) (p:=q) (q:=0) (by omega) (by decide) q0).1 rfl;have n2:=(xW true (x:=(0,0)) (y:=(1,0)) (p:=q) (q:=0) (by omega) (by decide) q0).2 rfl;have qm:R.qz (-1,0)=-1:=by
  have:=mG (1,0);rw[mS]at this;exact this
 have sg:gA.vM (e,0) (e,0)=e:=by
  rcases he with rfl |rfl
  ·exact Th (by rw[mS];grind) bTP
  ·exact Ti (by rw[qm];grind)
 have eL:fL.Ci q (0,0) (0,0) (e,0) (e,0)=bI.nW false q (0,0) (1,0):=by
  unfold fL.Ci fL.Yv;rw[sg];rcases he with rfl |rfl
  ·rw[Ym];rfl
  ·show bI.nW false q (iD.sQ (0,0)) (bif decide (cO (iD.sQ (0,0)) (0,0)<0)then _ else _)=_;rw[show iD.sQ (0,0)=(0,0)from rfl,Ym];rfl
 have eH:fL.Cj q (0,0) (0,0) (e,0) (e,0)=bI.nW true q (0,0) (1,0):=by
  unfold fL.Cj fL.Yw;rw[sg];rcases he with rfl |rfl
  ·rw[Ym];rfl
  ·show bI.nW true q (iD.sQ (0,0)) (bif decide (cO (iD.sQ (0,0)) (0,0)<0)then _ else _)=_;rw[show iD.sQ (0,0)=(0,0)from rfl,Ym];rfl
 constructor
 ·rw[sg];omega
 ·exact⟨o0,o0,oe,oe⟩
 all_goals try rw[eL]
 all_goals try rw[eH]
 ·exact i1
 ·exact i2
 ·exact qQ p1 p2 (jT.2 (by grind))
 ·exact⟨0,⟨by rw[aSO];exact bTP,by rw[aSO];exact bTP⟩,n1.1,n2.1⟩
theorem aCC{b p:Int}(hb:0<=b)(hf:bP.gW 64 b=true)(hp:1<=p/\p<=66000) :
  (eQ.Fz 5 b p=((0,0),(0,0))/\eQ.Fz 6 b p=((0,0),(0,0))/\eQ.Px 6 b=true) \/
  ((eQ.Fz 5 b p).1.1≠0/\eQ.Px 6 b=false/\eB (mQ (eQ.Fz 6 b p).1 (eQ.Fz 6 b p).2)/\bGW (eQ.Fz 4 b p) (eQ.Fz 5 b p) (eQ.Fz 6 b p) (p+64)):=by
 obtain⟨⟨p4,p5,aVX⟩,_⟩:=Nn b;have bEG:aK 0 0=(0,0):=dO ..;have n1:∀e:Int,e=1\/e=-1->aK e 0=(e,0):=by
  intro e he;rcases he with rfl |rfl
  ·exact oL (p:=(1,0)) (by decide) (by decide)
  ·exact oL (p:=(-1,0)) (by decide) (by decide)
 cases hc:eQ.No 4 b with
 |true =>
  obtain⟨x6,h⟩:=aPS b hc;unfold eQ.Fz;rw[<-aVX,hc,p4,p5,x6,cond_true,cond_true,cond_true,cond_false,cond_false];rcases h with ⟨h5,h6⟩ |⟨h5,h4,h6,h7⟩
  ·left;rw[h5,bEG,h6];exact⟨rfl,rfl,rfl⟩
  ·right;rw[h4,h6,h7,cond_false,bEG,n1 _ h5];have:=aJE h5 (q:=p+64) (by omega);refine⟨by dsimp only;omega,rfl,?_,this⟩;have z:=(Xy (n:=1) (E:=0) (by decide)).uS;exact qQ z z (jT.2 bTP)
 |false =>
  right;have hr:=eQ.Tv hb hf (.inl rfl) hc;obtain⟨aMN,hq⟩:=aFL hb hf hc;unfold eQ.Fz;rw[<-aVX,hc,aMN,cond_false,cond_false,cond_false];generalize aZ.uP (aZ.lR b)=k at *;generalize aZ.wQ (aZ.lR b)=r at *;have N4:=Bu (k:=k) hr hp (.inl rfl);have N5:=Bu (k:=k) hr hp (.inr (.inl rfl));have N6:=Bu (k:=k) hr hp (.inr (.inr rfl));have v4:tv 4 k (R.sn (R.qz r*R.pi)) (R.cs (R.qz r*R.pi))=R.rs k (R.sn (R.qz r*R.pi)) (R.cs (R.qz r*R.pi)):=rfl;have v5:tv 5 k (R.sn (R.qz r*R.pi)) (R.cs (R.qz r*R.pi))=R.rc k (R.sn (R.qz r*R.pi)) (R.cs (R.qz r*R.pi)):=rfl;have v6:tv 6 k (R.sn (R.qz r*R.pi)) (R.cs (R.qz r*R.pi))=R.rs k (R.sn (R.qz r*R.pi)) (R.cs (R.qz r*R.pi))/R.rc k (R.sn (R.qz r*R.pi)) (R.cs (R.qz r*R.pi)):=rfl;have b4:=N4.bGR (.inl rfl);have b5:=N5.bGR (.inr rfl);have S0:=N4.v0;have C0:=N5.v0;have b6:=N6.bx;have l4:=N4.vl;have l5:=N5.vl;have o4:=N4.on (.inl rfl);have o5:=N5.on (.inr rfl);rw[v4]at b4 S0 l4;rw[v5]at b5 C0 l5;rw[v6]at b6;obtain⟨S,hS⟩:∃S,S=R.rs k (R.sn (R.qz r*R.pi)) (R.cs (R.qz r*R.pi)):=⟨_,rfl⟩;obtain⟨C,hC⟩:∃C,C=R.rc k (R.sn (R.qz r*R.pi)) (R.cs (R.qz r*R.pi)):=⟨_,rfl⟩;have aVQ:S/C*C=S:=by rw[<-hC]at C0;grind
  have aSX:=fun(h1:R.qz r*R.pi=-(1/4)*R.pi) (e:Rat) he=>aCF (k:=k) (V:=S/C) (e:=e) h1 he (by rw[<-hS,<-hC];exact aVQ)
  have Af:R.ab C<=1:=by
   obtain⟨aSR,aSQ⟩:=R.iO;have a0:=R.aN (R.qz r);have:=bLF hr;rw[hC,aDC];split
   ·exact this.2
   ·exact this.1
  rw[<-hS]at b4 S0 l4 b6;rw[<-hC]at b5 C0 l5 b6;have pp:R.pz (-p-5)<=1/64:=by
   have:=R.dR (show -p-5<=-6 by omega);have e:=R.fJ 0 (n:=6) (c:=64) (by norm_cast);rw[R.fS,show(0:Int)-((6:Nat):Int)=-6 by rfl]at e;grind
  have bHU:=R.dJ (-p-5);have n4:=Nz b4 pp S0;have n5:=Nz b5 pp C0;have bEB:=R.dJ (-1075);have aVU:R.pz (-1300)<=R.pz (-1075)/2:=by
   have:=R.pU (-1075);have:=R.dR (show(-1300:Int)<=-1075-1 by omega);grind
  have z1:Ev (tO 4 k r p).1:=wM b4.bl (sV (by grind)) (by grind) (by have:=o4.1;grind);have z2:Ev (tO 4 k r p).2:=wM b4.bh (sV (by grind)) (by grind) (by have:=o4.2;grind);have z3:Ev (tO 5 k r p).1:=wM b5.bl (sV (by grind)) (by grind) (by have:=o5.1;grind);have z4:Ev (tO 5 k r p).2:=wM b5.bh (sV (by grind)) (by grind) (by have:=o5.2;grind);obtain⟨q0,q1,q2,bq⟩:=aDF (p:=p+64) b4 b5 S0 C0 Af (bSJ bHU) pp aVQ (by omega) z1 z2 z3 z4;have aYA:∀{n:Nat},n<=100000->n<=262144:=fun h=>bNX h (by decide)
  have m0:=bq.m0;have bHR:=bq.lo;have bHS:=bq.hi;dsimp only at bHR bHS;refine⟨sV (by grind),rfl,?_,q0,⟨aYA z1.1,aYA z2.1,aYA z3.1,aYA z4.1⟩,q1,q2,bq.Yz,?_⟩
  ·cases h6:eQ.No 6 b with
   |true =>
    rw[cond_true];have e6:=(hq h6).2;have he:cV.mN 6 b=1\/cV.mN 6 b=-1:=by rw[e6];split <;> omega
    exact(Ns (z:=cV.mN 6 b) (p:=1) (by omega) (by decide)).sp
   |false=>exact b6.Yz
  ·cases h6:eQ.No 6 b with
   |true =>
    rw[cond_true];obtain⟨eq,e6⟩:=hq h6;have he:cV.mN 6 b=1\/cV.mN 6 b=-1:=by rw[e6];split <;> omega
    have en:=Ns (z:=cV.mN 6 b) (p:=1) (by omega) (by decide);have one:((1:Int):Rat)=1:=by norm_cast
    have aOH:((-1:Int):Rat)=-1:=by norm_cast
    have nr:=aSX (by rw[eq]) ((cV.mN 6 b:Int):Rat) (by rw[e6];split <;> assumption);have ends:=aFS bq.bl bq.bh (V:=S/C) (e:=((cV.mN 6 b:Int):Rat)) (by dsimp only;grind) (by dsimp only;grind) (he.elim (fun h=>.inl (by rw[h];exact one)) (fun h=>.inr (by rw[h];exact aOH))) nr;exact⟨_,⟨en.lo,en.hi⟩,ends⟩
   |false =>
    rw[cond_false];have blo:=b6.lo;have bhi:=b6.hi;have bm:=b6.m0;exact⟨S/C,⟨by grind,by grind⟩,by grind,by grind⟩
end M
namespace W
open Go AI M
namespace aHF
def E:=mE [(75,aHG.aH)] 28 [26] [] []
def aE:=bd f29
theorem aU:Nk E aE:=nk
theorem start a b c d e f:aF E f29 aE [D.agg [sc (bool a),ints u64 b,sc (int i64 c)],D.agg [sc (bool d),ints u64 e,sc (int i64 f)]]=letI A:=some [D.s (sc (bool false))];aB (a==d) (aB (c==f) (aQ (b.length<=4398046511104/\e.length<=4398046511104) (some [D.s (sc (bool (decide (b=e))))])) A) A:=eJ aU
def sp(x y:dU):Prop×List D:=(aJ x/\aJ y,[.s (.sc (.bool (decide (dv x=dv y))))])
theorem aCZ{x y:Bool×List Int×Int}(hx:aJ x)(hy:aJ y):dv x=dv y↔x=y:=by
 constructor
 ·intro h;have e:=congrArg M.dD h;rw[hx.dD,hy.dD]at e;obtain⟨b,a,e1⟩:=x;obtain⟨c,d,f⟩:=y;simp at e;obtain⟨h1,h2,h3⟩:=e;rw[h1,h2,h3]
 ·intro h;rw[h]
theorem spec:fO E f29 aE hZ hZ sp:=by
 rintro x y ⟨hx,hy⟩;refine(start x.1 x.2.1 x.2.2 y.1 y.2.1 y.2.2).trans ?_;have lx:=hx.len;have ly:=hy.len;have hs:=aCZ hx hy;show _=some [D.s (.sc (.bool (decide (dv x=dv y))))];obtain⟨b,a,e⟩:=x;obtain⟨c,d,f⟩:=y
 try dsimp only at *
 by_cases h1:b=c
 ·subst h1;rw[aGX (by simp)]
  by_cases h2:e=f
  ·rw[cF h2,gP];subst h2
   by_cases h3:a=d
   ·rw[decide_eq_true h3,decide_eq_true (hs.2 (by rw[h3]))]
   ·rw[decide_eq_false h3,decide_eq_false (fun h=>h3 (by have:=hs.1 h;simpa using this))]
  ·rw[bS h2,decide_eq_false (fun h=>h2 (by have:=hs.1 h;simp at this;exact this.2))]
 ·rw[Hz (by simpa using h1),decide_eq_false (fun h=>h1 (by have:=hs.1 h;simp at this;exact this.1))]
def aH:dC:=orc2 hZ hZ sp
theorem ok:OK 29 aH:=(eI E aE (aA aHG.ok aD) func29).lP rfl spec
end aHF
namespace uH
def E:=mE [(29,aHF.aH)] 17 [15] [] []
def aE:=bd f51
theorem aU:Nk E aE:=nk
theorem start a b c d e f g h i j k l:aF E f51 aE [D.agg [sc (bool a),ints u64 b,sc (int i64 c),sc (bool d),ints u64 e,sc (int i64 f)],D.agg [sc (bool g),ints u64 h,sc (int i64 i),sc (bool j),ints u64 k,sc (int i64 l)]]=aQ (aJ (a,b,c)/\aJ (g,h,i)) (aB (decide (dv (a,b,c)=dv (g,h,i))) (aQ (aJ (d,e,f)/\aJ (j,k,l)) (some [D.s (sc (bool (decide (dv (d,e,f)=dv (j,k,l)))))])) (some [D.s (sc (bool false))])):=eJ aU
abbrev rQ:=Bool×List Int×Int×Bool×List Int×Int
def lo(x:rQ):dU:=(x.1,x.2.1,x.2.2.1)
def hi(x:rQ):dU:=(x.2.2.2.1,x.2.2.2.2.1,x.2.2.2.2.2)
def sp(x y:rQ):Prop×List D:=((aJ (lo x)/\aJ (lo y))/\aJ (hi x)/\aJ (hi y),[.s (.sc (.bool (decide (dv (lo x)=dv (lo y))&&decide (dv (hi x)=dv (hi y)))))])
theorem spec:fO E f51 aE sT sT sp:=by
 rintro x y ⟨h1,h2⟩;refine(start x.1 x.2.1 x.2.2.1 x.2.2.2.1 x.2.2.2.2.1 x.2.2.2.2.2 y.1 y.2.1 y.2.2.1 y.2.2.2.1 y.2.2.2.2.1 y.2.2.2.2.2).trans ((gP h1).trans ?_)
 by_cases hc:dv (lo x)=dv (lo y)
 ·have:decide (dv (x.1,x.2.1,x.2.2.1)=dv (y.1,y.2.1,y.2.2.1))=true:=decide_eq_true hc;rw[this,bT];refine(gP h2).trans ?_;unfold sp;rw[decide_eq_true hc,bQC];rfl
 ·have:decide (dv (x.1,x.2.1,x.2.2.1)=dv (y.1,y.2.1,y.2.2.1))=false:=decide_eq_false hc;rw[this,bF];unfold sp;rw[decide_eq_false hc,bSL]
def aH:dC:=orc2 sT sT sp
theorem ok:OK 51 aH:=(eI E aE (aA aHF.ok aD) func51).lP rfl spec
end uH
namespace Be
def E:=mE [(227,aYG.aH)] 29 [] [(6,[0,3]),(4,[0,3])] [6]
def aE:=bd f201
theorem aU:Nk E aE:=nk
def L4 a b:=nU E f201 aE 4 [wG a,bR b]
def J6 a b:=lD E f201 aE 6 [wG a,bR b]
def L6 a b:=nU E f201 aE 6 [wG a,bR b]
theorem start a:aF E f201 aE [D.s (ints u32 a)]=aB ((a.length:Int)==(0:Int)) (some [D.s (sc (int i64 0))]) (Be.L4 a 0):=eJ aU
theorem kV a b:L4 a b=letI A:=b.tdiv 32;aB (decide (i64.wrap A<(a.length:Int))) (if 0<=i64.wrap A/\i64.wrap A<(a.length:Int)then aB (a.getD (i64.wrap A).toNat 0==(0:Int)) (Be.L4 a (i64.wrap (b+32))) (Be.J6 a b)else none) (Be.J6 a b):=lJ aU
theorem Ls a b:J6 a b=Be.L6 a b:=cJ aU
theorem yY a b:L6 a b=aQ (cB a/\a.length<=1099511627776/\(-9223372036854775808:Int)<=b/\b<9223372036854775808) (aB ((if b<0 then(0:Int)else(↑(val a/(2:Nat)^b.toNat%2):Int))==0) (Be.L6 a (i64.wrap (b+1))) (some [D.s (sc (int i64 b))])):=lJ aU
theorem aSH{v k:Nat}(hv:v≠0)(h:v%2^k=0):k<=tz v:=by
 have hd:=bSI v (2^k);rw[h,Nat.add_zero]at hd;have hq:v/2^k≠0:=fun hq=>by rw[hq,Nat.mul_zero]at hd;omega
 have:=Lx hq k;rw[hd]at this;omega
theorem lp{a:List Int}(ha:cB a)(hl:a.length<=1099511627776)(hv:val a≠0)(ht:tz (val a)<70368744177664):∀(d n:Nat),n+d=tz (val a)->L6 a (n:Int)=some [D.s (.sc (.int .i64 (tz (val a):Int)))]:=by
 have hs:=oW _ hv;intro d
 induction d with
 |zero =>
  intro n hd;have:n=tz (val a):=by omega
  subst this;rw[yY,gP ⟨ha,hl,by omega,by omega⟩,aX,bQX,bS]
 |succ d ih =>
  intro n hd;have h0:val a/2^n%2=0:=by
   have aKB:=bSI (val a) (2^tz (val a));rw[hs.1,Nat.add_zero]at aKB;have:val a=2^n*(2*(2^d*(val a/2^tz (val a)))):=by
    have e:2^tz (val a)=2^n*(2*2^d):=by rw[<-hd,Nat.pow_add,bSA,Nat.mul_comm (2^d)]
    generalize val a/2^tz (val a)=q at *;rw[<-Nat.mul_assoc 2,<-Nat.mul_assoc (2^n),<-e];exact aKB.symm
   rw[this,Nat.mul_div_cancel_left _ (bQA (by decide))];omega
  rw[yY,gP ⟨ha,hl,by omega,by omega⟩,aX,bQX,h0,cF (show((0:Nat):Int)=0 from rfl),wrap_i64];exact ih (n+1) (by omega)
theorem skip{a:List Int}(ha:cB a)(hl:a.length<=1099511627776)(hv:val a≠0)(ht:tz (val a)<70368744177664):∀(d i:Nat),i+d=a.length->val (a.take i)=0->L4 a ((32*i:Nat):Int)=some [D.s (.sc (.int .i64 (tz (val a):Int)))]:=by
 have key:∀i,val (a.take i)=0->32*i<=tz (val a)/\i<a.length:=by
  intro i h0;have iN:i<a.length:=by
   rcases Nat.lt_or_ge i a.length with h |h
   ·exact h
   ·rw[List.take_of_length_le h]at h0;exact(hv h0).elim
  refine⟨aSH hv ?_,iN⟩;have h1:=gE a (n:=i) (by omega);rw[h0,Nat.zero_add]at h1;rw[<-Kp,h1,Nat.mul_mod_right]
 intro d
 induction d with
 |zero=>intro i hd h0;have:=key i h0;omega
 |succ d ih =>
  intro i hd h0;have hk:=key i h0;have t1:(((32*i:Nat):Int)).tdiv 32=(i:Int):=by rw[Int.tdiv_eq_ediv_of_nonneg (by omega)];omega
  have g:=ha.get i;rw[kV,t1,wrap_i64 (n:=(i:Int)),aO,aT,bQX]
  by_cases hc:a.getD i 0=0
  ·rw[cF hc,wrap_i64];have:=ih (i+1) (by omega) (by rw[cA,h0,hc];simp);rw[show((32*i:Nat):Int)+32=((32*(i+1):Nat):Int) by omega];exact this
  ·rw[bS hc,Ls];exact lp ha hl hv ht (tz (val a)-32*i) (32*i) (by omega)
def sp(a:List Int):Prop×List D:=(cD a/\a.length<=1099511627776,[.s (.sc (.int .i64 (if val a=0 then 0 else(tz (val a):Int))))])
theorem spec:gO E f201 aE (pI .u32) sp:=by
 rintro a ⟨ha,hl⟩;refine(start a).trans ?_;show _=some [D.s (.sc (.int .i64 (if val a=0 then 0 else(tz (val a):Int))))]
 by_cases h0:a.length=0
 ·rw[cF,if_pos ((cS ha).1 h0)]
 ·have hv:val a≠0:=fun h=>h0 ((cS ha).2 h)
  have ht:tz (val a)<70368744177664:=by
   have h1:=Fx hv;have h2:=cK ha.iX;rw[Kp]at h2;have:=(cBP (by decide:1<2)).1 (bTQ h1 h2);omega
  rw[bS,if_neg hv];exact skip ha.iX hl hv ht a.length 0 (by omega) (by simp[val])
def aH:dC:=orc1 (pI .u32) sp
theorem ok:OK 201 aH:=(eI E aE (aA aYG.ok aD) func201).nD rfl spec
end Be
namespace Ef
def E:=mE [(201,Be.aH),(202,bDF.aH),(140,Mk.aH),(133,bDC.aH)] 52 [] [(5,[1,2,4]),(9,[1,2,4,6,7])] [5,9]
def aE:=bd f161
theorem aU:Nk E aE:=nk
def J5 a b c d e:=lD E f161 aE 5 [bR a,dG 1 117 [cG b,aSG c],dG 2 29 [cG d,sc (slice none 0 0),cP e]]
def J9 a b c d e f g:=lD E f161 aE 9 [bR a,dG 1 117 [cG b,aSG c],dG 2 29 [cG d,sc (slice none 0 0),cP e],bR f,wG g]
theorem start a c b:aF E f161 aE [D.agg [sc (bool a),ints u32 c],D.s (sc (int i64 b))]=letI B:=int i64 0;letI A:=some [D.agg [sc (bool false),sc (slice none 0 0),sc B],D.s (sc (int i64 5))];aB ((c.length:Int)==(0:Int)) (some [D.agg [sc (bool false),sc (slice none 0 0),sc B],D.s (sc B)]) (aB (decide (1048576<b)) A (aB (decide (b<(-1099511627776:Int))) A (Ef.J5 b a c false 0))):=eJ aU
theorem It a b c d e:J5 a b c d e=letI A:=some [D.agg [sc (bool false),sc (slice none 0 0),sc (int i64 0)],D.s (sc (int i64 5))];aQ (cD c/\c.length<=1099511627776) (aC (if val c=0 then(0:Int)else(↑(tz (val c)):Int)) fun f=>aQ (cB c/\c.length<=1099511627776/\f<9223372036854775808) (aC (dg (val c/(2:Nat)^f.toNat)) fun g=>aB (decide (16384<(g.length:Int))) A (aB (decide (i64.wrap (a+f)<(-1048576:Int))) A (aB (decide (1048576<i64.wrap (a+f))) A (Ef.J9 a b c d e f g))))):=cJ aU
theorem Si a b c d e f g:J9 a b c d e f g=letI A:=(isNeg (zs b (val g)),dg (zs b (val g)).natAbs);aQ (cB g/\g.length<=4398046511104) (aQ (aHB A) (aC (isNeg (zv A)) fun h=>aC (M6.dg (zv A).natAbs) fun i=>some [D.agg [sc (bool h),ints u64 i,sc (int i64 (i64.wrap (a+f)))],D.s (sc (int i64 0))])):=cJ aU
def jW(z e:Int):Bool:=fN z e&&fit (aK z e).1.natAbs
def sp(x:Bool×List Int)(e:Int):Prop×List D:=(aHB x/\x.2.length<=268435456/\-4611686018427387904<=e/\e<4611686018427387904,dE (jW (zv x) e) (aK (zv x) e))
theorem kF(p:Int×Int)(ok:Bool)(n:Int)(h1:ok=true->p=(0,0))(h2:n=bif ok then 0 else 5):fX [D.agg [.sc (.bool false),.sc (.slice none 0 0),.sc (.int .i64 0)],.s (.sc (.int .i64 n))] (dE ok p):=by
 subst h2;have:(bif ok then p else((0:Int),(0:Int)))=(0,0):=by
  cases ok with
  |true=>exact h1 rfl
  |false=>rfl
 unfold dE;rw[this];refine .cons ?_ (fX.refl _);unfold dD;rw[show((0,0):Int×Int).1.natAbs=0 from rfl,M6.bN];exact vZ.agg (.cons (yQ.refl _) (.cons (yQ.nil _) (uK.refl _)))
theorem Zk{n k:Nat}(h:bl n<=32*k):(dg n).length<=k:=cR (by rw[Kp];exact dV.1 h)
theorem aKM{n:Nat}:fit n=decide ((dg n).length<=16384):=by
 unfold fit
 by_cases h:bl n<=524288
 ·rw[decide_eq_true h,decide_eq_true (Zk (k:=16384) (by omega))]
 ·rw[decide_eq_false h,decide_eq_false (fun hl=>h ?_)];have:=aGV (iP n) hl;rw[bJ]at this;omega
theorem spec:Eu E f161 aE aWY (pN .i64) sp:=by
 rintro x e ⟨hx,lx,aII,Zw⟩;have s:=start x.1 x.2 e;have hz:=cS hx.1;have bx:=aGV hx.1.iX lx;have hn:=hx.1;obtain⟨b,a⟩:=x
 try dsimp only at *
 unfold sp
 try dsimp only
 have ha:(zv (b,a)).natAbs=val a:=aNI (b,a)
 by_cases h0:a.length=0
 ·have hv:zv (b,a)=0:=by have:=hz.1 h0;omega
  rw[cF]at s;exact⟨_,s,kF _ _ _ (fun _=>by rw[hv,dO]) (by unfold jW;rw[hv,dO];rfl)⟩
 ·have hv:val a≠0:=fun h=>h0 (hz.2 h)
  have hw:zv (b,a)≠0:=by omega
  have ht:=zX hv;obtain⟨n1,n2⟩:=jK (e:=e) hw;rw[ha]at n2;have Je:fN (zv (b,a)) e=(decide (-1048576<=e+(tz (val a):Int))&&decide (e+(tz (val a):Int)<=1048576)):=by
   unfold fN;rw[decide_eq_false hw,bPC,ha]
  have bFF:aK (zv (b,a)) e=(zs b (val a/2^tz (val a)),e+(tz (val a):Int)):=by
   unfold aK;rw[if_neg hw,ha];have:=aBN (b:=b) (bQA (n:=tz (val a)) (show 0<2 by decide)) (oW _ hv).1;rw[<-this];rfl
  have Jo:fit (aK (zv (b,a)) e).1.natAbs=decide ((dg (val a/2^tz (val a))).length<=16384):=by
   rw[bFF,<-aKM]
   try dsimp only
   rw[kD]
  have no:fN (zv (b,a)) e=false->jW (zv (b,a)) e=false:=fun h=>by unfold jW;rw[h];rfl
  rw[bS]at s
  by_cases c1:1048576<e
  ·rw[aO c1]at s;exact⟨_,s,kF _ _ _ (fun h=>by rw[no (by rw[Je,decide_eq_false (show ¬e+(tz (val a):Int)<=1048576 by omega),bSO])]at h;cases h) (by rw[no (by rw[Je,decide_eq_false (show ¬e+(tz (val a):Int)<=1048576 by omega),bSO])];rfl)⟩
  ·rw[aI c1]at s
   by_cases c2:e < -1099511627776
   ·rw[aO c2]at s;have hf:jW (zv (b,a)) e=false:=no (by rw[Je,decide_eq_false (show ¬-1048576<=e+(tz (val a):Int) by omega),bSL]);exact⟨_,s,kF _ _ _ (fun h=>by rw[hf]at h;cases h) (by rw[hf];rfl)⟩
   ·have aMT:=Ua (val a) (2^tz (val a));rw[show(dg (val a)).length=a.length from aJM hn]at aMT;rw[aI c2,It,gP ⟨hn,by omega⟩,if_neg hv,vl,gP ⟨hn.iX,by omega,by omega⟩,bQX,vl,wrap_i64 (n:=e+(tz (val a):Int)) (by omega) (by omega)]at s
    by_cases c3:(16384:Int)<((dg (val a/2^tz (val a))).length:Int)
    ·rw[aO c3]at s;have hf:jW (zv (b,a)) e=false:=by unfold jW;rw[Jo,decide_eq_false (by omega),bSO]
     exact⟨_,s,kF _ _ _ (fun h=>by rw[hf]at h;cases h) (by rw[hf];rfl)⟩
    ·rw[aI c3]at s
     by_cases c4:e+(tz (val a):Int) < -1048576
     ·rw[aO c4]at s;have hf:jW (zv (b,a)) e=false:=no (by rw[Je,decide_eq_false (show ¬-1048576<=e+(tz (val a):Int) by omega),bSL]);exact⟨_,s,kF _ _ _ (fun h=>by rw[hf]at h;cases h) (by rw[hf];rfl)⟩
     ·rw[aI c4]at s
      by_cases c5:1048576<e+(tz (val a):Int)
      ·rw[aO c5]at s;have hf:jW (zv (b,a)) e=false:=no (by rw[Je,decide_eq_false (show ¬e+(tz (val a):Int)<=1048576 by omega),bSO]);exact⟨_,s,kF _ _ _ (fun h=>by rw[hf]at h;cases h) (by rw[hf];rfl)⟩
      ·have aMJ:aHB (isNeg (zs b (val a/2^tz (val a))),dg (zs b (val a/2^tz (val a))).natAbs):=aBO (by rw[kD];omega);rw[aI c5,Si,gP ⟨iP _,by omega⟩,bJ,gP aMJ,aLP,vl,vl,wrap_i64 (n:=e+(tz (val a):Int)) (by omega) (by omega)]at s;refine⟨_,s,?_⟩;have ht:jW (zv (b,a)) e=true:=by
        unfold jW;rw[Je,Jo,decide_eq_true (show -1048576<=e+(tz (val a):Int) by omega),decide_eq_true (show e+(tz (val a):Int)<=1048576 by omega),decide_eq_true (by omega)];rfl
       rw[ht,bFF];exact fX.refl _
def aH:dC:=orc2 aWY (pN .i64) sp
theorem ok:OK 161 aH:=(eI E aE (aA Be.ok (aA bDF.ok (aA Mk.ok (aA bDC.ok aD)))) func161).aBB rfl spec
end Ef
namespace Vr
def E:=mE [(89,bDD.aH),(161,Ef.aH)] 12 [] [] []
def aE:=bd f108
theorem aU:Nk E aE:=nk
theorem start a:aF E f108 aE [D.s (sc (int i64 a))]=letI B:=(isNeg a,dg a.natAbs);letI A:=bif Ef.jW (zv B) 0 then aK (zv B) 0 else((0:Int),(0:Int));aQ ((-9223372036854775808:Int)<=a/\a<9223372036854775808) (aQ (aHB B/\(dg a.natAbs).length<=268435456/\(-4611686018427387904:Int)<=(0:Int)/\(0:Int)<(4611686018427387904:Int)) (aC (isNeg A.fst) fun b=>aC (M6.dg A.fst.natAbs) fun c=>aC A.snd fun d=>some [D.agg [sc (bool b),ints u64 c,sc (int i64 d)]])):=eJ aU
def sp(a:Int):Prop×List D:=(-9223372036854775808<=a/\a<9223372036854775808,[dD (aK a 0)])
theorem spec:gO E f108 aE (pN .i64) sp:=by
 intro a h;have h:-9223372036854775808<=a/\a<9223372036854775808:=h;have hb:bl a.natAbs<=64:=dV.2 (by omega);have hl:(dg a.natAbs).length<=2:=cR (by omega);refine(start a).trans ((gP h).trans ((gP ⟨aBO (by omega),by(try dsimp only);omega,by omega,by omega⟩).trans ?_));rw[aLP];have:Ef.jW a 0=true:=by
  unfold Ef.jW fit;have:=Am a 0;rw[fP (by omega) (by omega),decide_eq_true (bNX (gU this) (by omega))];rfl
 rw[this,cond_true,nZ];rfl
def aH:dC:=orc1 (pN .i64) sp
theorem ok:OK 108 aH:=(eI E aE (aA bDD.ok (aA Ef.ok aD)) func108).nD rfl spec
end Vr
namespace Vm
def E:=mE [(108,Vr.aH)] 8 [] [] []
def aE:=bd f52
theorem aU:Nk E aE:=nk
theorem start a:aF E f52 aE [D.s (sc (int i64 a))]=letI A:=aK a 0;letI B:=M6.dg A.fst.natAbs;aQ ((-9223372036854775808:Int)<=a/\a<9223372036854775808) (aC (isNeg A.fst) fun b=>aC B fun c=>aC A.snd fun d=>aQ ((-9223372036854775808:Int)<=a/\a<9223372036854775808) (aC (isNeg A.fst) fun e=>aC B fun f=>aC A.snd fun g=>some [D.agg [sc (bool b),ints u64 c,sc (int i64 d),sc (bool e),ints u64 f,sc (int i64 g)]])):=eJ aU
def sp(m:Int):Prop×List D:=(-9223372036854775808<=m/\m<9223372036854775808,[zL.sD (aK m 0) (aK m 0)])
theorem spec:gO E f52 aE (pN .i64) sp:=by
 intro m h;have h:-9223372036854775808<=m/\m<9223372036854775808:=h;refine(start m).trans ?_;rw[gP h,nZ,gP h,nZ];rfl
def aH:dC:=orc1 (pN .i64) sp
theorem ok:OK 52 aH:=(eI E aE (aA Vr.ok aD) func52).nD rfl spec
end Vm
namespace Vn
def E:=mE [(30,aZ.aH),(50,fR.aH),(18,cV.aH),(51,uH.aH),(52,Vm.aH)] 59 [57] [] []
def aE:=bd f16
theorem aU:Nk E aE:=nk
theorem start:aF E f16 aE []=letI B:=aK (-1:Int) 0;letI F:=M6.dg B.fst.natAbs;letI A:=aK (cV.mN 4 4609434218613702656) 0;letI C:=M6.dg A.fst.natAbs;aQ ((0:Int)<=(4598175219545276416:Int)/\(4598175219545276416:Int)<(18446744073709551616:Int)) (aC (isNeg (bif bP.gW 64 4598175219545276416 then aZ.wQ (aZ.lR 4598175219545276416)else((0:Int),(0:Int))).fst) fun a=>aQ ((0:Int)<=(4609434218613702656:Int)/\(4609434218613702656:Int)<(18446744073709551616:Int)) (aQ (((0:Int)<=(4609434218613702656:Int)/\(4609434218613702656:Int)<(18446744073709551616:Int))/\cV.aHU 4 4609434218613702656 7) (aC (isNeg A.fst) fun b=>aC C fun c=>aC A.snd fun d=>aC (isNeg A.fst) fun e=>aC C fun f=>aC A.snd fun g=>aB (!a) (some [D.s (sc (bool false))]) (aQ ((-9223372036854775808:Int)<=(-1:Int)/\(-1:Int)<(9223372036854775808:Int)) (aC (isNeg B.fst) fun h=>aC F fun i=>aC B.snd fun j=>aC (isNeg B.fst) fun k=>aC F fun l=>aC B.snd fun m=>aQ ((aJ (b,c,d)/\aJ (h,i,j))/\aJ (e,f,g)/\aJ (k,l,m)) (aC (decide (dv (uH.lo (b,c,d,e,f,g))=dv (uH.lo (h,i,j,k,l,m)))&&decide (dv (uH.hi (b,c,d,e,f,g))=dv (uH.hi (h,i,j,k,l,m)))) fun n=>some [D.s (sc (bool n))])))))):=eJ aU
theorem aYY:aZ.lR 4598175219545276416=(1,-2):=by
 have e1:bQ.mD 64 4598175219545276416=1*p2 52:=by decide
 have e2:bQ.mF 64 4598175219545276416=-54:=by decide
 unfold aZ.lR;rw[e1,e2,uU _ _ (by omega)];exact oL (p:=(1,-2)) (by decide) (by decide)
theorem aSW:fR.nI 64 4609434218613702656=(3,-1):=by
 have e1:bQ.mD 64 4609434218613702656=3*p2 51:=by decide
 have e2:bQ.mF 64 4609434218613702656=-52:=by decide
 unfold fR.nI;rw[e1,e2,uU _ _ (by omega)];exact oL (p:=(3,-1)) (by decide) (by decide)
theorem aYL:aZ.wQ (1,-2)=(-1,-2):=by
 have e1:aZ.Ek (1,-2)=-(1*p2 1):=by decide
 unfold aZ.wQ;rw[e1,Qf,uU _ _ (by omega)];show(-(aK 1 (-2)).1,(aK 1 (-2)).2)=_;rw[oL (p:=(1,-2)) (by decide) (by decide)]
theorem bCN:bP.gW 64 4598175219545276416=true:=by decide
theorem bCM:bP.gW 64 4609434218613702656=true:=by decide
theorem aVW:cV.aHU 4 4609434218613702656 7/\cV.mN 4 4609434218613702656=-1:=by
 refine⟨⟨rfl,by omega,by omega,bCM,fun _=>?_⟩,?_⟩
 ·rw[aSW];exact⟨rfl,by decide⟩
 ·unfold cV.mN;rw[aSW];rfl
def sp:Prop×List D:=(True,[.s (.sc (.bool true))])
theorem spec(h:sp.1):aF E f16 aE []=some sp.2:=by
 have hn:jG (aK (-1) 0):=fM (fP (by omega) (by have:=Oc vF;omega)) (by have:=Oc vF;omega);refine start.trans ?_;rw[bCN,cond_true,aYY,aYL,gP,vl,gP,gP ⟨by omega,aVW.1⟩,aVW.2];show aC (isNeg (aK (-1) 0).1) _=_;rw[nZ,nZ];show aQ _ (aC (isNeg (aK (-1) 0).1) _)=_;rw[gP,nZ,nZ,gP ⟨⟨cQ hn,cQ hn⟩,cQ hn,cQ hn⟩,vl,decide_eq_true rfl,decide_eq_true rfl];rfl
def aH:dC:=orc0  sp
theorem ok:OK 16 aH:=(eI E aE (aA aZ.ok (aA fR.ok (aA cV.ok (aA uH.ok (aA Vm.ok aD))))) func16).aRD spec
end Vn
namespace Ox
def E:=mE [] 6 [] [] []
def aE:=bd f28
theorem aU:Nk E aE:=nk
theorem start a:aF E f28 aE [D.s (sc (int u64 a))]=some [D.s (sc (bool (decide (a.tmod 9223372036854775808<(9218868437227405312:Int)))))]:=eJ aU
def sp(b:Int):Prop×List D:=(0<=b/\b<18446744073709551616,[.s (.sc (.bool (bP.gW 64 b)))])
theorem spec:gO E f28 aE (pN .u64) sp:=by
 intro b h;have h:0<=b/\b<18446744073709551616:=h;refine(start b).trans ?_;rw[Int.tmod_eq_emod_of_nonneg h.1];rfl
def aH:dC:=orc1 (pN .u64) sp
theorem ok:OK 28 aH:=(eI E aE aD func28).nD rfl spec
end Ox
namespace Lq
def E:=mE [(28,Ox.aH)] 15 [] [] []
def aE:=bd f17
theorem aU:Nk E aE:=nk
theorem start a b:aF E f17 aE [D.s (sc (int u64 a)),D.s (sc (int i64 b))]=letI A:=some [D.s (sc (bool false))];aQ (0<=a/\a<18446744073709551616) (aB (bP.gW 64 a) (aB (decide (1<=b)) (some [D.s (sc (bool (decide (b<=66000))))]) A) A):=eJ aU
def aFH(b p:Int):Bool:=bP.gW 64 b&&(decide (1<=p)&&decide (p<=66000))
def sp(b p:Int):Prop×List D:=(0<=b/\b<18446744073709551616,[.s (.sc (.bool (aFH b p)))])
theorem spec:fO E f17 aE (pN .u64) (pN .i64) sp:=by
 intro b p h;refine(start b p).trans ((gP h).trans ?_);unfold sp aFH;dsimp only;cases hf:bP.gW 64 b with
 |false=>rfl
 |true =>
  rw[bT,bQC]
  by_cases c:1<=p
  ·rw[aO c,decide_eq_true c,bQC]
  ·rw[aI c,decide_eq_false c,bSL]
def aH:dC:=orc2 (pN .u64) (pN .i64) sp
theorem ok:OK 17 aH:=(eI E aE (aA Ox.ok aD) func17).lP rfl spec
end Lq
namespace Ou
def E:=mE [] 8 [] [] []
def aE:=bd f19
theorem aU:Nk E aE:=nk
theorem start a b c:aF E f19 aE [D.agg [sc (bool a),ints u64 b,sc (int i64 c)]]=some [D.s (sc (bool ((b.length:Int)==(0:Int))))]:=eJ aU
def sp(x:dU):Prop×List D:=(aJ x,[.s (.sc (.bool (decide ((dv x).1=0))))])
theorem spec:gO E f19 aE hZ sp:=by
 intro x h;have h:aJ x:=h;refine(start x.1 x.2.1 x.2.2).trans ?_;have hl:(x.2.1.length=0)↔(dv x).1=0:=by
  have e:=h.Dr.cells.2;dsimp only at e;rw[<-e,M6.fZ];show(wv (x.1,x.2.1)).natAbs=0↔wv (x.1,x.2.1)=0;omega
 unfold sp;rw[show((x.2.1.length:Int)==0)=decide ((dv x).1=0) by
  by_cases c:(dv x).1=0
  ·rw[decide_eq_true c];have:=hl.2 c;simp[this]
  ·rw[decide_eq_false c];exact beq_eq_false_iff_ne.2 (fun hh=>c (hl.1 (by omega)))]
def aH:dC:=orc1 hZ sp
theorem ok:OK 19 aH:=(eI E aE aD func19).nD rfl spec
end Ou
namespace Ov
def E:=mE [(48,Bh.aH)] 20 [11] [] []
def aE:=bd f22
theorem aU:Nk E aE:=nk
theorem start a b c d e f g h i j k l:aF E f22 aE [D.agg [sc (bool a),ints u64 b,sc (int i64 c),sc (bool d),ints u64 e,sc (int i64 f)],D.agg [sc (bool g),ints u64 h,sc (int i64 i),sc (bool j),ints u64 k,sc (int i64 l)]]=aQ (eB (a,b,c,d,e,f)/\eB (g,h,i,j,k,l)) (aC (Bh.meet (a,b,c,d,e,f) (g,h,i,j,k,l)) fun m=>some [D.s (sc (bool m))]):=eJ aU
def sp(s t:rQ):Prop×List D:=(eB s/\eB t,[.s (.sc (.bool (Bh.meet s t)))])
theorem spec:fO E f22 aE sT sT sp:=by
 intro s t h;refine(start s.1 s.2.1 s.2.2.1 s.2.2.2.1 s.2.2.2.2.1 s.2.2.2.2.2 t.1 t.2.1 t.2.2.1 t.2.2.2.1 t.2.2.2.2.1 t.2.2.2.2.2).trans ((gP h).trans ?_);rw[aL];rfl
def aH:dC:=orc2 sT sT sp
theorem ok:OK 22 aH:=(eI E aE (aA Bh.ok aD) func22).lP rfl spec
end Ov
namespace aHP
def E:=mE [(51,uH.aH)] 6 [5] [] []
def aE:=bd f20
theorem aU:Nk E aE:=nk
theorem start a b c d e f:aF E f20 aE [D.agg [sc (bool a),ints u64 b,sc (int i64 c),sc (bool d),ints u64 e,sc (int i64 f)]]=letI A:=(false,[],Int.ofNat (nat_lit 0),false,[],Int.ofNat (nat_lit 0));aQ ((aJ (a,b,c)/\aJ (false,[],(0:Int)))/\aJ (d,e,f)/\aJ (false,[],(0:Int))) (some [D.s (sc (bool (decide (dv (uH.lo (a,b,c,d,e,f))=dv (uH.lo A))&&decide (dv (uH.hi (a,b,c,d,e,f))=dv (uH.hi A)))))]):=eJ aU
theorem aRD:aJ (false,[],0):=⟨⟨M6.Ak,fun h=>Bool.noConfusion h,by simp⟩,by(try dsimp only);omega,fun _=>rfl,fun h=>(h rfl).elim⟩
def sp(s:rQ):Prop×List D:=(eB s,[.s (.sc (.bool (decide (dv (gM s)=(0,0))&&decide (dv (gN s)=(0,0)))))])
theorem spec:gO E f20 aE sT sp:=by
 intro s h;have h:eB s:=h;exact(start s.1 s.2.1 s.2.2.1 s.2.2.2.1 s.2.2.2.2.1 s.2.2.2.2.2).trans ((gP ⟨⟨h.1,aRD⟩,h.2.1,aRD⟩).trans rfl)
def aH:dC:=orc1 sT sp
theorem ok:OK 20 aH:=(eI E aE (aA uH.ok aD) func20).nD rfl spec
end aHP
namespace LawRatio
def E:=mE [(16,Vn.aH),(17,Lq.aH),(18,eQ.aH),(21,fL.aH),(19,Ou.aH),(22,Ov.aH),(20,aHP.aH)] 76 [55,74] [(10,[1,5,7,9,10]),(12,[1,5,7,9,10])] [10,12]
def aE:=bd f4
theorem aU:Nk E aE:=nk
def aBA a b c d e f g h i j k l m n o p q r s t:=lD E f4 aE 10 [bR a,dG 1 31 [cG b,eM c,cP d,cG e,eM f,cP g],dG 2 31 [cG h,eM i,cP j,cG k,eM l,cP m],dG 3 31 [cG n,eM o,cP p,cG q,eM r,cP s],bR t]
def aWU a b c d e f g h i j k l m n o p q r s t:=lD E f4 aE 12 [bR a,dG 1 31 [cG b,eM c,cP d,cG e,eM f,cP g],dG 2 31 [cG h,eM i,cP j,cG k,eM l,cP m],dG 3 31 [cG n,eM o,cP p,cG q,eM r,cP s],bR t]
theorem start a b:aF E f4 aE [D.s (sc (int u64 a)),D.s (sc (int i64 b))]=letI F:=some [D.s (sc (bool false))];letI C:=eQ.Fz 6 a b;letI B:=eQ.Fz 5 a b;letI A:=eQ.Fz 4 a b;aQ True (aQ (0<=a/\a<18446744073709551616) (aB (!Lq.aFH a b) (some [D.s (sc (bool true))]) (aQ ((0<=a/\a<18446744073709551616)/\((4:Int)=(4:Int)\/(4:Int)=(5:Int)\/(4:Int)=(6:Int))/\(1<=b/\b<=66000)/\bP.gW 64 a=true) (aC (isNeg A.fst.fst) fun c=>aC (M6.dg A.fst.fst.natAbs) fun d=>aC A.fst.snd fun e=>aC (isNeg A.snd.fst) fun f=>aC (M6.dg A.snd.fst.natAbs) fun g=>aC A.snd.snd fun h=>aC (bif eQ.Px 4 a then(6:Int)else(0:Int)) fun i=>aQ ((0<=a/\a<18446744073709551616)/\((5:Int)=(4:Int)\/(5:Int)=(5:Int)\/(5:Int)=(6:Int))/\(1<=b/\b<=66000)/\bP.gW 64 a=true) (aC (isNeg B.fst.fst) fun j=>aC (M6.dg B.fst.fst.natAbs) fun k=>aC B.fst.snd fun l=>aC (isNeg B.snd.fst) fun m=>aC (M6.dg B.snd.fst.natAbs) fun n=>aC B.snd.snd fun o=>aC (bif eQ.Px 5 a then(6:Int)else(0:Int)) fun p=>aQ ((0<=a/\a<18446744073709551616)/\((6:Int)=(4:Int)\/(6:Int)=(5:Int)\/(6:Int)=(6:Int))/\(1<=b/\b<=66000)/\bP.gW 64 a=true) (aC (isNeg C.fst.fst) fun q=>aC (M6.dg C.fst.fst.natAbs) fun r=>aC C.fst.snd fun s=>aC (isNeg C.snd.fst) fun t=>aC (M6.dg C.snd.fst.natAbs) fun u=>aC C.snd.snd fun v=>aC (bif eQ.Px 6 a then(6:Int)else(0:Int)) fun w=>aB (i !=0) F (aB (p !=0) F (LawRatio.aBA b c d e f g h j k l m n o q r s t u v w)))))))):=eJ aU
theorem Iu a b c d e f g h i j k l m n o p q r s t:aBA a b c d e f g h i j k l m n o p q r s t=letI B:=(n,o,p,q,r,s);letI A:=LawRatio.aWU a b c d e f g h i j k l m n o p q r s t;aQ (aJ (h,i,j)) (aC (decide ((dv (h,i,j)).fst=0)) fun u=>aB u (aQ (aJ (k,l,m)) (aC (decide ((dv (k,l,m)).fst=0)) fun v=>aB v (aB (t==6) (aQ (eB B) (aC (decide (dv (gM B)=((0:Int),(0:Int)))&&decide (dv (gN B)=((0:Int),(0:Int)))) fun w=>some [D.s (sc (bool w))])) (some [D.s (sc (bool false))])) A)) A):=cJ aU
theorem Vq a b c d e f g h i j k l m n o p q r s t:aWU a b c d e f g h i j k l m n o p q r s t=letI F:=(b,c,d,e,f,g);letI O:=dv (gN F);letI N:=dv (gM F);letI C:=(h,i,j,k,l,m);letI K:=dv (gN C);letI I:=dv (gM C);letI B:=fL.Cj (i64.wrap (a+64)) N O I K;letI H:=aK B.fst B.snd;letI A:=fL.Ci (i64.wrap (a+64)) N O I K;letI G:=aK A.fst A.snd;aQ (eB F/\eB C/\(1<=i64.wrap (a+64)/\i64.wrap (a+64)<=70000)/\gA.vM I K≠0/\(bl N.fst.natAbs<=262144/\bl O.fst.natAbs<=262144/\bl I.fst.natAbs<=262144/\bl K.fst.natAbs<=262144)/\fN A.fst A.snd=true/\fN B.fst B.snd=true) (aC (isNeg G.fst) fun u=>aC (M6.dg G.fst.natAbs) fun v=>aC G.snd fun w=>aC (isNeg H.fst) fun x=>aC (M6.dg H.fst.natAbs) fun y=>aC H.snd fun z=>aB (t==0) (aQ (eB (n,o,p,q,r,s)/\eB (u,v,w,x,y,z)) (aC (Bh.meet (n,o,p,q,r,s) (u,v,w,x,y,z)) fun aa=>some [D.s (sc (bool aa))])) (some [D.s (sc (bool false))])):=cJ aU
def sp(b p:Int):Prop×List D:=(0<=b/\b<18446744073709551616,[.s (.sc (.bool true))])
theorem fold(a b:Int×Int):(isNeg a.1,M6.dg a.1.natAbs,a.2,isNeg b.1,M6.dg b.1.natAbs,b.2)=mQ a b:=rfl
theorem spec:fO E f4 aE (pN .u64) (pN .i64) sp:=by
 intro b p hb;have hb:0<=b/\b<18446744073709551616:=hb;refine(start b p).trans ((gP trivial).trans ((gP hb).trans ?_));cases Jo:Lq.aFH b p with
 |false=>rfl
 |true =>
  unfold Lq.aFH at Jo;rw[bNH,bNH]at Jo;obtain⟨hf,h1,h2⟩:=Jo;have hp:1<=p/\p<=66000:=⟨of_decide_eq_true h1,of_decide_eq_true h2⟩;obtain⟨V1,V2,es,ec,_⟩:=aIW hb.1 hf hp;obtain⟨⟨p4,p5,_⟩,_⟩:=Nn b;have R6:=aCC hb.1 hf hp;have w:i64.wrap (p+64)=p+64:=wrap_i64;have s4:=es.sp;have s5:=ec.sp;rw[bPB,bF,gP ⟨hb,.inl rfl,hp,hf⟩,p4,p5];generalize eQ.Fz 4 b p=s at *;generalize eQ.Fz 5 b p=c at *;generalize eQ.Fz 6 b p=t at *;generalize eQ.Px 6 b=po at *;rw[aL,aL,aL,aL,aL,aL,aL,gP ⟨hb,.inr (.inl rfl),hp,hf⟩,aL,aL,aL,aL,aL,aL,aL,gP ⟨hb,.inr (.inr rfl),hp,hf⟩,aL,aL,aL,aL,aL,aL,aL,cond_false,gT rfl,gT rfl,Iu];have d1:aJ (isNeg c.1.1,M6.dg c.1.1.natAbs,c.1.2):=cQ ec.f1.uS;have d2:aJ (isNeg c.2.1,M6.dg c.2.1.natAbs,c.2.2):=cQ ec.f2.uS;rw[gP d1,aL,dK];rcases R6 with ⟨hc,ht,aMN⟩ |⟨hc,aMN,st,Q⟩
  ·have sz:eB (mQ (0,0) (0,0)):=by
    have z:=(Xy (n:=1) (E:=0) (by decide)).uS;exact qQ z z (jT.2 bTP)
   rw[gP d2,aL,dK,hc,ht,aMN,cond_true,cF rfl,fold,gP sz,aL,qJ,qK];rfl
  ·rw[decide_eq_false hc,bF,aMN,cond_false,Vq,w,fold,fold,fold];obtain⟨q0,q1,q2,q3,q4,V,v1,v2⟩:=Q;rw[qJ,qK,qJ,qK];refine(gP ⟨s4,s5,⟨by omega,by omega⟩,q0,q1,q2,q3⟩).trans ?_;rw[aL,aL,aL,aL,aL,aL,cF rfl,fold];refine(gP ⟨st,q4⟩).trans ?_;rw[aL];refine congrArg (fun x=>some [D.s (S.sc (Value.bool x))]) ?_;exact aJP (V:=V) (by rw[qJ,qK];exact v1) (by rw[qJ,qK];exact v2)
def aH:dC:=orc2 (pN .u64) (pN .i64) sp
theorem fnok:qI prog E 4 f4 aE:=aAE pE mixed (kK _ rfl (aA Vn.ok (aA Lq.ok (aA eQ.ok (aA fL.ok (aA Ou.ok (aA Ov.ok (aA aHP.ok aD))))))) (mI)) func4 rfl rfl rfl
theorem ok:lA prog base.glob 4 aH:=fnok.lP rfl spec
end LawRatio
end W
namespace AI
open Go Go.RowKit Go.ChangeShapes Go.WideShapes Go.ChangeAt
abbrev noX:Nat->Prop:=fun _=>False
theorem aKZ{w:World}{a:Addr}{v:Value}(h:w.cell? a=some v):a=⟨a.block,a.off,none⟩/\a.block<w.heap.size:=by
 unfold World.cell? at h;split at h
 ·rename_i c t fr hb;split at h
  ·cases h
  ·rename_i hs;obtain⟨b,o,s⟩:=a;cases s with
   |some x=>simp at hs
   |none=>exact⟨rfl,(Array.getElem?_eq_some_iff.1 hb).1⟩
 ·cases h
section
variable {H:Type} {enc:TypeId×Value->H} {P:Program} {w:World} {held:Bool} {sp:Nat->Bool}
theorem glob_ints{name:String}{g:Nat}{t e:TypeId}{k:IntKind}{n fuel:Nat}{ns:List Int}{cs:Array Value}{p:List MemPlace}(hg:P.globalNamed name=some g)(hv:w.var? P name=some cs)(ht:P.underlying t=some (.array n e))(he:P.underlying e=some (.int k))(hc:P.cellsOf e=1)(hn:ns.length=n)(Eo:0<n)
  (hd:DataW.trod enc P w 0 sp held fuel t cs.toList=some (.agg (ns.map fun m=>.lit (.int k m)),p)):g<w.heap.size/\¬noX g/\rI noX w g 0 (tW k ns):=by
 obtain⟨xs,m1,_,hx,_,Sp,bKV⟩:=DataW.trod_array ht hd;simp only[Prod.mk.injEq,DataW.agg.injEq]at hx;have cell:∀i v,ns[i]?=some v->w.cell? ⟨g,i,none⟩=some (.int k v):=by
  intro i v hi;have iN:i<n:=by have:=(List.getElem?_eq_some_iff.1 hi).1;omega
  have h1:=bKV i iN;have bEM:xs[i]?=some xs[i]:=bNR (by omega);rw[bEM,hc,Nat.mul_one]at h1;obtain⟨m,e1,e2,_⟩:=DataW.trod_int he h1;have h2:=congrArg (fun l=>l[i]?) hx.1;simp only[bNF,hi,bEM,e2,Option.map_some]at h2;have bJR:v=m:=by simpa using h2
  subst bJR;have h3:((cs.toList.drop i).take 1)[0]?=some (.int k v):=by rw[e1];rfl
  rw[List.getElem?_take,aT,List.getElem?_drop]at h3;have h4:=World.var?_cell hg hv i;rw[h4];simpa using h3
 have h0:ns[0]?=some ns[0]:=bNR (by omega);have hb:=(aKZ (cell 0 _ h0)).2;refine⟨hb,id,fun i s hs=>⟨hb,id,?_⟩⟩;unfold tW at hs;rw[bNF]at hs;obtain⟨v,aTQ,rfl⟩:=Option.map_eq_some_iff.1 hs;refine⟨_,by rw[Nat.zero_add];exact cell i v aTQ,rfl,rfl⟩
end
theorem wf64{n:Int}(h:(Lit.int .u64 n).wf=true):0<=n/\n<18446744073709551616:=by
 have h2:u64.min<=n/\n<=u64.max:=by simpa [Lit.wf] using h
 have e1:u64.min=0:=rfl;have e2:u64.max=18446744073709551615:=rfl;omega
theorem calls_true{P:Program}{G:Nat->Option (IntKind×List Int)}{f:FuncId}{ds:List D}(hc:Contract P G f ds [.s (.sc (.bool true))]){w:World}{vs:List Value}(hG:GlobOk G noX w)(hl:ds.length=vs.length)
  (hr:∀(i:Nat) (d:D) (v:Value),ds[i]?=some d->vs[i]?=some v->lL noX w d v):Calls P f vs.toArray w fun e w'=>e=.returned (.bool true)/\Below w.heap.size w w':=by
 refine(hc noX w vs (fun _ h=>h.elim) hG hl hr).mono ?_;rintro e w' ⟨vL,rfl,hb,g,hl,_,hr⟩
 match vL,hl with
 | [v],_ =>
  have:=hr 0 _ v rfl rfl;obtain⟨rfl,_⟩:=this;exact⟨rfl,hb⟩
end AI
end Go.Proofs.YtcnlagnipklcmaaGreatDoor
end
