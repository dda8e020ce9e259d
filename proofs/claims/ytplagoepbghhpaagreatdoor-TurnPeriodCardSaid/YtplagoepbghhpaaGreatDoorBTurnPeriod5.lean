/- Contracts of functions and laws, for the claim on TurnPeriod. -/
import Derived.WalkKit
import Derived.ProofKit
import Derived.OpenShut
import Derived.Carry
import Derived.LaidMore
import Derived.MakeChecks
import Derived.Test.YtplagoepbghhpaaGreatDoorBTurnPeriod4
set_option linter.unusedVariables false
set_option linter.unusedSimpArgs false
set_option exponentiation.threshold 10000000
noncomputable section
open Go.IntKind(i8 i16 i32 i64 u8 u16 u32 u64)
open Go.Proofs.Tryz
open Int renaming toNat_natCast->bPN,toNat->bZC,eq_ofNat_of_zero_le->bQT,natAbs_natCast->bRJ,tdiv_eq_ediv_of_nonneg->bTG,tmod_eq_emod_of_nonneg->bTH,emod_nonneg->bUV,mul_assoc->bSE,add_zero->bVY,emod_lt_of_pos->bUW,natCast_mul->bRP,natCast_add->bZH
open Rat renaming intCast_mul->bWL,intCast_add->bXM,le_refl->bSF,mul_one->cAB,le_of_lt->bQY
open Bool renaming not_true->bNR,true_and->bOS,false_and->bRA,and_false->bRD,false_or->bNS,and_eq_true->bLX
open Nat renaming le_trans->bMN,mul_assoc->bQU,pow_succ->bQQ,pow_add->bQS,div_eq_of_lt->bRO,add_zero->bMS,lt_of_lt_of_le->bMR,mul_one->bMB,mul_add->bQR,pow_pos->bOQ,le_refl->bLR,mul_comm->bQP,zero_add->bLT,eq_zero_or_pos->cAC,div_le_self->bUE,two_pow_add_eq_or_of_lt->bUO,div_add_mod->bQX
open List renaming replicate->bNU,drop_zero->bRY,take_of_length_le->bTC,drop->bRN,take->bRM,length_nil->bPC,getD_eq_getElem?_getD->bQV,take_succ_eq_append_getElem->bRW,take_length->bSM,length_drop->bPQ,length_append->bMU,length_cons->bPB,append_assoc->bNM,getElem?_eq_getElem->bMH,getElem?_map->bLV
namespace Go.Proofs.YtplagoepbghhpaaGreatDoor
open Go.Value(int bool slice)
open AI.S(sc ints)
namespace W
open Go AI M
namespace jW
def E:=mE [(61,nM.aG),(12,bM.aG),(62,zK.aG),(63,dS.aG),(18,aJ.aG),(64,fO.aG),(66,jO.aG),(65,aPU.aG)] 98 [33] [(3,[0,1,2,6])] [3]
def aE:=bd f19
theorem aW:Nk E aE:=nk
def J3 a b c d e f g:=kV E f19 aE 3 [bI a,cG b,bI c,dG 3 44 [cI d,sc (slice none 0 0),cP e,cI f,sc (slice none 0 0),cP g]]
theorem start a b c:aF E f19 aE [D.s (sc (int i64 a)),D.s (sc (int u64 b)),D.s (sc (int i64 c))]=letI A:=some [D.agg [sc (bool false),sc (slice none 0 0),sc (int i64 0),sc (bool false),sc (slice none 0 0),sc (int i64 0)],D.s (sc (int i64 1))];aP True (aB (!nM.uP a) A (aB (decide (c<1)) A (aB (decide (66000<c)) A (jW.J3 a b c false 0 false 0)))):=eJ aW
theorem gH a b c d e f g:J3 a b c d e f g=letI F1:=bool false;letI A1:=aK 0 0;letI G1:=M6.dg A1.fst.natAbs;letI Z:=aK 1 0;letI I1:=M6.dg Z.fst.natAbs;letI Y:=slice none 0 0;letI X:=i64.wrap (c+16);letI Q:=int i64 0;letI K:=i64.wrap (c+20);letI G:=bif aZ.fA 64 b then aJ.oW (aJ.fN b)else((0:Int),(0:Int));letI F:=i64.wrap (c+16)+2;letI C:=bif dZ.gA 64 b&&aZ.fA 64 b then aK (bM.lA 64 b) (bM.lB 64 b)else((0:Int),(0:Int));aP (((64:Int)=(32:Int)\/(64:Int)=(64:Int))/\0<=b/\b<18446744073709551616) (aC (isNeg C.fst) fun h=>aC (M6.dg C.fst.natAbs) fun i=>aC C.snd fun j=>letI T:=dS.wW a (dv (h,i,j));aC (bif dZ.gA 64 b then bif aZ.fA 64 b then(0:Int)else(6:Int)else(2:Int)) fun k=>aB (k !=0) (some [D.agg [sc F1,sc Y,sc Q,sc F1,sc Y,sc Q],D.s (sc (int i64 k))]) (aB ((i.length:Int)==(0:Int)) (aB (a==5) (aP ((-9223372036854775808:Int)<=(1:Int)/\(1:Int)<(9223372036854775808:Int)) (aC (isNeg Z.fst) fun l=>aC I1 fun m=>aC Z.snd fun n=>aC (isNeg Z.fst) fun o=>aC I1 fun p=>aC Z.snd fun q=>some [D.agg [sc (bool l),ints u64 m,sc (int i64 n),sc (bool o),ints u64 p,sc (int i64 q)],D.s (sc Q)])) (aP ((-9223372036854775808:Int)<=(0:Int)/\(0:Int)<(9223372036854775808:Int)) (aC (isNeg A1.fst) fun r=>aC G1 fun s=>aC A1.snd fun t=>aC (isNeg A1.fst) fun u=>aC G1 fun v=>aC A1.snd fun w=>some [D.agg [sc (bool r),ints u64 s,sc (int i64 t),sc (bool u),ints u64 v,sc (int i64 w)],D.s (sc Q)]))) (aP (aL (h,i,j)) (aC T.fst fun x=>letI B1:=aK x 0;letI H1:=M6.dg B1.fst.natAbs;letI H:=aK (i64.wrap ((0:Int)-x)) 0;letI K1:=M6.dg H.fst.natAbs;aC T.snd.fst fun y=>aC T.snd.snd fun z=>aB z (aB (x==2) (some [D.agg [sc F1,sc Y,sc Q,sc F1,sc Y,sc Q],D.s (sc (int i64 6))]) (aB y (aP ((-9223372036854775808:Int)<=i64.wrap ((0:Int)-x)/\i64.wrap ((0:Int)-x)<9223372036854775808) (aC (isNeg H.fst) fun aa=>aC K1 fun ab=>aC H.snd fun ac=>aC (isNeg H.fst) fun ad=>aC K1 fun ae=>aC H.snd fun af=>some [D.agg [sc (bool aa),ints u64 ab,sc (int i64 ac),sc (bool ad),ints u64 ae,sc (int i64 af)],D.s (sc Q)])) (aP ((-9223372036854775808:Int)<=x/\x<9223372036854775808) (aC (isNeg B1.fst) fun ag=>aC H1 fun ah=>aC B1.snd fun ai=>aC (isNeg B1.fst) fun aj=>aC H1 fun ak=>aC B1.snd fun al=>some [D.agg [sc (bool ag),ints u64 ah,sc (int i64 ai),sc (bool aj),ints u64 ak,sc (int i64 al)],D.s (sc Q)])))) (aP (0<=b/\b<18446744073709551616) (aC (bif aZ.fA 64 b then aJ.iW (aJ.fN b)%4 else(0:Int)) fun am=>aC (isNeg G.fst) fun an=>aC (M6.dg G.fst.natAbs) fun ao=>aC G.snd fun ap=>letI A:=fO.zJ (dv (an,ao,ap)) X;letI P:=gC A.fst A.snd F;letI O:=gS A.fst A.snd F;aP (aL (an,ao,ap)/\(1<=i64.wrap (c+16)/\i64.wrap (c+16)<=66500)/\fO.aKI (dv (an,ao,ap)) X) (aC (isNeg O.fst.fst) fun aq=>aC (M6.dg O.fst.fst.natAbs) fun ar=>aC O.fst.snd fun au=>aC (isNeg O.snd.fst) fun av=>aC (M6.dg O.snd.fst.natAbs) fun aw=>aC O.snd.snd fun ax=>letI C1:=(aq,ar,au,av,aw,ax);aC (isNeg P.fst.fst) fun ay=>aC (M6.dg P.fst.fst.natAbs) fun az=>aC P.fst.snd fun ba=>aC (isNeg P.snd.fst) fun bb=>aC (M6.dg P.snd.fst.natAbs) fun bc=>aC P.snd.snd fun be=>letI D1:=(ay,az,ba,bb,bc,be);letI N:=VTurned.trn (jO.eS C1) (jO.eS D1) am.toNat;letI B:=jO.aLB a am.toNat (jO.eS C1) (jO.eS D1) X;aP ((eG C1/\eG D1)/\(0<=am/\am<=3)/\(1<=i64.wrap (c+16)/\i64.wrap (c+16)<=70000)/\(a≠4->a≠5->jO.aIQ X N.fst N.snd)) (aC (isNeg B.fst.fst) fun bf=>aC (M6.dg B.fst.fst.natAbs) fun bg=>aC B.fst.snd fun bh=>aC (isNeg B.snd.fst) fun bi=>aC (M6.dg B.snd.fst.natAbs) fun bj=>aC B.snd.snd fun bk=>letI I:=(bf,bg,bh,bi,bj,bk);letI W:=M.shD true (dv (gO I)) K;letI U:=M.shD false (dv (gN I)) K;aP (eG I/\(1<=i64.wrap (c+20)/\i64.wrap (c+20)<=70000)/\vW false (dv (gN I)) K=true/\vW true (dv (gO I)) K=true) (aC (isNeg U.fst) fun bm=>aC (M6.dg U.fst.natAbs) fun bn=>aC U.snd fun bo=>aC (isNeg W.fst) fun bp=>aC (M6.dg W.fst.natAbs) fun bq=>aC W.snd fun br=>some [D.agg [sc (bool bm),ints u64 bn,sc (int i64 bo),sc (bool bp),ints u64 bq,sc (int i64 br)],D.s (sc Q)]))))))))):=cJ aW
def Zn(fn b:Int):Bool:=(fS.nR 64 b).1==0||(dS.wW fn (fS.nR 64 b)).2.2
def aIS(fn b:Int):Bool:=(fS.nR 64 b).1 !=0&&(dS.wW fn (fS.nR 64 b)).2.2&&(dS.wW fn (fS.nR 64 b)).1==2
def aHH(fn b p:Int):(Int×Int)×(Int×Int):=bif Zn fn b then(bif aIS fn b then((0,0),(0,0))else(aK (fI.uT fn b) 0,aK (fI.uT fn b) 0))else tO fn (aJ.iW (aJ.fN b)) (aJ.oW (aJ.fN b)) p
def sp(fn b p:Int):Prop×List D:=((0<=b/\b<18446744073709551616)/\(fn=4\/fn=5\/fn=6)/\(1<=p/\p<=66000)/\aZ.fA 64 b=true,[yE (aHH fn b p).1 (aHH fn b p).2,.s (.sc (.int .i64 (bif aIS fn b then 6 else 0)))])
theorem fold(a b:Int×Int):(isNeg a.1,M6.dg a.1.natAbs,a.2,isNeg b.1,M6.dg b.1.natAbs,b.2)=mD a b:=rfl
theorem Td{fn b:Int}(h:0<=b)(hf:aZ.fA 64 b=true)(h4:fn=4\/fn=5\/fn=6)(hx:Zn fn b=false):aVS (aJ.oW (aJ.fN b)):=by
 obtain⟨hp,hm,e0,e1⟩:=aJ.Ce h hf;unfold Zn at hx;rw[show fS.nR 64 b=aJ.fN b from rfl]at hx;generalize aJ.fN b=q at *;have z0:q.1≠0:=fun hz=>by rw[hz]at hx;exact Bool.noConfusion hx
 have hv:(dS.wW fn q).2.2=false:=by
  cases hc:(dS.wW fn q).2.2 with
  |false=>rfl
  |true=>rw[hc,Bool.or_true]at hx;exact Bool.noConfusion hx
 have he:q.2<=-2:=by
  rcases Int.lt_or_le (-2) q.2 with iN |hle
  ·exfalso;unfold dS.wW at hv
   by_cases c0:0<=q.2
   ·rcases h4 with rfl |rfl |rfl <;> simp[c0]at hv
   ·have c1:q.2=-1:=by omega
    rcases h4 with rfl |rfl |rfl <;> simp[c1]at hv
  ·exact hle
 exact aNG ⟨e0,he⟩ (hp.2.2.2 z0)
theorem spec:aVR E f19 aE (pN .i64) (pN .u64) (pN .i64) sp:=by
 rintro fn b p ⟨h,h4,⟨zF,tA⟩,hf⟩;have hp:dZ.gA 64 b=true:=rfl;have hk:nM.uP fn=true:=by rcases h4 with rfl |rfl |rfl <;> rfl
 have e1:(bif dZ.gA 64 b&&aZ.fA 64 b then aK (bM.lA 64 b) (bM.lB 64 b)else((0:Int),(0:Int)))=fS.nR 64 b:=by rw[hp,hf];rfl
 have e2:(bif dZ.gA 64 b then bif aZ.fA 64 b then(0:Int)else 6 else 2)=0:=by rw[hp,hf];rfl
 have s:=(start fn b p).trans (gP trivial);rw[hk,bNR,bF,aI,aI,gH,gP ⟨.inr rfl,h⟩,e1,e2,nT,vl,eN rfl]at s;have Qe:=(fS.Gs (.inr rfl) h.1 hf).1;have hn:Zn fn b=false->aVS (aJ.oW (aJ.fN b)):=Td h.1 hf h4;have hnum:fS.nR 64 b=aJ.fN b:=rfl;unfold sp aHH;dsimp only;unfold Zn aIS fI.uT at *;generalize fS.nR 64 b=q at *;have hl:(M6.dg q.1.natAbs).length=0↔q.1=0:=by rw[M6.fU];omega
 by_cases hz:q.1=0
 ·refine⟨_,s.trans ?_,fT.refl _⟩;rw[cC (by have:=hl.2 hz;omega),if_pos hz,hz]
  by_cases h5:fn=5
  ·rw[cC h5,if_pos h5,gP];rfl
  ·rw[bP h5,if_neg h5,gP];rfl
 ·rw[bP (fun h=>hz (hl.1 (by omega))),gP (cF Qe),cU,vl,vl,vl]at s;rw[show(q.1==0)=false from beq_eq_false_iff_ne.2 hz,show(q.1 !=0)=true by simp[hz],bNS,bOS,if_neg hz];have hn:=fun hx=>hn (by rw[show(q.1==0)=false from beq_eq_false_iff_ne.2 hz,bNS];exact hx)
  have hs:=fS.Nh fn q;cases hv:(dS.wW fn q).2.2 with
  |true =>
   rw[hv,bT]at s;rw[cond_true,bOS]
   by_cases c2:(dS.wW fn q).1=2
   ·rw[cC c2]at s;rw[c2];refine⟨_,s,.cons ?_ (fT.refl _)⟩;show vV _ (yE (0,0) (0,0));unfold yE;dsimp only;rw[show(0:Int).natAbs=0 from rfl,M6.bQ];exact vV.agg (.cons (yJ.refl _) (.cons (yJ.nil _) (.cons (yJ.refl _) (.cons (yJ.refl _) (.cons (yJ.nil _) (uB.refl _))))))
   ·rw[bP c2]at s;rw[show((dS.wW fn q).1==2)=false from beq_eq_false_iff_ne.2 c2];refine⟨_,s.trans ?_,fT.refl _⟩;cases hg:(dS.wW fn q).2.1 with
    |false=>rw[bF,if_neg (by simp),gP];rfl
    |true=>rw[bT,if_pos rfl,wrap_i64 (n:=0-(dS.wW fn q).1),Int.zero_sub,gP];rfl
  |false =>
   have hr:=hn hv;rw[hv,bF,gP h,hf]at s;rw[cond_false,bRA];dsimp only[cond_true]at s;have N:=Sm (k:=aJ.iW (aJ.fN b)) hr ⟨zF,tA⟩ h4;have w1:i64.wrap (p+16)=p+16:=wrap_i64;have w2:i64.wrap (p+20)=p+20:=wrap_i64;have bLE:p+16+2=p+18:=by omega
   have N2:=N.bx.aIH;generalize aJ.iW (aJ.fN b)=k at *;generalize aJ.oW (aJ.fN b)=r at *;rw[vl,nT,w1,cU,bLE]at s;have s:=s.trans (gP ⟨cF hr.uK,⟨by omega,by omega⟩,N.ci⟩);rw[show gS (fO.zJ r (p+16)).1 (fO.zJ r (p+16)).2 (p+18)=tS r p from rfl,show gC (fO.zJ r (p+16)).1 (fO.zJ r (p+16)).2 (p+18)=tC r p from rfl]at s;have eS:jO.eS (mD (tS r p).1 (tS r p).2)=tS r p:=by
    show(dv (gN (mD _ _)),dv (gO (mD _ _)))=_;rw[qB,qC]
   have eC:jO.eS (mD (tC r p).1 (tC r p).2)=tC r p:=by
    show(dv (gN (mD _ _)),dv (gO (mD _ _)))=_;rw[qB,qC]
   rw[aM,aM,aM,aM,aM,aM,aM,aM,aM,aM,aM,aM,fold,fold,eS,eC]at s;have s:=s.trans (gP ⟨⟨N.sS,N.sC⟩,⟨bUV _ (by decide),by omega⟩,⟨by omega,by omega⟩,fun _ _=>N.qu⟩);rw[show jO.aLB fn (k%4).toNat (tS r p) (tC r p) (p+16)=tE fn k r p from rfl,aM,aM,aM,aM,aM,aM,fold,w2,qB,qC]at s;have s:=s.trans (gP ⟨N.re,⟨by omega,by omega⟩,N.s1,N.s2⟩);exact⟨_,s,fT.refl _⟩
def aG:cX:=orc3 (pN .i64) (pN .u64) (pN .i64) sp
theorem ok:OK 19 aG:=(eB E aE (aA nM.ok (aA bM.ok (aA zK.ok (aA dS.ok (aA aJ.ok (aA fO.ok (aA jO.ok (aA aPU.ok aD)))))))) func19).bCP rfl spec
end jW
end W
namespace M
open Go AI W
structure aWA(s:(Int×Int)×(Int×Int))(V:Rat)(p:Int):Prop where
 f1:aXI s.1 66021 (-p-1200) 1
 f2:aXI s.2 66021 (-p-1200) 1
 lo:R.qz s.1<=V
 hi:V<=R.qz s.2
theorem aWA.sp{s:(Int×Int)×(Int×Int)}{V:Rat}{p:Int}(h:aWA s V p):eG (mD s.1 s.2):=by
 have:=h.lo;have:=h.hi;exact uG h.f1.uK h.f2.uK (kY.2 (by grind))
theorem aEW{z p:Int}(hz:z=0\/z=1\/z=-1)(hp:1<=p):aWA (aK z 0,aK z 0) (z:Rat) p:=by
 have b:bl z.natAbs<=1:=by rcases hz with rfl |rfl |rfl <;> exact dP.2 (by decide)
 have e:R.qz (aK z 0)=(z:Rat):=by rw[mF,R.fB,cAB]
 have f:aXI (aK z 0) 66021 (-p-1200) 1:=by
  refine⟨fF (fJ (by omega) (by omega)) (by omega),bMN (qL _ _) (by omega),?_,?_⟩
  ·by_cases h0:z=0
   ·rw[h0,cZ];show -p-1200<=0;omega
   ·have:=mN (e:=0) h0;omega
  ·rw[e];rcases hz with rfl |rfl |rfl
   ·rw[show((0:Int):Rat)=0 by norm_cast,R.bS bSF];grind
   ·rw[show((1:Int):Rat)=1 by norm_cast,R.bS (by grind)];exact bSF
   ·rw[show((-1:Int):Rat)=-1 by norm_cast,R.gT,R.bS (by grind)];exact bSF
 exact⟨f,f,by dsimp only;rw[e];exact bSF,by dsimp only;rw[e];exact bSF⟩
theorem aJY(b:Int):(jW.aIS 4 b=false/\jW.aIS 5 b=false/\jW.Zn 4 b=jW.Zn 5 b)/\(jW.Zn 4 b=true ->
  (fI.uT 4 b=0/\(fI.uT 5 b=1\/fI.uT 5 b=-1))\/((fI.uT 4 b=1\/fI.uT 4 b=-1)/\fI.uT 5 b=0)):=by
 unfold jW.aIS jW.Zn fI.uT dS.wW;generalize fS.nR 64 b=q;obtain⟨m,e⟩:=q;dsimp only
 by_cases z:m=0
 ·by_cases c0:0<=e
  ·simp[z,c0]
  ·by_cases c1:e=-1 <;> simp[z,c0,c1]
 ·by_cases c0:0<=e
  ·cases hm:(e==0) <;> simp[z,c0,hm]
  ·by_cases c1:e=-1
   ·cases hm:(m%4==3) <;> simp[z,c1,hm]
   ·simp[z,c0,c1]
theorem aEX{fn k:Int}{r:Int×Int}{p:Int}(N:bFO fn k r p)(hp:1<=p/\p<=66000)(h:fn=4\/fn=5):aWA (tO fn k r p) (tv fn k (R.sn (R.qz r*R.pi)) (R.cs (R.qz r*R.pi))) p:=by
 have:=N.bits;have:=N.bBP;have o:=N.on h;have lo:=N.bx.lo;have hi:=N.bx.hi;have m0:=N.bx.m0;exact⟨⟨N.bx.pl,by omega,by omega,o.1⟩,⟨N.bx.ph,by omega,by omega,o.2⟩,by grind,by grind⟩
end M
namespace M
open Go AI W
theorem Dl{n:Int}(hn:0<=n):((p2 n:Int):Rat)=R.pz n:=by
 obtain⟨k,rfl⟩:=bQT hn;rw[Cb,R.oA,Rat.intCast_natCast]
theorem Kk(p:Int×Int):((aJ.iW p:Int):Rat)<=2*R.qz p+1/2/\2*R.qz p+1/2<((aJ.iW p:Int):Rat)+1:=by
 obtain⟨m,e⟩:=p;have q:R.qz (m,e)=(m:Rat)*R.pz e:=rfl;rw[q];unfold aJ.iW;dsimp only
 by_cases h:0<=e
 ·rw[if_pos h,bWL,Dl (by omega),R.hI];constructor <;> grind
 ·rw[if_neg h];have D0:=Ca (1-e);have a1:=Int.mul_ediv_add_emod (m*4+p2 (-e)) (p2 (1-e));have a2:=bUV (m*4+p2 (-e)) (show p2 (1-e)≠0 by omega);have a3:=bUW (m*4+p2 (-e)) D0;generalize (m*4+p2 (-e))/p2 (1-e)=K at *;have b1:p2 (1-e)*K<=m*4+p2 (-e):=by omega
  have b2:m*4+p2 (-e)+1<=p2 (1-e)*K+p2 (1-e):=by omega
  have c1:((p2 (1-e)*K:Int):Rat)<=((m*4+p2 (-e):Int):Rat):=by exact_mod_cast b1
  have c2:((m*4+p2 (-e)+1:Int):Rat)<=((p2 (1-e)*K+p2 (1-e):Int):Rat):=by exact_mod_cast b2
  rw[bWL,bXM,bWL,Dl (by omega),Dl (by omega)]at c1;rw[bXM,bXM,bXM,bWL,bWL,Dl (by omega),Dl (by omega)]at c2;have four:((4:Int):Rat)=4:=by norm_cast
  have one:((1:Int):Rat)=1:=by norm_cast
  have i1:R.pz (e-1)*R.pz (1-e)=1:=by rw[<-R.kB,show e-1+(1-e)=0 by omega,R.fB]
  have i2:R.pz (e-1)*R.pz (-e)=1/2:=by
   rw[<-R.kB,show e-1+-e=0-1 by omega];have:=R.nD 0;rw[R.fB]at this;grind
  have i3:=R.nD e;have z0:=R.dT (e-1);have m1:=R.aH (bQY z0) (show 0<=(m:Rat)*4+R.pz (-e)-R.pz (1-e)*(K:Rat) by grind);have m2:=R.aH (bQY z0) (show 0<=R.pz (1-e)*(K:Rat)+R.pz (1-e)-((m:Rat)*4+R.pz (-e)+1) by grind);have j1:R.pz (e-1)*((m:Rat)*4+R.pz (-e)-R.pz (1-e)*(K:Rat))=2*((m:Rat)*(R.pz (e-1)*2))+R.pz (e-1)*R.pz (-e)-R.pz (e-1)*R.pz (1-e)*(K:Rat):=by grind
  have j2:R.pz (e-1)*(R.pz (1-e)*(K:Rat)+R.pz (1-e)-((m:Rat)*4+R.pz (-e)+1))=R.pz (e-1)*R.pz (1-e)*(K:Rat)+R.pz (e-1)*R.pz (1-e)-2*((m:Rat)*(R.pz (e-1)*2))-R.pz (e-1)*R.pz (-e)-R.pz (e-1):=by grind
  rw[j1,i1,i2,show R.pz (e-1)*2=R.pz e by grind]at m1;rw[j2,i1,i2,show R.pz (e-1)*2=R.pz e by grind]at m2;generalize (m:Rat)*R.pz e=X at *;constructor <;> grind
theorem Mg(p:Int×Int):R.qz (aJ.oW p)=R.qz p-((aJ.iW p:Int):Rat)/2:=by
 obtain⟨m,e⟩:=p;have q:R.qz (m,e)=(m:Rat)*R.pz e:=rfl;have hD:aJ.oW (m,e)=aK (aJ.Ac (m,e)) (e-1):=rfl;rw[q,hD,mF];unfold aJ.Ac;dsimp only;have i3:=R.nD e
 by_cases h:0<=e
 ·have hK:aJ.iW (m,e)=m*p2 (e+1):=by unfold aJ.iW;rw[if_pos h]
  rw[if_pos h,hK,bWL,Dl (by omega),R.hI,show((0:Int):Rat)=0 by norm_cast];grind
 ·rw[if_neg h];generalize aJ.iW (m,e)=K;have i2:R.pz (e-1)*R.pz (-e)=1/2:=by
   rw[<-R.kB,show e-1+-e=0-1 by omega];have:=R.nD 0;rw[R.fB]at this;grind
  rw[Rat.intCast_sub,bWL,bWL,Dl (by omega),show((2:Int):Rat)=2 by norm_cast];have j:((m:Rat)*2-(K:Rat)*R.pz (-e))*R.pz (e-1)=(m:Rat)*(R.pz (e-1)*2)-(K:Rat)*(R.pz (e-1)*R.pz (-e)):=by grind
  rw[j,i2,show R.pz (e-1)*2=R.pz e by grind];grind
theorem Kj{p q:Int×Int}{n:Int}(h:R.qz q=R.qz p+(n:Rat)):aJ.iW q=aJ.iW p+2*n/\R.qz (aJ.oW q)=R.qz (aJ.oW p):=by
 obtain⟨a1,a2⟩:=Kk p;obtain⟨b1,b2⟩:=Kk q;have v1:=Mg p;have v2:=Mg q;have k:aJ.iW q=aJ.iW p+2*n:=by
  have two:((2*n:Int):Rat)=2*(n:Rat):=by rw[bWL];norm_cast
  have one:((1:Int):Rat)=1:=by norm_cast
  have c1:((aJ.iW q:Int):Rat)<((aJ.iW p+2*n+1:Int):Rat):=by
   rw[bXM,bXM,two,one];grind
  have c2:((aJ.iW p+2*n:Int):Rat)<((aJ.iW q+1:Int):Rat):=by
   rw[bXM,bXM,two,one];grind
  have d1:aJ.iW q<aJ.iW p+2*n+1:=by exact_mod_cast c1
  have d2:aJ.iW p+2*n<aJ.iW q+1:=by exact_mod_cast c2
  omega
 refine⟨k,?_⟩;rw[v1,v2,h,k,bXM,bWL,show((2:Int):Rat)=2 by norm_cast];grind
end M
namespace M
open Go AI W
def vT(fn b:Int):Rat:=tv fn (aJ.iW (aJ.fN b)) (R.sn (R.qz (aJ.oW (aJ.fN b))*R.pi)) (R.cs (R.qz (aJ.oW (aJ.fN b))*R.pi))
theorem aEQ{b:Int}(h0:0<=b)(hf:aZ.fA 64 b=true)(h:jW.Zn 4 b=true):R.qz (aJ.oW (aJ.fN b))=0/\((fI.uT 4 b:Int):Rat)=R.rs (aJ.iW (aJ.fN b)) 0 1/\((fI.uT 5 b:Int):Rat)=R.rc (aJ.iW (aJ.fN b)) 0 1:=by
 obtain⟨hp,_,_,_⟩:=aJ.Ce h0 hf;have c0:((0:Int):Rat)=0:=by norm_cast
 have c1:((1:Int):Rat)=1:=by norm_cast
 have cm:((-1:Int):Rat)=-1:=by norm_cast
 have n0:(-0:Rat)=0:=by grind
 rw[Mg];unfold jW.Zn fI.uT at *;rw[show fS.nR 64 b=aJ.fN b from rfl]at *;generalize aJ.fN b=q at *;obtain⟨m,e⟩:=q;have ho:=hp.2.2.2;have hz:=hp.2.2.1;have q:R.qz (m,e)=(m:Rat)*R.pz e:=rfl;rw[q];unfold dS.wW R.rs R.rc at *;dsimp only at *
 by_cases z:m=0
 ·have e0:=hz z;subst z e0;have hK:aJ.iW (0,0)=0:=by decide
  rw[hK];refine⟨by rw[c0];grind,?_,?_⟩ <;> simp
 ·by_cases ce:0<=e
  ·have hK:aJ.iW (m,e)=m*p2 (e+1):=by unfold aJ.iW;rw[if_pos ce]
   rw[hK];refine⟨by rw[bWL,Dl (by omega),R.hI];grind,?_⟩;have aWE:=ho z;have p1:p2 (e+1)=p2 e*2:=by
    have:=nF (m:=e) (n:=1) (by omega) (by omega);exact this
   by_cases e0:e=0
   ·subst e0;have k2:m*p2 (0+1)%4=2:=by rw[show p2 (0+1)=2 by decide];omega
    rw[k2];constructor <;> simp[z]
   ·have p3:p2 e=p2 (e-1)*2:=by
     have:=nF (m:=e-1) (n:=1) (by omega) (by omega);rwa [show e-1+1=e by omega]at this
    have k0:m*p2 (e+1)%4=0:=by
     rw[p1,p3,<-bSE,<-bSE];generalize m*p2 (e-1)=t;omega
    rw[k0];constructor <;> simp[z,ce,e0]
  ·have e1:e=-1:=by
    rcases Decidable.em (e=-1)with h' |h'
    ·exact h'
    ·exfalso;simp[z,ce,h']at h
   subst e1;have aWE:=ho z;have hK:aJ.iW (m,-1)=m:=by
    unfold aJ.iW;dsimp only;rw[if_neg (by decide),show p2 (-(-1:Int))=2 by decide,show p2 (1-(-1:Int))=4 by decide];omega
   rw[hK];have hh:R.pz (-1)=1/2:=by
    have:=R.nD 0;rw[R.fB,show(0:Int)-1=-1 by rfl]at this;grind
   refine⟨by rw[hh];grind,?_⟩
   by_cases h3:m%4=3
   ·constructor <;> simp[z,h3]
   ·have h1:m%4=1:=by omega
    constructor <;> simp[z,h1]
theorem aRW{fn b p:Int}(h4:fn=4\/fn=5)(hb:0<=b)(hf:aZ.fA 64 b=true)(hp:1<=p/\p<=66000):aWA (jW.aHH fn b p) (vT fn b) p/\jW.aIS fn b=false:=by
 obtain⟨⟨p4,p5,bFF⟩,hx⟩:=aJY b;cases hc:jW.Zn 4 b with
 |true =>
  have hx:=hx hc;obtain⟨hq,v4,v5⟩:=aEQ hb hf hc;unfold vT jW.aHH tv;rw[hq,show(0:Rat)*R.pi=0 by grind,R.aII,R.Np];rcases h4 with rfl |rfl
  ·rw[hc,p4,cond_true,cond_false,if_pos rfl,<-v4];exact⟨aEW (by omega) hp.1,rfl⟩
  ·rw[<-bFF,hc,p5,cond_true,cond_false,if_neg (by decide),if_pos rfl,<-v5];exact⟨aEW (by omega) hp.1,rfl⟩
 |false =>
  have hr:=jW.Td hb hf (.inl rfl) hc;unfold jW.aHH;rcases h4 with rfl |rfl
  ·rw[hc,p4,cond_false];exact⟨aEX (Sm hr hp (.inl rfl)) hp (.inl rfl),rfl⟩
  ·rw[<-bFF,hc,p5,cond_false];exact⟨aEX (Sm hr hp (.inr (.inl rfl))) hp (.inr rfl),rfl⟩
theorem aBD{fn b w n:Int}(h4:fn=4\/fn=5)(h:R.qz (aJ.fN w)=R.qz (aJ.fN b)+(n:Rat)):vT fn w=if n%2=0 then vT fn b else -vT fn b:=by
 obtain⟨hk,hd⟩:=Kj h;unfold vT;rw[hk,hd];generalize aJ.iW (aJ.fN b)=k;generalize R.sn _=s;generalize R.cs _=c;unfold tv R.rs R.rc;have key:∀A B C D:Rat,(if(k+2*n)%4=0 then A else if(k+2*n)%4=1 then B else if(k+2*n)%4=2 then C else D)=if n%2=0 then(if k%4=0 then A else if k%4=1 then B else if k%4=2 then C else D)else(if k%4=0 then C else if k%4=1 then D else if k%4=2 then A else B):=by
  intro A B C D
  repeat' split
  all_goals first |rfl |omega
 rcases h4 with rfl |rfl
 ·rw[if_pos rfl,if_pos rfl,key];split
  ·rfl
  ·repeat' split
   all_goals grind
 ·rw[if_neg (show ¬(5:Int)=4 by decide),if_pos rfl,if_neg (show ¬(5:Int)=4 by decide),if_pos rfl,key];split
  ·rfl
  ·repeat' split
   all_goals grind
end M
namespace W
open Go AI M
namespace aHT
def E:=mE [] 11 [] [] []
def aE:=bd f52
theorem aW:Nk E aE:=nk
theorem start a:aF E f52 aE [D.s (sc (int i64 a))]=letI A:=int i64 0;aB (a==32) (some [D.agg [sc (int i64 24),sc (int i64 (-149:Int)),sc (int i64 31)]]) (aB (a==64) (some [D.agg [sc (int i64 53),sc (int i64 (-1074:Int)),sc (int i64 63)]]) (some [D.agg [sc A,sc A,sc A]])):=eJ aW
def aCT(f:Int):Int×Int×Int:=if f=32 then(24,-149,31)else if f=64 then(53,-1074,63)else(0,0,0)
def sp(f:Int):Prop×List D:=(True,[.agg [.sc (.int .i64 (aCT f).1),.sc (.int .i64 (aCT f).2.1),.sc (.int .i64 (aCT f).2.2)]])
theorem spec:gI E f52 aE (pN .i64) sp:=by
 intro f h;refine(start f).trans ?_;unfold sp aCT
 by_cases h1:f=32
 ·rw[cC h1,if_pos h1]
 ·rw[bP h1,if_neg h1]
  by_cases h2:f=64
  ·rw[cC h2,if_pos h2]
  ·rw[bP h2,if_neg h2]
def aG:cX:=orc1 (pN .i64) sp
theorem ok:OK 52 aG:=(eB E aE aD func52).nA rfl spec
end aHT
namespace oM
def E:=mE [] 11 [] [] []
def aE:=bd f85
theorem aW:Nk E aE:=nk
theorem start a b c:aF E f85 aE [D.agg [sc (int i64 a),sc (int i64 b),sc (int i64 c)]]=if c<0 then none else if i64.wrap (a-1)<0 then none else some [D.s (sc (int u64 (u64.wrap (u64.wrap ((1:Int)*(↑((2:Nat)^min c.toNat 64):Int))-u64.wrap ((1:Int)*(↑((2:Nat)^min (i64.wrap (a-1)).toNat 64):Int))))))]:=eJ aW
def tY(w:Int×Int×Int):Prop:=w=(24,-149,31)\/w=(53,-1074,63)
def yG(w:Int×Int×Int):Int:=if w.1=24 then 2139095040 else 9218868437227405312
def sp(w:Int×Int×Int):Prop×List D:=(tY w,[.s (.sc (.int .u64 (yG w)))])
theorem spec:gI E f85 aE (pG (.pair (sN .i64) (.pair (sN .i64) (sN .i64)))) sp:=by
 intro w h;refine(start w.1 w.2.1 w.2.2).trans ?_;rcases(show tY w from h)with rfl |rfl <;> rfl
def aG:cX:=orc1 (pG (.pair (sN .i64) (.pair (sN .i64) (sN .i64)))) sp
theorem ok:OK 85 aG:=(eB E aE aD func85).nA rfl spec
end oM
namespace pC
def E:=mE [(149,lY.aG)] 11 [8] [] []
def aE:=bd f107
theorem aW:Nk E aE:=nk
theorem start a c b:aF E f107 aE [D.agg [sc (bool a),ints u64 c],D.s (sc (int i64 b))]=letI A:=lY.sG 2 a (M6.val c) b;letI B:=bif fit A then zs a A else(0:Int);aP (jK (a,c)/\0<=b/\b<4611686018427387904) (some [D.agg [sc (bool (isNeg B)),ints u64 (M6.dg B.natAbs)],D.s (sc (int i64 (bif fit A then(0:Int)else(5:Int))))]):=eJ aW
def Ak(v:Nat)(n:Int):Nat:=lY.sG 2 false v n
theorem aIY(p:Bool)(v:Nat)(n:Int):lY.sG 2 p v n=Ak v n:=rfl
theorem small{v:Nat}{n:Int}(h:0<=n)(hb:bl v<=524288):fit (Ak v n)=true:=by
 refine decide_eq_true (bMN (gD ?_) hb);unfold Ak lY.sG mW.mT;rw[show((2:Int)==0)=false from rfl,show((2:Int)==1)=false from rfl,cond_false,cond_false];unfold lY.Qo
 by_cases hc:0<=n-1/\v/2^(n-1).toNat%2=1
 ·have hv:v≠0:=fun hz=>by rw[hz,Nat.zero_div]at hc;omega
  have hn:2^n.toNat=2^(n-1).toNat*2:=by rw[<-bQQ];congr 1;omega
  have hp:=bOQ (n:=(n-1).toNat) (show 0<2 by omega);have h1:v/2^n.toNat<=v/2:=Nat.div_le_div_left (by omega) (by omega);have h2:∀b:Bool,(bif b then(1:Nat)else 0)<=1:=by intro b;cases b <;> decide
  by_cases bKP:v=1
  ·subst bKP;have zF:2^(n-1).toNat=1:=by
    rcases Nat.lt_or_ge 1 (2^(n-1).toNat)with h |h
    ·rw[bRO h]at hc;omega
    ·omega
   have ht:tz 1=0:=by simp[tz]
   have Xb:n=1:=by
    rcases cAC (n-1).toNat with h |h
    ·omega
    ·have:=Nat.pow_le_pow_right (n:=2) (by omega) h;omega
   subst Xb;rw[ht];decide
  ·exact bMN (Nat.add_le_add h1 (h2 _)) (by omega)
 ·have:(decide (0<=n-1)&&decide (v/2^(n-1).toNat%2=1))=false:=by
   rw[Bool.and_eq_false_iff]
   by_cases h0:0<=n-1
   ·exact .inr (decide_eq_false fun h=>hc ⟨h0,h⟩)
   ·exact .inl (decide_eq_false h0)
  rw[this];exact bMN (Nat.le_of_eq (bMS _)) (bUE _ _)
def sp(x:Bool×List Int)(n:Int):Prop×List D:=(jK x/\0<=n/\n<4611686018427387904,[wD (zs x.1 (Ak (M6.val x.2) n)),.s (.sc (.int .i64 0))])
theorem spec:fK E f107 aE vI (pN .i64) sp:=by
 intro x n h;have h':=h;obtain⟨hx,h0,h1⟩:=h;refine(start x.1 x.2 n).trans ((gP h').trans ?_);unfold sp
 try dsimp only
 rw[aIY,small h0 hx.bl];rfl
def aG:cX:=orc2 vI (pN .i64) sp
theorem ok:OK 107 aG:=(eB E aE (aA lY.ok aD) func107).lE rfl spec
end pC
namespace sM
def E:=mE [(106,sA.aG),(85,oM.aG),(107,pC.aG),(48,Il.aG)] 71 [19] [(9,[3,8,9]),(12,[3,8,10])] [9,12]
def aE:=bd f54
theorem aW:Nk E aE:=nk
def J9 a b c d e f:=kV E f54 aE 9 [dG 0 98 [cP a,cP b,cP c],bI d,dG 2 27 [cI e,eT f]]
def aQH a b c d e:=kV E f54 aE 12 [dG 0 98 [cP a,cP b,cP c],bI d,cG e]
theorem start a d e b c:aF E f54 aE [D.agg [sc (int i64 a),sc (int i64 d),sc (int i64 e)],D.s (ints u64 b),D.s (sc (int i64 c))]=letI G:=i64.wrap (c+(↑(bl (M6.val b)):Int))-1;letI A:=i64.wrap (i64.wrap G-a)+1;letI F:=zs false (pC.Ak (M6.val b) (i64.wrap ((if d>i64.wrap A then d else i64.wrap A)-c)));letI B:=c-if d>i64.wrap A then d else i64.wrap A;letI C:=bif fit (M6.val b*(2:Nat)^(i64.wrap B).toNat)then wv (false,b)*(↑((2:Nat)^(i64.wrap B).toNat):Int)else(0:Int);aP (M6.cA b/\b.length<=1099511627776) (aB (decide (1100<i64.wrap G)) (aP (oM.tY (a,d,e)) (aC (oM.yG (a,d,e)) fun f=>some [D.s (sc (int u64 f))])) (aB (decide (c<=if d>i64.wrap A then d else i64.wrap A)) (aP (jK (false,b)/\0<=i64.wrap ((if d>i64.wrap A then d else i64.wrap A)-c)/\i64.wrap ((if d>i64.wrap A then d else i64.wrap A)-c)<4611686018427387904) (aC (isNeg F) fun g=>aC (M6.dg F.natAbs) fun h=>sM.J9 a d e (if d>i64.wrap A then d else i64.wrap A) g h)) (aP (jK (false,b)/\0<=i64.wrap B/\i64.wrap B<4611686018427387904) (aC (isNeg C) fun i=>aC (M6.dg C.natAbs) fun j=>sM.J9 a d e (if d>i64.wrap A then d else i64.wrap A) i j)))):=eJ aW
theorem Ir a b c d e f:J9 a b c d e f=aB (decide (0<(f.length:Int))) (if(0:Int)<=(0:Int)/\0<(f.length:Int)then sM.aQH a b c d (f.getD 0 0)else none) (sM.aQH a b c d 0):=cJ aW
theorem Vd a b c d e:aQH a b c d e=letI A:=u64.wrap (u64.wrap (i64.wrap (d-b))*(↑((2:Nat)^min (i64.wrap (a-1)).toNat 64):Int))+e;if i64.wrap (a-1)<0 then none else aP (oM.tY (a,b,c)) (aC (oM.yG (a,b,c)) fun f=>some [D.s (sc (int u64 (if f<u64.wrap A then f else u64.wrap A)))]):=cJ aW
def fY(w:Int×Int×Int)(v:Nat)(e:Int):Int:=if w.2.1>e+(bl v:Nat)-1-w.1+1 then w.2.1 else e+(bl v:Nat)-1-w.1+1
def Fs(w:Int×Int×Int)(v:Nat)(e:Int):Nat:=if e<=fY w v e then pC.Ak v (fY w v e-e)else v*2^(e-fY w v e).toNat
def Ge(w:Int×Int×Int)(v:Nat)(e:Int):Int:=if 1100<e+(bl v:Nat)-1 then oM.yG w else(if oM.yG w<(fY w v e-w.2.1)*((2^(w.1-1).toNat:Nat):Int)+(Fs w v e:Nat)then oM.yG w else(fY w v e-w.2.1)*((2^(w.1-1).toNat:Nat):Int)+(Fs w v e:Nat))
theorem Wt(v:Nat)(n:Int):pC.Ak v n<=v/2^n.toNat+1:=by
 unfold pC.Ak lY.sG;generalize mW.mT _ _ _ _ _=b;cases b
 ·exact Nat.le_succ _
 ·exact bLR _
theorem aBF{w:Int×Int×Int}(h:oM.tY w){v:Nat}(e:Int):Fs w v e<=2^53:=by
 have hm:w.1<=53:=by rcases h with rfl |rfl <;> decide
 have aAS:1<=w.1:=by rcases h with rfl |rfl <;> decide
 have hu:e+(bl v:Nat)-1-w.1+1<=fY w v e:=by unfold fY;split <;> omega
 have hv:=tJ v;unfold Fs;split
 ·rename_i he;refine bMN (Wt _ _) ?_;have:v/2^(fY w v e-e).toNat<2^53:=by
   apply Nat.div_lt_of_lt_mul;rw[<-bQS];exact bMR hv (fD)
  omega
 ·rename_i he;have h1:v*2^(e-fY w v e).toNat<=2^bl v*2^(e-fY w v e).toNat:=Nat.mul_le_mul_right _ (Nat.le_of_lt hv);rw[<-bQS]at h1;exact bMN h1 (fD)
def sp(w:Int×Int×Int)(b:List Int)(e:Int):Prop×List D:=(oM.tY w/\M6.cD b/\M6.val b≠0/\b.length<=8192/\-2000000<=e/\e<=2000000,[.s (.sc (.int .u64 (Ge w (M6.val b) e)))])
theorem spec:qR E f54 aE (pG (.pair (sN .i64) (.pair (sN .i64) (sN .i64)))) (pI .u64) (pN .i64) sp:=by
 rintro w b e ⟨ht,hn,hv,hl,Xe,aJL⟩;have hb:=uX hn.iP hl;have hm:w.1=24\/w.1=53:=by rcases ht with rfl |rfl <;> decide
 have bED:-1074<=w.2.1/\w.2.1<=-149:=by rcases ht with rfl |rfl <;> decide
 refine(start w.1 w.2.1 w.2.2 b e).trans ?_;have w1:i64.wrap (i64.wrap (e+(bl (M6.val b):Int))-1)=e+(bl (M6.val b):Int)-1:=by
  rw[wrap_i64 (n:=e+_),wrap_i64]
 have w2:i64.wrap (i64.wrap (e+(bl (M6.val b):Int)-1-w.1)+1)=e+(bl (M6.val b):Int)-1-w.1+1:=by
  rw[wrap_i64 (n:=e+(bl (M6.val b):Int)-1-w.1) (by omega) (by omega),wrap_i64]
 have Kt:jK (false,b):=⟨hn,fun h=>(by cases h),hl⟩;have hu:(if w.2.1>e+(bl (M6.val b):Int)-1-w.1+1 then w.2.1 else e+(bl (M6.val b):Int)-1-w.1+1)=fY w (M6.val b) e:=rfl;unfold sp Ge
 try dsimp only
 rw[gP ⟨hn.iP,by omega⟩,w1,w2,hu];have bDP:fY w (M6.val b) e<=3000000/\-3000000<=fY w (M6.val b) e:=by unfold fY;split <;> omega
 by_cases hc:1100<e+(bl (M6.val b):Int)-1
 ·rw[aO hc,if_pos hc,gP ht];simp only[aM]
 ·rw[aI hc,if_neg hc];have Hc:=aBF ht (v:=M6.val b) e;have aTA:w.2.1<=fY w (M6.val b) e/\fY w (M6.val b) e-w.2.1<=2122/\(w.1=24->fY w (M6.val b) e-w.2.1<=2122):=by
   unfold fY;rcases ht with rfl |rfl <;> ((try dsimp only);split <;> omega)
  have hU:Fs w (M6.val b) e=if e<=fY w (M6.val b) e then pC.Ak (M6.val b) (fY w (M6.val b) e-e)else M6.val b*2^(e-fY w (M6.val b) e).toNat:=rfl
  have j9:∀(p:Bool) (m:Nat),m<=2^53->J9 w.1 w.2.1 w.2.2 (fY w (M6.val b) e) p (M6.dg m)=some [D.s (.sc (.int .u64 (if oM.yG w<(fY w (M6.val b) e-w.2.1)*((2^(w.1-1).toNat:Nat):Int)+(m:Nat)then oM.yG w else(fY w (M6.val b) e-w.2.1)*((2^(w.1-1).toNat:Nat):Int)+(m:Nat))))]:=by
   intro p m bII;have hd0:(M6.dg m).getD 0 0=(m:Int):=by
    have h1:=M6.fM (a:=M6.dg m) 0;rw[bRY,M6.bN]at h1;have h2:=(M6.iE m).get 0;generalize M6.val ((M6.dg m).drop (0+1))=r at *;have:r=0:=by
     rcases cAC r with h |h
     ·exact h
     ·omega
    omega
   have j12:aQH w.1 w.2.1 w.2.2 (fY w (M6.val b) e) (m:Int)=some [D.s (.sc (.int .u64 (if oM.yG w<(fY w (M6.val b) e-w.2.1)*((2^(w.1-1).toNat:Nat):Int)+(m:Nat)then oM.yG w else(fY w (M6.val b) e-w.2.1)*((2^(w.1-1).toNat:Nat):Int)+(m:Nat))))]:=by
    rw[Vd,wrap_i64 (n:=w.1-1),aY,gP ht,wrap_i64 (n:=fY w (M6.val b) e-w.2.1),wrap_u64 (n:=fY w (M6.val b) e-w.2.1)];simp only[aM];have aQR:0<=fY w (M6.val b) e-w.2.1/\fY w (M6.val b) e-w.2.1<=2122:=by omega
    generalize fY w (M6.val b) e-w.2.1=u at *;have hmul:u64.wrap (u64.wrap (u*((2^min (w.1-1).toNat 64:Nat):Int))+(m:Int))=u*((2^(w.1-1).toNat:Nat):Int)+(m:Int):=by
     rcases hm with h |h
     ·rw[h];show u64.wrap (u64.wrap (u*8388608)+(m:Int))=u*8388608+(m:Int);rw[wrap_u64 (n:=u*8388608),wrap_u64]
     ·rw[h];show u64.wrap (u64.wrap (u*4503599627370496)+(m:Int))=u*4503599627370496+(m:Int);rw[wrap_u64 (n:=u*4503599627370496),wrap_u64]
    rw[hmul]
   have hz:=M6.fU (n:=m);rw[Ir]
   by_cases aAS:m=0
   ·rw[aI (by have:=hz.2 aAS;omega)];subst aAS;exact j12
   ·rw[aO (by have:=fun h=>aAS (hz.1 h);omega),if_pos ⟨by omega,by have:=fun h=>aAS (hz.1 h);omega⟩,hd0,j12]
  rw[hU]at Hc ⊢
  by_cases hle:e<=fY w (M6.val b) e
  ·rw[if_pos hle]at Hc ⊢;rw[aO hle,wrap_i64 (n:=fY w (M6.val b) e-e),gP ⟨Kt,by omega,by omega⟩];simp only[aM];rw[jR,j9 _ _ Hc]
  ·rw[if_neg hle]at Hc ⊢;have aTE:fit (M6.val b*2^(e-fY w (M6.val b) e).toNat)=true:=decide_eq_true (by
    have:bl (M6.val b*2^(e-fY w (M6.val b) e).toNat)<=54:=dP.2 (by omega);omega)
   rw[aI hle,wrap_i64 (n:=e-fY w (M6.val b) e),gP ⟨Kt,by omega,by omega⟩];simp only[aM];have bHH:wv (false,b)=(M6.val b:Int):=rfl;rw[aTE,cond_true,bHH,<-bRP,bRJ,j9 _ _ Hc]
def aG:cX:=orc3 (pG (.pair (sN .i64) (.pair (sN .i64) (sN .i64)))) (pI .u64) (pN .i64) sp
theorem ok:OK 54 aG:=(eB E aE (aA sA.ok (aA oM.ok (aA pC.ok (aA Il.ok aD)))) func54).zA rfl spec
end sM
namespace yC
def E:=mE [] 14 [] [] []
def aE:=bd f53
theorem aW:Nk E aE:=nk
theorem start a d e b c:aF E f53 aE [D.agg [sc (int i64 a),sc (int i64 d),sc (int i64 e)],D.s (sc (bool b)),D.s (sc (int u64 c))]=aB b (if e<0 then none else some [D.s (sc (int u64 (dX BinOp.or u64 c (u64.wrap ((1:Int)*(↑((2:Nat)^min e.toNat 64):Int))))))]) (some [D.s (sc (int u64 c))]):=eJ aW
def aRY(w:Int×Int×Int)(b:Bool)(c:Int):Int:=bif b then c+(if w.1=24 then 2147483648 else 9223372036854775808)else c
def sp(w:Int×Int×Int)(b:Bool)(c:Int):Prop×List D:=(oM.tY w/\0<=c/\c<=oM.yG w,[.s (.sc (.int .u64 (aRY w b c)))])
theorem spec:qR E f53 aE (pG (.pair (sN .i64) (.pair (sN .i64) (sN .i64)))) pB (pN .u64) sp:=by
 rintro w b c ⟨ht,h0,h1⟩;refine(start w.1 w.2.1 w.2.2 b c).trans ?_;unfold sp aRY;obtain⟨n,rfl⟩:=bQT h0;rcases ht with rfl |rfl
 ·have h1:(n:Int)<=2139095040:=h1;have e:=bUO (i:=31) (b:=n) (by omega) 1;cases b with
  |false=>rfl
  |true =>
   rw[bT,if_neg (by decide)];show some [D.s (.sc (.int .u64 (dX .or .u64 (n:Int) 2147483648)))]=_;rw[Pq (by omega) (by omega) (by omega) (by omega),bPN,Nat.or_comm];rw[bMB]at e;rw[show(2147483648:Int).toNat=2^31 from rfl,<-e];show some [D.s (.sc (.int .u64 ((2^31+n:Nat):Int)))]=some [D.s (.sc (.int .u64 ((n:Int)+2147483648)))];rw[bZH,Int.add_comm];rfl
 ·have h1:(n:Int)<=9218868437227405312:=h1;have e:=bUO (i:=63) (b:=n) (by omega) 1;cases b with
  |false=>rfl
  |true =>
   rw[bT,if_neg (by decide)];show some [D.s (.sc (.int .u64 (dX .or .u64 (n:Int) 9223372036854775808)))]=_;rw[Pq (by omega) (by omega) (by omega) (by omega),bPN,Nat.or_comm];rw[bMB]at e;rw[show(9223372036854775808:Int).toNat=2^63 from rfl,<-e];show some [D.s (.sc (.int .u64 ((2^63+n:Nat):Int)))]=some [D.s (.sc (.int .u64 ((n:Int)+9223372036854775808)))];rw[bZH,Int.add_comm];rfl
def aG:cX:=orc3 (pG (.pair (sN .i64) (.pair (sN .i64) (sN .i64)))) pB (pN .u64) sp
theorem ok:OK 53 aG:=(eB E aE aD func53).zA rfl spec
end yC
namespace Bh
def E:=mE [(52,aHT.aG),(45,jZ.aG),(54,sM.aG),(53,yC.aG)] 35 [34] [] []
def aE:=bd f15
theorem aW:Nk E aE:=nk
theorem start a b c d:aF E f15 aE [D.s (sc (int i64 a)),D.agg [sc (bool b),ints u64 c,sc (int i64 d)]]=letI A:=aHT.aCT a;aP True (aC A.snd.fst fun e=>aC A.snd.snd fun f=>letI B:=(A.fst,e,f);aB (A.fst==0&&(e==0&&(f==0&&true))) (some [D.s (sc (int u64 0)),D.s (sc (int i64 1))]) (aP (aL (b,c,d)) (aB ((c.length:Int)==(0:Int)) (some [D.s (sc (int u64 0)),D.s (sc (int i64 0))]) (aP (oM.tY B/\M6.cD c/\M6.val c≠0/\c.length<=8192/\(-2000000:Int)<=d/\d<=2000000) (aC (sM.Ge B (M6.val c) d) fun g=>aP (oM.tY B/\0<=g/\g<=oM.yG B) (aC (yC.aRY B b g) fun h=>some [D.s (sc (int u64 h)),D.s (sc (int i64 0))])))))):=eJ aW
def Gv(f:Int)(p:Int×Int):Int:=if p.1=0 then 0 else yC.aRY (aHT.aCT f) (isNeg p.1) (sM.Ge (aHT.aCT f) p.1.natAbs p.2)
theorem aMU{f:Int}(h:f=32\/f=64):oM.tY (aHT.aCT f):=by
 rcases h with rfl |rfl
 ·exact .inl rfl
 ·exact .inr rfl
theorem Vx{w:Int×Int×Int}(h:oM.tY w)(v:Nat)(e:Int):0<=sM.Ge w v e/\sM.Ge w v e<=oM.yG w:=by
 have hi:0<=oM.yG w:=by unfold oM.yG;split <;> omega
 have hu:0<=sM.fY w v e-w.2.1:=by unfold sM.fY;split <;> omega
 have hm:=Int.mul_nonneg hu (Int.natCast_nonneg (2^(w.1-1).toNat));unfold sM.Ge;split
 ·omega
 ·split <;> omega
def sp(f:Int)(x:dR):Prop×List D:=((f=32\/f=64)/\aL x,[.s (.sc (.int .u64 (Gv f (dv x)))),.s (.sc (.int .i64 0))])
theorem spec:fK E f15 aE (pN .i64) gZ sp:=by
 rintro f x ⟨hf,hx⟩;have ht:=aMU hf;have he:=hx.2.1;refine(start f x.1 x.2.1 x.2.2).trans ?_;have h0:((aHT.aCT f).1==0)=false:=by rcases hf with rfl |rfl <;> rfl
 simp only[aM];rw[gP trivial,h0,bRA,bF,gP hx];have hz:=M6.cO hx.Fg;have hd:(dv x).1=wv (x.1,x.2.1):=rfl;have ha:(dv x).1.natAbs=M6.val x.2.1:=iO (x.1,x.2.1);have hs:isNeg (dv x).1=x.1:=hx.Dh.cells.1;unfold sp Gv
 try dsimp only
 rw[ha,hs]
 by_cases hl:x.2.1.length=0
 ·rw[cC,if_pos (by have:=hz.1 hl;omega)]
 ·have hv:M6.val x.2.1≠0:=fun h=>hl (hz.2 h)
  have hb:=Vx ht (M6.val x.2.1) x.2.2;rw[bP,aY,gP ⟨ht,hx.Fg,hv,hx.len,by omega,by omega⟩,gP ⟨ht,hb⟩];rfl
def aG:cX:=orc2 (pN .i64) gZ sp
theorem ok:OK 15 aG:=(eB E aE (aA aHT.ok (aA jZ.ok (aA sM.ok (aA yC.ok aD)))) func15).lE rfl spec
end Bh
end W
namespace M
open Go AI W
theorem Fl{n:Int}(h:-9223372036854775808<=n/\n<9223372036854775808):AI.dX .and .i64 n 1=n%2:=by
 rw[AI.pA];unfold AI.bitsI0;simp only;have e:(BitVec.ofInt i64.bits n &&& BitVec.ofInt i64.bits 1).toNat=(n%2).toNat:=by
  show(BitVec.ofInt 64 n &&& BitVec.ofInt 64 1).toNat=_;rw[BitVec.toNat_and];have e1:(BitVec.ofInt 64 n).toNat=(n%18446744073709551616).toNat:=by simp
  have e2:(BitVec.ofInt 64 1).toNat=2^1-1:=by decide
  rw[e1,e2,Nat.and_two_pow_sub_one_eq_mod];omega
 rw[e,wrap_i64];omega
theorem aIZ(p:Int×Int):0<=Bh.Gv 64 p/\Bh.Gv 64 p<18446744073709551616:=by
 unfold Bh.Gv;split
 ·omega
 ·obtain⟨h1,h2⟩:=Bh.Vx (w:=aHT.aCT 64) (.inr rfl) p.1.natAbs p.2;rw[show oM.yG (aHT.aCT 64)=9218868437227405312 from rfl]at h2;unfold yC.aRY;rw[if_neg (by decide)];cases isNeg p.1
  ·rw[cond_false];omega
  ·rw[cond_true];omega
theorem Wh{p q:Int×Int}(hp:iL p)(hq:iL q)(h:R.qz p=R.qz q)(hle:p.2<=q.2)(z:p.1≠0):p=q:=by
 have a:=(R.Pm (p:=p) (q:=q) (Int.le_refl p.2) hle).1 (by rw[h];exact bSF);have b:=(R.Pm (p:=q) (q:=p) hle (Int.le_refl p.2)).1 (by rw[h];exact bSF);have e:=Int.le_antisymm a b;rw[Int.sub_self,show(0:Int).toNat=0 from rfl,show((2^0:Nat):Int)=1 by decide,Int.mul_one]at e;have aWE:=hp.2.2.2 z;obtain⟨k,hk⟩:=bQT (show 0<=q.2-p.2 by omega);rw[hk,bPN]at e;cases k with
 |zero =>
  rw[show((2^0:Nat):Int)=1 by decide,Int.mul_one]at e;obtain⟨p1,p2⟩:=p;obtain⟨q1,q2⟩:=q;dsimp only at e hk;rw[e,show p2=q2 by omega]
 |succ k =>
  rw[bQQ,bRP,<-bSE]at e;generalize q.1*((2^k:Nat):Int)=t at e;have:((2:Nat):Int)=2:=rfl;omega
theorem aNH{p q:Int×Int}(hp:iL p)(hq:iL q)(h:R.qz p=R.qz q):p=q:=by
 by_cases z:p.1=0
 ·have h0:=R.lP z;have z':q.1=0:=by
   rcases Decidable.em (q.1=0)with c |c
   ·exact c
   ·exact absurd (h.symm.trans h0) (Pl c)
  have a:=hp.2.2.1 z;have b:=hq.2.2.1 z';obtain⟨p1,p2⟩:=p;obtain⟨q1,q2⟩:=q;dsimp only at z z' a b;rw[z,z',a,b]
 ·have z':q.1≠0:=fun c=>(Pl z) (h.trans (R.lP c))
  rcases Int.le_total p.2 q.2 with c |c
  ·exact Wh hp hq h c z
  ·exact(Wh hq hp h.symm c z').symm
theorem Po{b:Int}(h0:0<=b)(hf:aZ.fA 64 b=true):iL (aJ.oW (aJ.fN b)):=by
 cases hc:jW.Zn 4 b with
 |false=>exact(jW.Td h0 hf (.inl rfl) hc).uK
 |true =>
  obtain⟨hq,_⟩:=aEQ h0 hf hc;have e:aJ.oW (aJ.fN b)=aK (aJ.Ac (aJ.fN b)) ((aJ.fN b).2-1):=rfl;have z:aJ.Ac (aJ.fN b)=0:=by
   rcases Decidable.em (aJ.Ac (aJ.fN b)=0)with c |c
   ·exact c
   ·refine absurd hq (Pl fun hh=>c ?_);rw[e]at hh;exact dC.1 hh
  rw[e,z,cZ];exact(aJX (n:=1) (E:=0) (by decide)).uK
theorem aIG{b n:Int}(h0:0<=b)(hf:aZ.fA 64 b=true)(hn:-9223372036854775808<=n/\n<9223372036854775808):iL (aK n 0)/\bJ.iV (aJ.fN b) (aK n 0)=true/\iL (bJ.mL (aJ.fN b) (aK n 0))/\R.qz (bJ.mL (aJ.fN b) (aK n 0))=R.qz (aJ.fN b)+(n:Rat):=by
 obtain⟨hp,hm,e0,e1⟩:=aJ.Ce h0 hf;have bn:bl n.natAbs<=64:=dP.2 (by omega);have pn:iL (aK n 0):=fF (fJ (by omega) (by omega)) (by omega);have qn:R.qz (aK n 0)=(n:Rat):=by rw[mF,R.fB,cAB]
 have en:-1100<=(aK n 0).2:=by
  by_cases z:n=0
  ·rw[z,cZ];decide
  ·have:=mN (e:=0) z;omega
 have aRJ:∀(z:Nat) (e k:Int),z<2^64->e<=1024->R.ab (R.qz ((z:Int),e))<=R.pz (-1100+((2300:Nat):Int)):=by
  intro z e k hz he;rw[yQ];dsimp only;rw[bRJ];have a:(z:Rat)<=((2^64:Nat):Rat):=by exact_mod_cast Nat.le_of_lt hz
  have c:=R.dO he;have P:=R.dT e;have Q:(0:Rat)<=((2^64:Nat):Rat):=by exact_mod_cast Nat.zero_le _
  have m1:=R.aH (bQY P) (show 0<=((2^64:Nat):Rat)-(z:Rat) by grind);have m2:=R.aH Q (show 0<=R.pz 1024-R.pz e by grind);have k1:=R.dU 1024 64;have k2:=R.dO (show(1024:Int)+((64:Nat):Int)<=-1100+((2300:Nat):Int) by decide);generalize ((2^64:Nat):Rat)=T at *;grind
 have ok:=Ur hp pn (show -1100<=(aJ.fN b).2 by omega) en (n:=2300)
  (by
   have:=aRJ (aJ.fN b).1.natAbs (aJ.fN b).2 0 (by omega) e1;rwa [yQ,bRJ,<-yQ]at this)
  (by
   have:=aRJ n.natAbs 0 0 (by omega) (by decide);rw[yQ,bRJ]at this;rw[qn];have e:(n:Rat)=R.qz (n,0):=by show _=(n:Rat)*R.pz 0;rw[R.fB,cAB]
   rw[e,yQ];exact this)
  (by decide) (by decide) (by decide)
 exact⟨pn,ok,Mh hp pn ok,by rw[Sz,qn]⟩
end M
namespace W
open Go AI M
namespace SFirstG2
def E:=mE [(169,Be.aG)] 25 [] [(3,[1,4,5,12,13,14])] []
def aE:=bd f168
theorem aW:Nk E aE:=nk
def L3 a b c d e (f:Nat) (g:Nat->Bool) (h:Nat->List Int) (j:Nat->Int) k l:=nG E f168 aE 3 [vA (sc (Value.func (Fn.func 169) { toList:=[] } { toList:=[] })),dG 1 29 [cI a,sc (slice none 0 0),cP b],dG 2 29 [cI c,eT d,cP e],(A.v (V.one (L.rows 3 f fun i=>[sc (bool (g i)),ints u64 (h i),sc (int i64 (j i))])),none),bI k,bI l]
theorem start(a:dR)(b:dR):aF E f168 aE [D.rows 3 2 fun i=>[sc (bool (t2 a b i).fst),ints u64 (t2 a b i).snd.fst,sc (int i64 (t2 a b i).snd.snd)],D.s (sc (Value.func (Fn.func (169:FuncId)) #[] #[]))]=letI A:=t2 a b (bZC 0);SFirstG2.L3 false 0 A.fst A.snd.fst A.snd.snd 1 (fun i=>(t2 a b (bZC 1+i)).fst) (fun i=>(t2 a b (bZC 1+i)).snd.fst) (fun i=>(t2 a b (bZC 1+i)).snd.snd) 1 0:=eJ aW
theorem pD a b c d e f g h j k l:L3 a b c d e f g h j k l=letI A:=(g l.toNat,h l.toNat,j l.toNat);aB (decide (l<k)) (if 0<=l/\l<(f:Int)then aP (aL A/\aL (c,d,e)) (aB (decide (0<cR (dv A) (dv (c,d,e)))) (SFirstG2.L3 a b (g l.toNat) (h l.toNat) (j l.toNat) f (fun i=>g i) (fun i=>h i) (fun i=>j i) k (i64.wrap (l+1))) (SFirstG2.L3 a b c d e f (fun i=>g i) (fun i=>h i) (fun i=>j i) k (i64.wrap (l+1))))else none) (some [D.agg [sc (bool c),ints u64 d,sc (int i64 e)]]):=lJ aW
def best(f:Nat->dR):Nat->dR
 |0=>f 0
 |k+1=>bif decide (0<cR (dv (f (k+1))) (dv (best f k)))then f (k+1)else best f k
def pV(a:dR×dR):dR:=best (t2 a.1 a.2) 1
def sp(a:dR×dR)(u:Unit):Prop×List D:=(aL a.1/\aL a.2,[.agg [.sc (.bool (pV a).1),.ints .u64 (pV a).2.1,.sc (.int .i64 (pV a).2.2)]])
theorem kJ{f:Nat->dR}{n:Nat}(hf:∀i,i<n->aL (f i)):∀k,k<n->aL (best f k)
 |0,h=>hf 0 h
 |k+1,h=>by
  unfold best;cases decide (0<cR (dv (f (k+1))) (dv (best f k)))
  ·exact kJ hf k (by omega)
  ·exact hf (k+1) h
theorem L(b0:Bool)(x1:Int)(n:Nat)(f:Nat->dR)(hn:n<1000)(hf:∀i,i<n+1->aL (f i)):∀d k:Nat,k+d=n->L3 b0 x1 (best f k).1 (best f k).2.1 (best f k).2.2 n (fun i=>(f (1+i)).1) (fun i=>(f (1+i)).2.1) (fun i=>(f (1+i)).2.2) (n:Int) (k:Int)=some [.agg [.sc (.bool (best f n).1),.ints .u64 (best f n).2.1,.sc (.int .i64 (best f n).2.2)]]
 |0,k,h=>by
  obtain rfl:k=n:=by omega
  rw[pD,aI]
 |d+1,k,h=>by
  have e:i64.wrap ((k:Int)+1)=((k+1:Nat):Int):=by rw[wrap_i64];omega
  have r:=L b0 x1 n f hn hf d (k+1) (by omega);have g1:aL (f (1+k)):=hf _ (by omega);have g2:aL (best f k):=kJ hf k (by omega);have c1:f (k+1)=f (1+k):=by rw[Nat.add_comm]
  rw[pD,aO,aU,bPN,gP ⟨g1,g2⟩,e]
  by_cases hc:0<cR (dv (f (k+1))) (dv (best f k))
  ·have hb:best f (k+1)=f (1+k):=by
    rw[<-c1];show(bif decide (0<cR (dv (f (k+1))) (dv (best f k)))then f (k+1)else best f k)=_;rw[decide_eq_true hc];rfl
   rw[c1]at hc;rw[aO hc];rw[hb]at r;exact r
  ·have hb:best f (k+1)=best f k:=by
    show(bif decide (0<cR (dv (f (k+1))) (dv (best f k)))then f (k+1)else best f k)=_;rw[decide_eq_false hc];rfl
   rw[c1]at hc;rw[aI hc];rw[hb]at r;exact r
theorem all{a:dR×dR}(h:aL a.1/\aL a.2):∀i,i<2->aL (t2 a.1 a.2 i):=fun i hi=>by
  obtain rfl |rfl:i=0\/i=1:=by omega
  ·exact h.1
  ·exact h.2
theorem zI{a:dR×dR}(h:aL a.1/\aL a.2):aL (pV a):=kJ (n:=2) (all h) 1 (by decide)
theorem Ui(a:dR×dR):dv (pV a)=Bn (dv a.1) (dv a.2):=by
 show dv (bif decide (0<cR (dv a.2) (dv a.1))then a.2 else a.1)=bif decide (0<cR (dv a.2) (dv a.1))then dv a.2 else dv a.1
 cases decide (0<cR (dv a.2) (dv a.1)) <;> rfl
theorem spec:fK E f168 aE (aAN (.pair sB (.pair (sI .u64) (sN .i64))) (false,[],0)) (pFn 169) sp:=fun a u h =>
 (start a.1 a.2).trans (L false 0 1 (t2 a.1 a.2) (by decide) (all h) 1 0 (by decide))
def aG:cX:=orc2 (aAN (.pair sB (.pair (sI .u64) (sN .i64))) (false,[],0)) (pFn 169) sp
theorem ok:OK 168 aG:=(eB E aE (aA Be.ok aD) func168).lE rfl spec
end SFirstG2
namespace Ux
def E:=mE [(168,SFirstG2.aG)] 5 [] [] []
def aE:=bd f121
theorem aW:Nk E aE:=nk
theorem start(a:dR)(b:dR):aF E f121 aE [D.rows 3 2 fun i=>[sc (bool (t2 a b i).fst),ints u64 (t2 a b i).snd.fst,sc (int i64 (t2 a b i).snd.snd)]]=letI C:=t2 a b 1;letI B:=t2 a b 0;letI F:=(B.fst,B.snd.fst,B.snd.snd);letI A:=SFirstG2.pV (F,C.fst,C.snd.fst,C.snd.snd);aP (aL F/\aL (C.fst,C.snd.fst,C.snd.snd)) (some [D.agg [sc (bool A.fst),ints u64 A.snd.fst,sc (int i64 A.snd.snd)]]):=eJ aW
def sp(a:dR×dR):Prop×List D:=(aL a.1/\aL a.2,[.agg [.sc (.bool (SFirstG2.pV a).1),.ints .u64 (SFirstG2.pV a).2.1,.sc (.int .i64 (SFirstG2.pV a).2.2)]])
theorem spec:gI E f121 aE (aAN (.pair sB (.pair (sI .u64) (sN .i64))) (false,[],0)) sp:=fun a h =>
 (start a.1 a.2).trans (gP h)
def aG:cX:=orc1 (aAN (.pair sB (.pair (sI .u64) (sN .i64))) (false,[],0)) sp
theorem ok:OK 121 aG:=(eB E aE (aA SFirstG2.ok aD) func121).nA rfl spec
end Ux
namespace SFirstL2
def E:=mE [(170,Bd.aG)] 25 [] [(3,[1,4,5,12,13,14])] []
def aE:=bd f168
theorem aW:Nk E aE:=nk
def L3 a b c d e (f:Nat) (g:Nat->Bool) (h:Nat->List Int) (j:Nat->Int) k l:=nG E f168 aE 3 [vA (sc (Value.func (Fn.func 170) { toList:=[] } { toList:=[] })),dG 1 29 [cI a,sc (slice none 0 0),cP b],dG 2 29 [cI c,eT d,cP e],(A.v (V.one (L.rows 3 f fun i=>[sc (bool (g i)),ints u64 (h i),sc (int i64 (j i))])),none),bI k,bI l]
theorem start(a:dR)(b:dR):aF E f168 aE [D.rows 3 2 fun i=>[sc (bool (t2 a b i).fst),ints u64 (t2 a b i).snd.fst,sc (int i64 (t2 a b i).snd.snd)],D.s (sc (Value.func (Fn.func (170:FuncId)) #[] #[]))]=letI A:=t2 a b (bZC 0);SFirstL2.L3 false 0 A.fst A.snd.fst A.snd.snd 1 (fun i=>(t2 a b (bZC 1+i)).fst) (fun i=>(t2 a b (bZC 1+i)).snd.fst) (fun i=>(t2 a b (bZC 1+i)).snd.snd) 1 0:=eJ aW
theorem pD a b c d e f g h j k l:L3 a b c d e f g h j k l=letI A:=(g l.toNat,h l.toNat,j l.toNat);aB (decide (l<k)) (if 0<=l/\l<(f:Int)then aP (aL A/\aL (c,d,e)) (aB (decide (cR (dv A) (dv (c,d,e))<0)) (SFirstL2.L3 a b (g l.toNat) (h l.toNat) (j l.toNat) f (fun i=>g i) (fun i=>h i) (fun i=>j i) k (i64.wrap (l+1))) (SFirstL2.L3 a b c d e f (fun i=>g i) (fun i=>h i) (fun i=>j i) k (i64.wrap (l+1))))else none) (some [D.agg [sc (bool c),ints u64 d,sc (int i64 e)]]):=lJ aW
def best(f:Nat->dR):Nat->dR
 |0=>f 0
 |k+1=>bif decide (cR (dv (f (k+1))) (dv (best f k))<0)then f (k+1)else best f k
def pV(a:dR×dR):dR:=best (t2 a.1 a.2) 1
def sp(a:dR×dR)(u:Unit):Prop×List D:=(aL a.1/\aL a.2,[.agg [.sc (.bool (pV a).1),.ints .u64 (pV a).2.1,.sc (.int .i64 (pV a).2.2)]])
theorem kJ{f:Nat->dR}{n:Nat}(hf:∀i,i<n->aL (f i)):∀k,k<n->aL (best f k)
 |0,h=>hf 0 h
 |k+1,h=>by
  unfold best;cases decide (cR (dv (f (k+1))) (dv (best f k))<0)
  ·exact kJ hf k (by omega)
  ·exact hf (k+1) h
theorem L(b0:Bool)(x1:Int)(n:Nat)(f:Nat->dR)(hn:n<1000)(hf:∀i,i<n+1->aL (f i)):∀d k:Nat,k+d=n->L3 b0 x1 (best f k).1 (best f k).2.1 (best f k).2.2 n (fun i=>(f (1+i)).1) (fun i=>(f (1+i)).2.1) (fun i=>(f (1+i)).2.2) (n:Int) (k:Int)=some [.agg [.sc (.bool (best f n).1),.ints .u64 (best f n).2.1,.sc (.int .i64 (best f n).2.2)]]
 |0,k,h=>by
  obtain rfl:k=n:=by omega
  rw[pD,aI]
 |d+1,k,h=>by
  have e:i64.wrap ((k:Int)+1)=((k+1:Nat):Int):=by rw[wrap_i64];omega
  have r:=L b0 x1 n f hn hf d (k+1) (by omega);have g1:aL (f (1+k)):=hf _ (by omega);have g2:aL (best f k):=kJ hf k (by omega);have c1:f (k+1)=f (1+k):=by rw[Nat.add_comm]
  rw[pD,aO,aU,bPN,gP ⟨g1,g2⟩,e]
  by_cases hc:cR (dv (f (k+1))) (dv (best f k))<0
  ·have hb:best f (k+1)=f (1+k):=by
    rw[<-c1];show(bif decide (cR (dv (f (k+1))) (dv (best f k))<0)then f (k+1)else best f k)=_;rw[decide_eq_true hc];rfl
   rw[c1]at hc;rw[aO hc];rw[hb]at r;exact r
  ·have hb:best f (k+1)=best f k:=by
    show(bif decide (cR (dv (f (k+1))) (dv (best f k))<0)then f (k+1)else best f k)=_;rw[decide_eq_false hc];rfl
   rw[c1]at hc;rw[aI hc];rw[hb]at r;exact r
theorem all{a:dR×dR}(h:aL a.1/\aL a.2):∀i,i<2->aL (t2 a.1 a.2 i):=fun i hi=>by
  obtain rfl |rfl:i=0\/i=1:=by omega
  ·exact h.1
  ·exact h.2
theorem zI{a:dR×dR}(h:aL a.1/\aL a.2):aL (pV a):=kJ (n:=2) (all h) 1 (by decide)
theorem Ui(a:dR×dR):dv (pV a)=Bm (dv a.1) (dv a.2):=by
 show dv (bif decide (cR (dv a.2) (dv a.1)<0)then a.2 else a.1)=bif decide (cR (dv a.2) (dv a.1)<0)then dv a.2 else dv a.1
 cases decide (cR (dv a.2) (dv a.1)<0) <;> rfl
theorem spec:fK E f168 aE (aAN (.pair sB (.pair (sI .u64) (sN .i64))) (false,[],0)) (pFn 170) sp:=fun a u h =>
 (start a.1 a.2).trans (L false 0 1 (t2 a.1 a.2) (by decide) (all h) 1 0 (by decide))
def aG:cX:=orc2 (aAN (.pair sB (.pair (sI .u64) (sN .i64))) (false,[],0)) (pFn 170) sp
theorem ok:OK 168 aG:=(eB E aE (aA Bd.ok aD) func168).lE rfl spec
end SFirstL2
namespace Uw
def E:=mE [(168,SFirstL2.aG)] 5 [] [] []
def aE:=bd f122
theorem aW:Nk E aE:=nk
theorem start(a:dR)(b:dR):aF E f122 aE [D.rows 3 2 fun i=>[sc (bool (t2 a b i).fst),ints u64 (t2 a b i).snd.fst,sc (int i64 (t2 a b i).snd.snd)]]=letI C:=t2 a b 1;letI B:=t2 a b 0;letI F:=(B.fst,B.snd.fst,B.snd.snd);letI A:=SFirstL2.pV (F,C.fst,C.snd.fst,C.snd.snd);aP (aL F/\aL (C.fst,C.snd.fst,C.snd.snd)) (some [D.agg [sc (bool A.fst),ints u64 A.snd.fst,sc (int i64 A.snd.snd)]]):=eJ aW
def sp(a:dR×dR):Prop×List D:=(aL a.1/\aL a.2,[.agg [.sc (.bool (SFirstL2.pV a).1),.ints .u64 (SFirstL2.pV a).2.1,.sc (.int .i64 (SFirstL2.pV a).2.2)]])
theorem spec:gI E f122 aE (aAN (.pair sB (.pair (sI .u64) (sN .i64))) (false,[],0)) sp:=fun a h =>
 (start a.1 a.2).trans (gP h)
def aG:cX:=orc1 (aAN (.pair sB (.pair (sI .u64) (sN .i64))) (false,[],0)) sp
theorem ok:OK 122 aG:=(eB E aE (aA SFirstL2.ok aD) func122).nA rfl spec
end Uw
namespace vP
def E:=mE [(67,rZ.aG),(121,Ux.aG),(122,Uw.aG),(120,Da.aG),(123,Ic.aG)] 39 [] [(3,[2,3,4])] [3]
def aE:=bd f69
theorem aW:Nk E aE:=nk
def J3 a b c d e f g h i j k l m n o p:=kV E f69 aE 3 [dG 0 44 [cI a,eT b,cP c,cI d,eT e,cP f],dG 1 44 [cI g,eT h,cP i,cI j,eT k,cP l],dG 2 44 [cI m,sc (slice none 0 0),cP n,cI o,sc (slice none 0 0),cP p]]
theorem start a b c d e f g h i j k l:aF E f69 aE [D.agg [sc (bool a),ints u64 b,sc (int i64 c),sc (bool d),ints u64 e,sc (int i64 f)],D.agg [sc (bool g),ints u64 h,sc (int i64 i),sc (bool j),ints u64 k,sc (int i64 l)]]=aP (eG (a,b,c,d,e,f)) (aP (eG (g,h,i,j,k,l)) (vP.J3 a b c d e f g h i j k l false 0 false 0)):=eJ aW
theorem gH a b c d e f g h i j k l m n o p:J3 a b c d e f g h i j k l m n o p=letI F:=bool false;letI C:=int i64 0;letI B:=SFirstL2.pV ((d,e,f),j,k,l);letI A:=SFirstG2.pV ((a,b,c),g,h,i);aP (aL (a,b,c)/\aL (g,h,i)) (aC A.fst fun q=>aC A.snd.fst fun r=>aC A.snd.snd fun s=>aP (aL (d,e,f)/\aL (j,k,l)) (aC B.fst fun t=>aC B.snd.fst fun u=>aC B.snd.snd fun v=>aP (aL (q,r,s)/\aL (t,u,v)) (aC (cR (dv (q,r,s)) (dv (t,u,v))) fun w=>aB (decide (0<w)) (some [D.agg [sc F,sc (slice none 0 0),sc C,sc F,sc (slice none 0 0),sc C],D.s (sc F),D.s (sc C)]) (aP (r.length<=1099511627776/\u.length<=1099511627776) (some [D.agg [sc (bool q),ints u64 r,sc (int i64 s),sc (bool t),ints u64 u,sc (int i64 v)],D.s (sc (bool true)),D.s (sc C)]))))):=cJ aW
def meet(s t:rY):Bool:=!decide (0<cR (Bn (dv (gN s)) (dv (gN t))) (Bm (dv (gO s)) (dv (gO t))))
def aHK(s t:rY):dR:=SFirstG2.pV (gN s,gN t)
def aHL(s t:rY):dR:=SFirstL2.pV (gO s,gO t)
def sp(s t:rY):Prop×List D:=(eG s/\eG t,[.agg [.sc (.bool (bif meet s t then(aHK s t).1 else false)),.ints .u64 (bif meet s t then(aHK s t).2.1 else []),.sc (.int .i64 (bif meet s t then(aHK s t).2.2 else 0)),.sc (.bool (bif meet s t then(aHL s t).1 else false)),.ints .u64 (bif meet s t then(aHL s t).2.1 else []),.sc (.int .i64 (bif meet s t then(aHL s t).2.2 else 0))],.s (.sc (.bool (meet s t))),.s (.sc (.int .i64 0))])
theorem spec:El E f69 aE sZ sZ sp:=by
 rintro s t ⟨h1,h2⟩;have e:=start s.1 s.2.1 s.2.2.1 s.2.2.2.1 s.2.2.2.2.1 s.2.2.2.2.2 t.1 t.2.1 t.2.2.1 t.2.2.2.1 t.2.2.2.2.1 t.2.2.2.2.2;have g1:aL (aHK s t):=SFirstG2.zI ⟨h1.1,h2.1⟩;have g2:aL (aHL s t):=SFirstL2.zI ⟨h1.2.1,h2.2.1⟩;have l1:=g1.len;have l2:=g2.len;have v1:dv (aHK s t)=Bn (dv (gN s)) (dv (gN t)):=SFirstG2.Ui (gN s,gN t);have v2:dv (aHL s t)=Bm (dv (gO s)) (dv (gO t)):=SFirstL2.Ui (gO s,gO t);have x1:SFirstG2.pV ((s.1,s.2.1,s.2.2.1),t.1,t.2.1,t.2.2.1)=aHK s t:=rfl;have x2:SFirstL2.pV ((s.2.2.2.1,s.2.2.2.2.1,s.2.2.2.2.2),t.2.2.2.1,t.2.2.2.2.1,t.2.2.2.2.2)=aHL s t:=rfl;have y1:((aHK s t).1,(aHK s t).2.1,(aHK s t).2.2)=aHK s t:=rfl;have y2:((aHL s t).1,(aHL s t).2.1,(aHL s t).2.2)=aHL s t:=rfl;rw[gP h1,gP h2,gH,gP ⟨h1.1,h2.1⟩]at e;simp only[aM,x1,x2,y1,y2,v1,v2]at e;rw[gP ⟨h1.2.1,h2.2.1⟩,gP ⟨g1,g2⟩]at e;unfold sp
 by_cases c:0<cR (Bn (dv (gN s)) (dv (gN t))) (Bm (dv (gO s)) (dv (gO t)))
 ·have hm:meet s t=false:=by unfold meet;rw[decide_eq_true c];rfl
  rw[aO c]at e;refine⟨_,e,?_⟩;dsimp only;rw[hm];exact .cons (vV.agg (.cons (yJ.refl _) (.cons (yJ.nil _) (.cons (yJ.refl _) (.cons (yJ.refl _) (.cons (yJ.nil _) (uB.refl _))))))) (fT.refl _)
 ·have hm:meet s t=true:=by unfold meet;rw[decide_eq_false c];rfl
  rw[aI c,gP ⟨by omega,by omega⟩]at e;refine⟨_,e,?_⟩;dsimp only;rw[hm];exact fT.refl _
def aG:cX:=orc2 sZ sZ sp
theorem ok:OK 69 aG:=(eB E aE (aA rZ.ok (aA Ux.ok (aA Uw.ok (aA Da.ok (aA Ic.ok aD))))) func69).aAJ rfl spec
end vP
end W
namespace M
open Go AI W
theorem Wu{s t:rY}{V:Rat}(h1:R.qz (dv (gN s))<=V/\V<=R.qz (dv (gO s)))(h2:R.qz (dv (gN t))<=V/\V<=R.qz (dv (gO t))):vP.meet s t=true:=by
 unfold vP.meet;rw[decide_eq_false,Bool.not_false];rw[sL];have a:R.qz (Bn (dv (gN s)) (dv (gN t)))<=V:=by rcases aEI (dv (gN s)) (dv (gN t))with h |h <;> rw[h] <;> grind
 have b:V<=R.qz (Bm (dv (gO s)) (dv (gO t))):=by rcases aDB (dv (gO s)) (dv (gO t))with h |h <;> rw[h] <;> grind
 grind
end M
namespace W
open Go AI M
namespace aGI
def E:=mE [] 26 [] [(4,[0,1,5])] []
def aE:=bd f55
theorem aW:Nk E aE:=nk
def L4 a b c:=nG E f55 aE 4 [fW a,fW b,bI c]
theorem start a b:aF E f55 aE [D.s (ints u64 a),D.s (ints u64 b)]=aB ((a.length:Int) !=(b.length:Int)) (some [D.s (sc (bool false))]) (aGI.L4 a b 0):=eJ aW
theorem kS a b c:L4 a b c=aB (decide (c<(a.length:Int))) (if 0<=c/\c<(a.length:Int)then if 0<=c/\c<(b.length:Int)then aB (a.getD c.toNat 0 !=b.getD c.toNat 0) (some [D.s (sc (bool false))]) (aGI.L4 a b (i64.wrap (c+1)))else none else none) (some [D.s (sc (bool true))]):=lJ aW
theorem L{a b:List Int}(hl:a.length=b.length)(h:a.length<=4398046511104):∀(d i:Nat),i+d=a.length->a.take i=b.take i->L4 a b (i:Int)=some [D.s (.sc (.bool (decide (a=b))))]:=by
 intro d
 induction d with
 |zero =>
  intro i hd hv;rw[bTC (by omega),bTC (by omega)]at hv;rw[kS,aI,decide_eq_true hv]
 |succ d ih =>
  intro i hd hv;rw[kS,aO,aU,aU,bPN];have ga:a.getD i 0=a[i]'(by omega):=by simp[bQV,show i<a.length by omega]
  have gb:b.getD i 0=b[i]'(by omega):=by simp[bQV,show i<b.length by omega]
  by_cases hc:a.getD i 0=b.getD i 0
  ·rw[eN hc,wrap_i64];refine ih (i+1) (by omega) ?_;rw[bRW (by omega),bRW (by omega),hv,<-ga,<-gb,hc]
  ·rw[pW hc,decide_eq_false (fun h=>hc (by rw[h]))]
def sp(a b:List Int):Prop×List D:=(a.length<=4398046511104/\b.length<=4398046511104,[.s (.sc (.bool (decide (a=b))))])
theorem spec:fK E f55 aE (pI .u64) (pI .u64) sp:=by
 rintro a b ⟨h1,h2⟩;refine(start a b).trans ?_
 by_cases hl:a.length=b.length
 ·rw[eN];exact L hl h1 a.length 0 (by omega) rfl
 ·rw[pW];unfold sp;rw[decide_eq_false (fun h=>hl (by rw[h]))]
def aG:cX:=orc2 (pI .u64) (pI .u64) sp
theorem ok:OK 55 aG:=(eB E aE aD func55).lE rfl spec
end aGI
namespace Rv
def E:=mE [(55,aGI.aG)] 28 [26] [] []
def aE:=bd f17
theorem aW:Nk E aE:=nk
theorem start a b c d e f:aF E f17 aE [D.agg [sc (bool a),ints u64 b,sc (int i64 c)],D.agg [sc (bool d),ints u64 e,sc (int i64 f)]]=letI A:=some [D.s (sc (bool false))];aB (a==d) (aB (c==f) (aP (b.length<=4398046511104/\e.length<=4398046511104) (some [D.s (sc (bool (decide (b=e))))])) A) A:=eJ aW
def sp(x y:dR):Prop×List D:=(aL x/\aL y,[.s (.sc (.bool (decide (dv x=dv y))))])
theorem aCL{x y:Bool×List Int×Int}(hx:aL x)(hy:aL y):dv x=dv y↔x=y:=by
 constructor
 ·intro h;have e:=congrArg M.dD h;rw[hx.dD,hy.dD]at e;obtain⟨b,a,e1⟩:=x;obtain⟨c,d,f⟩:=y;simp at e;obtain⟨h1,h2,h3⟩:=e;rw[h1,h2,h3]
 ·intro h;rw[h]
theorem spec:fK E f17 aE gZ gZ sp:=by
 rintro x y ⟨hx,hy⟩;refine(start x.1 x.2.1 x.2.2 y.1 y.2.1 y.2.2).trans ?_;have lx:=hx.len;have ly:=hy.len;have hs:=aCL hx hy;show _=some [D.s (.sc (.bool (decide (dv x=dv y))))];obtain⟨b,a,e⟩:=x;obtain⟨c,d,f⟩:=y
 try dsimp only at *
 by_cases h1:b=c
 ·subst h1;rw[aGB (by simp)]
  by_cases h2:e=f
  ·rw[cC h2,gP];subst h2
   by_cases h3:a=d
   ·rw[decide_eq_true h3,decide_eq_true (hs.2 (by rw[h3]))]
   ·rw[decide_eq_false h3,decide_eq_false (fun h=>h3 (by have:=hs.1 h;simpa using this))]
  ·rw[bP h2,decide_eq_false (fun h=>h2 (by have:=hs.1 h;simp at this;exact this.2))]
 ·rw[Hw (by simpa using h1),decide_eq_false (fun h=>h1 (by have:=hs.1 h;simp at this;exact this.1))]
def aG:cX:=orc2 gZ gZ sp
theorem ok:OK 17 aG:=(eB E aE (aA aGI.ok aD) func17).lE rfl spec
end Rv
namespace Io
def E:=mE [(17,Rv.aG)] 17 [15] [] []
def aE:=bd f40
theorem aW:Nk E aE:=nk
theorem start a b c d e f g h i j k l:aF E f40 aE [D.agg [sc (bool a),ints u64 b,sc (int i64 c),sc (bool d),ints u64 e,sc (int i64 f)],D.agg [sc (bool g),ints u64 h,sc (int i64 i),sc (bool j),ints u64 k,sc (int i64 l)]]=aP (aL (a,b,c)/\aL (g,h,i)) (aB (decide (dv (a,b,c)=dv (g,h,i))) (aP (aL (d,e,f)/\aL (j,k,l)) (some [D.s (sc (bool (decide (dv (d,e,f)=dv (j,k,l)))))])) (some [D.s (sc (bool false))])):=eJ aW
abbrev rY:=Bool×List Int×Int×Bool×List Int×Int
def lo(x:rY):dR:=(x.1,x.2.1,x.2.2.1)
def hi(x:rY):dR:=(x.2.2.2.1,x.2.2.2.2.1,x.2.2.2.2.2)
def sp(x y:rY):Prop×List D:=((aL (lo x)/\aL (lo y))/\aL (hi x)/\aL (hi y),[.s (.sc (.bool (decide (dv (lo x)=dv (lo y))&&decide (dv (hi x)=dv (hi y)))))])
theorem spec:fK E f40 aE sZ sZ sp:=by
 rintro x y ⟨h1,h2⟩;refine(start x.1 x.2.1 x.2.2.1 x.2.2.2.1 x.2.2.2.2.1 x.2.2.2.2.2 y.1 y.2.1 y.2.2.1 y.2.2.2.1 y.2.2.2.2.1 y.2.2.2.2.2).trans ((gP h1).trans ?_)
 by_cases hc:dv (lo x)=dv (lo y)
 ·have:decide (dv (x.1,x.2.1,x.2.2.1)=dv (y.1,y.2.1,y.2.2.1))=true:=decide_eq_true hc;rw[this,bT];refine(gP h2).trans ?_;unfold sp;rw[decide_eq_true hc,bOS];rfl
 ·have:decide (dv (x.1,x.2.1,x.2.2.1)=dv (y.1,y.2.1,y.2.2.1))=false:=decide_eq_false hc;rw[this,bF];unfold sp;rw[decide_eq_false hc,bRA]
def aG:cX:=orc2 sZ sZ sp
theorem ok:OK 40 aG:=(eB E aE (aA Rv.ok aD) func40).lE rfl spec
end Io
namespace Norm
def E:=mE [] 27 [] [(2,[0,3]),(4,[0,3])] [4]
def aE:=bd f218
theorem aW:Nk E aE:=nk
def L2 a b:=nG E f218 aE 2 [vZ a,bI b]
def J4 a b:=kV E f218 aE 4 [vZ a,bI b]
theorem start a:aF E f218 aE [D.s (ints u32 a)]=Norm.L2 a (a.length:Int):=eJ aW
theorem jY a b:L2 a b=aB (decide (0<b)) (if 0<=i64.wrap (b-1)/\i64.wrap (b-1)<(a.length:Int)then aB (a.getD (i64.wrap (b-1)).toNat 0==(0:Int)) (Norm.L2 a (i64.wrap (b-1))) (Norm.J4 a b)else none) (Norm.J4 a b):=lJ aW
theorem Ry a b:J4 a b=letI A:=bRN 0 (bRM b.toNat a);if 0<=b/\b<=b/\b<=8796093022208 then if(0:Int)<=(0:Int)/\0<=b/\b<=(a.length:Int)then some [D.own 71 u32 (bRM b.toNat A ++ bRN (min A.length b.toNat) (bNU b.toNat (0:Int)))]else none else none:=cJ aW
theorem J{xs:List Int}{n:Nat}(h:n<=xs.length)(hl:xs.length<=4398046511104):J4 xs n=some [D.own Je .u32 (xs.take n)]:=by
 rw[Ry,aU,aU];simp only[bPN];rw[aFR h]
theorem L{xs:List Int}(hd:cA xs)(hl:xs.length<=4398046511104):∀n:Nat,n<=xs.length->L2 xs n=some [D.own Je .u32 (dg (val (xs.take n)))]
 |0,h=>by
  rw[jY];simp only[aB,Int.natCast_zero,Int.lt_irrefl,decide_false,cond_false];rw[show((0:Int))=((0:Nat):Int)from rfl,J (by omega) hl];simp[val,bQ]
 |n+1,h=>by
  rw[jY];have e:i64.wrap (((n+1:Nat):Int)-1)=(n:Int):=by rw[wrap_i64];omega
  rw[e];have e2:decide ((0:Int)<((n+1:Nat):Int))=true   := by simp
  simp only[aB,e2,cond_true,bPN];rw[aU];cases hz:xs.getD n 0==0 with
  |true =>
   have hz:=eq_of_beq hz;simp only[cond_true];rw[L hd hl n (by omega),jL (by omega),hz];simp
  |false =>
   have hz:xs.getD n 0≠0:=by simpa using hz
   simp only[cond_false];rw[J h hl];have:cD (xs.take (n+1)):=wI (hd.take _) fun d hg=>by
    rw[getLast_take (by omega)]at hg;cases hg;exact hz
   rw[<-this]
def sp(a:List Int):Prop×List D:=(cA a/\a.length<=4398046511104,[.own Je .u32 (dg (val a))])
theorem spec:gI E f218 aE (pI .u32) sp:=by
 rintro a ⟨hd,hl⟩;refine(start a).trans ?_;rw[L hd hl a.length (bLR _),bSM];rfl
def aG:cX:=orc1 (pI .u32) sp
theorem ok:OK 218 aG:=(eB E aE aD func218).nA rfl spec
end Norm
namespace Mk
def E:=mE [(218,Norm.aG)] 16 [] [] []
def aE:=bd f179
theorem aW:Nk E aE:=nk
theorem start a b:aF E f179 aE [D.s (sc (bool a)),D.s (ints u32 b)]=letI A:=dg (val b);aP (cA b/\b.length<=4398046511104) (aB a (some [D.agg [sc (bool (decide (0<(A.length:Int)))),ints u32 A]]) (some [D.agg [sc (bool false),ints u32 A]])):=eJ aW
def sp(b:Bool)(m:List Int):Prop×List D:=(cA m/\m.length<=4398046511104,[zD (zs b (val m))])
theorem spec:fK E f179 aE pB (pI .u32) sp:=by
 intro b m h;refine(start b m).trans ((gP h).trans ?_);unfold sp;simp only[aRN];cases b with
 |false=>rfl
 |true =>
  rw[bT];have:decide (0<((dg (val m)).length:Int))=decide (val m≠0):=by
   by_cases h:val m=0
   ·rw[h,bQ];rfl
   ·rw[decide_eq_true h,decide_eq_true];have:(dg (val m)).length≠0:=fun hh=>h (fU.1 hh)
    omega
  rw[this];rfl
def aG:cX:=orc2 pB (pI .u32) sp
theorem ok:OK 179 aG:=(eB E aE (aA Norm.ok aD) func179).lE rfl spec
end Mk
namespace Add
def E:=mE [(218,Norm.aG)] 63 [62] [(4,[0,1,5,6,7]),(6,[0,1,5,6,7]),(8,[0,1,5,6,7]),(10,[0,1,5,6,7])] [6,8,10]
def aE:=bd f184
theorem aW:Nk E aE:=nk
def L4 a b (c:Nat) (d:List Int) f g:=nG E f184 aE 4 [vZ a,vZ b,(A.v (V.one (L.buf 2 c)),some { e:=(71:Nat),cont:=qU.ints u32 d }),cG f,bI g]
def J6 a b (c:Nat) (d:List Int) f g:=kV E f184 aE 6 [vZ a,vZ b,(A.v (V.one (L.buf 2 c)),some { e:=(71:Nat),cont:=qU.ints u32 d }),cG f,bI g]
def J8 a b (c:Nat) (d:List Int) f g:=kV E f184 aE 8 [vZ a,vZ b,(A.v (V.one (L.buf 2 c)),some { e:=(71:Nat),cont:=qU.ints u32 d }),cG f,bI g]
def aAI a b (c:Nat) (d:List Int) f g:=kV E f184 aE 10 [vZ a,vZ b,(A.v (V.one (L.buf 2 c)),some { e:=(71:Nat),cont:=qU.ints u32 d }),cG f,bI g]
theorem start a b:aF E f184 aE [D.s (ints u32 a),D.s (ints u32 b)]=letI A:=if(b.length:Int)>(a.length:Int)then(b.length:Int)else(a.length:Int);if(0:Int)<=(0:Int)/\0<=i64.wrap (A+1)/\i64.wrap (A+1)<=8796093022208 then Add.L4 a b 0 (bNU 0 (0:Int)) 0 0 else none:=eJ aW
theorem kS a b c d e f:L4 a b c d e f=letI A:=Add.J6 a b c d e f;aB (decide (f<(a.length:Int))) A (aB (decide (f<(b.length:Int))) A (aB (decide (0<e)) A (aP (cA d/\d.length<=4398046511104) (some [D.own 71 u32 (dg (val d))])))):=lJ aW
theorem Lm a b c d e f:J6 a b c d e f=aB (decide (f<(a.length:Int))) (if 0<=f/\f<(a.length:Int)then Add.J8 a b c d (u64.wrap (e+u64.wrap (a.getD f.toNat 0))) f else none) (Add.J8 a b c d e f):=cJ aW
theorem vQ a b c d e f:J8 a b c d e f=aB (decide (f<(b.length:Int))) (if 0<=f/\f<(b.length:Int)then Add.aAI a b c d (u64.wrap (e+u64.wrap (b.getD f.toNat 0))) f else none) (Add.aAI a b c d e f):=cJ aW
theorem It a b c d e f:aAI a b c d e f=letI A:=dX BinOp.and u64 e 4294967295;letI B:=d.length+[u32.wrap A].length;if(0:Nat)<[u32.wrap A].length/\(B:Int)<=(8796093022208:Int)then Add.L4 a b B (d ++ [u32.wrap A]) (e/4294967296) (i64.wrap (f+1))else none:=cJ aW
theorem step{a b xs:List Int}{c:Int}{i:Nat}(ha:cA a)(hb:cA b)(Sc:xs.length=i)(hi:i<4398046511104)(h0:0<=c)(h1:c<=1)(hc:i<a.length\/i<b.length\/0<c) :
  L4 a b i xs c i=L4 a b (i+1) (xs ++ [(c+a.getD i 0+b.getD i 0)%4294967296]) ((c+a.getD i 0+b.getD i 0)/4294967296) ((i+1:Nat):Int):=by
 have g1:=ha.get i;have g2:=hb.get i;have e':((i:Int)).toNat=i:=bPN i;have aVA:∀s:Int,0<=s->s<18446744073709551616->aAI a b i xs s i=L4 a b (i+1) (xs ++ [s%4294967296]) (s/4294967296) ((i+1:Nat):Int):=by
  intro s hs nU;rw[It,oK hs nU,if_pos ⟨by simp,by simp;omega⟩,wrap_u32,Int.emod_emod_of_dvd _ (Int.dvd_refl _),wrap_i64,Sc];rfl
 have bEW:∀s:Int,0<=s->s<8589934592->J8 a b i xs s i=aAI a b i xs (s+b.getD i 0) i:=by
  intro s hs nU;rw[vQ]
  by_cases h:i<b.length
  ·rw[aO,aU,e',wrap_u64 (n:=b.getD i 0),wrap_u64]
  ·rw[aI,getD_none (a:=b) (by omega),bVY]
 have bBC:J6 a b i xs c i=L4 a b (i+1) (xs ++ [(c+a.getD i 0+b.getD i 0)%4294967296]) ((c+a.getD i 0+b.getD i 0)/4294967296) ((i+1:Nat):Int):=by
  rw[Lm]
  by_cases h:i<a.length
  ·rw[aO,aU,e',wrap_u64 (n:=a.getD i 0),wrap_u64,bEW _ (by omega) (by omega),aVA _ (by omega) (by omega)]
  ·rw[aI,getD_none (a:=a) (by omega),bVY,bEW _ (by omega) (by omega),aVA _ (by omega) (by omega)]
 rw[kS]
 by_cases h:i<a.length
 ·rw[aO,bBC]
 ·rw[aI]
  by_cases h':i<b.length
  ·rw[aO,bBC]
  ·rw[aI,aO,bBC]
theorem L{a b:List Int}(ha:cA a)(hb:cA b)(bIL:a.length<=1099511627776)(hlb:b.length<=1099511627776):∀(d i:Nat) (xs:List Int) (c:Int),cA xs->xs.length=i->0<=c->c<=1 ->
  i+d=max a.length b.length+1->(d=0->c=0)->val xs+4294967296^i*c.toNat=val (a.take i)+val (b.take i) ->
  L4 a b i xs c i=some [D.own Je .u32 (dg (val a+val b))]:=by
 intro d
 induction d with
 |zero =>
  intro i xs c hx Sc h0 h1 hd hc hv;have hc:=hc rfl;subst hc;rw[kS,aI,aI,aI,gP ⟨hx,by omega⟩];rw[cE (by omega),cE (by omega)]at hv;simp at hv;rw[hv]
 |succ d ih =>
  intro i xs c hx Sc h0 h1 hd hc hv
  by_cases bJC:i<a.length\/i<b.length\/0<c
  ·have g1:=ha.get i;have g2:=hb.get i;rw[step ha hb Sc (by omega) h0 h1 bJC];refine ih (i+1) _ _ (lF hx (by omega)) (by simp[Sc]) (by omega) (by omega) (by omega) (fun hd0=>?_) ?_
   ·have:¬i<a.length:=by omega
    have:¬i<b.length:=by omega
    rw[getD_none (a:=a) (by omega),getD_none (a:=b) (by omega)];omega
   ·rw[lD,cB,cB,Sc,bQQ,bQU];generalize a.getD i 0=x at *;generalize b.getD i 0=y at *;generalize 4294967296^i=B at *;have e:4294967296*((c+x+y)/4294967296).toNat+((c+x+y)%4294967296).toNat=c.toNat+x.toNat+y.toNat:=by omega
    have e2:B*(4294967296*((c+x+y)/4294967296).toNat)+B*((c+x+y)%4294967296).toNat=B*c.toNat+B*x.toNat+B*y.toNat:=by
     rw[<-bQR,e,bQR,bQR]
    omega
  ·have:c=0:=by omega
   subst this;rw[kS,aI,aI,aI,gP ⟨hx,by omega⟩];rw[cE (by omega),cE (by omega)]at hv;simp at hv;rw[hv]
def sp(a b:List Int):Prop×List D:=(cA a/\cA b/\a.length<=1099511627776/\b.length<=1099511627776,[.own Je .u32 (dg (val a+val b))])
theorem spec:fK E f184 aE (pI .u32) (pI .u32) sp:=by
 rintro a b ⟨ha,hb,h1,h2⟩;refine(start a b).trans ?_;rw[if_pos]
 ·exact L ha hb h1 h2 (max a.length b.length+1) 0 [] 0 lV rfl (by omega) (by omega) (by omega) (fun _=>rfl) (by simp[val])
 ·refine⟨by omega,?_,?_⟩ <;> rw[wrap_i64 ?_ ?_] <;> split <;> omega
def aG:cX:=orc2 (pI .u32) (pI .u32) sp
theorem ok:OK 184 aG:=(eB E aE (aA Norm.ok aD) func184).lE rfl spec
end Add
namespace Ut
def E:=mE [(218,Norm.aG)] 11 [10] [] []
def aE:=bd f185
theorem aW:Nk E aE:=nk
theorem start a:aF E f185 aE [D.s (sc (int u64 a))]=letI B:=a/4294967296;letI A:=dX BinOp.and u64 a 4294967295;aP (cA [u32.wrap A,u32.wrap B]/\[u32.wrap A,u32.wrap B].length<=4398046511104) (some [D.own 71 u32 (dg (val [u32.wrap A,u32.wrap B]))]):=eJ aW
def sp(w:Int):Prop×List D:=(0<=w/\w<18446744073709551616,[.own Je .u32 (dg w.toNat)])
theorem spec:gI E f185 aE (pN .u64) sp:=by
 rintro w ⟨h,h'⟩;refine(start w).trans ?_;rw[oK h h',wrap_u32,wrap_u32,Xi]
 ·unfold sp;congr 4;simp only[val];omega
 ·refine⟨?_,by simp⟩;rw[jJ,jJ];exact⟨by omega,by omega,lV⟩
def aG:cX:=orc1 (pN .u64) sp
theorem ok:OK 185 aG:=(eB E aE (aA Norm.ok aD) func185).nA rfl spec
end Ut
namespace bCB
def E:=mE [(179,Mk.aG),(184,Add.aG),(185,Ut.aG)] 17 [] [] []
def aE:=bd f132
theorem aW:Nk E aE:=nk
theorem start a:aF E f132 aE [D.s (sc (int i64 a))]=letI F:=dg (u64.wrap a).toNat;letI B:=i64.wrap ((0:Int)-i64.wrap (a+1));letI A:=dg (u64.wrap B).toNat;letI C:=dg (val A+val (dg 1));aB (decide (a<0)) (aP (0<=u64.wrap B/\u64.wrap B<18446744073709551616) (aP ((0:Int)<=(1:Int)/\(1:Int)<(18446744073709551616:Int)) (aP (cA A/\cA (dg 1)/\A.length<=1099511627776/\(dg 1).length<=1099511627776) (aP (cA C/\C.length<=4398046511104) (some [D.agg [sc (bool (isNeg (zs true (val C)))),ints u32 (dg (zs true (val C)).natAbs)]]))))) (aP (0<=u64.wrap a/\u64.wrap a<18446744073709551616) (aP (cA F/\F.length<=4398046511104) (some [D.agg [sc (bool (isNeg (zs false (val F)))),ints u32 (dg (zs false (val F)).natAbs)]]))):=eJ aW
def sp(a:Int):Prop×List D:=(-9223372036854775808<=a/\a<9223372036854775808,[zD a])
theorem Ww{n:Nat}(h:n<18446744073709551616):(dg n).length<=2:=cQ (by simpa using h)
theorem spec:gI E f132 aE (pN .i64) sp:=by
 rintro a ⟨h1,h2⟩;refine(start a).trans ?_;show _=some [zD a];simp only[bN]
 by_cases hn:a<0
 ·have e:u64.wrap (i64.wrap (0-i64.wrap (a+1)))=-(a+1):=by
   rw[wrap_i64 (n:=a+1),wrap_i64,wrap_u64];omega
  have l1:=Ww (n:=(-(a+1)).toNat) (by omega);have l2:=Ww (n:=(-(a+1)).toNat+1) (by omega);have l3:=Ww (n:=1) (by omega);rw[aO hn,e,gP ⟨by omega,by omega⟩,gP ⟨by omega,by omega⟩,gP ⟨iE _,iE _,by omega,by omega⟩,gP ⟨iE _,by omega⟩];have ez:zs true ((-(a+1)).toNat+1)=a:=by unfold zs;simp only[cond_true];omega
  rw[ez];rfl
 ·have l1:=Ww (n:=a.toNat) (by omega);rw[aI hn,wrap_u64,gP ⟨by omega,by omega⟩,gP ⟨iE _,by omega⟩];have ez:zs false a.toNat=a:=by unfold zs;simp only[cond_false];omega
  rw[ez];rfl
def aG:cX:=orc1 (pN .i64) sp
theorem ok:OK 132 aG:=(eB E aE (aA Mk.ok (aA Add.ok (aA Ut.ok aD))) func132).nA rfl spec
end bCB
namespace aXK
def E:=mE [] 24 [] [(3,[0,1])] [3]
def aE:=bd f217
theorem aW:Nk E aE:=nk
def J3 a b:=kV E f217 aE 3 [vZ a,bI b]
theorem start a b:aF E f217 aE [D.s (ints u32 a),D.s (sc (int i64 b))]=letI A:=some [D.s (sc (int i64 0))];aB (decide (b<0)) A (aB (decide ((a.length:Int)<=i64.wrap (b.tdiv 32))) A (aXK.J3 a b)):=eJ aW
theorem gH a b:J3 a b=letI A:=b.tdiv 32;if 0<=i64.wrap A/\i64.wrap A<(a.length:Int)then if b.tmod 32<(0:Int)then none else some [D.s (sc (int i64 (i64.wrap (dX BinOp.and u32 (a.getD (i64.wrap A).toNat 0/(↑((2:Nat)^min (b.tmod 32).toNat 32):Int)) 1))))]else none:=cJ aW
theorem aAD{x:Int}(h:0<=x)(h':x<4294967296):dX .and .u32 x 1=x%2:=by
 obtain⟨n,rfl⟩:=bQT h;rw[pA];unfold bitsI0;simp only;have e:(BitVec.ofInt u32.bits (n:Int) &&& BitVec.ofInt u32.bits 1).toNat=n%2:=by
  show(BitVec.ofInt 32 (n:Int) &&& BitVec.ofInt 32 1).toNat=_;rw[BitVec.toNat_and];have e1:(BitVec.ofInt 32 (n:Int)).toNat=n:=by simp;omega
  have e2:(BitVec.ofInt 32 1).toNat=1:=by decide
  rw[e1,e2,Nat.and_one_is_mod]
 rw[e,wrap_u32];omega
def sp(a:List Int)(i:Int):Prop×List D:=(cA a/\a.length<=1099511627776/\-9223372036854775808<=i/\i<9223372036854775808,[.s (.sc (.int .i64 (if i<0 then 0 else((val a/2^i.toNat%2:Nat):Int))))])
theorem spec:fK E f217 aE (pI .u32) (pN .i64) sp:=by
 rintro a i ⟨ha,hl,h1,h2⟩;refine(start a i).trans ?_;show _=some [D.s (.sc (.int .i64 (if i<0 then 0 else((val a/2^i.toNat%2:Nat):Int))))]
 by_cases hn:i<0
 ·rw[aO hn,if_pos hn]
 ·have t1:i.tdiv 32=i/32:=bTG (by omega);have t2:i.tmod 32=i%32:=bTH (by omega);have e1:(i/32).toNat=i.toNat/32:=by omega
  have e2:(i%32).toNat=i.toNat%32:=by omega
  rw[aI hn,if_neg hn,t1,wrap_i64 (n:=i/32),Bz i.toNat,<-Nat.div_div_eq_div_mul]
  by_cases hz:(a.length:Int)<=i/32
  ·have hv:val a/4294967296^(i.toNat/32)=0:=by
    apply bRO;exact bMR (cK ha) (fD)
   rw[aO hz,hv,Nat.zero_div];rfl
  ·have g:=ha.get (i.toNat/32);rw[aI hz,gH,t1,t2,wrap_i64 (n:=i/32),aU,aY,e1,e2,<-jD ha,fM];have em:min (i.toNat%32) 32=i.toNat%32:=by omega
   have iN:i.toNat%32<32:=Nat.mod_lt _ (by omega);rw[em];generalize i.toNat%32=k at *;generalize a.getD (i.toNat/32) 0=x at *;generalize val (a.drop (i.toNat/32+1))=r at *;have hp:0<2^k:=cN;have e3:(x.toNat+4294967296*r)/2^k%2=x.toNat/2^k%2:=by
    have:4294967296*r=2^k*(2*(2^(31-k)*r)):=by
     rw[show(4294967296:Nat)=2^32 from rfl,show 32=k+(1+(31-k))from by omega,bQS,bQS,bQU,bQU]
    rw[this,Nat.add_mul_div_left _ _ hp];omega
   rw[e3];have ex:x/((2^k:Nat):Int)=((x.toNat/2^k:Nat):Int):=by
    obtain⟨n,rfl⟩:=bQT g.1;rw[<-Int.natCast_ediv];rfl
   have hle:x.toNat/2^k<=x.toNat:=bUE _ _;rw[ex];clear ex e3;generalize x.toNat/2^k=q at *;rw[aAD (by omega) (by omega),wrap_i64];rfl
def aG:cX:=orc2 (pI .u32) (pN .i64) sp
theorem ok:OK 217 aG:=(eB E aE aD func217).lE rfl spec
end aXK
namespace Bb
def E:=mE [(217,aXK.aG)] 29 [] [(6,[0,3]),(4,[0,3])] [6]
def aE:=bd f178
theorem aW:Nk E aE:=nk
def L4 a b:=nG E f178 aE 4 [vZ a,bI b]
def J6 a b:=kV E f178 aE 6 [vZ a,bI b]
def L6 a b:=nG E f178 aE 6 [vZ a,bI b]
theorem start a:aF E f178 aE [D.s (ints u32 a)]=aB ((a.length:Int)==(0:Int)) (some [D.s (sc (int i64 0))]) (Bb.L4 a 0):=eJ aW
theorem kS a b:L4 a b=letI A:=b.tdiv 32;aB (decide (i64.wrap A<(a.length:Int))) (if 0<=i64.wrap A/\i64.wrap A<(a.length:Int)then aB (a.getD (i64.wrap A).toNat 0==(0:Int)) (Bb.L4 a (i64.wrap (b+32))) (Bb.J6 a b)else none) (Bb.J6 a b):=lJ aW
theorem Lm a b:J6 a b=Bb.L6 a b:=cJ aW
theorem yS a b:L6 a b=aP (cA a/\a.length<=1099511627776/\(-9223372036854775808:Int)<=b/\b<9223372036854775808) (aB ((if b<0 then(0:Int)else(↑(val a/(2:Nat)^b.toNat%2):Int))==0) (Bb.L6 a (i64.wrap (b+1))) (some [D.s (sc (int i64 b))])):=lJ aW
theorem aRU{v k:Nat}(hv:v≠0)(h:v%2^k=0):k<=tz v:=by
 have hd:=bQX v (2^k);rw[h,bMS]at hd;have hq:v/2^k≠0:=fun hq=>by rw[hq,Nat.mul_zero]at hd;omega
 have:=Ls hq k;rw[hd]at this;omega
theorem lp{a:List Int}(ha:cA a)(hl:a.length<=1099511627776)(hv:val a≠0)(ht:tz (val a)<70368744177664):∀(d n:Nat),n+d=tz (val a)->L6 a (n:Int)=some [D.s (.sc (.int .i64 (tz (val a):Int)))]:=by
 have hs:=oO _ hv;intro d
 induction d with
 |zero =>
  intro n hd;have:n=tz (val a):=by omega
  subst this;rw[yS,gP ⟨ha,hl,by omega,by omega⟩,aY,bPN,bP]
 |succ d ih =>
  intro n hd;have h0:val a/2^n%2=0:=by
   have aJM:=bQX (val a) (2^tz (val a));rw[hs.1,bMS]at aJM;have:val a=2^n*(2*(2^d*(val a/2^tz (val a)))):=by
    have e:2^tz (val a)=2^n*(2*2^d):=by rw[<-hd,bQS,bQQ,bQP (2^d)]
    generalize val a/2^tz (val a)=q at *;rw[<-bQU 2,<-bQU (2^n),<-e];exact aJM.symm
   rw[this,Nat.mul_div_cancel_left _ (bOQ (by decide))];omega
  rw[yS,gP ⟨ha,hl,by omega,by omega⟩,aY,bPN,h0,cC (show((0:Nat):Int)=0 from rfl),wrap_i64];exact ih (n+1) (by omega)
theorem skip{a:List Int}(ha:cA a)(hl:a.length<=1099511627776)(hv:val a≠0)(ht:tz (val a)<70368744177664):∀(d i:Nat),i+d=a.length->val (a.take i)=0->L4 a ((32*i:Nat):Int)=some [D.s (.sc (.int .i64 (tz (val a):Int)))]:=by
 have key:∀i,val (a.take i)=0->32*i<=tz (val a)/\i<a.length:=by
  intro i h0;have iN:i<a.length:=by
   rcases Nat.lt_or_ge i a.length with h |h
   ·exact h
   ·rw[bTC h]at h0;exact(hv h0).elim
  refine⟨aRU hv ?_,iN⟩;have h1:=fX a (n:=i) (by omega);rw[h0,bLT]at h1;rw[<-Km,h1,Nat.mul_mod_right]
 intro d
 induction d with
 |zero=>intro i hd h0;have:=key i h0;omega
 |succ d ih =>
  intro i hd h0;have hk:=key i h0;have t1:(((32*i:Nat):Int)).tdiv 32=(i:Int):=by rw[bTG (by omega)];omega
  have g:=ha.get i;rw[kS,t1,wrap_i64 (n:=(i:Int)),aO,aU,bPN]
  by_cases hc:a.getD i 0=0
  ·rw[cC hc,wrap_i64];have:=ih (i+1) (by omega) (by rw[cB,h0,hc];simp);rw[show((32*i:Nat):Int)+32=((32*(i+1):Nat):Int) by omega];exact this
  ·rw[bP hc,Lm];exact lp ha hl hv ht (tz (val a)-32*i) (32*i) (by omega)
def sp(a:List Int):Prop×List D:=(cD a/\a.length<=1099511627776,[.s (.sc (.int .i64 (if val a=0 then 0 else(tz (val a):Int))))])
theorem spec:gI E f178 aE (pI .u32) sp:=by
 rintro a ⟨ha,hl⟩;refine(start a).trans ?_;show _=some [D.s (.sc (.int .i64 (if val a=0 then 0 else(tz (val a):Int))))]
 by_cases h0:a.length=0
 ·rw[cC,if_pos ((cO ha).1 h0)]
 ·have hv:val a≠0:=fun h=>h0 ((cO ha).2 h)
  have ht:tz (val a)<70368744177664:=by
   have h1:=Fu hv;have h2:=cK ha.iP;rw[Km]at h2;have:=(Nat.pow_lt_pow_iff_right (by decide:1<2)).1 (Nat.lt_of_le_of_lt h1 h2);omega
  rw[bP,if_neg hv];exact skip ha.iP hl hv ht a.length 0 (by omega) (by simp[val])
def aG:cX:=orc1 (pI .u32) sp
theorem ok:OK 178 aG:=(eB E aE (aA aXK.ok aD) func178).nA rfl spec
end Bb
namespace xL
def E:=mE [(218,Norm.aG),(185,Ut.aG)] 46 [11,43] [(6,[0,1,6,7,8])] []
def aE:=bd f219
theorem aW:Nk E aE:=nk
def L6 a (b:Int) (c:Nat) (d:List Int) f g:=nG E f219 aE 6 [vZ a,vA (sc (int u32 b)),(A.v (V.one (L.buf 2 c)),some { e:=(71:Nat),cont:=qU.ints u32 d }),cG f,bI g]
theorem start a b:aF E f219 aE [D.s (ints u32 a),D.s (sc (int u32 b))]=letI A:=(a.length:Int);aB (b==0) (aP ((0:Int)<=(0:Int)/\(0:Int)<(18446744073709551616:Int)) (some [D.own 71 u32 (dg 0),D.s (sc (int u32 0))])) (if 0<=A/\A<=A/\A<=(8796093022208:Int)then xL.L6 a b A.toNat (bNU A.toNat (0:Int)) 0 (i64.wrap (A-(1:Int)))else none):=eJ aW
theorem yS a b c d e f:L6 a b c d e f=letI A:=u64.wrap (u64.wrap (e*4294967296)+u64.wrap (a.getD f.toNat 0));aB (decide (0<=f)) (if 0<=f/\f<(a.length:Int)then if u64.wrap b=0 then none else if 0<=f/\f<(c:Int)then if u64.wrap b=0 then none else xL.L6 a b c (d.set f.toNat (u32.wrap (u64.wrap (A.tdiv (u64.wrap b))))) (A.tmod (u64.wrap b)) (i64.wrap (f-1))else none else none) (aP (cA d/\d.length<=4398046511104) (some [D.own 71 u32 (dg (val d)),D.s (sc (int u32 (u32.wrap e)))])):=lJ aW
theorem L{a:List Int}{w:Int}(ha:cA a)(bIL:a.length<=1099511627776)(hw:0<w)(aSX:w<4294967296):∀(n:Nat) (q:List Int) (l:Int),cA q->q.length=a.length->0<=l->l<w->n<=a.length ->
  L6 a w a.length q l ((n:Int)-1)=some [D.own Je .u32 (dg ((l.toNat*4294967296^n+val (a.take n))/w.toNat+4294967296^n*val (q.drop n))),D.s (.sc (.int .u32 (((l.toNat*4294967296^n+val (a.take n))%w.toNat:Nat):Int)))]:=by
 intro n
 induction n with
 |zero =>
  intro q l hq bDW h0 h1 hn;rw[yS,aI,gP ⟨hq,by omega⟩,wrap_u32];simp only[Nat.pow_zero,bMB,List.take_zero,val,bMS,bRY,Nat.one_mul];rw[bRO (by omega),bLT,Nat.mod_eq_of_lt (by omega)];have e0:l%4294967296=(l.toNat:Int):=by omega
  rw[e0]
 |succ n ih =>
  intro q l hq bDW h0 h1 hn;have g1:=ha.get n;have e:(((n+1:Nat):Int)-1)=(n:Int):=by omega
  have e':((n:Int)).toNat=n:=bPN n;have hu:wrap_u64 (n:=w)=wrap_u64 (n:=w):=rfl;rw[e,yS,aO,aU,e',wrap_u64 (n:=w),aY,aU,aY,wrap_u64 (n:=l*4294967296),
   wrap_u64 (n:=a.getD n 0),wrap_u64 (n:=l*4294967296+a.getD n 0),wrap_i64]
  have Jb:0<=l*4294967296+a.getD n 0:=by omega
  rw[bTG Jb,bTH Jb];have bDX:(l*4294967296+a.getD n 0)/w<4294967296:=Int.ediv_lt_of_lt_mul hw (by
   have:(l+1)*4294967296<=w*4294967296:=Int.mul_le_mul_of_nonneg_right (by omega) (by omega);omega)
  have aQS:0<=(l*4294967296+a.getD n 0)/w:=Int.ediv_nonneg Jb (by omega);have aAS:=bUV (l*4294967296+a.getD n 0) (show w≠0 by omega);have aZO:=bUW (l*4294967296+a.getD n 0) hw;rw[wrap_u64 aQS (by omega),wrap_u32,Int.emod_eq_of_lt aQS bDX,ih _ _ (lU hq ⟨aQS,bDX⟩) (by simpa using bDW) aAS aZO (by omega),qG (by omega),cB];have bDK:0<w.toNat:=by omega
  have d1:((l*4294967296+a.getD n 0)/w).toNat=(l.toNat*4294967296+(a.getD n 0).toNat)/w.toNat:=by
   rw[Pb Jb (by omega)];congr 1;omega
  have d2:((l*4294967296+a.getD n 0)%w).toNat=(l.toNat*4294967296+(a.getD n 0).toNat)%w.toNat:=by
   rw[Pa Jb (by omega)];congr 1;omega
  rw[d1,d2,bQQ];generalize (a.getD n 0).toNat=x at *;generalize l.toNat=l at *;generalize val (a.take n)=v at *;generalize 4294967296^n=B at *;have e3:l*(B*4294967296)+(v+B*x)=(l*4294967296+x)*B+v:=by
   rw[Nat.add_mul,bQP B 4294967296,<-bQU,bQP B x];omega
  rw[e3,aFG bDK,aCX (l:=l) (B:=4294967296) (d:=x),bQR,bQU,Nat.add_assoc]
def sp(a:List Int)(w:Int):Prop×List D:=(cA a/\a.length<=1099511627776/\(0<w/\w<4294967296),[.own Je .u32 (dg (val a/w.toNat)),.s (.sc (.int .u32 ((val a%w.toNat:Nat):Int)))])
theorem spec:fK E f219 aE (pI .u32) (pN .u32) sp:=by
 rintro a w ⟨ha,h1,hw⟩;refine(start a w).trans ?_;rw[bP,if_pos ⟨by omega,by omega,by omega⟩,wrap_i64,bPN,L ha h1 hw.1 hw.2 a.length _ 0 (iI _) (by simp) (by omega) (by omega) (bLR _)];simp[sp,val]
def aG:cX:=orc2 (pI .u32) (pN .u32) sp
theorem ok:OK 219 aG:=(eB E aE (aA Norm.ok (aA Ut.ok aD)) func219).lE rfl spec
end xL
namespace bCD
def E:=mE [(218,Norm.aG),(185,Ut.aG),(219,xL.aG)] 29 [10,16,25] [] []
def aE:=bd f180
theorem aW:Nk E aE:=nk
theorem start a b:aF E f180 aE [D.s (ints u32 a),D.s (sc (int i64 b))]=letI F:=b.tdiv 32;letI C:=(a.length:Int);letI B:=(↑((2:Nat)^min (b.tmod 32).toNat 32):Int);letI A:=bRN (i64.wrap F).toNat (bRM C.toNat a);aB (decide (b<=0)) (aP (cA a/\a.length<=4398046511104) (some [D.own 71 u32 (dg (val a))])) (aB (decide (C<=i64.wrap F)) (aP ((0:Int)<=(0:Int)/\(0:Int)<(18446744073709551616:Int)) (some [D.own 71 u32 (dg 0)])) (if 0<=i64.wrap F/\i64.wrap F<=C/\C<=C then if b.tmod 32<(0:Int)then none else aP (cA A/\A.length<=1099511627776/\0<u32.wrap ((1:Int)*B)/\u32.wrap ((1:Int)*B)<4294967296) (some [D.own 71 u32 (dg (val A/(u32.wrap ((1:Int)*B)).toNat))])else none)):=eJ aW
def sp(a:List Int)(n:Int):Prop×List D:=(cA a/\a.length<=1099511627776/\n<9223372036854775808,[.own Je .u32 (dg (val a/2^n.toNat))])
theorem spec:fK E f180 aE (pI .u32) (pN .i64) sp:=by
 rintro a n ⟨ha,h1,h2⟩;refine(start a n).trans ?_;show _=some [D.own Je .u32 (dg (val a/2^n.toNat))]
 by_cases hn:n<=0
 ·rw[aO hn,gP ⟨ha,by omega⟩,show n.toNat=0 from by omega,Nat.pow_zero,Nat.div_one]
 ·have e1:(n%32).toNat=n.toNat%32:=by omega
  have e2:(n/32).toNat=n.toNat/32:=by omega
  rw[aI hn,aMZ (by omega),aMX (by omega),wrap_i64 (n:=n/32)]
  by_cases hz:(a.length:Int)<=n/32
  ·rw[aO hz,gP ⟨by omega,by omega⟩,bRO];rw[Bz];have h3:val a<4294967296^(n.toNat/32):=bMR (cK ha) (fD);have aDS:0<2^(n.toNat%32):=cN;exact bMR h3 (Nat.le_mul_of_pos_right _ aDS)
  ·have hp:2^(n.toNat%32)<2^32:=Nat.pow_lt_pow_right (by omega) (by omega);have aDS:0<2^(n.toNat%32):=cN;rw[aI hz,if_pos ⟨by omega,by omega,by omega⟩,aY,aCG (by omega) (by omega),bPN,bSM,e1,e2];rw[gP ⟨ha.drop _,by rw[bPQ];omega,by generalize 2^(n.toNat%32)=p at *;omega⟩,bPN,jD ha,Zw]
def aG:cX:=orc2 (pI .u32) (pN .i64) sp
theorem ok:OK 180 aG:=(eB E aE (aA Norm.ok (aA Ut.ok (aA xL.ok aD))) func180).lE rfl spec
end bCD
namespace To
def E:=mE [(218,Norm.aG)] 44 [] [(4,[3,4,5])] []
def aE:=bd f224
theorem aW:Nk E aE:=nk
def L4 a (b:Nat) (c:List Int) d:=nG E f224 aE 4 [vZ a,yD 1 b 22 c,bI d]
theorem start a:aF E f224 aE [D.s (ints u32 a)]=letI A:=i64.wrap ((↑(dg (val a)).length:Int).tdiv 2)+1;aP (cA a/\a.length<=4398046511104) (if(0:Int)<=(0:Int)/\0<=i64.wrap A/\i64.wrap A<=8796093022208 then To.L4 (dg (val a)) 0 (bNU 0 (0:Int)) 0 else none):=eJ aW
theorem kS a b c d:L4 a b c d=letI C:=(a.length:Int);letI B:=a.getD d.toNat 0;letI G:=c.length+[u64.wrap B].length;letI A:=u64.wrap B+u64.wrap (u64.wrap (a.getD (i64.wrap (d+1)).toNat 0)*4294967296);letI F:=c.length+[u64.wrap A].length;aB (decide (d<C)) (if 0<=d/\d<C then aB (decide (i64.wrap (d+1)<C)) (if 0<=i64.wrap (d+1)/\i64.wrap (d+1)<C then if(0:Nat)<[u64.wrap A].length/\(F:Int)<=(8796093022208:Int)then To.L4 a F (c ++ [u64.wrap A]) (i64.wrap (d+2))else none else none) (if(0:Nat)<[u64.wrap B].length/\(G:Int)<=(8796093022208:Int)then To.L4 a G (c ++ [u64.wrap B]) (i64.wrap (d+2))else none)else none) (some [D.own 22 u64 c]):=lJ aW
theorem L{d:List Int}(hd:cD d)(hl:d.length<=4398046511104):∀(k i:Nat) (xs:List Int),i+k>=d.length->i<=d.length+1->xs.length<=i ->
  L4 d xs.length xs i=some [D.own eX .u64 (xs ++ M6.dg (val (d.drop i)))]:=by
 intro k
 induction k using Nat.strongRecOn with
 |_ k ih =>
  intro i xs hk hi Sc;rw[kS]
  by_cases h:i<d.length
  ·have g0:=hd.iP.get i;have g1:=hd.iP.get (i+1);have e':((i:Int)).toNat=i:=bPN i;have e1:((i:Int)+1).toNat=i+1:=by omega
   have hz:val (d.drop i)≠0:=by
    intro h0;have hn:cD (d.drop i):=wI (hd.iP.drop i) fun e he=>hd.top (by
     rw[List.getLast?_drop]at he;rw[aY]at he;exact he)
    have:=(cO hn).2 h0;rw[bPQ]at this;omega
   have ev:=fM (a:=d) i;have ev1:val (d.drop (i+1))=(d.getD (i+1) 0).toNat+4294967296*val (d.drop (i+2)):=fM (i+1);have key:M6.dg (val (d.drop i))=(d.getD i 0+d.getD (i+1) 0*4294967296) :: M6.dg (val (d.drop (i+2))):=by
    rw[M6.mR hz];congr 1
    ·omega
    ·congr 1;omega
   rw[aO,aU,e',wrap_i64 (n:=(i:Int)+1),wrap_i64 (n:=(i:Int)+2),e1,wrap_u64 (n:=d.getD i 0),wrap_u64 (n:=d.getD (i+1) 0),
    wrap_u64 (n:=d.getD (i+1) 0*4294967296),wrap_u64]
   by_cases h1:i+1<d.length
   ·rw[aO,aU,if_pos ⟨by simp,by simp;omega⟩];have:=ih (k-2) (by omega) (i+2) (xs ++ [d.getD i 0+d.getD (i+1) 0*4294967296]) (by omega) (by omega) (by simp;omega);simp only[bMU,bPB,bPC]at this ⊢;rw[show((i:Int)+2)=((i+2:Nat):Int)from by omega,this,key,bNM];rfl
   ·have aWW:d.getD (i+1) 0=0:=getD_none (by omega);rw[aI,if_pos ⟨by simp,by simp;omega⟩];have:=ih (k-1) (by omega) (i+2) (xs ++ [d.getD i 0]) (by omega) (by omega) (by simp;omega);simp only[bMU,bPB,bPC]at this ⊢;rw[show((i:Int)+2)=((i+2:Nat):Int)from by omega,this,key,aWW,Int.zero_mul,bVY,bNM];rfl
  ·rw[aI,List.drop_eq_nil_of_le (by omega)];simp[val,M6.bQ]
def sp(a:List Int):Prop×List D:=(cA a/\a.length<=1099511627776,[.own eX .u64 (M6.dg (val a))])
theorem spec:gI E f224 aE (pI .u32) sp:=by
 rintro a ⟨ha,h1⟩;refine(start a).trans ?_;have:=oP ha;rw[gP ⟨ha,by omega⟩,bTG (by omega),wrap_i64 (n:=((dg (val a)).length:Int)/2) (by omega) (by omega),wrap_i64,if_pos ⟨by omega,by omega,by omega⟩];have:=L (aX (val a)) (by omega) (dg (val a)).length 0 [] (by omega) (by omega) (by simp);simp only[bPC,bRY,List.nil_append,bN]at this;exact this
def aG:cX:=orc1 (pI .u32) sp
theorem ok:OK 224 aG:=(eB E aE (aA Norm.ok aD) func224).nA rfl spec
end To
namespace bCA
def E:=mE [(224,To.aG)] 15 [] [] []
def aE:=bd f188
theorem aW:Nk E aE:=nk
theorem start a b:aF E f188 aE [D.agg [sc (bool a),ints u32 b]]=letI A:=cA b/\b.length<=1099511627776;aB a (aP A (some [D.agg [sc (bool (decide (0<(b.length:Int)))),ints u64 (M6.dg (val b))]])) (aP A (some [D.agg [sc (bool false),ints u64 (M6.dg (val b))]])):=eJ aW
def sp(x:Bool×List Int):Prop×List D:=(aGE x,[wD (zv x)])
theorem spec:gI E f188 aE aWD sp:=by
 intro x h;have h:aGE x:=h;have l:=h.len;have hz:=cO h.1;refine(start x.1 x.2).trans ?_;obtain⟨b,a⟩:=x
 try dsimp only at *
 show _=some [wD (zs b (val a))];rw[aLA];cases b with
 |false=>rw[bF,gP ⟨h.1.iP,by omega⟩];rfl
 |true =>
  rw[bT,gP ⟨h.1.iP,by omega⟩,bOS];have:decide (0<(a.length:Int))=decide (val a≠0):=by
   by_cases h:val a=0
   ·rw[decide_eq_false (by omega),decide_eq_false (by omega)]
   ·rw[decide_eq_true (by omega),decide_eq_true h]
  rw[this]
def aG:cX:=orc1 aWD sp
theorem ok:OK 188 aG:=(eB E aE (aA To.ok aD) func188).nA rfl spec
end bCA
namespace Dy
def E:=mE [(178,Bb.aG),(180,bCD.aG),(179,Mk.aG),(188,bCA.aG)] 52 [] [(5,[1,2,4]),(9,[1,2,4,6,7])] [5,9]
def aE:=bd f143
theorem aW:Nk E aE:=nk
def J5 a b c d e:=kV E f143 aE 5 [bI a,dG 1 180 [cI b,aRT c],dG 2 29 [cI d,sc (slice none 0 0),cP e]]
def J9 a b c d e f g:=kV E f143 aE 9 [bI a,dG 1 180 [cI b,aRT c],dG 2 29 [cI d,sc (slice none 0 0),cP e],bI f,vZ g]
theorem start a c b:aF E f143 aE [D.agg [sc (bool a),ints u32 c],D.s (sc (int i64 b))]=letI B:=int i64 0;letI A:=some [D.agg [sc (bool false),sc (slice none 0 0),sc B],D.s (sc (int i64 5))];aB ((c.length:Int)==(0:Int)) (some [D.agg [sc (bool false),sc (slice none 0 0),sc B],D.s (sc B)]) (aB (decide (1048576<b)) A (aB (decide (b<(-1099511627776:Int))) A (Dy.J5 b a c false 0))):=eJ aW
theorem Is a b c d e:J5 a b c d e=letI A:=some [D.agg [sc (bool false),sc (slice none 0 0),sc (int i64 0)],D.s (sc (int i64 5))];aP (cD c/\c.length<=1099511627776) (aC (if val c=0 then(0:Int)else(↑(tz (val c)):Int)) fun f=>aP (cA c/\c.length<=1099511627776/\f<9223372036854775808) (aC (dg (val c/(2:Nat)^f.toNat)) fun g=>aB (decide (16384<(g.length:Int))) A (aB (decide (i64.wrap (a+f)<(-1048576:Int))) A (aB (decide (1048576<i64.wrap (a+f))) A (Dy.J9 a b c d e f g))))):=cJ aW
theorem Ir a b c d e f g:J9 a b c d e f g=letI A:=(isNeg (zs b (val g)),dg (zs b (val g)).natAbs);aP (cA g/\g.length<=4398046511104) (aP (aGE A) (aC (isNeg (zv A)) fun h=>aC (M6.dg (zv A).natAbs) fun i=>some [D.agg [sc (bool h),ints u64 i,sc (int i64 (i64.wrap (a+f)))],D.s (sc (int i64 0))])):=cJ aW
def jT(z e:Int):Bool:=fR z e&&fit (aK z e).1.natAbs
def sp(x:Bool×List Int)(e:Int):Prop×List D:=(aGE x/\x.2.length<=268435456/\-4611686018427387904<=e/\e<4611686018427387904,dE (jT (zv x) e) (aK (zv x) e))
theorem kC(p:Int×Int)(ok:Bool)(n:Int)(h1:ok=true->p=(0,0))(h2:n=bif ok then 0 else 5):fT [D.agg [.sc (.bool false),.sc (.slice none 0 0),.sc (.int .i64 0)],.s (.sc (.int .i64 n))] (dE ok p):=by
 subst h2;have:(bif ok then p else((0:Int),(0:Int)))=(0,0):=by
  cases ok with
  |true=>exact h1 rfl
  |false=>rfl
 unfold dE;rw[this];refine .cons ?_ (fT.refl _);unfold dD;rw[show((0,0):Int×Int).1.natAbs=0 from rfl,M6.bQ];exact vV.agg (.cons (yJ.refl _) (.cons (yJ.nil _) (uB.refl _)))
theorem Yt{n k:Nat}(h:bl n<=32*k):(dg n).length<=k:=cQ (by rw[Km];exact dP.1 h)
theorem aJW{n:Nat}:fit n=decide ((dg n).length<=16384):=by
 unfold fit
 by_cases h:bl n<=524288
 ·rw[decide_eq_true h,decide_eq_true (Yt (k:=16384) (by omega))]
 ·rw[decide_eq_false h,decide_eq_false (fun hl=>h ?_)];have:=aFZ (iE n) hl;rw[bN]at this;omega
theorem spec:El E f143 aE aWD (pN .i64) sp:=by
 rintro x e ⟨hx,lx,aHO,Xe⟩;have s:=start x.1 x.2 e;have hz:=cO hx.1;have bx:=aFZ hx.1.iP lx;have hn:=hx.1;obtain⟨b,a⟩:=x
 try dsimp only at *
 unfold sp
 try dsimp only
 have ha:(zv (b,a)).natAbs=val a:=aMR (b,a)
 by_cases h0:a.length=0
 ·have hv:zv (b,a)=0:=by have:=hz.1 h0;omega
  rw[cC]at s;exact⟨_,s,kC _ _ _ (fun _=>by rw[hv,cZ]) (by unfold jT;rw[hv,cZ];rfl)⟩
 ·have hv:val a≠0:=fun h=>h0 (hz.2 h)
  have hw:zv (b,a)≠0:=by omega
  have ht:=zS hv;obtain⟨n1,n2⟩:=jG (e:=e) hw;rw[ha]at n2;have Jc:fR (zv (b,a)) e=(decide (-1048576<=e+(tz (val a):Int))&&decide (e+(tz (val a):Int)<=1048576)):=by
   unfold fR;rw[decide_eq_false hw,bNS,ha]
  have bEA:aK (zv (b,a)) e=(zs b (val a/2^tz (val a)),e+(tz (val a):Int)):=by
   unfold aK;rw[if_neg hw,ha];have:=aAZ (b:=b) (bOQ (n:=tz (val a)) (show 0<2 by decide)) (oO _ hv).1;rw[<-this];rfl
  have Jl:fit (aK (zv (b,a)) e).1.natAbs=decide ((dg (val a/2^tz (val a))).length<=16384):=by
   rw[bEA,<-aJW]
   try dsimp only
   rw[jR]
  have no:fR (zv (b,a)) e=false->jT (zv (b,a)) e=false:=fun h=>by unfold jT;rw[h];rfl
  rw[bP]at s
  by_cases c1:1048576<e
  ·rw[aO c1]at s;exact⟨_,s,kC _ _ _ (fun h=>by rw[no (by rw[Jc,decide_eq_false (show ¬e+(tz (val a):Int)<=1048576 by omega),bRD])]at h;cases h) (by rw[no (by rw[Jc,decide_eq_false (show ¬e+(tz (val a):Int)<=1048576 by omega),bRD])];rfl)⟩
  ·rw[aI c1]at s
   by_cases c2:e < -1099511627776
   ·rw[aO c2]at s;have hf:jT (zv (b,a)) e=false:=no (by rw[Jc,decide_eq_false (show ¬-1048576<=e+(tz (val a):Int) by omega),bRA]);exact⟨_,s,kC _ _ _ (fun h=>by rw[hf]at h;cases h) (by rw[hf];rfl)⟩
   ·have aMA:=Ti (val a) (2^tz (val a));rw[show(dg (val a)).length=a.length from aIW hn]at aMA;rw[aI c2,Is,gP ⟨hn,by omega⟩,if_neg hv,vl,gP ⟨hn.iP,by omega,by omega⟩,bPN,vl,wrap_i64 (n:=e+(tz (val a):Int)) (by omega) (by omega)]at s
    by_cases c3:(16384:Int)<((dg (val a/2^tz (val a))).length:Int)
    ·rw[aO c3]at s;have hf:jT (zv (b,a)) e=false:=by unfold jT;rw[Jl,decide_eq_false (by omega),bRD]
     exact⟨_,s,kC _ _ _ (fun h=>by rw[hf]at h;cases h) (by rw[hf];rfl)⟩
    ·rw[aI c3]at s
     by_cases c4:e+(tz (val a):Int) < -1048576
     ·rw[aO c4]at s;have hf:jT (zv (b,a)) e=false:=no (by rw[Jc,decide_eq_false (show ¬-1048576<=e+(tz (val a):Int) by omega),bRA]);exact⟨_,s,kC _ _ _ (fun h=>by rw[hf]at h;cases h) (by rw[hf];rfl)⟩
     ·rw[aI c4]at s
      by_cases c5:1048576<e+(tz (val a):Int)
      ·rw[aO c5]at s;have hf:jT (zv (b,a)) e=false:=no (by rw[Jc,decide_eq_false (show ¬e+(tz (val a):Int)<=1048576 by omega),bRD]);exact⟨_,s,kC _ _ _ (fun h=>by rw[hf]at h;cases h) (by rw[hf];rfl)⟩
      ·have aLS:aGE (isNeg (zs b (val a/2^tz (val a))),dg (zs b (val a/2^tz (val a))).natAbs):=aBA (by rw[jR];omega);rw[aI c5,Ir,gP ⟨iE _,by omega⟩,bN,gP aLS,aKX,vl,vl,wrap_i64 (n:=e+(tz (val a):Int)) (by omega) (by omega)]at s;refine⟨_,s,?_⟩;have ht:jT (zv (b,a)) e=true:=by
        unfold jT;rw[Jc,Jl,decide_eq_true (show -1048576<=e+(tz (val a):Int) by omega),decide_eq_true (show e+(tz (val a):Int)<=1048576 by omega),decide_eq_true (by omega)];rfl
       rw[ht,bEA];exact fT.refl _
def aG:cX:=orc2 aWD (pN .i64) sp
theorem ok:OK 143 aG:=(eB E aE (aA Bb.ok (aA bCD.ok (aA Mk.ok (aA bCA.ok aD)))) func143).aAJ rfl spec
end Dy
namespace Ve
def E:=mE [(132,bCB.aG),(143,Dy.aG)] 12 [] [] []
def aE:=bd f93
theorem aW:Nk E aE:=nk
theorem start a:aF E f93 aE [D.s (sc (int i64 a))]=letI B:=(isNeg a,dg a.natAbs);letI A:=bif Dy.jT (zv B) 0 then aK (zv B) 0 else((0:Int),(0:Int));aP ((-9223372036854775808:Int)<=a/\a<9223372036854775808) (aP (aGE B/\(dg a.natAbs).length<=268435456/\(-4611686018427387904:Int)<=(0:Int)/\(0:Int)<(4611686018427387904:Int)) (aC (isNeg A.fst) fun b=>aC (M6.dg A.fst.natAbs) fun c=>aC A.snd fun d=>some [D.agg [sc (bool b),ints u64 c,sc (int i64 d)]])):=eJ aW
def sp(a:Int):Prop×List D:=(-9223372036854775808<=a/\a<9223372036854775808,[dD (aK a 0)])
theorem spec:gI E f93 aE (pN .i64) sp:=by
 intro a h;have h:-9223372036854775808<=a/\a<9223372036854775808:=h;have hb:bl a.natAbs<=64:=dP.2 (by omega);have hl:(dg a.natAbs).length<=2:=cQ (by omega);refine(start a).trans ((gP h).trans ((gP ⟨aBA (by omega),by(try dsimp only);omega,by omega,by omega⟩).trans ?_));rw[aKX];have:Dy.jT a 0=true:=by
  unfold Dy.jT fit;have:=Ai a 0;rw[fJ (by omega) (by omega),decide_eq_true (bMN (gD this) (by omega))];rfl
 rw[this,cond_true,nT];rfl
def aG:cX:=orc1 (pN .i64) sp
theorem ok:OK 93 aG:=(eB E aE (aA bCB.ok (aA Dy.ok aD)) func93).nA rfl spec
end Ve
namespace Uz
def E:=mE [(93,Ve.aG)] 8 [] [] []
def aE:=bd f41
theorem aW:Nk E aE:=nk
theorem start a:aF E f41 aE [D.s (sc (int i64 a))]=letI A:=aK a 0;letI B:=M6.dg A.fst.natAbs;aP ((-9223372036854775808:Int)<=a/\a<9223372036854775808) (aC (isNeg A.fst) fun b=>aC B fun c=>aC A.snd fun d=>aP ((-9223372036854775808:Int)<=a/\a<9223372036854775808) (aC (isNeg A.fst) fun e=>aC B fun f=>aC A.snd fun g=>some [D.agg [sc (bool b),ints u64 c,sc (int i64 d),sc (bool e),ints u64 f,sc (int i64 g)]])):=eJ aW
def sp(m:Int):Prop×List D:=(-9223372036854775808<=m/\m<9223372036854775808,[zK.sD (aK m 0) (aK m 0)])
theorem spec:gI E f41 aE (pN .i64) sp:=by
 intro m h;have h:-9223372036854775808<=m/\m<9223372036854775808:=h;refine(start m).trans ?_;rw[gP h,nT,gP h,nT];rfl
def aG:cX:=orc1 (pN .i64) sp
theorem ok:OK 41 aG:=(eB E aE (aA Ve.ok aD) func41).nA rfl spec
end Uz
namespace Va
def E:=mE [(18,aJ.aG),(39,fS.aG),(19,fI.aG),(40,Io.aG),(41,Uz.aG)] 59 [57] [] []
def aE:=bd f10
theorem aW:Nk E aE:=nk
theorem start:aF E f10 aE []=letI B:=aK (-1:Int) 0;letI F:=M6.dg B.fst.natAbs;letI A:=aK (fI.uT 4 4609434218613702656) 0;letI C:=M6.dg A.fst.natAbs;aP ((0:Int)<=(4598175219545276416:Int)/\(4598175219545276416:Int)<(18446744073709551616:Int)) (aC (isNeg (bif aZ.fA 64 4598175219545276416 then aJ.oW (aJ.fN 4598175219545276416)else((0:Int),(0:Int))).fst) fun a=>aP ((0:Int)<=(4609434218613702656:Int)/\(4609434218613702656:Int)<(18446744073709551616:Int)) (aP (((0:Int)<=(4609434218613702656:Int)/\(4609434218613702656:Int)<(18446744073709551616:Int))/\fI.aGY 4 4609434218613702656 7) (aC (isNeg A.fst) fun b=>aC C fun c=>aC A.snd fun d=>aC (isNeg A.fst) fun e=>aC C fun f=>aC A.snd fun g=>aB (!a) (some [D.s (sc (bool false))]) (aP ((-9223372036854775808:Int)<=(-1:Int)/\(-1:Int)<(9223372036854775808:Int)) (aC (isNeg B.fst) fun h=>aC F fun i=>aC B.snd fun j=>aC (isNeg B.fst) fun k=>aC F fun l=>aC B.snd fun m=>aP ((aL (b,c,d)/\aL (h,i,j))/\aL (e,f,g)/\aL (k,l,m)) (aC (decide (dv (Io.lo (b,c,d,e,f,g))=dv (Io.lo (h,i,j,k,l,m)))&&decide (dv (Io.hi (b,c,d,e,f,g))=dv (Io.hi (h,i,j,k,l,m)))) fun n=>some [D.s (sc (bool n))])))))):=eJ aW
theorem aYC:aJ.fN 4598175219545276416=(1,-2):=by
 have e1:bM.lA 64 4598175219545276416=1*p2 52:=by decide
 have e2:bM.lB 64 4598175219545276416=-54:=by decide
 unfold aJ.fN;rw[e1,e2,uL _ _ (by omega)];exact tF (p:=(1,-2)) (by decide) (by decide)
theorem aSG:fS.nR 64 4609434218613702656=(3,-1):=by
 have e1:bM.lA 64 4609434218613702656=3*p2 51:=by decide
 have e2:bM.lB 64 4609434218613702656=-52:=by decide
 unfold fS.nR;rw[e1,e2,uL _ _ (by omega)];exact tF (p:=(3,-1)) (by decide) (by decide)
theorem aXO:aJ.oW (1,-2)=(-1,-2):=by
 have e1:aJ.Ac (1,-2)=-(1*p2 1):=by decide
 unfold aJ.oW;rw[e1,Pw,uL _ _ (by omega)];show(-(aK 1 (-2)).1,(aK 1 (-2)).2)=_;rw[tF (p:=(1,-2)) (by decide) (by decide)]
theorem bBO:aZ.fA 64 4598175219545276416=true:=by decide
theorem bBN:aZ.fA 64 4609434218613702656=true:=by decide
theorem aVD:fI.aGY 4 4609434218613702656 7/\fI.uT 4 4609434218613702656=-1:=by
 refine⟨⟨rfl,by omega,by omega,bBN,fun _=>?_⟩,?_⟩
 ·rw[aSG];exact⟨rfl,by decide⟩
 ·unfold fI.uT;rw[aSG];rfl
def sp:Prop×List D:=(True,[.s (.sc (.bool true))])
theorem spec(h:sp.1):aF E f10 aE []=some sp.2:=by
 have hn:iL (aK (-1) 0):=fF (fJ (by omega) (by have:=Ns wZ;omega)) (by have:=Ns wZ;omega);refine start.trans ?_;rw[bBO,cond_true,aYC,aXO,gP,vl,gP,gP ⟨by omega,aVD.1⟩,aVD.2];show aC (isNeg (aK (-1) 0).1) _=_;rw[nT,nT];show aP _ (aC (isNeg (aK (-1) 0).1) _)=_;rw[gP,nT,nT,gP ⟨⟨cF hn,cF hn⟩,cF hn,cF hn⟩,vl,decide_eq_true rfl,decide_eq_true rfl];rfl
def aG:cX:=orc0  sp
theorem ok:OK 10 aG:=(eB E aE (aA aJ.ok (aA fS.ok (aA fI.ok (aA Io.ok (aA Uz.ok aD))))) func10).aXY spec
end Va
namespace Bj
def E:=mE [] 6 [] [] []
def aE:=bd f16
theorem aW:Nk E aE:=nk
theorem start a:aF E f16 aE [D.s (sc (int u64 a))]=some [D.s (sc (bool (decide (a.tmod 9223372036854775808<(9218868437227405312:Int)))))]:=eJ aW
def sp(b:Int):Prop×List D:=(0<=b/\b<18446744073709551616,[.s (.sc (.bool (aZ.fA 64 b)))])
theorem spec:gI E f16 aE (pN .u64) sp:=by
 intro b h;have h:0<=b/\b<18446744073709551616:=h;refine(start b).trans ?_;rw[bTH h.1];rfl
def aG:cX:=orc1 (pN .u64) sp
theorem ok:OK 16 aG:=(eB E aE aD func16).nA rfl spec
end Bj
namespace Lk
def E:=mE [(16,Bj.aG)] 15 [] [] []
def aE:=bd f11
theorem aW:Nk E aE:=nk
theorem start a b:aF E f11 aE [D.s (sc (int u64 a)),D.s (sc (int i64 b))]=letI A:=some [D.s (sc (bool false))];aP (0<=a/\a<18446744073709551616) (aB (aZ.fA 64 a) (aB (decide (1<=b)) (some [D.s (sc (bool (decide (b<=66000))))]) A) A):=eJ aW
def aEM(b p:Int):Bool:=aZ.fA 64 b&&(decide (1<=p)&&decide (p<=66000))
def sp(b p:Int):Prop×List D:=(0<=b/\b<18446744073709551616,[.s (.sc (.bool (aEM b p)))])
theorem spec:fK E f11 aE (pN .u64) (pN .i64) sp:=by
 intro b p h;refine(start b p).trans ((gP h).trans ?_);unfold sp aEM;dsimp only;cases hf:aZ.fA 64 b with
 |false=>rfl
 |true =>
  rw[bT,bOS]
  by_cases c:1<=p
  ·rw[aO c,decide_eq_true c,bOS]
  ·rw[aI c,decide_eq_false c,bRA]
def aG:cX:=orc2 (pN .u64) (pN .i64) sp
theorem ok:OK 11 aG:=(eB E aE (aA Bj.ok aD) func11).lE rfl spec
end Lk
namespace Og
def E:=mE [(69,vP.aG)] 20 [11] [] []
def aE:=bd f21
theorem aW:Nk E aE:=nk
theorem start a b c d e f g h i j k l:aF E f21 aE [D.agg [sc (bool a),ints u64 b,sc (int i64 c),sc (bool d),ints u64 e,sc (int i64 f)],D.agg [sc (bool g),ints u64 h,sc (int i64 i),sc (bool j),ints u64 k,sc (int i64 l)]]=aP (eG (a,b,c,d,e,f)/\eG (g,h,i,j,k,l)) (aC (vP.meet (a,b,c,d,e,f) (g,h,i,j,k,l)) fun m=>some [D.s (sc (bool m))]):=eJ aW
def sp(s t:rY):Prop×List D:=(eG s/\eG t,[.s (.sc (.bool (vP.meet s t)))])
theorem spec:fK E f21 aE sZ sZ sp:=by
 intro s t h;refine(start s.1 s.2.1 s.2.2.1 s.2.2.2.1 s.2.2.2.2.1 s.2.2.2.2.2 t.1 t.2.1 t.2.2.1 t.2.2.2.1 t.2.2.2.2.1 t.2.2.2.2.2).trans ((gP h).trans ?_);rw[aM];rfl
def aG:cX:=orc2 sZ sZ sp
theorem ok:OK 21 aG:=(eB E aE (aA vP.ok aD) func21).lE rfl spec
end Og
namespace LawPeriod
def E:=mE [(10,Va.aG),(11,Lk.aG),(12,bM.aG),(14,aHB.aG),(13,bJ.aG),(15,Bh.aG),(16,Bj.aG),(17,Rv.aG),(18,aJ.aG),(19,jW.aG),(20,iT.aG),(21,Og.aG)] 165 [] [(18,[0,1,2,11,12,21]),(10,[0,1,2,9,11,12]),(13,[0,1,2,11,12]),(17,[0,1,2,11,12]),(24,[0,1,2,11,12,21,22,23,24,25])] [10,13,17,24]
def aE:=bd f3
theorem aW:Nk E aE:=nk
def aAI a b c d e f g h:=kV E f3 aE 10 [cG a,bI b,bI c,dG 3 29 [cI d,eT e,cP f],cG g,bI h]
def Ln a b c d e:=kV E f3 aE 13 [cG a,bI b,bI c,cG d,bI e]
def bFS a b c d e:=kV E f3 aE 17 [cG a,bI b,bI c,cG d,bI e]
def aVW a b c d e f:=nG E f3 aE 18 [cG a,bI b,bI c,cG d,bI e,bI f]
def bCM a b c d e f g h i j k l m n o p q r s t:=kV E f3 aE 24 [cG a,bI b,bI c,cG d,bI e,bI f,dG 6 44 [cI g,eT h,cP i,cI j,eT k,cP l],bI m,dG 8 44 [cI n,eT o,cP p,cI q,eT r,cP s],bI t]
theorem start a b c:aF E f3 aE [D.s (sc (int u64 a)),D.s (sc (int i64 b)),D.s (sc (int i64 c))]=letI G:=some [D.s (sc (bool true))];letI F:=some [D.s (sc (bool false))];letI B:=bif dZ.gA 64 a&&aZ.fA 64 a then aK (bM.lA 64 a) (bM.lB 64 a)else((0:Int),(0:Int));aP True (aP (0<=a/\a<18446744073709551616) (aB (!Lk.aEM a c) G (aP (((64:Int)=(32:Int)\/(64:Int)=(64:Int))/\0<=a/\a<18446744073709551616) (aC (isNeg B.fst) fun d=>aC (M6.dg B.fst.natAbs) fun e=>aC B.snd fun f=>letI H:=dv (d,e,f);aC (bif dZ.gA 64 a then bif aZ.fA 64 a then(0:Int)else(6:Int)else(2:Int)) fun g=>aP ((-9223372036854775808:Int)<=b/\b<9223372036854775808) (aC (isNeg (aK b 0).fst) fun h=>aC (M6.dg (aK b 0).fst.natAbs) fun i=>aC (aK b 0).snd fun j=>letI I:=dv (h,i,j);letI C:=bif bJ.iV H I then bJ.mL H I else((0:Int),(0:Int));aP (aL (d,e,f)/\aL (h,i,j)) (aC (isNeg C.fst) fun k=>aC (M6.dg C.fst.natAbs) fun l=>aC C.snd fun m=>aC (bif bJ.iV H I then(0:Int)else(5:Int)) fun n=>letI A:=aB (g==0) (aB (n==0) G F) F;aP (((64:Int)=(32:Int)\/(64:Int)=(64:Int))/\aL (k,l,m)) (aC (Bh.Gv 64 (dv (k,l,m))) fun o=>aB (g !=0) A (aB (n !=0) A (aP (0<=o/\o<18446744073709551616) (aC (aZ.fA 64 o) fun p=>aB (!p) A (LawPeriod.aAI a b c k l m o 0))))))))))):=eJ aW
theorem It a b c d e f g h:aAI a b c d e f g h=letI A:=bif dZ.gA 64 g&&aZ.fA 64 g then aK (bM.lA 64 g) (bM.lB 64 g)else((0:Int),(0:Int));aP (((64:Int)=(32:Int)\/(64:Int)=(64:Int))/\0<=g/\g<18446744073709551616) (aC (isNeg A.fst) fun i=>aC (M6.dg A.fst.natAbs) fun j=>aC A.snd fun k=>aC (bif dZ.gA 64 g then bif aZ.fA 64 g then(0:Int)else(6:Int)else(2:Int)) fun l=>letI B:=some [D.s (sc (bool (l==0)))];aB (l !=0) B (aP (aL (i,j,k)/\aL (d,e,f)) (aC (decide (dv (i,j,k)=dv (d,e,f))) fun m=>aB (!m) B (LawPeriod.Ln a b c g h)))):=cJ aW
theorem vE a b c d e:Ln a b c d e=letI C:=some [D.s (sc (bool false))];letI B:=bif aZ.fA 64 d then aJ.oW (aJ.fN d)else((0:Int),(0:Int));letI A:=bif aZ.fA 64 a then aJ.oW (aJ.fN a)else((0:Int),(0:Int));aP (0<=a/\a<18446744073709551616) (aC (bif aZ.fA 64 a then aJ.iW (aJ.fN a)%4 else(0:Int)) fun f=>aC (isNeg A.fst) fun g=>aC (M6.dg A.fst.natAbs) fun h=>aC A.snd fun i=>aC (bif aZ.fA 64 a then(0:Int)else(6:Int)) fun j=>aP (0<=d/\d<18446744073709551616) (aC (bif aZ.fA 64 d then aJ.iW (aJ.fN d)%4 else(0:Int)) fun k=>aC (isNeg B.fst) fun l=>aC (M6.dg B.fst.natAbs) fun m=>aC B.snd fun n=>aC (bif aZ.fA 64 d then(0:Int)else(6:Int)) fun o=>aB (j !=0) C (aB (o !=0) C (aP (aL (g,h,i)/\aL (l,m,n)) (aC (decide (dv (g,h,i)=dv (l,m,n))) fun p=>aB (!p) C (aB ((i64.wrap (f+i64.wrap ((2:Int)*dX BinOp.and i64 b 1))).tmod 4 !=k) C (LawPeriod.bFS a b c d e))))))):=cJ aW
theorem aQE a b c d e:bFS a b c d e=LawPeriod.aVW a b c d e 4:=cJ aW
theorem aGT a b c d e f:aVW a b c d e f=letI B:=jW.aHH f d c;letI A:=jW.aHH f a c;aB (decide (f<=5)) (aP ((0<=a/\a<18446744073709551616)/\(f=4\/f=5\/f=6)/\(1<=c/\c<=66000)/\aZ.fA 64 a=true) (aC (isNeg A.fst.fst) fun g=>aC (M6.dg A.fst.fst.natAbs) fun h=>aC A.fst.snd fun i=>aC (isNeg A.snd.fst) fun j=>aC (M6.dg A.snd.fst.natAbs) fun k=>aC A.snd.snd fun l=>aC (bif jW.aIS f a then(6:Int)else(0:Int)) fun m=>aP ((0<=d/\d<18446744073709551616)/\(f=4\/f=5\/f=6)/\(1<=c/\c<=66000)/\aZ.fA 64 d=true) (aC (isNeg B.fst.fst) fun n=>aC (M6.dg B.fst.fst.natAbs) fun o=>aC B.fst.snd fun p=>aC (isNeg B.snd.fst) fun q=>aC (M6.dg B.snd.fst.natAbs) fun r=>aC B.snd.snd fun s=>letI C:=(n,o,p,q,r,s);letI G:=dv (gN C);letI F:=dv (gO C);aC (bif jW.aIS f d then(6:Int)else(0:Int)) fun t=>aB (dX BinOp.and i64 b 1==(1:Int)) (aP (eG C) (aC (isNeg (-F.fst)) fun u=>aC (M6.dg (-F.fst).natAbs) fun v=>aC F.snd fun w=>aC (isNeg (-G.fst)) fun x=>aC (M6.dg (-G.fst).natAbs) fun y=>aC G.snd fun z=>LawPeriod.bCM a b c d 0 f g h i j k l m u v w x y z t)) (LawPeriod.bCM a b c d e f g h i j k l m n o p q r s t)))) (some [D.s (sc (bool true))]):=lJ aW
theorem aGX a b c d e f g h i j k l m n o p q r s t:bCM a b c d e f g h i j k l m n o p q r s t=letI A:=some [D.s (sc (bool false))];aB (m !=0) A (aB (t !=0) A (aB (e !=0) A (aP (eG (g,h,i,j,k,l)/\eG (n,o,p,q,r,s)) (aC (vP.meet (g,h,i,j,k,l) (n,o,p,q,r,s)) fun u=>aB (!u) A (LawPeriod.aVW a b c d e (i64.wrap (f+1))))))):=cJ aW
def sp(b n p:Int):Prop×List D:=((0<=b/\b<18446744073709551616)/\(-9223372036854775808<=n/\n<9223372036854775808),[.s (.sc (.bool true))])
theorem fold(a b:Int×Int):(isNeg a.1,M6.dg a.1.natAbs,a.2,isNeg b.1,M6.dg b.1.natAbs,b.2)=mD a b:=rfl
theorem step{b n p w fn:Int}(hb:0<=b/\b<18446744073709551616)(hn:-9223372036854775808<=n/\n<9223372036854775808)(hp:1<=p/\p<=66000)(hf:aZ.fA 64 b=true)(hw:0<=w/\w<18446744073709551616)(aHN:aZ.fA 64 w=true)(hv:R.qz (aJ.fN w)=R.qz (aJ.fN b)+(n:Rat))(h4:fn=4\/fn=5):aVW b n p w 0 fn=aVW b n p w 0 (fn+1):=by
 have w1:i64.wrap (fn+1)=fn+1:=wrap_i64;have h6:fn=4\/fn=5\/fn=6:=by omega
 obtain⟨es,ps⟩:=aRW (p:=p) h4 hb.1 hf hp;obtain⟨ec,pc⟩:=aRW (p:=p) h4 hw.1 aHN hp;have sh:=aBD h4 hv;rw[aGT,aO,gP ⟨hb,h6,hp,hf⟩,ps];generalize jW.aHH fn b p=s at *;rw[aM,aM,aM,aM,aM,aM,aM,gP ⟨hw,h6,hp,aHN⟩,pc];generalize jW.aHH fn w p=c at *;rw[aM,aM,aM,aM,aM,aM,aM,Fl hn]
 by_cases h1:n%2=1
 ·rw[aY]at sh;rw[cC h1,fold,gP ec.sp,qB,qC];simp only[aM];have e2:=uG ec.f2.uK.Aj ec.f1.uK.Aj (kY.2 (by rw[mQ,mQ];have:=ec.lo;have:=ec.hi;grind));rw[aGX,cond_false,eN rfl,eN rfl,eN rfl,fold];refine(gP ⟨es.sp,e2⟩).trans ?_;have m:vP.meet (mD s.1 s.2) (mD (-c.2.1,c.2.2) (-c.1.1,c.1.2))=true:=Wu (V:=vT fn b) (by rw[qB,qC];exact⟨es.lo,es.hi⟩) (by rw[qB,qC,mQ,mQ];have:=ec.lo;have:=ec.hi;constructor <;> grind);rw[aM];show aB (!vP.meet (mD s.1 s.2) (mD (-c.2.1,c.2.2) (-c.1.1,c.1.2))) _ _=_;rw[m,bNR,bF,w1]
 ·rw[aU]at sh;rw[bP h1,aGX,cond_false,eN rfl,eN rfl,eN rfl,fold,fold];refine(gP ⟨es.sp,ec.sp⟩).trans ?_;have m:vP.meet (mD s.1 s.2) (mD c.1 c.2)=true:=Wu (V:=vT fn b) (by rw[qB,qC];exact⟨es.lo,es.hi⟩) (by rw[qB,qC,<-sh];exact⟨ec.lo,ec.hi⟩);rw[aM,m,bNR,bF,w1]
theorem spec:qR E f3 aE (pN .u64) (pN .i64) (pN .i64) sp:=by
 rintro b n p ⟨hb,hn⟩;refine(start b n p).trans ((gP trivial).trans ((gP hb).trans ?_));cases Jl:Lk.aEM b p with
 |false=>rfl
 |true =>
  unfold Lk.aEM at Jl;rw[bLX,bLX]at Jl;obtain⟨hf,h1,h2⟩:=Jl;have hp:1<=p/\p<=66000:=⟨of_decide_eq_true h1,of_decide_eq_true h2⟩;have aTM:∀x:Int,dZ.gA 64 x=true:=fun _=>rfl
  have e1:∀x:Int,aZ.fA 64 x=true->(bif dZ.gA 64 x&&aZ.fA 64 x then aK (bM.lA 64 x) (bM.lB 64 x)else((0:Int),(0:Int)))=aJ.fN x:=fun x hx=>by rw[aTM,hx];rfl
  have e2:∀x:Int,aZ.fA 64 x=true->(bif dZ.gA 64 x then bif aZ.fA 64 x then(0:Int)else 6 else 2)=0:=fun x hx=>by rw[aTM,hx];rfl
  obtain⟨pn,ok,py,qy⟩:=aIG hb.1 hf hn;obtain⟨px,_⟩:=aJ.Ce hb.1 hf;have pr:=Po hb.1 hf;rw[bNR,bF,gP ⟨.inr rfl,hb⟩,e1 b hf,e2 b hf];simp only[aM];rw[gP hn,gP ⟨cF px,cF pn⟩];simp only[cU,ok,cond_true];rw[gP ⟨.inr trivial,cF py⟩,eN rfl,eN rfl];have hw:=aIZ (bJ.mL (aJ.fN b) (aK n 0));generalize bJ.mL (aJ.fN b) (aK n 0)=y at *;generalize Bh.Gv 64 y=w at *;rw[gP hw];cases aHN:aZ.fA 64 w with
  |false=>rfl
  |true =>
   obtain⟨pw,_⟩:=aJ.Ce hw.1 aHN;have bCY:=Po hw.1 aHN;rw[bNR,bF,It,gP ⟨.inr rfl,hw⟩,e1 w aHN,e2 w aHN];simp only[aM];rw[eN rfl,gP ⟨cF pw,cF py⟩];simp only[cU]
   by_cases hy:aJ.fN w=y
   ·have hv:R.qz (aJ.fN w)=R.qz (aJ.fN b)+(n:Rat):=by rw[hy];exact qy
    obtain⟨hk,hq⟩:=Kj hv;have hd:aJ.oW (aJ.fN b)=aJ.oW (aJ.fN w):=aNH pr bCY hq.symm;have bGD:=step hb hn hp hf hw aHN hv (.inl rfl);have bGC:=step hb hn hp hf hw aHN hv (.inr rfl);rw[decide_eq_true hy,bNR,bF,vE,gP hb,hf,aHN];simp only[aM,cond_true];rw[gP hw,eN rfl,eN rfl,gP ⟨cF pr,cF bCY⟩,cU,cU,decide_eq_true hd,bNR,bF,Fl hn,hk];generalize aJ.iW (aJ.fN b)=K at *;have w1:i64.wrap (2*(n%2))=2*(n%2):=wrap_i64;have w2:i64.wrap (K%4+2*(n%2))=K%4+2*(n%2):=wrap_i64;rw[w1,w2,bTH (by omega),eN,aQE,bGD];refine bGC.trans ?_;rw[aGT,aI (by decide)];rfl
   ·rw[decide_eq_false hy];rfl
def aG:cX:=orc3 (pN .u64) (pN .i64) (pN .i64) sp
theorem fnok:qA prog E 3 f3 aE:=Zl oV mixed (kG _ rfl (aA Va.ok (aA Lk.ok (aA bM.ok (aA aHB.ok (aA bJ.ok (aA Bh.ok (aA Bj.ok (aA Rv.ok (aA aJ.ok (aA jW.ok (aA iT.ok (aA Og.ok aD)))))))))))) (mG)) func3 rfl rfl rfl
theorem ok:kZ prog base.glob 3 aG:=fnok.zA rfl spec
end LawPeriod
end W
namespace AI
open Go Go.RowKit Go.ChangeShapes Go.WideShapes Go.ChangeAt
abbrev noX:Nat->Prop:=fun _=>False
theorem aKJ{w:World}{a:Addr}{v:Value}(h:w.cell? a=some v):a=⟨a.block,a.off,none⟩/\a.block<w.heap.size:=by
 unfold World.cell? at h;split at h
 ·rename_i c t fr hb;split at h
  ·cases h
  ·rename_i hs;obtain⟨b,o,s⟩:=a;cases s with
   |some x=>simp at hs
   |none=>exact⟨rfl,(Array.getElem?_eq_some_iff.1 hb).1⟩
 ·cases h
section
variable {H:Type} {enc:TypeId×Value->H} {P:Program} {w:World} {held:Bool} {sp:Nat->Bool}
theorem glob_ints{name:String}{g:Nat}{t e:TypeId}{k:IntKind}{n fuel:Nat}{ns:List Int}{cs:Array Value}{p:List MemPlace}(hg:P.globalNamed name=some g)(hv:w.var? P name=some cs)(ht:P.underlying t=some (.array n e))(he:P.underlying e=some (.int k))(hc:P.cellsOf e=1)(hn:ns.length=n)(Ef:0<n)
  (hd:DataW.trod enc P w 0 sp held fuel t cs.toList=some (.agg (ns.map fun m=>.lit (.int k m)),p)):g<w.heap.size/\¬noX g/\qV noX w g 0 (tK k ns):=by
 obtain⟨xs,m1,_,hx,_,Sc,bJL⟩:=DataW.trod_array ht hd;simp only[Prod.mk.injEq,DataW.agg.injEq]at hx;have cell:∀i v,ns[i]?=some v->w.cell? ⟨g,i,none⟩=some (.int k v):=by
  intro i v hi;have iN:i<n:=by have:=(List.getElem?_eq_some_iff.1 hi).1;omega
  have h1:=bJL i iN;have bDH:xs[i]?=some xs[i]:=bMH (by omega);rw[bDH,hc,bMB]at h1;obtain⟨m,e1,e2,_⟩:=DataW.trod_int he h1;have h2:=congrArg (fun l=>l[i]?) hx.1;simp only[bLV,hi,bDH,e2,Option.map_some]at h2;have bIG:v=m:=by simpa using h2
  subst bIG;have h3:((cs.toList.drop i).take 1)[0]?=some (.int k v):=by rw[e1];rfl
  rw[List.getElem?_take,aU,List.getElem?_drop]at h3;have h4:=World.var?_cell hg hv i;rw[h4];simpa using h3
 have h0:ns[0]?=some ns[0]:=bMH (by omega);have hb:=(aKJ (cell 0 _ h0)).2;refine⟨hb,id,fun i s hs=>⟨hb,id,?_⟩⟩;unfold tK at hs;rw[bLV]at hs;obtain⟨v,aSZ,rfl⟩:=Option.map_eq_some_iff.1 hs;refine⟨_,by rw[bLT];exact cell i v aSZ,rfl,rfl⟩
end
theorem wf64{n:Int}(h:(Lit.int .u64 n).wf=true):0<=n/\n<18446744073709551616:=by
 have h2:u64.min<=n/\n<=u64.max:=by simpa [Lit.wf] using h
 have e1:u64.min=0:=rfl;have e2:u64.max=18446744073709551615:=rfl;omega
theorem wfi{n:Int}(h:(Lit.int .i64 n).wf=true):-9223372036854775808<=n/\n<9223372036854775808:=by
 have h2:i64.min<=n/\n<=i64.max:=by simpa [Lit.wf] using h
 have e1:i64.min=-9223372036854775808:=rfl;have e2:i64.max=9223372036854775807:=rfl;omega
theorem calls_true{P:Program}{G:Nat->Option (IntKind×List Int)}{f:FuncId}{ds:List D}(hc:Contract P G f ds [.s (.sc (.bool true))]){w:World}{vs:List Value}(hG:GlobOk G noX w)(hl:ds.length=vs.length)
  (hr:∀(i:Nat) (d:D) (v:Value),ds[i]?=some d->vs[i]?=some v->lL noX w d v):Calls P f vs.toArray w fun e w'=>e=.returned (.bool true)/\Below w.heap.size w w':=by
 refine(hc noX w vs (fun _ h=>h.elim) hG hl hr).mono ?_;rintro e w' ⟨vF,rfl,hb,g,hl,_,hr⟩
 match vF,hl with
 | [v],_ =>
  have:=hr 0 _ v rfl rfl;obtain⟨rfl,_⟩:=this;exact⟨rfl,hb⟩
end AI
end Go.Proofs.YtplagoepbghhpaaGreatDoor
end
