/- Contracts of functions and laws, for the claim. -/
import Derived.Test.YtaajbopgknekmaaGreatDoorBShared3
set_option linter.unusedVariables false
set_option linter.unusedSimpArgs false
set_option exponentiation.threshold 10000000
noncomputable section
open Go.IntKind(i8 i16 i32 i64 u8 u16 u32 u64)
open Go.Proofs.Tryz
open Rat renaming le_of_lt->cCJ,intCast_natCast->cEW,le_refl->cDM,natCast_mul->cCP,intCast_mul->cEV,intCast_neg->cIX,natCast_add->cIB,mul_assoc->cEU,intCast_sub->cLB,le_trans->cCL,mul_comm->cIU,mul_pos->cCX,intCast_add->cIY,le_antisymm->cJT
open Nat renaming le_trans->bYC,pow_add->cCH,pow_pos->cAH,zero_le->cCR,pow_succ->cCK,ble->bXS,pow_le_pow_right->cAI,mul_assoc->cCN,mod_lt->bZR,div_le_self->cDK,beq->bXI,le_of_ble_eq_true->bZF,eq_of_beq_eq_true->bXT,mul_le_mul_right->cBK,add_zero->bYI,sub_le->cDX,lt_of_lt_of_le->bYH,div_add_mod->cCS,pow_zero->cEN,one_mul->cBL,le_refl->bXK,zero_add->bXL,mul_le_mul_left->bZW,add_mul->bZU,zero_div->cEK,div_div_eq_div_mul->cCT,pow_lt_pow_right->cEE,le_of_lt->cLD,mul_lt_mul_of_pos_right->cGJ,mul_le_mul->cIC,lt_of_le_of_lt->cEC,exists_eq_add_of_le->bYQ,div_eq_of_lt->cCW,add_mul_mod_self_left->cJP,mod_eq_of_lt->cIZ
open Int renaming toNat_natCast->cBF,eq_ofNat_of_zero_le->cCM,natAbs_natCast->cDF,natAbs_neg->cFM,natAbs_mul->cDE,natAbs->cHV,natCast_mul->cDY,neg_mul->cHK,toNat->cLC,mul_nonneg->cJI,mul_neg->cGW,tdiv_eq_ediv_of_nonneg->cEF,tmod_eq_emod_of_nonneg->cEG,mul_le_mul_of_nonneg_right->bZS,natCast_nonneg->cHN,natCast_emod->cED,natCast_add->cLF
open Bool renaming not_true->bZH,false_or->bZI,not_false->cJB,true_or->cDL,true_and->cAJ,false_and->cCU,and_false->cDB,and_eq_true->bXN,and_eq_false_iff->cII
open List renaming replicate->bZK,length_take->bZC
open Option renaming bind_eq_some_iff->bZQ
namespace Go.Proofs.YtaajbopgknekmaaGreatDoor
open Go.Value(int bool slice)
open AI.S(sc ints)
namespace W
open Go AI M
namespace gK
def E:=mE [(159,Oj.aJ),(87,Ch.aJ),(97,bAE.aJ),(96,Pf.aJ),(67,mD.aJ),(68,aSR.aJ),(50,aBJ.aJ),(160,Im.aJ),(161,aZ.aJ),(162,cC.aJ)] 92 [] [] []
def aF:=bd f117
theorem aU:Nk E aF:=nk
theorem start a c d b:aG E f117 aF [D.agg [sc (bool a),ints u64 c,sc (int i64 d)],D.s (sc (int i64 b))]=letI F1:=wv (isNeg 1,M6.dg (cHV 1));letI B1:=bV 0 0;letI I1:=M6.dg B1.fst.natAbs;letI A1:=dv (false,c,d);letI X:=aW (false,c,d)/\1<=i64.wrap (b+32)/\i64.wrap (b+32)<=70000;letI W:=dv (a,c,d);letI U:=i64.wrap (b+32);letI B:=cZ.pC true A1.fst A1.snd U;letI O:=bif jD B.fst B.snd then bV B.fst B.snd else((0:Int),(0:Int));letI A:=cZ.pC false A1.fst A1.snd U;letI P:=bif jD A.fst A.snd then bV A.fst A.snd else((0:Int),(0:Int));aD ((c.length:Int)==(0:Int)) (aO ((-1000000:Int)<=(0:Int)/\(0:Int)<=(1000000:Int)) (aC (isNeg B1.fst) fun e=>aC I1 fun f=>aC B1.snd fun g=>aC (isNeg B1.fst) fun h=>aC I1 fun i=>aC B1.snd fun j=>some [D.agg [sc (bool e),ints u64 f,sc (int i64 g),sc (bool h),ints u64 i,sc (int i64 j)]])) (aO (aW (a,c,d)) (aC (if W.fst=0 then(0:Int)else d+(↑(bl (M6.val c)):Int)-(1:Int)) fun k=>letI Y:=i64.wrap (k-b)-3;letI C:=bif jD F1 (i64.wrap Y)then bV F1 (i64.wrap Y)else((0:Int),(0:Int));aD (decide (i64.wrap (i64.wrap ((2:Int)*k)+8)<i64.wrap ((0:Int)-b))) (aO X (aC (isNeg O.fst) fun l=>aC (M6.dg O.fst.natAbs) fun m=>aC O.snd fun n=>aO X (aC (isNeg P.fst) fun o=>aC (M6.dg P.fst.natAbs) fun p=>aC P.snd fun q=>aO ((-9223372036854775808:Int)<=(1:Int)/\(1:Int)<(9223372036854775808:Int)) (aO (iY (isNeg 1,M6.dg 1)/\(-9223372036854775808:Int)<=i64.wrap Y/\i64.wrap Y<9223372036854775808) (aC (isNeg C.fst) fun r=>aC (M6.dg C.fst.natAbs) fun s=>aC C.snd fun t=>letI G1:=dv (r,s,t);letI F:=bif bY.jG (dv (o,p,q)) (-G1.fst,G1.snd)then bY.kB (dv (o,p,q)) (-G1.fst,G1.snd)else((0:Int),(0:Int));aO (aW (o,p,q)/\aW (r,s,t)) (aC (isNeg F.fst) fun u=>aC (M6.dg F.fst.natAbs) fun v=>aC F.snd fun w=>letI Z:=(u,v,w,l,m,n);letI K:=bif a then kD.wI (dv (fL Z))else dv (fO Z);letI I:=bif a then kD.wI (dv (fO Z))else dv (fL Z);aO (dR Z) (aC (isNeg I.fst) fun x=>aC (M6.dg I.fst.natAbs) fun y=>aC I.snd fun z=>aC (isNeg K.fst) fun aa=>aC (M6.dg K.fst.natAbs) fun ab=>aC K.snd fun ac=>some [D.agg [sc (bool x),ints u64 y,sc (int i64 z),sc (bool aa),ints u64 ab,sc (int i64 ac)]]))))))) (aO (aW (a,c,d)/\(1<=b/\b<=70000)/\((-70000:Int)<=aZ.jI W/\aZ.jI W<=100)/\aZ.bU W b<=(2:Nat)^(aZ.w1 W b).toNat) (aC (M6.dg (aZ.Ds W b).fst) fun ad=>letI K1:=M6.val ad;aC (M6.dg ((2:Nat)^((2:Nat)*aZ.hv W b+22))) fun ae=>letI N1:=M6.val ae;aC (aZ.w2 W b) fun af=>letI D1:=cC.Dx K1 N1 af;letI C1:=cC.Jv K1 N1 af;letI N:=M.shD false C1 U;letI G:=M.shD true D1 U;letI H1:=cC.zP G;aO (M6.cI ad/\M6.cI ae/\bl K1<=500000/\bl N1<=500000/\(0<=af/\af<=500000)/\(1<=i64.wrap (b+32)/\i64.wrap (b+32)<=70000)/\wG false C1 U=true/\wG true D1 U=true/\mU G) (aC (isNeg N.fst) fun ag=>aC (M6.dg N.fst.natAbs) fun ah=>aC N.snd fun ai=>aC (isNeg H1.fst) fun aj=>aC (M6.dg H1.fst.natAbs) fun ak=>aC H1.snd fun al=>letI H:=(ag,ah,ai,aj,ak,al);letI T:=bif a then kD.wI (dv (fL H))else dv (fO H);letI Q:=bif a then kD.wI (dv (fO H))else dv (fL H);aO (dR H) (aC (isNeg Q.fst) fun am=>aC (M6.dg Q.fst.natAbs) fun an=>aC Q.snd fun ao=>aC (isNeg T.fst) fun ap=>aC (M6.dg T.fst.natAbs) fun aq=>aC T.snd fun ar=>some [D.agg [sc (bool am),ints u64 an,sc (int i64 ao),sc (bool ap),ints u64 aq,sc (int i64 ar)]])))))):=eJ aU
def uN(x:Int×Int)(p:Int):Int×Int:=if 2*aZ.jI x+8 < -p then bY.kB (shD false ((x.1.natAbs:Int),x.2) (p+32)) (-1,aZ.jI x-p-3)else shD false (cC.Jv (aZ.Ds x p).1 (2^(2*aZ.hv x p+22)) (aZ.w2 x p)) (p+32)
def tQ(x:Int×Int)(p:Int):Int×Int:=if 2*aZ.jI x+8 < -p then shD true ((x.1.natAbs:Int),x.2) (p+32)else cC.zP (shD true (cC.Dx (aZ.Ds x p).1 (2^(2*aZ.hv x p+22)) (aZ.w2 x p)) (p+32))
def Sa(x:Int×Int)(p:Int):Int×Int:=if x.1=0 then(0,0)else bif isNeg x.1 then kD.wI (tQ x p)else uN x p
def Sb(x:Int×Int)(p:Int):Int×Int:=if x.1=0 then(0,0)else bif isNeg x.1 then kD.wI (uN x p)else tQ x p
def aPU(x:iW)(p:Int):Prop:=aW x/\(1<=p/\p<=67100)/\((dv x).1≠0->-600000<=aZ.jI (dv x)/\mU (uN (dv x) p)/\mU (tQ (dv x) p)/\dQ (uN (dv x) p) (tQ (dv x) p)<=0 /\
 (2*aZ.jI (dv x)+8 < -p->wG true ((((dv x).1.natAbs:Nat):Int),(dv x).2) (p+32)=true/\wG false ((((dv x).1.natAbs:Nat):Int),(dv x).2) (p+32)=true/\mU (shD false ((((dv x).1.natAbs:Nat):Int),(dv x).2) (p+32))/\bY.jG (shD false ((((dv x).1.natAbs:Nat):Int),(dv x).2) (p+32)) (-1,aZ.jI (dv x)-p-3)=true) /\
 (¬2*aZ.jI (dv x)+8 < -p->cF.Tu (dv x) p/\cF.aNC (aZ.Ds (dv x) p).1 (2^(2*aZ.hv (dv x) p+22)) (aZ.w2 (dv x) p) (p+32)))
def sp(x:iW)(p:Int):Prop×List D:=(aPU x p,
 [Dn (Sa (dv x) p) (Sb (dv x) p)])
theorem spec:eR E f117 aF jE (pN .i64) sp:=by
 rintro x p ⟨hx,⟨p0,p1⟩,h⟩;refine(start x.1 x.2.1 x.2.2 p).trans ?_;have hz:=M6.cX hx.Fh;have he:=hx.2.1;have ha:(dv x).1.natAbs=M6.val x.2.1:=iT (x.1,x.2.1);have aFT:(x.1,x.2.1,x.2.2)=x:=rfl;have n0:bV 0 0=(0,0):=iR 0;have hT:(if(dv x).1=0 then 0 else x.2.2+(bl (M6.val x.2.1):Int)-1)=aZ.jI (dv x):=by rw[<-ha];rfl
 have hN:isNeg (dv x).1=x.1:=hx.Le.cells.1;have v1:wv (isNeg 1,M6.dg (cHV 1))=1:=tB 1;have k1:iY (isNeg 1,M6.dg 1):=gY (z:=1) (by decide +kernel);unfold sp Sa Sb;dsimp only
 by_cases c0:(dv x).1=0
 ·rw[cL (by have:=hz.2 (by omega);omega),gP ⟨by decide,by decide⟩,if_pos c0,if_pos c0];simp only[aB,n0];rfl
 ·obtain⟨t0,q1,q2,q3,hA,hB⟩:=h c0;have tt:=hx.rB.top;have l0:x.2.1.length≠0:=fun hc=>c0 (by have:=hz.1 hc;omega)
  have tU:aZ.jI (dv x)<=1572864:=by unfold aZ.jI;rw[if_neg c0];exact tt.2
  simp only[aFT,hT,aB,v1];rw[cO,if_neg c0,if_neg c0];have w1:i64.wrap (i64.wrap (2*aZ.jI (dv x))+8)=2*aZ.jI (dv x)+8:=by rw[wrap_i64 (n:=2*aZ.jI (dv x)),wrap_i64]
  have w2:i64.wrap (0-p)=-p:=by rw[wrap_i64];omega
  have w3:i64.wrap (i64.wrap (aZ.jI (dv x)-p)-3)=aZ.jI (dv x)-p-3:=by rw[wrap_i64 (n:=aZ.jI (dv x)-p),wrap_i64]
  have w4:i64.wrap (p+32)=p+32:=wrap_i64;simp only[w1,w2,w3,w4];rw[gP hx];have sk:dR (uF (uN (dv x) p) (tQ (dv x) p)):=Fp q1 q2 q3;have eL:=jU (uN (dv x) p) (tQ (dv x) p);have eH:=jV (uN (dv x) p) (tQ (dv x) p);rw[hN];unfold uF at sk eL eH
  by_cases c1:2*aZ.jI (dv x)+8 < -p
  ·obtain⟨s1,s2,s3,s4⟩:=hA c1;have ok:aW (false,x.2.1,x.2.2):=⟨⟨hx.1.1,fun hf=>(by cases hf),hx.1.len⟩,hx.2⟩;have vx:dv (false,x.2.1,x.2.2)=((((dv x).1.natAbs:Nat):Int),(dv x).2):=by rw[ha];rfl
   have b1:bl (cHV 1)=1:=rfl;have i1:jD 1 (aZ.jI (dv x)-p-3)=true:=mS (by omega) (by rw[b1];omega);have m1:bV 1 (aZ.jI (dv x)-p-3)=(1,aZ.jI (dv x)-p-3):=by
    unfold bV;rw[if_neg (by decide),show tz (cHV 1)=0 from by decide +kernel];simp
   have pg:mU (1,aZ.jI (dv x)-p-3):=m1▸jQ i1 (by decide +kernel);have e2:=gF ((1,aZ.jI (dv x)-p-3):Int×Int);have d2:=eI pg;have d3:=eI s3;have e3:=gF (shD false ((((dv x).1.natAbs:Nat):Int),(dv x).2) (p+32));have bQP:jD (cZ.pC true (((dv x).1.natAbs:Nat):Int) (dv x).2 (p+32)).1 (cZ.pC true (((dv x).1.natAbs:Nat):Int) (dv x).2 (p+32)).2=true:=s1;have bQO:jD (cZ.pC false (((dv x).1.natAbs:Nat):Int) (dv x).2 (p+32)).1 (cZ.pC false (((dv x).1.natAbs:Nat):Int) (dv x).2 (p+32)).2=true:=s2;have u1:bV (cZ.pC true (((dv x).1.natAbs:Nat):Int) (dv x).2 (p+32)).1 (cZ.pC true (((dv x).1.natAbs:Nat):Int) (dv x).2 (p+32)).2=shD true ((((dv x).1.natAbs:Nat):Int),(dv x).2) (p+32):=rfl;have u2:bV (cZ.pC false (((dv x).1.natAbs:Nat):Int) (dv x).2 (p+32)).1 (cZ.pC false (((dv x).1.natAbs:Nat):Int) (dv x).2 (p+32)).2=shD false ((((dv x).1.natAbs:Nat):Int),(dv x).2) (p+32):=rfl;have dL:uN (dv x) p=bY.kB (shD false ((((dv x).1.natAbs:Nat):Int),(dv x).2) (p+32)) (-1,aZ.jI (dv x)-p-3):=if_pos c1;have dH:tQ (dv x) p=shD true ((((dv x).1.natAbs:Nat):Int),(dv x).2) (p+32):=if_pos c1;rw[aR c1];simp only[vx,bQP,bQO,u1,u2,i1,m1,cond_true,e2,e3,s4];rw[gP ⟨ok,by omega,by omega⟩,gP ⟨ok,by omega,by omega⟩,gP ⟨by decide,by decide⟩,gP ⟨k1,by omega,by omega⟩,gP ⟨d3,d2⟩,<-dL,<-dH,gP sk,eL,eH];rfl
  ·obtain⟨⟨b1,b2⟩,a1,a2,a3,a4,a5,a6⟩:=hB c1;have dL:uN (dv x) p=shD false (cC.Jv (aZ.Ds (dv x) p).1 (2^(2*aZ.hv (dv x) p+22)) (aZ.w2 (dv x) p)) (p+32):=if_neg c1;have dH:tQ (dv x) p=cC.zP (shD true (cC.Dx (aZ.Ds (dv x) p).1 (2^(2*aZ.hv (dv x) p+22)) (aZ.w2 (dv x) p)) (p+32)):=if_neg c1;rw[aN c1];simp only[M6.bD];rw[gP ⟨hx,⟨by omega,by omega⟩,b1,b2⟩,gP ⟨M6.bA _,M6.bA _,a1,a2,a3,⟨by omega,by omega⟩,a4,a5,a6⟩,<-dL,<-dH,gP sk,eL,eH];rfl
def aJ:dG:=orc2 jE (pN .i64) sp
theorem ok:OK 117 aJ:=(dZ E aF (aA Oj.ok (aA Ch.ok (aA bAE.ok (aA Pf.ok (aA mD.ok (aA aSR.ok (aA aBJ.ok (aA Im.ok (aA aZ.ok (aA cC.ok aE)))))))))) func117).jR rfl spec
end gK
end W
namespace R
def Qx(F D X p q p' q':Nat):Bool :=
 bXS 9007199254740992 q'&&((bXI (p*q') (p'*q+1)||bXI (p'*q) (p*q'+1)) &&
 ((bXS (p*(F+1)+D) (q*X)&&bXS (q'*X) (p'*F))||(bXS (q*X+D) (p*F)&&bXS (p'*(F+1)) (q'*X))))
def bBD(F D X:Nat)(f:Nat):Nat->Nat->Nat->Nat->Nat->Nat->Bool:=Nat.rec (motive:=fun _=>Nat->Nat->Nat->Nat->Nat->Nat->Bool) (fun _ _ _ _ _ _=>false)
 (fun _ ih a b p q p' q'=>cond (bXS 9007199254740992 q') (Qx F D X p q p' q') (gQ (a/b) fun t=>gQ (a-t*b) fun r=>gQ (t*p'+p) fun p2=>gQ (t*q'+q) fun q2=>ih b r p' q' p2 q2)) f
def aRS(F D:Nat)(n:Nat):Nat->Bool:=Nat.rec (motive:=fun _=>Nat->Bool) (fun _=>true) (fun _ ih X=>bBD F D X 80 X F 0 1 1 0&&gQ (2*X) fun X'=>ih X') n
def bEX(w n:Nat):Bool :=
 Prod.rec (motive:=fun _=>Bool) (fun t5 s5=>Prod.rec (motive:=fun _=>Bool) (fun t239 nS =>
  bXS (4*nS) (16*s5)&&(bXI t5 0&&(bXI t239 0 &&
  gQ ((16*s5-4*nS)/2^64) fun F=>gQ (2^(w-64-62)) fun D=>gQ (2^(w-64-53)) fun X =>
  bXI (((16*s5-4*nS)+2^40)/2^64) F&&(bXI (((16*s5-4*nS)-2^40)/2^64) F&&aRS F D n X))))
  (Yo 239 w 10 10)) (Yo 5 w 20 20)
theorem bRM{L L' s m k p q p' q' P X:Rat}(hL:L=q*X-p*P)(bGR:L'=q'*X-p'*P)(hs:s*s=1)(aLE:p*q'-p'*q=s):m*X-k*P=s*(k*q'-m*p')*L+s*(m*p-k*q)*L':=by
 subst hL;subst bGR;have e1:s*(k*q'-m*p')*(q*X-p*P)+s*(m*p-k*q)*(q'*X-p'*P)=s*(p*q'-p'*q)*(m*X-k*P):=by grind
 rw[e1,aLE,hs];grind
theorem Vw{a b:Bool}(h:(a||b)=true):a=true\/b=true:=by simpa using h
theorem vP{a:Int}(h:0<a):(1:Rat)<=(a:Rat):=by exact_mod_cast h
theorem aRM {F D X p q p' q' : Nat} (h : Qx F D X p q p' q' = true) {P : Rat} (h1 : (F : Rat) ≤ P) (h2 : P ≤ (F : Rat) + 1) {m k : Int} (hm : 0 < m) (aXG : m < 9007199254740992) : (D : Rat) ≤ ab ((m : Rat) * (X : Rat) - (k : Rat) * P) := by
  unfold Qx at h
  obtain ⟨c1, h⟩ := fX h
  obtain ⟨c2, c3⟩ := fX h
  have c1 := bZF c1
  obtain ⟨s, hs, aLE⟩ : ∃ s : Int, s * s = 1 ∧ (p : Int) * q' - p' * q = s := by
    rcases Vw c2 with h | h
    · have := bXT h
      exact ⟨1, rfl, by have : (p : Int) * q' = p' * q + 1 := by exact_mod_cast this
                        omega⟩
    · have := bXT h
      exact ⟨-1, rfl, by have : (p' : Int) * q = p * q' + 1 := by exact_mod_cast this
                         omega⟩
  obtain ⟨a, ha⟩ : ∃ a : Int, a = s * (k * q' - m * p') := ⟨_, rfl⟩
  obtain ⟨b, hb⟩ : ∃ b : Int, b = s * (m * p - k * q) := ⟨_, rfl⟩
  have hmab : m = a * q + b * q' := by
    have : a * q + b * q' = s * (p * q' - p' * q) * m := by rw [ha, hb]; grind
    rw [this, aLE, hs]; omega
  obtain ⟨L, hL⟩ : ∃ L : Rat, L = (q : Rat) * X - (p : Rat) * P := ⟨_, rfl⟩
  obtain ⟨L', bGR⟩ : ∃ L' : Rat, L' = (q' : Rat) * X - (p' : Rat) * P := ⟨_, rfl⟩
  have bNN : (s : Rat) * (s : Rat) = 1 := by exact_mod_cast hs
  have Pp : (p : Rat) * q' - p' * q = (s : Rat) := by
    have := congrArg (Int.cast : Int → Rat) aLE
    rw [cLB, cEV, cEV, cEW, cEW, cEW, cEW] at this
    exact this
  have aXH := bRM (m := (m : Rat)) (k := (k : Rat)) hL bGR bNN Pp
  have bPD : (s : Rat) * ((k : Rat) * q' - m * p') = (a : Rat) := by
    rw [ha]; push_cast; rfl
  have bPC : (s : Rat) * ((m : Rat) * p - k * q) = (b : Rat) := by
    rw [hb]; push_cast; rfl
  rw [bPD, bPC] at aXH
  rw [aXH]
  have aOT : (0 : Int) ≤ q := by omega
  have hq'0 : (9007199254740992 : Int) ≤ q' := by omega
  have Mx : (0 : Rat) ≤ (p : Rat) := by exact_mod_cast cCR p
  have bCZ : (0 : Rat) ≤ (p' : Rat) := by exact_mod_cast cCR p'
  have bIY : ((D : Rat) ≤ L ∧ L' ≤ 0) ∨ ((D : Rat) ≤ -L ∧ 0 ≤ L') := by
    rcases Vw c3 with h | h
    · obtain ⟨d1, d2⟩ := fX h
      have d1 : ((p * (F + 1) + D : Nat) : Rat) ≤ ((q * X : Nat) : Rat) := by exact_mod_cast bZF d1
      have d2 : ((q' * X : Nat) : Rat) ≤ ((p' * F : Nat) : Rat) := by exact_mod_cast bZF d2
      push_cast at d1 d2
      have := aM Mx (show 0 ≤ (F : Rat) + 1 - P by grind)
      have := aM bCZ (show 0 ≤ P - (F : Rat) by grind)
      left
      constructor <;> grind
    · obtain ⟨d1, d2⟩ := fX h
      have d1 : ((q * X + D : Nat) : Rat) ≤ ((p * F : Nat) : Rat) := by exact_mod_cast bZF d1
      have d2 : ((p' * (F + 1) : Nat) : Rat) ≤ ((q' * X : Nat) : Rat) := by exact_mod_cast bZF d2
      push_cast at d1 d2
      have := aM Mx (show 0 ≤ P - (F : Rat) by grind)
      have := aM bCZ (show 0 ≤ (F : Rat) + 1 - P by grind)
      right
      constructor <;> grind
  have hD0 : (0 : Rat) ≤ (D : Rat) := by exact_mod_cast cCR D
  clear aXH bPD bPC Pp bNN hL bGR ha hb aLE hs c2 c3
  rcases Int.lt_trichotomy b 0 with hb | hb | hb
  · have Qw : 0 < a := by
      refine Int.not_le.1 fun hn => ?_
      have := cJI (show 0 ≤ -a by omega) aOT
      have := cJI (show 0 ≤ -b by omega) (show (0 : Int) ≤ q' by omega)
      rw [cHK] at *
      omega
    have r1 := vP Qw
    have r2 := vP (show 0 < -b by omega)
    have r2 : (1 : Rat) ≤ -(b : Rat) := by rw [← cIX]; exact r2
    rcases bIY with ⟨g1, g2⟩ | ⟨g1, g2⟩
    · have := aM (show 0 ≤ (a : Rat) - 1 by grind) (show 0 ≤ L by grind)
      have := aM (show 0 ≤ -(b : Rat) by grind) (show 0 ≤ -L' by grind)
      have := Ah ((a : Rat) * L + (b : Rat) * L')
      grind
    · have := aM (show 0 ≤ (a : Rat) - 1 by grind) (show 0 ≤ -L by grind)
      have := aM (show 0 ≤ -(b : Rat) by grind) (show 0 ≤ L' by grind)
      have := mG ((a : Rat) * L + (b : Rat) * L')
      grind
  · subst hb
    have Qw : 0 < a := by
      refine Int.not_le.1 fun hn => ?_
      have := cJI (show 0 ≤ -a by omega) aOT
      rw [cHK] at *
      omega
    have r1 := vP Qw
    have z : ((0 : Int) : Rat) = 0 := by norm_cast
    rw [z]
    rcases bIY with ⟨g1, g2⟩ | ⟨g1, g2⟩
    · have := aM (show 0 ≤ (a : Rat) - 1 by grind) (show 0 ≤ L by grind)
      have := Ah ((a : Rat) * L + 0 * L')
      grind
    · have := aM (show 0 ≤ (a : Rat) - 1 by grind) (show 0 ≤ -L by grind)
      have := mG ((a : Rat) * L + 0 * L')
      grind
  · have Qw : a < 0 := by
      refine Int.not_le.1 fun hn => ?_
      have := cJI hn aOT
      have := bZS (show 1 ≤ b by omega) (show (0 : Int) ≤ q' by omega)
      omega
    have r1 := vP (show 0 < -a by omega)
    have r1 : (1 : Rat) ≤ -(a : Rat) := by rw [← cIX]; exact r1
    have r2 := vP hb
    rcases bIY with ⟨g1, g2⟩ | ⟨g1, g2⟩
    · have := aM (show 0 ≤ -(a : Rat) - 1 by grind) (show 0 ≤ L by grind)
      have := aM (show 0 ≤ (b : Rat) by grind) (show 0 ≤ -L' by grind)
      have := mG ((a : Rat) * L + (b : Rat) * L')
      grind
    · have := aM (show 0 ≤ -(a : Rat) - 1 by grind) (show 0 ≤ -L by grind)
      have := aM (show 0 ≤ (b : Rat) by grind) (show 0 ≤ L' by grind)
      have := Ah ((a : Rat) * L + (b : Rat) * L')
      grind
theorem aYO{F D X:Nat}:∀(f a b p q p' q':Nat),bBD F D X f a b p q p' q'=true->∃p q p' q',Qx F D X p q p' q'=true:=by
 intro f
 induction f with
 |zero=>intro a b p q p' q' h;exact absurd h (by simp[bBD])
 |succ f ih =>
  intro a b p q p' q' h;have e:bBD F D X (f+1) a b p q p' q'=cond (bXS 9007199254740992 q') (Qx F D X p q p' q') (gQ (a/b) fun t=>gQ (a-t*b) fun r=>gQ (t*p'+p) fun p2=>gQ (t*q'+q) fun q2=>bBD F D X f b r p' q' p2 q2):=rfl;rw[e]at h;cases hc:bXS 9007199254740992 q' with
  |true=>rw[hc]at h;exact⟨_,_,_,_,h⟩
  |false =>
   rw[hc,cond_false,fJ,fJ,fJ,fJ]at h;exact ih _ _ _ _ _ _ h
theorem aRR{F D:Nat}:∀(n X:Nat),aRS F D n X=true->∀i,i<n->∃p q p' q',Qx F D (2^i*X) p q p' q'=true:=by
 intro n
 induction n with
 |zero=>intro X _ i hi;omega
 |succ n ih =>
  intro X h i hi;have e:aRS F D (n+1) X=(bBD F D X 80 X F 0 1 1 0&&gQ (2*X) fun X'=>aRS F D n X'):=rfl;rw[e,fJ]at h;obtain⟨h1,h2⟩:=fX h;cases i with
  |zero =>
   rw[cEN,cBL];exact aYO _ _ _ _ _ _ _ h1
  |succ i =>
   have:=ih _ h2 i (by omega);rw[cCK,cCN];exact this
theorem bLN:bEX 1464 1030=true:=by kernel_rfl
theorem aQQ{s5 nS:Nat}{W a b:Rat}(hle:4*nS<=16*s5)(h5:ab ((s5:Rat)-W*Oa 5)<=a)(Tg:ab ((nS:Rat)-W*Oa 239)<=b):ab (((16*s5-4*nS:Nat):Rat)-W*pi)<=16*a+4*b:=by
 have hc:((16*s5-4*nS:Nat):Rat)+4*(nS:Rat)=16*(s5:Rat):=by exact_mod_cast(show 16*s5-4*nS+4*nS=16*s5 by omega)
 unfold pi;rw[dJ]at *;grind
theorem Mo{m k:Int}{i:Nat}(hi:i<1030)(hm:0<m)(aXG:m<9007199254740992):1/4611686018427387904<=ab ((m:Rat)*((2^i:Nat):Rat)/9007199254740992-(k:Rat)*pi):=by
 have h:=bLN;unfold bEX at h;have h5:=Ij (n:=5) (by omega) 1464 20 20 (by omega);have Tg:=Ij (n:=239) (by omega) 1464 10 10 (by omega);generalize hw:(1464:Nat)=w at *;generalize Yo 5 w 20 20=A at *;generalize Yo 239 w 10 10=B at *;obtain⟨t5,s5⟩:=A;obtain⟨t239,nS⟩:=B;dsimp only at *;obtain⟨bPW,h⟩:=fX h;obtain⟨z5,h⟩:=fX h;obtain⟨aVF,h⟩:=fX h;rw[fJ,fJ,fJ]at h;obtain⟨q1,h⟩:=fX h;obtain⟨q2,h⟩:=fX h;have q1:=bXT q1;have q2:=bXT q2;have h5:=h5 (bXT z5);have Tg:=Tg (bXT aVF);obtain⟨p,q,p',q',hg⟩:=aRR _ _ h i hi;have aPA:ab (((16*s5-4*nS:Nat):Rat)-((2^w:Nat):Rat)*pi)<=524288:=by
  have:=aQQ (bZF bPW) h5 Tg;refine cCL this ?_;have n1:((2*(20*20):Nat):Rat)=800:=by norm_cast
  have n2:((2*(10*10):Nat):Rat)=200:=by norm_cast
  rw[n1,n2];grind
 generalize 16*s5-4*nS=P at *;have aGM:=Vh w (by omega);have lo:((P/2^64:Nat):Rat)<=((2^(w-64):Nat):Rat)*pi:=by
  have:2^64*(P/2^64)<=P-2^40:=by
   have:=Nat.mul_div_le (P-2^40) (2^64);rwa [q2]at this
  have hz:P/2^64=0\/2^64*(P/2^64)+2^40<=P:=by omega
  rcases hz with hz |h2
  ·rw[hz];have h3:(0:Rat)<=((2^(w-64):Nat):Rat):=by exact_mod_cast cCR _
   have:=aM h3 (cCJ (show 0<pi from by have:=mR.1;grind));have z:((0:Nat):Rat)=0:=by norm_cast
   rw[z];exact this
  ·have h3:((2^64:Nat):Rat)*((P/2^64:Nat):Rat)+((2^40:Nat):Rat)<=(P:Rat):=by exact_mod_cast h2
   rw[aGM,cCP,dJ]at aPA;have n1:((2^64:Nat):Rat)=18446744073709551616:=by norm_cast
   have n2:((2^40:Nat):Rat)=1099511627776:=by norm_cast
   rw[n1]at aPA h3;rw[n2]at h3;refine bP (q:=18446744073709551616) (by grind) ?_;generalize ((2^(w-64):Nat):Rat)=W at *;grind
 have aDP:((2^(w-64):Nat):Rat)*pi<=((P/2^64:Nat):Rat)+1:=by
  have:P+2^40<2^64*(P/2^64+1):=by
   have:=Nat.lt_mul_div_succ (P+2^40) (show 0<2^64 by omega);rwa [q1]at this
  have h3:(P:Rat)+((2^40:Nat):Rat)<((2^64:Nat):Rat)*(((P/2^64:Nat):Rat)+1):=by exact_mod_cast this
  rw[aGM,cCP,dJ]at aPA;have n1:((2^64:Nat):Rat)=18446744073709551616:=by norm_cast
  have n2:((2^40:Nat):Rat)=1099511627776:=by norm_cast
  rw[n1]at aPA h3;rw[n2]at h3;refine bP (q:=18446744073709551616) (by grind) ?_;generalize ((2^(w-64):Nat):Rat)=W at *;grind
 have bGF:=aRM hg lo aDP (k:=k) hm aXG;have eD:((2^(w-64):Nat):Rat)=((2^(w-64-62):Nat):Rat)*4611686018427387904:=by
  have:2^(w-64)=2^(w-64-62)*2^62:=by rw[<-cCH];congr 1;omega
  rw[this,cCP];congr 1
 have eX:((2^(w-64):Nat):Rat)=((2^(w-64-53):Nat):Rat)*9007199254740992:=by
  have:2^(w-64)=2^(w-64-53)*2^53:=by rw[<-cCH];congr 1;omega
  rw[this,cCP];congr 1
 have aLN:(0:Rat)<((2^(w-64):Nat):Rat):=by exact_mod_cast cB
 have hWp2:(0:Rat)<((2^(w-64-62):Nat):Rat):=by exact_mod_cast cB
 have e:(m:Rat)*((2^i*2^(w-64-53):Nat):Rat)-(k:Rat)*(((2^(w-64):Nat):Rat)*pi)=((2^(w-64):Nat):Rat)*((m:Rat)*((2^i:Nat):Rat)/9007199254740992-(k:Rat)*pi):=by
  rw[cCP,eX];grind
 rw[e,eA,bW (cCJ aLN)]at bGF;refine bP aLN ?_;rw[eD]at bGF ⊢;grind
end R
namespace R
def bBH(x:Rat):Prop:=∃m e:Int,0<m/\m<9007199254740992/\-53<=e/\e<=971/\(x=(m:Rat)*pz e\/x=-((m:Rat)*pz e))
theorem We{x:Rat}(h:bBH x){j:Nat}(hj:j=1\/j=2)(k:Int):1/4611686018427387904<=ab (((2^j:Nat):Rat)*x-(k:Rat)*pi):=by
 obtain⟨m,e,m0,m1,e0,e1,hx⟩:=h;obtain⟨i,hi⟩:=cCM (show 0<=e+53+(j:Int) by omega);have ep:((2^j:Nat):Rat)*((m:Rat)*pz e)=(m:Rat)*((2^i:Nat):Rat)/9007199254740992:=by
  have h1:pz (e+53+(j:Int))=((2^i:Nat):Rat):=by rw[hi,iF]
  rw[dT,iG]at h1;have h2:pz 53=9007199254740992:=by rw[show(53:Int)=((53:Nat):Int)from rfl,iF];norm_cast
  rw[h2]at h1;rw[<-h1];grind
 rcases hx with rfl |rfl
 ·have:=Mo (i:=i) (k:=k) (by omega) m0 m1;rw[ep];exact this
 ·have:=Mo (i:=i) (k:=-k) (by omega) m0 m1;rw[<-ep,cIX]at this;have e2:ab (((2^j:Nat):Rat)*-((m:Rat)*pz e)-(k:Rat)*pi)=ab (((2^j:Nat):Rat)*((m:Rat)*pz e) - -(k:Rat)*pi):=by rw[<-iB];congr 1;grind
  rw[e2];exact this
def oY(x:Rat)(k:Int):Prop:=ab (x-(k:Rat)*(pi/2))<=pi/4+1/36893488147419103232
def Fit(x:Rat):Prop:=bBH x\/ab x<=3/4
theorem Sc{x:Rat}(h:ab x<=3/4){k:Int}(hk:oY x k):k=0:=by
 obtain⟨p1,p2⟩:=mR;unfold oY at hk;rw[dJ]at hk h;refine Classical.byContradiction fun Dq=>?_
 by_cases c:1<=k
 ·have c1:(1:Rat)<=(k:Rat):=by exact_mod_cast c
  have:=aM (show 0<=(k:Rat)-1 by grind) (show 0<=pi by grind);grind
 ·have c1:(k:Rat)<=-1:=by
   have:(k:Rat)<=((-1:Int):Rat):=Rat.intCast_le_intCast.2 (by omega);rwa [show((-1:Int):Rat)=-1 by norm_cast]at this
  have:=aM (show 0<=-1-(k:Rat) by grind) (show 0<=pi by grind);grind
theorem aBQ{x:Rat}(h:Fit x){k l:Int}(hk:oY x k)(hl:oY x l):¬k<l:=by
 intro jM;rcases h with h |h
 ·obtain⟨p1,p2⟩:=mR;unfold oY at hk hl;rw[dJ]at hk hl
  by_cases e:l=k+1
  ·subst e;have c1:((k+1:Int):Rat)=(k:Rat)+1:=by norm_cast
   rw[c1]at hl;have n:=We h (j:=2) (Or.inr rfl) (2*k+1);have c2:((2*k+1:Int):Rat)=2*(k:Rat)+1:=by norm_cast
   have c3:((2^2:Nat):Rat)=4:=by norm_cast
   rw[c2,c3]at n;have:ab (4*x-(2*(k:Rat)+1)*pi)<=1/9223372036854775808:=by rw[dJ];constructor <;> grind
   grind
  ·have c1:(k:Rat)+2<=(l:Rat):=by
    have:((k+2:Int):Rat)<=(l:Rat):=by exact_mod_cast(show k+2<=l by omega)
    rwa [show((k+2:Int):Rat)=(k:Rat)+2 by norm_cast]at this
   have:=aM (show 0<=(l:Rat)-(k:Rat)-2 by grind) (show 0<=pi by grind);grind
 ·have:=Sc h hk;have:=Sc h hl;omega
theorem Lh{x:Rat}(h:Fit x){k l:Int}(hk:oY x k)(hl:oY x l):k=l:=by
 have:=aBQ h hk hl;have:=aBQ h hl hk;omega
theorem aJR{x:Rat}(h:bBH x)(k:Int):1/9223372036854775808<=ab (x-(k:Rat)*(pi/2)):=by
 have n:=We h (j:=1) (Or.inl rfl) k;have c3:((2^1:Nat):Rat)=2:=by norm_cast
 have e:((2^1:Nat):Rat)*x-(k:Rat)*pi=2*(x-(k:Rat)*(pi/2)):=by rw[c3];grind
 rw[e,eA,bW (show(0:Rat)<=2 by grind)]at n;grind
theorem Kq{x:Rat}{k:Int}(h:oY x k):ab (x-(k:Rat)*(pi/2))<=79/100:=by
 obtain⟨p1,p2⟩:=mR;unfold oY at h;grind
theorem aAJ(r:Rat):cs (ab r)=cs r:=by
 unfold ab;split
 ·rfl
 ·rw[Nq]
theorem Yx{r:Rat}(h:ab r<=1):sn (ab r)=ab (sn r):=by
 by_cases h0:0<=r
 ·rw[bW h0]at *;rw[bW (Ls h0 h)]
 ·have e:ab r=-r:=by unfold ab;rw[if_neg h0]
  rw[e]at h;rw[e,<-iB (sn r),<-xB,bW (Ls (by grind) h)]
theorem Xn{r:Rat}(h:ab r<=4/5):17/25<=cs r/\cs r<=1:=by
 have h0:=bB r;obtain⟨c1,c2⟩:=Np h0 (by grind);have m:=dW h0 h h0 h;have m2:=aM h0 h0;have m3:=aM m2 (show 0<=6-ab r*ab r by grind);rw[aAJ]at c1 c2;generalize ab r=a at *;constructor <;> grind
theorem aCH{r:Rat}(h0:0<=r)(h:r<=4/5):4/5*r<=sn r/\sn r<=r:=by
 have h1:r<=1:=by grind
 refine⟨?_,aCG h0 h1⟩;have c1:=(Fq h0 h1).1;have m:=dW h0 h h0 h;have m3:=aM h0 (show 0<=16/25-r*r by grind);grind
theorem aJV{a b:Int}(h:a<b):pz a<pz b:=by
 have h1:=cN (show a+1<=b by omega);have h2:=cY a;rw[jJ]at h1;grind
theorem aFP{a b:Int}:pz a<=pz b↔a<=b:=by
 constructor
 ·intro h;refine Int.not_lt.1 fun hn=>?_
  have:=aJV hn;grind
 ·exact cN
theorem xR{a b:Int}:pz a<pz b↔a<b:=by
 constructor
 ·intro h;refine Int.not_le.1 fun hn=>?_
  have:=cN hn;grind
 ·exact aJV
theorem Ho:pz 1=2:=by rw[show(1:Int)=0+1 by rfl,jJ,fA];grind
theorem pW(a:Int):pz (a-1)*2=pz a:=by
 have:=jJ (a-1);rw[show a-1+1=a by omega]at this;grind
theorem gE(a:Int){n:Nat}{c:Rat}(hc:((2^n:Nat):Rat)=c):pz (a-(n:Int))*c=pz a:=by
 have:=dT (a-(n:Int)) n;rw[show a-(n:Int)+(n:Int)=a by omega,hc]at this;exact this.symm
end R
namespace R
open W.TSums
theorem Fo{f:Nat->Rat}:∀{n:Nat},(∀k,k<n->f k=0)->sum f n=0
 |0,_=>rfl
 |n+1,h=>by rw[dV,Fo fun k hk=>h k (by omega),h n (by omega)];grind
theorem Qk(g:Nat->Rat)(k f:Nat):sum (fun i=>g (k+i)) (f+1)=g k+sum (fun i=>g (k+1+i)) f:=by
 rw[Nat.add_comm f 1,lM];have e:(fun i=>g (k+(1+i)))=fun i=>g (k+1+i):=funext fun i=>by rw[Nat.add_assoc]
 rw[e,dV];have z:sum (fun i=>g (k+i)) 0=0:=rfl;rw[z,bYI];grind
def gC(u W i:Nat):Rat:=cc i*(sq u W i:Rat)
def gS(u W i:Nat):Rat:=ss i*(sq u W i:Rat)
theorem Fm{u W:Nat}(hu:u<=W):∀f k a b c d,c<=a->d<=b->(k%4=1\/k%4=2->c+sq u W k<=a)->(k%4=2\/k%4=3->d+sq u W k<=b) ->
  (tay u W f k a b c d).2.2.1<=(tay u W f k a b c d).1/\(tay u W f k a b c d).2.2.2<=(tay u W f k a b c d).2.1 /\
  ((tay u W f k a b c d).1:Rat)-((tay u W f k a b c d).2.2.1:Rat)=(a:Rat)-(c:Rat)+sum (fun i=>gC u W (k+i)) f /\
  ((tay u W f k a b c d).2.1:Rat)-((tay u W f k a b c d).2.2.2:Rat)=(b:Rat)-(d:Rat)+sum (fun i=>gS u W (k+i)) f
 |0,k,a,b,c,d,h1,h2,_,_=>by
  have z1:sum (fun i=>gC u W (k+i)) 0=0:=rfl;have z2:sum (fun i=>gS u W (k+i)) 0=0:=rfl;refine⟨h1,h2,?_,?_⟩
  ·show(a:Rat)-(c:Rat)=_;rw[z1];grind
  ·show(b:Rat)-(d:Rat)=_;rw[z2];grind
 |f+1,k,a,b,c,d,h1,h2,h3,h4=>by
  have hs:=Ln hu k;have hm:k%4<4:=bZR _ (by decide);unfold tay
  by_cases hz:sq u W k=0
  ·have za:=Lq hz;rw[if_pos hz];have z1:sum (fun i=>gC u W (k+i)) (f+1)=0:=Fo fun i _=>by unfold gC;rw[za];simp
   have z2:sum (fun i=>gS u W (k+i)) (f+1)=0:=Fo fun i _=>by unfold gS;rw[za];simp
   rw[z1,z2];refine⟨h1,h2,?_,?_⟩
   ·show(a:Rat)-(c:Rat)=_;grind
   ·show(b:Rat)-(d:Rat)=_;grind
  ·rw[if_neg hz,Qk (gC u W) k f,Qk (gS u W) k f];have e4:(k+1)%4=(k%4+1)%4:=by omega
   by_cases c0:k%4=0
   ·rw[if_pos c0];obtain⟨r1,r2,r3,r4⟩:=Fm hu f (k+1) (a+sq u W k) b c d (by omega) h2 (fun _=>by omega) (fun h=>by omega);refine⟨r1,r2,?_,?_⟩
    ·rw[r3,cIB];have:gC u W k=(sq u W k:Rat):=by unfold gC cc;rw[if_pos c0];grind
     rw[this];grind
    ·rw[r4];have:gS u W k=0:=by unfold gS ss;rw[bG,bG];grind
     rw[this];grind
   ·rw[if_neg c0]
    by_cases c1:k%4=1
    ·rw[if_pos c1];obtain⟨r1,r2,r3,r4⟩:=Fm hu f (k+1) a (b+sq u W k) c d h1 (by omega) (fun _=>by have:=h3 (Or.inl c1);omega) (fun _=>by omega);refine⟨r1,r2,?_,?_⟩
     ·rw[r3];have:gC u W k=0:=by unfold gC cc;rw[if_neg c0,bG];grind
      rw[this];grind
     ·rw[r4,cIB];have:gS u W k=(sq u W k:Rat):=by unfold gS ss;rw[if_pos c1];grind
      rw[this];grind
    ·rw[if_neg c1]
     by_cases c2:k%4=2
     ·rw[if_pos c2];have g1:=h3 (Or.inr c2);have g2:=h4 (Or.inl c2);obtain⟨r1,r2,r3,r4⟩:=Fm hu f (k+1) a b (c+sq u W k) d (by omega) h2 (fun h=>by omega) (fun _=>by omega);refine⟨r1,r2,?_,?_⟩
      ·rw[r3,cIB];have:gC u W k=-(sq u W k:Rat):=by unfold gC cc;rw[if_neg c0,if_pos c2];grind
       rw[this];grind
      ·rw[r4];have:gS u W k=0:=by unfold gS ss;rw[if_neg c1,bG];grind
       rw[this];grind
     ·rw[if_neg c2];have g2:=h4 (Or.inr (by omega));obtain⟨r1,r2,r3,r4⟩:=Fm hu f (k+1) a b c (d+sq u W k) h1 (by omega) (fun h=>by omega) (fun h=>by omega);refine⟨r1,r2,?_,?_⟩
      ·rw[r3];have:gC u W k=0:=by unfold gC cc;rw[if_neg c0,if_neg c2];grind
       rw[this];grind
      ·rw[r4,cIB];have:gS u W k=-(sq u W k:Rat):=by unfold gS ss;rw[if_neg c1,aT];grind
       rw[this];grind
theorem Ic{x y:Nat}(h:y<=x):((x-y:Nat):Rat)=(x:Rat)-(y:Rat):=by
 have:((x-y:Nat):Rat)+(y:Rat)=(x:Rat):=by exact_mod_cast(show x-y+y=x by omega)
 grind
theorem Lm{u w:Nat}(hu:u<=2^w):(xN u w:Rat)=sum (fun k=>ss k*(sq u (2^w) k:Rat)) (w+1)/\(xO u w:Rat)=sum (fun k=>cc k*(sq u (2^w) k:Rat)) (w+1):=by
 obtain⟨r1,r2,r3,r4⟩:=Fm hu (w+1) 0 0 0 0 0 (bXK _) (bXK _) (fun h=>by omega) (fun h=>by omega);unfold xN xO;rw[Ic r1,Ic r2,r3,r4];have z:((0:Nat):Rat)=0:=by norm_cast
 have e1:sum (fun i=>gC u (2^w) (0+i)) (w+1)=sum (fun k=>cc k*(sq u (2^w) k:Rat)) (w+1):=lN fun k _=>by rw[bXL];rfl
 have e2:sum (fun i=>gS u (2^w) (0+i)) (w+1)=sum (fun k=>ss k*(sq u (2^w) k:Rat)) (w+1):=lN fun k _=>by rw[bXL];rfl
 rw[e1,e2,z];constructor <;> grind
end R
namespace M
open Go AI W
theorem aEY(p:Int×Int):R.ab (R.qz p)=(p.1.natAbs:Rat)*R.pz p.2:=by
 unfold R.qz;rw[R.eA,R.bW (cCJ (R.cY p.2))];congr 1;unfold R.ab
 by_cases hz:0<=p.1
 ·rw[if_pos (by exact_mod_cast hz),<-cEW];congr 1;omega
 ·rw[if_neg (by intro hc;exact hz (by exact_mod_cast hc)),<-cEW,<-cIX];congr 1;omega
theorem Wr(w:Int)(hw:65<=w):∀f h:Nat,4<=h->(h=4\/16*(h:Int)-16<w)->THalvings.hlv w f h=4\/16*(THalvings.hlv w f h:Int)-16<w
 |0,h,_,hh=>hh
 |f+1,h,h4,hh=>by
  unfold THalvings.hlv;split
  ·rename_i hc;refine Wr w hw f (h+1) (by omega) (Or.inr ?_);have:4*(h:Int)*h>=4*4*h:=by
    have:=bZS (show(4*4:Int)<=4*h by omega) (show(0:Int)<=h by omega);omega
   omega
  ·exact hh
theorem Gm{x:Int×Int}{p:Int}(h0:x.1≠0)(h1:bI x<=0)(ht:-1200<=bI x)(hp:1<=p/\p<=67100) :
  aZ.jI x=bI x/\aZ.w0 x p=p+80-bI x/\4<=aZ.hv x p/\aZ.hv x p<=204/\(aZ.hv x p:Int)+50<=p+80-bI x/\aZ.w1 x p=p+80-bI x+2*(aZ.hv x p:Nat)/\aZ.w2 x p=p+80-bI x+3*(aZ.hv x p:Nat):=by
 have e1:aZ.jI x=bI x:=by unfold aZ.jI bI;rw[if_neg h0]
 have e2:aZ.w0 x p=p+80-bI x:=by
  unfold aZ.w0;rw[e1];split <;> omega
 obtain⟨h3,h4⟩:=aZ.Tc (aZ.w0 x p) 200 4;have h5:=Wr (aZ.w0 x p) (by omega) 200 4 (by omega) (Or.inl rfl);have eh:THalvings.hlv (aZ.w0 x p) 200 4=aZ.hv x p:=rfl;rw[eh]at h3 h4 h5;refine⟨e1,e2,h4,h3,?_,?_,?_⟩
 ·omega
 ·unfold aZ.w1;omega
 ·unfold aZ.w2 aZ.w1;omega
theorem aRP(x:Int×Int)(n:Int):(vW.aPB x n:Rat)<=R.pz n*R.ab (R.qz x)/\R.pz n*R.ab (R.qz x)<(vW.aPB x n:Rat)+1:=by
 rw[aEY];have e:R.pz n*((x.1.natAbs:Rat)*R.pz x.2)=(x.1.natAbs:Rat)*R.pz (x.2+n):=by rw[R.iG];grind
 rw[e];unfold vW.aPB;split
 ·rename_i h;obtain⟨k,hk⟩:=cCM h;rw[hk,R.iF,cBF,cCP];constructor <;> grind
 ·rename_i h;obtain⟨k,hk⟩:=cCM (show 0<=-(x.2+n) by omega);have hp:0<2^k:=cAH (by decide);obtain⟨d1,d2⟩:=R.rN x.1.natAbs hp;rw[hk,cBF,show x.2+n=-(k:Int) by omega,R.vJ];have h2:=R.Nc k;have h3:=R.zF k;have m1:=R.aM (cCJ h3) (show 0<=(x.1.natAbs:Rat)-((2^k:Nat):Rat)*((x.1.natAbs/2^k:Nat):Rat) by grind);have m2:=cCX h3 (show 0<((2^k:Nat):Rat)*((x.1.natAbs/2^k:Nat):Rat)+((2^k:Nat):Rat)-(x.1.natAbs:Rat) by grind);generalize ((x.1.natAbs/2^k:Nat):Rat)=q at *;generalize ((2^k:Nat):Rat)=K at *;generalize (x.1.natAbs:Rat)=m at *;generalize R.hf k=g at *;have e1:g*(K*q)=q:=by rw[<-cEU,h2];grind
  constructor <;> grind
theorem Xu{x:Int×Int}{p:Int}(h0:x.1≠0)(hT:R.ab (R.qz x)<=1)(h1:bI x<=0)(ht:-1200<=bI x)(hp:1<=p/\p<=67100) :
  aZ.bU x p<=2^(aZ.w1 x p).toNat /\
  R.ab (((aZ.Ds x p).1:Rat)-R.pz (aZ.w2 x p)*R.sn (R.ab (R.qz x)))<=R.pz (2*(aZ.hv x p:Nat)+18) /\
  R.ab (((aZ.Ds x p).2:Rat)-R.pz (aZ.w2 x p)*R.cs (R.ab (R.qz x)))<=R.pz (2*(aZ.hv x p:Nat)+18):=by
 obtain⟨e1,e2,h4,h5,h6,bLJ,bLI⟩:=Gm h0 h1 ht hp;obtain⟨u1,u2⟩:=aRP x (aZ.w1 x p);have hT0:=R.bB (R.qz x);unfold aZ.Ds;have eU:vW.aPB x (aZ.w1 x p)=aZ.bU x p:=rfl;rw[eU]at u1 u2;generalize aZ.bU x p=u at *;generalize aZ.hv x p=h at *;generalize R.ab (R.qz x)=T at *;obtain⟨n,hn⟩:=cCM (show 0<=aZ.w1 x p by omega);have bDI:aZ.w2 x p=((n+h:Nat):Int):=by omega
 rw[hn,R.iF]at u1 u2;rw[hn,bDI,R.iF,cBF,cBF];have hu:u<=2^n:=by
  have hW:(0:Rat)<=((2^n:Nat):Rat):=by exact_mod_cast cCR _
  have:=R.aM hW (show 0<=1-T by grind);have:(u:Rat)<=((2^n:Nat):Rat):=by grind
  exact_mod_cast this
 have Uy:u<=2^(n+h):=bYC hu (cAI (by decide) (by omega));obtain⟨s1,s2⟩:=R.Lm Uy;have r:=R.aES hT0 hT u1 u2 (h:=h) (by omega) (by omega) (by omega) s1 s2;have b:((4^h*(2*(n+h)+10):Nat):Rat)<=R.pz (2*(h:Nat)+18):=by
  rw[show 2*(h:Int)+18=((2*h+18:Nat):Int) by omega,R.iF];have:4^h*(2*(n+h)+10)<=2^(2*h+18):=by
   rw[cCH,<-R.Bn];exact bZW _ (by have:(2:Nat)^18=262144:=rfl;omega)
  exact_mod_cast this
 exact⟨hu,cCL r.1 b,cCL r.2 b⟩
end M
namespace M
open Go AI W
theorem xQ(up:Bool)(p:Int×Int)(n:Nat):bl (shD up p n).1.natAbs<=n+1:=by
 unfold shD cZ.pC;refine bYC (Cr _ _) ?_;split
 ·dsimp only;omega
 ·rename_i h;dsimp only;exact aAG up p.1 _ n (by omega)
theorem Av{p:Int×Int}{E:Int}(h0:p.1≠0)(h:R.ab (R.qz p)<R.pz E):bI p<E:=by
 have:=(nR h0).1;refine R.xR.1 ?_;grind
theorem yU{p:Int×Int}{E:Int}(h0:p.1≠0)(h:R.pz E<=R.ab (R.qz p)):E<=bI p:=by
 have:=(nR h0).2;have:R.pz E<R.pz (bI p+1):=by grind
 have:=R.xR.1 this;omega
theorem uL{p:Int×Int}{E:Int}(h0:p.1≠0)(h:R.ab (R.qz p)<=R.pz E):bI p<=E:=by
 have:=(nR h0).1;refine R.aFP.1 ?_;grind
theorem aTL{p:Int×Int}(h:p.1≠0):R.qz p≠0:=by
 intro hz;have h1:=(nR h).1;have h2:=R.cY (bI p);rw[hz,R.bW (by grind)]at h1;grind
theorem Gb{p:Int×Int}(h:R.qz p≠0):p.1≠0:=fun hz=>h (R.qH hz)
theorem Ef{p:Int×Int}:0<R.qz p↔0<p.1:=by
 have h:=R.cY p.2;unfold R.qz;constructor
 ·intro hp;refine Int.not_le.1 fun hn=>?_
  have c:(p.1:Rat)<=0:=by exact_mod_cast hn
  have:=R.aM (show 0<=-(p.1:Rat) by grind) (cCJ h);grind
 ·intro hp;have c:(0:Rat)<(p.1:Rat):=by exact_mod_cast hp
  exact cCX c h
theorem Lz{p:Int×Int}:R.qz p<0↔p.1<0:=by
 have h:=Ef (p:=(-p.1,p.2));rw[nU]at h;constructor
 ·intro hp;have:=h.1 (by grind);dsimp only at this;omega
 ·intro hp;have:=h.2 (by dsimp only;omega);grind
theorem Ty{p q:Int×Int}{E:Int}{n:Nat}(hp:mU p)(hq:mU q)(h1:E<=p.2)(h2:E<=q.2)(v1:R.ab (R.qz p)<=R.pz (E+n))(v2:R.ab (R.qz q)<=R.pz (E+n))(hn:n<=500000)(hE:-1048576<=E)(hE2:E+n<=1048000):bY.jG p q=true:=by
 unfold bY.jG
 by_cases z1:p.1=0
 ·rw[decide_eq_true z1,cDL]
 by_cases z2:q.1=0
 ·rw[decide_eq_true z2,cDL,Bool.or_true]
 rw[decide_eq_false z1,decide_eq_false z2,bZI,bZI];obtain⟨m1,m2⟩:=Kz p q;have hm:E<=bY.iP p q:=by unfold bY.iP;split <;> omega
 have aXG:bY.iP p q<=1048576/\-1048576<=bY.iP p q:=by have:=hp.2.1;have:=hq.2.1;unfold bY.iP;split <;> omega
 have qX:R.qz (bY.pK p q,bY.iP p q)=R.qz p:=by
  unfold bY.pK R.qz;dsimp only;have e1:R.pz p.2=R.pz (bY.iP p q)*((2^(p.2-bY.iP p q).toNat:Nat):Rat):=by rw[<-R.dT];congr 1;omega
  rw[e1,cEV,cEW];grind
 have qY:R.qz (bY.pJ p q,bY.iP p q)=R.qz q:=by
  unfold bY.pJ R.qz;dsimp only;have e1:R.pz q.2=R.pz (bY.iP p q)*((2^(q.2-bY.iP p q).toNat:Nat):Rat):=by rw[<-R.dT];congr 1;omega
  rw[e1,cEV,cEW];grind
 have qS:R.qz (bY.pK p q+bY.pJ p q,bY.iP p q)=R.qz p+R.qz q:=by
  rw[<-qX,<-qY];unfold R.qz;dsimp only;rw[cIY];grind
 have vS:R.ab (R.qz (bY.pK p q+bY.pJ p q,bY.iP p q))<=R.pz (E+n+1):=by
  rw[qS,R.jJ];have:=R.xG (R.qz p) (R.qz q);grind
 rw[<-qX]at v1;rw[<-qY]at v2;generalize bY.pK p q=X at *;generalize bY.pJ p q=Y at *;generalize bY.iP p q=m at *;have bits:∀(z:Int) (F:Int),R.ab (R.qz (z,m))<=R.pz F->bl z.natAbs=0\/m+(bl z.natAbs:Nat)<=F+1:=by
  intro z F hv
  by_cases hz:z=0
  ·left;rw[hz];rfl
  ·right;have:=uL (p:=(z,m)) hz hv;unfold bI at this;dsimp only at this;omega
 have b1:=bits X _ v1;have b2:=bits Y _ v2;have b3:=bits (X+Y) _ vS;have f:∀z:Int,bl z.natAbs<=524288->fit z.natAbs=true:=fun z h=>decide_eq_true h
 rw[f X (by omega),f Y (by omega),f (X+Y) (by omega),mS (by omega) (by omega)];rfl
theorem yZ{p:Int×Int}(h:mU p):mU ((p.1.natAbs:Int),p.2):=by
 obtain⟨h1,h2,h3,h4⟩:=h;exact⟨by dsimp only;rw[cDF];exact h1,h2,fun hz=>h3 (by dsimp only at hz;omega),fun hz=>by dsimp only at hz ⊢;have:=h4 (by omega);omega⟩
theorem Eh(p:Int×Int):R.qz ((p.1.natAbs:Int),p.2)=R.ab (R.qz p):=by
 rw[aEY];unfold R.qz;dsimp only;rw[cEW]
theorem aPM(p:Int×Int):bI ((p.1.natAbs:Int),p.2)=bI p:=by
 unfold bI;dsimp only;rw[cDF]
theorem nT:R.qz (1,0)=1:=by
 unfold R.qz;dsimp only;rw[R.fA];have:((1:Int):Rat)=1:=by norm_cast
 rw[this];grind
theorem Cn:mU (1,0):=⟨by decide +kernel,⟨by decide,by decide⟩,fun h=>absurd h (by decide),fun _=>by decide⟩
theorem aMA{a f:Nat}{w q:Int}{V E:Rat}(hq:1<=q)(hE:R.ab ((a:Rat)-R.pz w*V)<=E)(hf:E<=(f:Rat))(hfa:(f:Rat)+E<=R.pz w*V)(hV:0<=V) :
  f<=a/\R.qz (shD false (cC.Jv a f w) q)<=V-R.pz (-w)*f+R.pz (-w)*E/\V-R.pz (-w)*f-R.pz (-w)*E-R.pz (1-q)*V<=R.qz (shD false (cC.Jv a f w) q) /\
  V+R.pz (-w)*f-R.pz (-w)*E<=R.qz (shD true (cC.Dx a f w) q)/\R.qz (shD true (cC.Dx a f w) q)<=V+R.pz (-w)*f+R.pz (-w)*E+R.pz (1-q)*(2*V):=by
 rw[R.dJ]at hE;have bDY:f<=a:=by
  have:(f:Rat)<=(a:Rat):=by grind
  exact_mod_cast this
 refine⟨bDY,?_⟩;have g:=R.cY (-w);have gi:=R.Ma w;have n1:=(Hi false (cC.Jv a f w) hq).1 rfl;have n2:=(Hi true (cC.Dx a f w) hq).2 rfl;have q1:R.qz (cC.Jv a f w)=((a:Rat)-(f:Rat))*R.pz (-w):=by
  unfold cC.Jv;rw[rL,cEW,R.Ic bDY]
 have q2:R.qz (cC.Dx a f w)=((a:Rat)+(f:Rat))*R.pz (-w):=by
  unfold cC.Dx;rw[rL,cEW,cIB]
 rw[q1]at n1;rw[q2]at n2;have a0:(0:Rat)<=(a:Rat)-(f:Rat):=by grind
 have f0:(0:Rat)<=(f:Rat):=by exact_mod_cast cCR f
 rw[R.bW (R.aM a0 (cCJ g))]at n1;rw[R.bW (R.aM (show(0:Rat)<=(a:Rat)+(f:Rat) by grind) (cCJ g))]at n2;have eV:R.pz (-w)*(R.pz w*V)=V:=by rw[<-cEU,cIU (R.pz (-w)),gi];grind
 have m1:=R.aM (cCJ g) (show 0<=E-((a:Rat)-R.pz w*V) by grind);have m2:=R.aM (cCJ g) (show 0<=E+((a:Rat)-R.pz w*V) by grind);have m3:=R.aM (cCJ g) (show 0<=R.pz w*V-((f:Rat)+E) by grind);have m4:=R.aM (cCJ g) (show 0<=(f:Rat)-E by grind);have e0:R.pz w*V=R.pz w*V:=rfl;generalize R.pz w*V=U at *;generalize R.pz (-w)=G at *;have h0:=R.cY (1-q);generalize R.pz (1-q)=H at *;have k1:=R.aM (cCJ h0) (show 0<=V-((a:Rat)-(f:Rat))*G by grind);have k2:=R.aM (cCJ h0) (show 0<=2*V-((a:Rat)+(f:Rat))*G by grind);refine⟨?_,?_,?_,?_⟩ <;> grind
theorem aER(p:Int×Int):R.qz (cC.zP p)<=1/\R.qz (cC.zP p)<=R.qz p/\(R.qz (cC.zP p)=R.qz p\/R.qz (cC.zP p)=1)/\(∀v,v<=R.qz p->v<=1->v<=R.qz (cC.zP p)):=by
 unfold cC.zP
 by_cases h:0<dQ p (1,0)
 ·rw[decide_eq_true h,cond_true,nT];have:=uY.1 h;rw[nT]at this;exact⟨cDM,cCJ this,Or.inr rfl,fun v _ h=>h⟩
 ·rw[decide_eq_false h,cond_false];have:R.qz p<=1:=by rw[<-nT];exact Rat.not_lt.1 fun hn=>h (uY.2 hn)
  exact⟨this,cDM,Or.inl rfl,fun v h _=>h⟩
theorem aCZ{p:Int×Int}(h:mU p):mU (cC.zP p):=by
 unfold cC.zP;cases decide (0<dQ p (1,0))
 ·exact h
 ·exact Cn
theorem aMY{p:Int×Int}{n:Nat}(hn:1<=n)(h:bl p.1.natAbs<=n):bl (cC.zP p).1.natAbs<=n:=by
 unfold cC.zP;cases decide (0<dQ p (1,0))
 ·exact h
 ·exact hn
theorem bFA{x:Int×Int}{p:Int}{V:Rat}{a:Nat}(h0:x.1≠0)(h1:bI x<=0)(ht:-1200<=bI x)(hp:1<=p/\p<=67100)(hV:R.pz (bI x-1)<=V)(bOV:V<=1)
  (ha:R.ab ((a:Rat)-R.pz (aZ.w2 x p)*V)<=R.pz (2*(aZ.hv x p:Nat)+18)) :
  cF.aNC a (2^(2*aZ.hv x p+22)) (aZ.w2 x p) (p+32) /\
  mU (shD false (cC.Jv a (2^(2*aZ.hv x p+22)) (aZ.w2 x p)) (p+32)) /\
  R.qz (shD false (cC.Jv a (2^(2*aZ.hv x p+22)) (aZ.w2 x p)) (p+32))<=V-R.pz (bI x-p-270) /\
  V-R.pz (bI x-p-61)-R.pz (-p-31)*V<=R.qz (shD false (cC.Jv a (2^(2*aZ.hv x p+22)) (aZ.w2 x p)) (p+32)) /\
  V+R.pz (bI x-p-270)<=R.qz (shD true (cC.Dx a (2^(2*aZ.hv x p+22)) (aZ.w2 x p)) (p+32)) /\
  R.qz (shD true (cC.Dx a (2^(2*aZ.hv x p+22)) (aZ.w2 x p)) (p+32))<=V+R.pz (bI x-p-61)+R.pz (-p-31)*(2*V):=by
 obtain⟨e1,e2,h4,h5,h6,bLJ,bLI⟩:=Gm h0 h1 ht hp;generalize aZ.hv x p=h at *;generalize aZ.w2 x p=w at *;have tp:=R.cY (bI x-1);have V0:0<=V:=by grind
 have fE:((2^(2*h+22):Nat):Rat)=R.pz (2*(h:Nat)+22):=by rw[show 2*(h:Int)+22=((2*h+22:Nat):Int) by omega,R.iF]
 have l1:R.pz (2*(h:Nat)+18)<=R.pz (2*(h:Nat)+22):=R.cN (by omega);have l2:R.pz (2*(h:Nat)+22)+R.pz (2*(h:Nat)+18)<=R.pz w*V:=by
  have b1:R.pz (2*(h:Nat)+23)<=R.pz w*R.pz (bI x-1):=by rw[<-R.iG];exact R.cN (by omega)
  have b2:R.pz (2*(h:Nat)+23)=2*R.pz (2*(h:Nat)+22):=by rw[<-R.jJ];congr 1
  have b3:=R.aM (cCJ (R.cY w)) (show 0<=V-R.pz (bI x-1) by grind);grind
 have r:=aMA (a:=a) (f:=2^(2*h+22)) (w:=w) (q:=p+32) (V:=V) (E:=R.pz (2*(h:Nat)+18)) (by omega) ha (by rw[fE];exact l1) (by rw[fE];exact l2) V0;obtain⟨r0,r1,r2,r3,r4⟩:=r;rw[fE,<-R.iG,<-R.iG]at r1 r2 r3 r4;rw[show(1:Int)-(p+32)=-p-31 by omega]at r2 r4;have d1:R.pz (-w+(2*(h:Nat)+18))=R.pz (-w+(2*(h:Nat)+22))/16:=by
  have:=R.gE (-w+(2*(h:Nat)+22)) (n:=4) (c:=16) (by norm_cast);rw[show -w+(2*(h:Int)+22)-((4:Nat):Int)=-w+(2*(h:Nat)+18) by omega]at this;grind
 have d2:R.pz (bI x-p-270)<=R.pz (-w+(2*(h:Nat)+22))/16:=by rw[<-d1];exact R.cN (by omega)
 have d3:R.pz (-w+(2*(h:Nat)+22))*2<=R.pz (bI x-p-61):=by
  rw[cIU,<-R.jJ];exact R.cN (by omega)
 rw[d1]at r1 r2 r3 r4;have dp:=R.cY (-w+(2*(h:Nat)+22));have ba:bl a<=70000:=by
  have:(a:Rat)<=R.pz (w+1):=by
   rw[R.dJ]at ha;rw[R.jJ];have b3:=R.aM (cCJ (R.cY w)) (show 0<=1-V by grind);have:R.pz (2*(h:Nat)+18)<=R.pz w:=R.cN (by omega);grind
  obtain⟨n,hn⟩:=cCM (show 0<=w+1 by omega);rw[hn,R.iF]at this;have:a<=2^n:=by exact_mod_cast this
  refine bYC (fW this) ?_;rw[Tv];omega
 have bf:bl (2^(2*h+22))<=500:=by rw[Tv];omega
 have bs:bl (a-2^(2*h+22))<=70000:=bYC (fW (cDX _ _)) ba;have bt:bl (a+2^(2*h+22))<=70001:=bYC (qR _ _) (by omega);have j1:jD ((a-2^(2*h+22):Nat):Int) (-w)=true:=mS (by omega) (by rw[cDF];omega);have j2:jD ((a+2^(2*h+22):Nat):Int) (-w)=true:=mS (by omega) (by rw[cDF];omega);have p1:mU (cC.Jv a (2^(2*h+22)) w):=jQ j1 (by rw[cDF];omega);have p2:mU (cC.Dx a (2^(2*h+22)) w):=jQ j2 (by rw[cDF];omega);have aTU:∀{z:Nat},bl z<=70001->mU (bV (z:Int) (-w))->bGV (bV (z:Int) (-w)):=by
  intro z hz hP;refine⟨hP,?_⟩;have hb:=Cr (z:Int) (-w);rw[cDF]at hb
  by_cases z0:(z:Int)=0
  ·rw[z0,iR];show(0:Int)+((bl (0:Int).natAbs:Nat):Int)<=1048000;decide +kernel
  ·have h2:=(xT (e:=-w) z0).2;have h3:=Qg (n:=z) (by omega);rw[cDF]at h2;omega
 obtain⟨s1,s2⟩:=Ql (up:=false) (n:=p+32) (aTU (by omega) p1) (by omega);obtain⟨s3,s4⟩:=Ql (up:=true) (n:=p+32) (aTU bt p2) (by omega);refine⟨⟨by omega,by omega,⟨by omega,by omega⟩,s1,s3,s4⟩,s2,?_,?_,?_,?_⟩ <;> grind
end M
namespace M
open Go AI W
theorem aVQ(up:Bool)(p:Int×Int){n:Int}(hn:bI p+1-n<=0):bI p+1-n<=(shD up p n).2:=by
 have key:∀z e:Int,bI p+1-n<=e->bI p+1-n<=(bV z e).2:=by
  intro z e he
  by_cases hz:z=0
  ·rw[hz,iR];exact hn
  ·have:=wM (e:=e) hz;omega
 unfold shD cZ.pC;unfold bI at *;split
 ·exact key _ _ (by omega)
 ·exact key _ _ (by omega)
theorem aCL{up:Bool}{p:Int×Int}{n:Int}(h:(shD up p n).1≠0):bI p+1-n<=(shD up p n).2:=by
 have key:∀z e:Int,(bV z e).1≠0->bI p+1-n<=e->bI p+1-n<=(bV z e).2:=by
  intro z e h0 he;have:=wM (e:=e) (fun hz=>h0 (sT.2 hz));omega
 unfold shD at *;refine key _ _ h ?_;unfold cZ.pC bI at *;split <;> (dsimp only;omega)
theorem aEX{p q:Int×Int}{E:Int}(h1:E<=p.2)(h2:E<=q.2)(h0:E<=0):E<=(bY.kB p q).2:=by
 have hm:E<=bY.iP p q:=by unfold bY.iP;split <;> omega
 unfold bY.kB;split
 ·exact h2
 ·split
  ·exact h1
  ·by_cases hz:bY.pK p q+bY.pJ p q=0
   ·rw[hz,iR];exact h0
   ·have:=wM (e:=bY.iP p q) hz;omega
theorem aNA{p:Int×Int}{E F:Int}(h1:E<=p.2)(h2:R.ab (R.qz p)<=R.pz F):(bl p.1.natAbs:Int)<=F+1-E\/bl p.1.natAbs=0:=by
 by_cases h0:p.1=0
 ·right;rw[h0];rfl
 ·left;have:=uL h0 h2;unfold bI at this;omega
theorem Ki(k:Int):R.qz (-1,k)=-R.pz k:=by
 unfold R.qz;dsimp only;have:((-1:Int):Rat)=-1:=by norm_cast
 rw[this];grind
theorem Vu{k:Int}(h:-1048576<=k/\k<=1048576):mU (-1,k):=⟨by show bl (-1:Int).natAbs<=524288;decide +kernel,h,fun h=>absurd (show(-1:Int)=0 from h) (by decide),fun _=>by show(-1:Int)%2=1;decide⟩
theorem aBT{x:Int×Int}(h0:x.1≠0)(hT:R.ab (R.qz x)<=4/5):bI x<=-1:=by
 have:R.ab (R.qz x)<R.pz 0:=by rw[R.fA];grind
 have:=Av h0 this;omega
structure bBG(x:Int×Int)(p:Int):Prop where
 pl:mU (gK.uN x p)
 ph:mU (gK.tQ x p)
 bl:bl (gK.uN x p).1.natAbs<=80000
 bh:M.bl (gK.tQ x p).1.natAbs<=80000
 lo:R.qz (gK.uN x p)<=R.sn (R.ab (R.qz x))-R.pz (bI x-p-270)
 hi:R.sn (R.ab (R.qz x))<=R.qz (gK.tQ x p)
 wd:R.qz (gK.tQ x p)-R.qz (gK.uN x p)<=R.pz (-p-1)*R.ab (R.qz x)
 one:R.qz (gK.tQ x p)<=1
 mh:¬2*bI x+8 < -p->R.sn (R.ab (R.qz x))+R.pz (bI x-p-270)<=R.qz (gK.tQ x p)
 pos:0<R.qz (gK.uN x p)
 bHM:2*bI x+8 < -p->wG true ((x.1.natAbs:Int),x.2) (p+32)=true/\wG false ((x.1.natAbs:Int),x.2) (p+32)=true/\mU (shD false ((x.1.natAbs:Int),x.2) (p+32))/\bY.jG (shD false ((x.1.natAbs:Int),x.2) (p+32)) (-1,bI x-p-3)=true
 okB:¬2*bI x+8 < -p->cF.Tu x p/\cF.aNC (aZ.Ds x p).1 (2^(2*aZ.hv x p+22)) (aZ.w2 x p) (p+32)
theorem aTN{p:Int}(hp:1<=p):R.pz (-p-1)<=1/4:=by
 have h:=R.cN (show -p-1<=-2 by omega);have h2:=R.vJ 2;rw[show -((2:Nat):Int)=-2 by rfl]at h2;rw[h2]at h;have h3:R.hf 2=1/4:=by simp[R.hf];grind
 grind
theorem Vo{x:Int×Int}{p:Int}(hx:mU x)(h0:x.1≠0)(hT:R.ab (R.qz x)<=4/5)(ht:-1200<=bI x)(hp:1<=p/\p<=67100):bBG x p:=by
 have h1:=aBT h0 hT;obtain⟨e1,e2,h4,h5,h6,bLJ,bLI⟩:=Gm h0 (by omega) ht hp;obtain⟨t1,t2⟩:=nR h0;have tp:=R.cY (bI x);have T0:0<R.ab (R.qz x):=by grind
 obtain⟨v1,v2⟩:=R.aCH (cCJ T0) hT;obtain⟨z,hz⟩:∃z,z=R.pz (-p-31):=⟨_,rfl⟩;have z0:=R.cY (-p-31);have q1:R.pz (-p-1)=1073741824*z:=by
  have:=R.gE (-p-1) (n:=30) (c:=1073741824) (by norm_cast);rw[show -p-1-((30:Nat):Int)=-p-31 by omega,<-hz]at this;grind
 have q2:R.pz (bI x-p-61)=z*R.pz (bI x)/1073741824:=by
  have:=R.gE (-p-31+bI x) (n:=30) (c:=1073741824) (by norm_cast);rw[show -p-31+bI x-((30:Nat):Int)=bI x-p-61 by omega,R.iG,<-hz]at this;grind
 have q3:R.pz (bI x-p-3)=268435456*(z*R.pz (bI x)):=by
  have:=R.gE (bI x-p-3) (n:=28) (c:=268435456) (by norm_cast);rw[show bI x-p-3-((28:Nat):Int)=-p-31+bI x by omega,R.iG,<-hz]at this;grind
 have sm:=aTN hp.1;rw[q1]at sm;rw[<-hz]at z0;have zt:=R.aM (cCJ z0) (show 0<=R.ab (R.qz x)-R.pz (bI x) by grind);have zT:=R.aM (cCJ T0) (show 0<=1/4-1073741824*z by grind);have aQR:R.pz (bI x-p-270)<=R.pz (bI x-p-61):=R.cN (by omega);have p270:=R.cY (bI x-p-270)
 by_cases c:2*bI x+8 < -p
 ·have dL:gK.uN x p=bY.kB (shD false ((x.1.natAbs:Int),x.2) (p+32)) (-1,bI x-p-3):=by unfold gK.uN;rw[e1,if_pos c]
  have dH:gK.tQ x p=shD true ((x.1.natAbs:Int),x.2) (p+32):=by unfold gK.tQ;rw[e1,if_pos c]
  have pX:=yZ hx;have vX:=Eh x;have tX:=aPM x;have n1:=(Hi false ((x.1.natAbs:Int),x.2) (n:=p+32) (by omega)).1 rfl;have n2:=(Hi true ((x.1.natAbs:Int),x.2) (n:=p+32) (by omega)).2 rfl;rw[vX,show(1:Int)-(p+32)=-p-31 by omega,<-hz,R.bW (cCJ T0)]at n1 n2;have aTU:bGV ((x.1.natAbs:Int),x.2):=⟨pX,by unfold bI at tX h1;dsimp only at *;omega⟩;obtain⟨s1,s2⟩:=Ql (up:=false) (n:=p+32) aTU (by omega);obtain⟨s3,s4⟩:=Ql (up:=true) (n:=p+32) aTU (by omega);have x1:=aVQ false ((x.1.natAbs:Int),x.2) (n:=p+32) (by rw[tX];omega);have x2:=xQ true ((x.1.natAbs:Int),x.2) (p+32).toNat;rw[tX]at x1;rw[show(((p+32).toNat:Nat):Int)=p+32 by omega]at x2;have pm:=Vu (k:=bI x-p-3) (by omega);have T1:R.ab (R.qz x)<=R.pz (bI x+1):=cCJ t2;have L0:0<=R.qz (shD false ((x.1.natAbs:Int),x.2) (p+32)):=by grind
  have bFB:bY.jG (shD false ((x.1.natAbs:Int),x.2) (p+32)) (-1,bI x-p-3)=true:=by
   refine Ty (E:=bI x-p-40) (n:=(p+41).toNat) s2 pm (by omega) (by dsimp only;omega) ?_ ?_ (by omega) (by omega) (by omega)
   ·rw[show bI x-p-40+(((p+41).toNat:Nat):Int)=bI x+1 by omega,R.bW L0];grind
   ·rw[Ki,R.iB,R.bW (cCJ (R.cY _))];exact R.cN (by omega)
  have pl:=Co s2 pm bFB;have xl:=aEX (p:=shD false ((x.1.natAbs:Int),x.2) (p+32)) (q:=(-1,bI x-p-3)) (E:=bI x-p-40) (by omega) (by dsimp only;omega) (by omega);have ql:=Eg (shD false ((x.1.natAbs:Int),x.2) (p+32)) (-1,bI x-p-3);rw[Ki,q3]at ql;rw[<-dL]at pl xl ql;rw[<-dH]at s4 x2 n2;have cube:R.ab (R.qz x)-z*R.pz (bI x)*268435456/16<=R.sn (R.ab (R.qz x)):=by
   have s:=(R.Fq (cCJ T0) (show R.ab (R.qz x)<=1 by grind)).1;have a1:R.ab (R.qz x)*R.ab (R.qz x)<=R.pz (bI x+1)*R.pz (bI x+1):=R.dW (cCJ T0) T1 (cCJ T0) T1;rw[<-R.iG]at a1;have a2:R.pz (bI x+1+(bI x+1))<=R.pz (-p-7):=R.cN (by omega);have a3:R.pz (-p-7)=16777216*z:=by
    have:=R.gE (-p-7) (n:=24) (c:=16777216) (by norm_cast);rw[show -p-7-((24:Nat):Int)=-p-31 by omega,<-hz]at this;grind
   have a4:=R.aM (show 0<=16777216*z-R.ab (R.qz x)*R.ab (R.qz x) by grind) (cCJ T0);rw[R.jJ]at T1;have a5:=R.aM (cCJ z0) (show 0<=2*R.pz (bI x)-R.ab (R.qz x) by grind);generalize R.ab (R.qz x)=T at *;grind
  have bPU:=cCX z0 tp;refine⟨pl,s4,?_,by omega,?_,?_,?_,?_,fun h=>absurd c h,?_,fun _=>⟨s3,s1,s2,bFB⟩,fun h=>absurd c h⟩
  ·have v:R.ab (R.qz (gK.uN x p))<=R.pz (bI x+1):=by
    rw[R.bW (by grind)];grind
   have:=aNA xl v;omega
  ·rw[q2]at aQR;grind
  ·grind
  ·rw[q1];grind
  ·grind
  ·grind
 ·have dL:gK.uN x p=shD false (cC.Jv (aZ.Ds x p).1 (2^(2*aZ.hv x p+22)) (aZ.w2 x p)) (p+32):=by unfold gK.uN;rw[e1,if_neg c]
  have dH:gK.tQ x p=cC.zP (shD true (cC.Dx (aZ.Ds x p).1 (2^(2*aZ.hv x p+22)) (aZ.w2 x p)) (p+32)):=by unfold gK.tQ;rw[e1,if_neg c]
  obtain⟨b1,b2,b3⟩:=Xu h0 (by grind) (by omega) ht hp;have hV:R.pz (bI x-1)<=R.sn (R.ab (R.qz x)):=by
   have:=R.pW (bI x);grind
  obtain⟨a1,a2,a3,a4,a5,a6⟩:=bFA h0 (by omega) ht hp hV (by grind) b2;have a7:=a1.2.2.2.2.2;have c1:=xQ false (cC.Jv (aZ.Ds x p).1 (2^(2*aZ.hv x p+22)) (aZ.w2 x p)) (p+32).toNat;have c2:=xQ true (cC.Dx (aZ.Ds x p).1 (2^(2*aZ.hv x p+22)) (aZ.w2 x p)) (p+32).toNat;rw[show(((p+32).toNat:Nat):Int)=p+32 by omega]at c1 c2;obtain⟨k1,k2,k3,k4⟩:=aER (shD true (cC.Dx (aZ.Ds x p).1 (2^(2*aZ.hv x p+22)) (aZ.w2 x p)) (p+32));have c3:=aMY (n:=80000) (by omega) (show bl (shD true (cC.Dx (aZ.Ds x p).1 (2^(2*aZ.hv x p+22)) (aZ.w2 x p)) (p+32)).1.natAbs<=80000 by omega);have c4:=aCZ a7;rw[<-dL]at a2 a3 a4 c1;rw[<-dH]at k1 k2 k3 k4 c3 c4;generalize shD true (cC.Dx (aZ.Ds x p).1 (2^(2*aZ.hv x p+22)) (aZ.w2 x p)) (p+32)=hi at *;rw[<-hz]at a4 a6;have zV:=R.aM (cCJ z0) (show 0<=R.ab (R.qz x)-R.sn (R.ab (R.qz x)) by grind);have hm:R.sn (R.ab (R.qz x))+R.pz (bI x-p-270)<=R.qz (gK.tQ x p):=by
   refine k4 _ a5 ?_;rw[q2]at aQR;grind
  refine⟨a2,c4,by omega,c3,a3,by grind,?_,k1,fun _=>hm,?_,fun h=>absurd h c,fun _=>⟨⟨⟨by omega,by omega⟩,b1⟩,a1⟩⟩
  ·rw[q1];rw[q2]at a4 a6;grind
  ·rw[q2]at a4;grind
structure bHA(x:Int×Int)(p:Int):Prop where
 pl:mU (cF.uX x p)
 ph:mU (cF.uA x p)
 bl:bl (cF.uX x p).1.natAbs<=80000
 bh:M.bl (cF.uA x p).1.natAbs<=80000
 lo:R.qz (cF.uX x p)<=R.cs (R.ab (R.qz x))
 hi:R.cs (R.ab (R.qz x))<=R.qz (cF.uA x p)
 wd:R.qz (cF.uA x p)-R.qz (cF.uX x p)<=R.pz (-p-1)
 one:R.qz (cF.uA x p)<=1
 ml:x.1≠0->R.qz (cF.uX x p)<=R.cs (R.ab (R.qz x))-R.pz (bI x-p-270)
 mh:x.1≠0->¬2*bI x+8 < -p->R.cs (R.ab (R.qz x))+R.pz (bI x-p-270)<=R.qz (cF.uA x p)
 bHM:x.1≠0->2*bI x+8 < -p->bY.jG (1,0) (-1,-p-3)=true
 okB:x.1≠0->¬2*bI x+8 < -p->cF.Tu x p/\cF.aNC (aZ.Ds x p).2 (2^(2*aZ.hv x p+22)) (aZ.w2 x p) (p+32)
theorem Ns{x:Int×Int}{p:Int}(hT:R.ab (R.qz x)<=4/5)(ht:x.1≠0->-1200<=bI x)(hp:1<=p/\p<=67100):bHA x p:=by
 obtain⟨z,hz⟩:∃z,z=R.pz (-p-31):=⟨_,rfl⟩;have z0:=R.cY (-p-31);have q1:R.pz (-p-1)=1073741824*z:=by
  have:=R.gE (-p-1) (n:=30) (c:=1073741824) (by norm_cast);rw[show -p-1-((30:Nat):Int)=-p-31 by omega,<-hz]at this;grind
 have sm:=aTN hp.1;rw[q1]at sm;rw[<-hz]at z0
 by_cases h0:x.1=0
 ·have dL:cF.uX x p=(1,0):=by unfold cF.uX;rw[if_pos h0]
  have dH:cF.uA x p=(1,0):=by unfold cF.uA;rw[if_pos h0]
  have c1:R.cs (R.ab (R.qz x))=1:=by rw[R.qH h0,R.bW (cDM),R.aEL]
  refine⟨by rw[dL];exact Cn,by rw[dH];exact Cn,by rw[dL];decide +kernel,by rw[dH];decide +kernel,by rw[dL,nT,c1];exact cDM,by rw[dH,nT,c1];exact cDM,?_,by rw[dH,nT];exact cDM,fun h=>absurd h0 h,fun h=>absurd h0 h,fun h=>absurd h0 h,fun h=>absurd h0 h⟩;rw[dL,dH,q1];grind
 ·have ht:=ht h0;have h1:=aBT h0 hT;obtain⟨e1,e2,h4,h5,h6,bLJ,bLI⟩:=Gm h0 (by omega) ht hp;obtain⟨t1,t2⟩:=nR h0;have tp:=R.cY (bI x);have T0:0<R.ab (R.qz x):=by grind
  obtain⟨v1,v2⟩:=R.Xn (r:=R.ab (R.qz x)) (by rw[R.bW (cCJ T0)];exact hT);have T1:R.ab (R.qz x)<=R.pz (bI x+1):=cCJ t2;have pt:R.pz (bI x)<=1/2:=by
   have:=R.cN (show bI x+1<=0 by omega);rw[R.jJ,R.fA]at this;grind
  have q2:R.pz (bI x-p-61)=z*R.pz (bI x)/1073741824:=by
   have:=R.gE (-p-31+bI x) (n:=30) (c:=1073741824) (by norm_cast);rw[show -p-31+bI x-((30:Nat):Int)=bI x-p-61 by omega,R.iG,<-hz]at this;grind
  have zt:=R.aM (cCJ z0) (show 0<=1/2-R.pz (bI x) by grind);have bPU:=cCX z0 tp;have aQR:R.pz (bI x-p-270)<=R.pz (bI x-p-61):=R.cN (by omega);rw[q2]at aQR;have cs2:=R.Np (cCJ T0) (show R.ab (R.qz x)<=1 by grind)
  by_cases c:2*bI x+8 < -p
  ·have dL:cF.uX x p=bY.kB (1,0) (-1,-p-3):=by unfold cF.uX;rw[e1,if_neg h0,if_pos c]
   have dH:cF.uA x p=(1,0):=by unfold cF.uA;rw[e1,if_neg h0,if_pos c]
   have pm:=Vu (k:=-p-3) (by omega);have o1:R.ab (R.qz (1,0))<=R.pz 0:=by rw[nT,R.fA,R.bW (by grind)];exact cDM
   have bFB:bY.jG (1,0) (-1,-p-3)=true:=by
    refine Ty (E:=-p-3) (n:=(p+3).toNat) Cn pm (by dsimp only;omega) (by dsimp only;omega) ?_ ?_ (by omega) (by omega) (by omega)
    ·rw[show -p-3+(((p+3).toNat:Nat):Int)=0 by omega];exact o1
    ·rw[Ki,R.iB,R.bW (cCJ (R.cY _))];exact R.cN (by omega)
   have pl:=Co Cn pm bFB;have xl:=aEX (p:=(1,0)) (q:=(-1,-p-3)) (E:=-p-3) (by dsimp only;omega) (by dsimp only;omega) (by omega);have ql:=Eg (1,0) (-1,-p-3);have q3:R.pz (-p-3)=268435456*z:=by
    have:=R.gE (-p-3) (n:=28) (c:=268435456) (by norm_cast);rw[show -p-3-((28:Nat):Int)=-p-31 by omega,<-hz]at this;grind
   rw[Ki,nT,q3]at ql;rw[<-dL]at pl xl ql;have lo:R.qz (cF.uX x p)<=R.cs (R.ab (R.qz x))-R.pz (bI x-p-270):=by
    have a1:R.ab (R.qz x)*R.ab (R.qz x)<=R.pz (bI x+1)*R.pz (bI x+1):=R.dW (cCJ T0) T1 (cCJ T0) T1;rw[<-R.iG]at a1;have a2:R.pz (bI x+1+(bI x+1))<=R.pz (-p-7):=R.cN (by omega);have a3:R.pz (-p-7)=16777216*z:=by
     have:=R.gE (-p-7) (n:=24) (c:=16777216) (by norm_cast);rw[show -p-7-((24:Nat):Int)=-p-31 by omega,<-hz]at this;grind
    grind
   refine⟨pl,by rw[dH];exact Cn,?_,by rw[dH];decide +kernel,?_,by rw[dH,nT];exact v2,?_,by rw[dH,nT];exact cDM,fun _=>lo,fun _ h=>absurd c h,fun _ _=>bFB,fun _ h=>absurd c h⟩
   ·have v:R.ab (R.qz (cF.uX x p))<=R.pz 0:=by
     rw[R.fA,R.bW (by grind)];grind
    have:=aNA xl v;omega
   ·have:=R.cY (bI x-p-270);grind
   ·rw[dH,nT,q1];grind
  ·have dL:cF.uX x p=shD false (cC.Jv (aZ.Ds x p).2 (2^(2*aZ.hv x p+22)) (aZ.w2 x p)) (p+32):=by unfold cF.uX;rw[e1,if_neg h0,if_neg c]
   have dH:cF.uA x p=cC.zP (shD true (cC.Dx (aZ.Ds x p).2 (2^(2*aZ.hv x p+22)) (aZ.w2 x p)) (p+32)):=by unfold cF.uA;rw[e1,if_neg h0,if_neg c]
   obtain⟨b1,b2,b3⟩:=Xu h0 (by grind) (by omega) ht hp;have hV:R.pz (bI x-1)<=R.cs (R.ab (R.qz x)):=by
    have:=R.pW (bI x);grind
   obtain⟨a1,a2,a3,a4,a5,a6⟩:=bFA h0 (by omega) ht hp hV v2 b3;have a7:=a1.2.2.2.2.2;have c1:=xQ false (cC.Jv (aZ.Ds x p).2 (2^(2*aZ.hv x p+22)) (aZ.w2 x p)) (p+32).toNat;have c2:=xQ true (cC.Dx (aZ.Ds x p).2 (2^(2*aZ.hv x p+22)) (aZ.w2 x p)) (p+32).toNat;rw[show(((p+32).toNat:Nat):Int)=p+32 by omega]at c1 c2;obtain⟨k1,k2,k3,k4⟩:=aER (shD true (cC.Dx (aZ.Ds x p).2 (2^(2*aZ.hv x p+22)) (aZ.w2 x p)) (p+32));have c3:=aMY (n:=80000) (by omega) (show bl (shD true (cC.Dx (aZ.Ds x p).2 (2^(2*aZ.hv x p+22)) (aZ.w2 x p)) (p+32)).1.natAbs<=80000 by omega);have c4:=aCZ a7;rw[<-dL]at a2 a3 a4 c1;rw[<-dH]at k1 k2 k3 k4 c3 c4;generalize shD true (cC.Dx (aZ.Ds x p).2 (2^(2*aZ.hv x p+22)) (aZ.w2 x p)) (p+32)=hi at *;rw[<-hz]at a4 a6;have zV:=R.aM (cCJ z0) (show 0<=1-R.cs (R.ab (R.qz x)) by grind);have m9:=R.cY (bI x-p-270);have room:R.cs (R.ab (R.qz x))+R.pz (bI x-p-270)<=1:=by
    have a1:R.pz (bI x)*R.pz (bI x)<=R.ab (R.qz x)*R.ab (R.qz x):=R.dW (cCJ tp) t1 (cCJ tp) t1;rw[<-R.iG]at a1;have a2:R.pz (-p-9)<=R.pz (bI x+bI x):=R.cN (by omega);have a3:R.pz (-p-9)=4194304*z:=by
     have:=R.gE (-p-9) (n:=22) (c:=4194304) (by norm_cast);rw[show -p-9-((22:Nat):Int)=-p-31 by omega,<-hz]at this;grind
    have a5:=R.dW (cCJ T0) hT (cCJ T0) hT;have a6:=R.aM (show 0<=R.ab (R.qz x)*R.ab (R.qz x) by grind) (show 0<=16/25-R.ab (R.qz x)*R.ab (R.qz x) by grind);generalize R.ab (R.qz x)=T at *;grind
   have hm:R.cs (R.ab (R.qz x))+R.pz (bI x-p-270)<=R.qz (cF.uA x p):=k4 _ a5 room;rw[q2]at a4 a6;refine⟨a2,c4,by omega,c3,by grind,by grind,?_,k1,fun _=>a3,fun _ _=>hm,fun _ h=>absurd h c,fun _ _=>⟨⟨⟨by omega,by omega⟩,b1⟩,a1⟩⟩;rw[q1];grind
end M
namespace W
open Go AI M
namespace iM
def E:=mE [(102,gX.aJ),(146,yO.aJ)] 33 [15] [] []
def aF:=bd f188
theorem aU:Nk E aF:=nk
theorem start a b:aG E f188 aF [D.s (sc (int i64 a)),D.s (sc (int u64 b))]=letI F:=bif gX.lO a b then(0:Int)else(2:Int);letI B:=cE.sG a;letI I:=int i64 B.snd.fst;letI H:=int u64 B.snd.snd.snd;letI G:=int i64 B.snd.snd.fst;letI C:=(B.fst,B.snd.fst,B.snd.snd.fst,B.snd.snd.snd);letI A:=some [D.agg [sc (int i64 B.fst),sc I,sc G,sc H],D.s (sc (bool (gX.lO a b&&decide (jH.kF B<=b)))),D.s (sc (int u64 (bif gX.lO a b then b%jH.kF B else(0:Int)))),D.s (sc (int i64 F))];aO ((a=32\/a=64)/\0<=b/\b<18446744073709551616) (aD (F==0) (aO (cE.Two C) (aD (decide (yO.Di C<=bif gX.lO a b then b%jH.kF B else(0:Int))) (some [D.agg [sc (int i64 B.fst),sc I,sc G,sc H],D.s (sc (bool false)),D.s (sc (int u64 0)),D.s (sc (int i64 6))]) A)) A):=eJ aU
def tZ(f b:Int):Bool:=decide (b%jH.kF (cE.sG f)<yO.Di (cE.sG f))
theorem aBS{f:Int}(h:f=32\/f=64):cE.Two (cE.sG f):=by
 rcases h with rfl |rfl
 ·exact .inl rfl
 ·exact .inr rfl
def sp(f b:Int):Prop×List D:=((f=32\/f=64)/\0<=b/\b<18446744073709551616,[cE.bHF (cE.sG f),.s (.sc (.bool (gX.lO f b&&(tZ f b&&decide (jH.kF (cE.sG f)<=b))))),.s (.sc (.int .u64 (bif gX.lO f b&&tZ f b then b%jH.kF (cE.sG f)else 0))),.s (.sc (.int .i64 (bif gX.lO f b then(bif tZ f b then 0 else 6)else 2)))])
theorem spec:eR E f188 aF (pN .i64) (pN .u64) sp:=by
 intro f b h;refine(start f b).trans ((gP h).trans ?_);unfold sp tZ
 try dsimp only
 have ht:=aBS h.1;generalize cE.sG f=s at *;obtain⟨s1,s2,s3,s4⟩:=s;cases hp:gX.lO f b with
 |false=>rfl
 |true =>
  try dsimp only[cond_true,cAJ]
  rw[cL rfl,gP ht]
  by_cases hc:b%jH.kF (s1,s2,s3,s4)<yO.Di (s1,s2,s3,s4)
  ·rw[aN,decide_eq_true hc];rfl
  ·rw[aR,decide_eq_false hc];rfl
def aJ:dG:=orc2 (pN .i64) (pN .u64) sp
theorem ok:OK 188 aJ:=(dZ E aF (aA gX.ok (aA yO.ok aE)) func188).jR rfl spec
end iM
namespace kO
def E:=mE [(145,gI.aJ)] 31 [] [] []
def aF:=bd f189
theorem aU:Nk E aF:=nk
theorem start a c d e b:aG E f189 aF [D.agg [sc (int i64 a),sc (int i64 c),sc (int i64 d),sc (int u64 e)],D.s (sc (int u64 b))]=letI B:=(a,c,d,e);letI C:=cE.Two B;letI A:=gI.tD B;aO C (if gI.tD B=0 then none else aO C (if gI.tD B=0 then none else aD (u64.wrap (b.tdiv A)==0) (some [D.s (sc (int u64 (b.tmod A))),D.s (sc (int i64 d))]) (aO C (some [D.s (sc (int u64 (u64.wrap (gI.tD B+b.tmod A)))),D.s (sc (int i64 (i64.wrap (i64.wrap (d+i64.wrap (u64.wrap (b.tdiv A)))-1))))])))):=eJ aU
def Gc(s:Int×Int×Int×Int)(n:Int):Int:=if n/gI.tD s=0 then n%gI.tD s else gI.tD s+n%gI.tD s
def Ju(s:Int×Int×Int×Int)(n:Int):Int:=if n/gI.tD s=0 then s.2.2.1 else s.2.2.1+n/gI.tD s-1
def sp(s:Int×Int×Int×Int)(n:Int):Prop×List D:=(cE.Two s/\0<=n/\n<9223372036854775808,[.s (.sc (.int .u64 (Gc s n))),.s (.sc (.int .i64 (Ju s n)))])
theorem spec:eR E f189 aF (pG (.pair (sN .i64) (.pair (sN .i64) (.pair (sN .i64) (sN .u64))))) (pN .u64) sp:=by
 rintro s n ⟨ht,h0,h1⟩;obtain⟨s1,s2,s3,s4⟩:=s;refine(start s1 s2 s3 s4 n).trans ?_;have hh:gI.tD (s1,s2,s3,s4)=8388608\/gI.tD (s1,s2,s3,s4)=4503599627370496:=by
  unfold gI.tD;split <;> simp
 have hs:-1074<=s3/\s3<=0:=by rcases ht with ht |ht <;> (cases ht;omega)
 unfold sp Gc Ju
 try dsimp only
 rw[gP ht,gP ht,gP ht];generalize gI.tD (s1,s2,s3,s4)=d at *;have t1:n.tdiv d=n/d:=cEF h0;have t2:n.tmod d=n%d:=cEG h0;have b1:0<=n/d/\n/d<9223372036854775808:=by rcases hh with rfl |rfl <;> omega
 have b2:0<=n%d/\n%d<4503599627370496:=by rcases hh with rfl |rfl <;> omega
 rw[t1,t2,bG,bG,wrap_u64 (n:=n/d)]
 by_cases hz:n/d=0
 ·rw[cL hz,if_pos hz,if_pos hz]
 ·rw[cO hz,if_neg hz,if_neg hz,wrap_u64,wrap_i64 (n:=n/d),wrap_i64 (n:=s3+n/d),wrap_i64]
def aJ:dG:=orc2 (pG (.pair (sN .i64) (.pair (sN .i64) (.pair (sN .i64) (sN .u64))))) (pN .u64) sp
theorem ok:OK 189 aJ:=(dZ E aF (aA gI.ok aE) func189).jR rfl spec
end kO
namespace Ut
def E:=mE [(108,rZ.aJ),(67,mD.aJ)] 20 [17] [] []
def aF:=bd f190
theorem aU:Nk E aF:=nk
theorem start a b c:aG E f190 aF [D.s (sc (bool a)),D.s (sc (int u64 b)),D.s (sc (int i64 c))]=letI G:=(b !=0,M6.dg b.toNat);letI F:=wv (bif true then b !=0 else false,M6.dg b.toNat);letI C:=(false,M6.dg b.toNat);letI B:=bif jD (wv C) c then bV (wv C) c else((0:Int),(0:Int));letI A:=bif jD F c then bV F c else((0:Int),(0:Int));aD a (aO (0<=b/\b<18446744073709551616) (aO (iY G/\(-9223372036854775808:Int)<=c/\c<9223372036854775808) (some [D.agg [sc (bool (isNeg A.fst)),ints u64 (M6.dg A.fst.natAbs),sc (int i64 A.snd)],D.s (sc (int i64 (bif jD (wv G) c then(0:Int)else(5:Int))))]))) (aO (0<=b/\b<18446744073709551616) (aO (iY C/\(-9223372036854775808:Int)<=c/\c<9223372036854775808) (some [D.agg [sc (bool (isNeg B.fst)),ints u64 (M6.dg B.fst.natAbs),sc (int i64 B.snd)],D.s (sc (int i64 (bif jD (wv C) c then(0:Int)else(5:Int))))]))):=eJ aU
def sp(a:Bool)(b c:Int):Prop×List D:=((0<=b/\b<18446744073709551616)/\-9223372036854775808<=c/\c<9223372036854775808,dE (jD (zs a b.toNat) c) (bV (zs a b.toNat) c))
theorem spec:sR E f190 aF pB (pN .u64) (pN .i64) sp:=by
 rintro a b c ⟨hb,hc⟩;refine(start a b c).trans ?_;have hl:=gD (n:=b.toNat) (k:=1) (dX.2 (by omega));have aTA:∀s:Bool,wv (s,M6.dg b.toNat)=zs s b.toNat:=fun s=>by show zs s (M6.val (M6.dg b.toNat))=_;rw[M6.bD]
 have h0:iY (false,M6.dg b.toNat):=⟨M6.bA _,fun h=>Bool.noConfusion h,(by omega:(M6.dg b.toNat).length<=8192)⟩;cases a with
 |false =>
  rw[bF,gP hb,gP ⟨h0,hc⟩,aTA];rfl
 |true =>
  have h1:iY (b !=0,M6.dg b.toNat):=⟨M6.bA _,fun h=>by
   have hb0:b≠0:=bne_iff_ne.1 h;show M6.val (M6.dg b.toNat)≠0;rw[M6.bD];omega,by show(M6.dg b.toNat).length<=8192;omega⟩
  have e:zs (b !=0) b.toNat=zs true b.toNat:=by
   by_cases hb0:b=0
   ·subst hb0;rfl
   ·rw[bne_iff_ne.2 hb0]
  rw[bT]
  try dsimp only[cond_true]
  rw[gP hb,gP ⟨h1,hc⟩,aTA,e];rfl
def aJ:dG:=orc3 pB (pN .u64) (pN .i64) sp
theorem ok:OK 190 aJ:=(dZ E aF (aA rZ.ok (aA mD.ok aE)) func190).Cq rfl spec
end Ut
namespace gO
def E:=mE [(188,iM.aJ),(189,kO.aJ),(190,Ut.aJ)] 36 [15,33] [] []
def aF:=bd f150
theorem aU:Nk E aF:=nk
theorem start a b:aG E f150 aF [D.s (sc (int i64 a)),D.s (sc (int u64 b))]=letI H:=bif gX.lO a b then bif iM.tZ a b then(0:Int)else(6:Int)else(2:Int);letI C:=cE.sG a;letI F:=(C.fst,C.snd.fst,C.snd.snd.fst,C.snd.snd.snd);letI B:=bif gX.lO a b&&iM.tZ a b then b%jH.kF C else(0:Int);letI I:=kO.Ju F B;letI G:=zs (gX.lO a b&&(iM.tZ a b&&decide (jH.kF C<=b))) (kO.Gc F B).toNat;letI A:=bif jD G I then bV G I else((0:Int),(0:Int));aO ((a=32\/a=64)/\0<=b/\b<18446744073709551616) (aD (H !=0) (some [D.agg [sc (bool false),sc (slice none 0 0),sc (int i64 0)],D.s (sc (int i64 H))]) (aO (cE.Two F/\(0<=bif gX.lO a b&&iM.tZ a b then b%jH.kF C else(0:Int))/\B<9223372036854775808) (aO ((0<=kO.Gc F B/\kO.Gc F B<18446744073709551616)/\(-9223372036854775808:Int)<=kO.Ju F B/\kO.Ju F B<9223372036854775808) (some [D.agg [sc (bool (isNeg A.fst)),ints u64 (M6.dg A.fst.natAbs),sc (int i64 A.snd)],D.s (sc (int i64 (bif jD G I then(0:Int)else(5:Int))))])))):=eJ aU
def wH(f b:Int):Int:=zs (decide (jH.kF (cE.sG f)<=b)) (kO.Gc (cE.sG f) (b%jH.kF (cE.sG f))).toNat
def wZ(f b:Int):Int:=kO.Ju (cE.sG f) (b%jH.kF (cE.sG f))
def sp(f b:Int):Prop×List D:=((f=32\/f=64)/\0<=b/\b<18446744073709551616,[dD (bif gX.lO f b&&iM.tZ f b then bV (wH f b) (wZ f b)else(0,0)),.s (.sc (.int .i64 (bif gX.lO f b then(bif iM.tZ f b then 0 else 6)else 2)))])
theorem aWG{s:Int×Int×Int×Int}{n:Int}(_:cE.Two s)(_:0<=n):0<=kO.Gc s n/\kO.Gc s n<9007199254740992:=by
 unfold kO.Gc gI.tD;split <;> split <;> omega
theorem aYN{s:Int×Int×Int×Int}{n:Int}(ht:cE.Two s)(h0:0<=n)(h1:n<yO.Di s):-1074<=kO.Ju s n/\kO.Ju s n<1024:=by
 rcases ht with rfl |rfl
 ·unfold kO.Ju;have:n<2139095040:=h1;rw[show gI.tD (32,24,-149,2143289345)=8388608 from rfl]
  try dsimp only
  split <;> omega
 ·unfold kO.Ju;have:n<9218868437227405312:=h1;rw[show gI.tD (64,53,-1074,9221120237041090561)=4503599627370496 from rfl]
  try dsimp only
  split <;> omega
theorem aWK{z e:Int}(hz:z.natAbs<9007199254740992)(h0:-1074<=e)(h1:e<1024):jD z e=true:=by
 unfold jD
 by_cases hc:z=0
 ·rw[decide_eq_true hc,cDL]
 ·have h2:=Qg (n:=z.natAbs) (by omega);have h3:bl z.natAbs<=53:=dX.2 (by omega);rw[decide_eq_true (show -1048576<=e+(tz z.natAbs:Int) by omega),decide_eq_true (show e+(tz z.natAbs:Int)<=1048576 by omega),cAJ,Bool.or_true]
theorem spec:Ok E f150 aF (pN .i64) (pN .u64) sp:=by
 intro f b h;have e:=(start f b).trans (gP h);have ht:=iM.aBS h.1;have hb0:0<=b:=h.2.1;unfold sp
 try dsimp only
 cases hp:gX.lO f b with
 |false =>
  rw[hp]at e;refine⟨_,e,.cons ?_ (iV.refl _)⟩;unfold dD;rw[cCU,cond_false,show((0,0):Int×Int).1.natAbs=0 from rfl,M6.cG];exact De.agg (.cons (Ew.refl _) (.cons (Ew.nil _) (Ae.refl _)))
 |true =>
  rw[hp]at e;cases hq:iM.tZ f b with
  |false =>
   rw[hq]at e;refine⟨_,e,.cons ?_ (iV.refl _)⟩;unfold dD;rw[cDB,cond_false,show((0,0):Int×Int).1.natAbs=0 from rfl,M6.cG];exact De.agg (.cons (Ew.refl _) (.cons (Ew.nil _) (Ae.refl _)))
  |true =>
   rw[hq]at e;have aHQ:0<=b%jH.kF (cE.sG f):=by
    unfold jH.kF;split <;> omega
   have wK:b%jH.kF (cE.sG f)<yO.Di (cE.sG f):=of_decide_eq_true hq;have hinf:yO.Di (cE.sG f)<=9218868437227405312:=by unfold yO.Di;split <;> omega
   have hm:=aWG ht aHQ;have hx:=aYN ht aHQ wK;rw[show(true&&true)=true from rfl]at e
   try dsimp only[cond_true]at e
   rw[show((cE.sG f).1,(cE.sG f).2.1,(cE.sG f).2.2.1,(cE.sG f).2.2.2)=cE.sG f from rfl]at e;rw[gG rfl,gP ⟨ht,aHQ,by omega⟩,gP ⟨⟨hm.1,by omega⟩,by omega,by omega⟩]at e;refine⟨_,e,?_⟩;have hi:jD (wH f b) (wZ f b)=true:=aWK (by unfold wH;rw[nA];omega) hx.1 hx.2;unfold wH wZ at hi;unfold wH wZ;rw[show(true&&(true&&decide (jH.kF (cE.sG f)<=b)))=decide (jH.kF (cE.sG f)<=b)from rfl,hi];exact iV.refl _
def aJ:dG:=orc2 (pN .i64) (pN .u64) sp
theorem ok:OK 150 aJ:=(dZ E aF (aA iM.ok (aA kO.ok (aA Ut.ok aE))) func150).aHY rfl spec
end gO
namespace Ur
def E:=mE [(150,gO.aJ)] 8 [5] [] []
def aF:=bd f109
theorem aU:Nk E aF:=nk
theorem start a:aG E f109 aF [D.s (sc (int u64 a))]=letI A:=bif gX.lO 64 a&&iM.tZ 64 a then bV (gO.wH 64 a) (gO.wZ 64 a)else((0:Int),(0:Int));aO (((64:Int)=(32:Int)\/(64:Int)=(64:Int))/\0<=a/\a<18446744073709551616) (some [D.agg [sc (bool (isNeg A.fst)),ints u64 (M6.dg A.fst.natAbs),sc (int i64 A.snd)],D.s (sc (int i64 (bif gX.lO 64 a then bif iM.tZ 64 a then(0:Int)else(6:Int)else(2:Int))))]):=eJ aU
def sp(b:Int):Prop×List D:=(0<=b/\b<18446744073709551616,[dD (bif gX.lO 64 b&&iM.tZ 64 b then bV (gO.wH 64 b) (gO.wZ 64 b)else(0,0)),.s (.sc (.int .i64 (bif gX.lO 64 b then(bif iM.tZ 64 b then 0 else 6)else 2)))])
theorem spec:iD E f109 aF (pN .u64) sp:=fun b h=>(start b).trans (gP ⟨Or.inr rfl,h.1,h.2⟩)
def aJ:dG:=orc1 (pN .u64) sp
theorem ok:OK 109 aJ:=(dZ E aF (aA gO.ok aE) func109).oS rfl spec
end Ur
namespace Fe
def E:=mE [(68,aSR.aJ)] 5 [] [] []
def aF:=bd f113
theorem aU:Nk E aF:=nk
theorem start a:aG E f113 aF [D.s (sc (int i64 a))]=aO ((-9223372036854775808:Int)<=a/\a<9223372036854775808) (some [D.agg [sc (bool (isNeg a)),ints u64 (M6.dg a.natAbs)]]):=eJ aU
def sp(a:Int):Prop×List D:=(-9223372036854775808<=a/\a<9223372036854775808,[wD a])
theorem spec:iD E f113 aF (pN .i64) sp:=fun a h=>(start a).trans (gP h)
def aJ:dG:=orc1 (pN .i64) sp
theorem ok:OK 113 aJ:=(dZ E aF (aA aSR.ok aE) func113).oS rfl spec
end Fe
namespace uD
def E:=mE [(113,Fe.aJ),(67,mD.aJ),(86,Jx.aJ)] 22 [] [] []
def aF:=bd f110
theorem aU:Nk E aF:=nk
theorem start a b c:aG E f110 aF [D.agg [sc (bool a),ints u64 b,sc (int i64 c)]]=letI F:=(false,b,c);letI C:=wv (isNeg 3,M6.dg (cHV 3));letI A:=bif jD C (-2:Int)then bV C (-2:Int)else((0:Int),(0:Int));letI B:=(isNeg A.fst,M6.dg A.fst.natAbs,A.snd);aO ((-9223372036854775808:Int)<=(3:Int)/\(3:Int)<(9223372036854775808:Int)) (aO (iY (isNeg 3,M6.dg 3)/\(-9223372036854775808:Int)<=(-2:Int)/\(-2:Int)<(9223372036854775808:Int)) (aO (aW F/\aW B) (some [D.s (sc (bool (decide (cT (bY.pK (dv F) (dv B)) (bY.pJ (dv F) (dv B))<=0))))]))):=eJ aU
def aOL(p:Int×Int):Bool:=decide (dQ ((p.1.natAbs:Int),p.2) (3,-2)<=0)
def sp(x:iW):Prop×List D:=(aW x,[.s (.sc (.bool (aOL (dv x))))])
theorem spec:iD E f110 aF jE sp:=by
 intro x h;have hx:aW x:=h;refine(start x.1 x.2.1 x.2.2).trans ?_;have e3:wv (isNeg 3,M6.dg (cHV 3))=3:=tB 3;have i3:jD 3 (-2)=true:=by decide +kernel
 have n3:bV 3 (-2)=(3,-2):=by decide +kernel
 have p3:mU (3,-2):=by
  have:=jQ (z:=3) (e:=-2) i3 (by decide +kernel);rw[n3]at this;exact this
 have d3:=eI p3;have v3:=gF (3,-2);dsimp only at d3 v3;have ok:aW (false,x.2.1,x.2.2):=⟨⟨hx.1.1,fun hf=>(by cases hf),hx.1.len⟩,hx.2⟩;have vx:dv (false,x.2.1,x.2.2)=((((dv x).1.natAbs:Nat):Int),(dv x).2):=by
  rw[show(dv x).1.natAbs=M6.val x.2.1 from iT (x.1,x.2.1)];rfl
 rw[gP ⟨by decide,by decide⟩,gP ⟨gY (z:=3) (by decide +kernel),by decide,by decide⟩];simp only[e3,i3,n3,cond_true];rw[gP ⟨ok,d3⟩,v3,vx];rfl
def aJ:dG:=orc1 jE sp
theorem ok:OK 110 aJ:=(dZ E aF (aA Fe.ok (aA mD.ok (aA Jx.ok aE))) func110).oS rfl spec
end uD
end W
namespace R
open W.Arctan
theorem Ee{k w:Nat}(hk:2<=k):∀f j p m,2^w/k^(2*j+1)<4^f->m<=p->(j%2=1->m+iN k w j<=p) ->
  ∃N J,rounds k f (2^w/k^(2*j+1)) p m (2*j+1) j=(N,J)/\J<=j+f/\(N:Rat)=(p:Rat)-(m:Rat)+(sum (fun i=>sg i*(iN k w i:Rat)) J-sum (fun i=>sg i*(iN k w i:Rat)) j)/\iN k w J=0
 |0,j,p,m,h,hm,_=>by
  have h0:2^w/k^(2*j+1)=0:=by simpa using h
  refine⟨p-m,j,rfl,bXK _,?_,by unfold iN;rw[h0,cEK]⟩;have:((p-m:Nat):Rat)=(p:Rat)-(m:Rat):=by
   have e:p-m+m=p:=by omega
   have e2:((p-m:Nat):Rat)+(m:Rat)=(p:Rat):=by exact_mod_cast e
   grind
  rw[this];grind
 |f+1,j,p,m,h,hm,ho=>by
  by_cases h0:2^w/k^(2*j+1)=0
  ·refine⟨p-m,j,by unfold rounds;rw[if_pos h0],by omega,?_,by unfold iN;rw[h0,cEK]⟩;have:((p-m:Nat):Rat)=(p:Rat)-(m:Rat):=by
    have e:p-m+m=p:=by omega
    have e2:((p-m:Nat):Rat)+(m:Rat)=(p:Rat):=by exact_mod_cast e
    grind
   rw[this];grind
  ·have e1:2^w/k^(2*j+1)/k/k=2^w/k^(2*(j+1)+1):=by
    rw[cCT,cCT,show 2*(j+1)+1=2*j+1+1+1 by omega,cCK k (2*j+1+1),cCK k (2*j+1),cCN]
   have e2:2^w/k^(2*(j+1)+1)<4^f:=by
    rw[<-e1,cCT];apply Nat.div_lt_of_lt_mul;have:4<=k*k:=cIC hk hk;rw[cCK 4 f,Nat.mul_comm (4^f)]at h;exact bYH h (cBK _ this)
   have e3:iN k w (j+1)<=iN k w j:=by
    unfold iN;rw[<-e1];refine bYC (Nat.div_le_div_left (by omega) (by omega)) (Nat.div_le_div_right ?_);exact bYC (cDK _ _) (cDK _ _)
   have es:sum (fun i=>sg i*(iN k w i:Rat)) (j+1)=sum (fun i=>sg i*(iN k w i:Rat)) j+sg j*(iN k w j:Rat):=dV _ _;have ea:2^w/k^(2*j+1)/(2*j+1)=iN k w j:=rfl;unfold rounds;rw[if_neg h0,e1,ea,show 2*j+1+2=2*(j+1)+1 by omega]
   by_cases hc:(2*j+1)%4=1
   ·rw[if_pos hc];obtain⟨N,J,r1,r2,r3,r4⟩:=Ee hk f (j+1) (p+iN k w j) m e2 (by omega) (fun _=>by omega);refine⟨N,J,r1,by omega,?_,r4⟩;have:sg j=1:=by unfold sg;rw[aT]
    rw[es,this]at r3;rw[cIB]at r3;grind
   ·rw[if_neg hc];have hj:=ho (by omega);obtain⟨N,J,r1,r2,r3,r4⟩:=Ee hk f (j+1) p (m+iN k w j) e2 (by omega) (fun h=>by omega);refine⟨N,J,r1,by omega,?_,r4⟩;have:sg j=-1:=by unfold sg;rw[bG]
    rw[es,this]at r3;rw[cIB]at r3;grind
theorem Br{k:Nat}(hk:2<=k){w:Nat}(hw:w<=1000000):(atan k w).2<=w+2/\ab (((atan k w).1:Rat)-((2^w:Nat):Rat)*Oa k)<=((atan k w).2:Rat)+2:=by
 have h:2^w/k^(2*0+1)<4^(w+2):=by
  rw[Bn];exact cEC (cDK _ _) (cEE (by omega) (by omega))
 obtain⟨N,J,r1,r2,r3,r4⟩:=Ee (w:=w) hk (w+2) 0 0 0 h (bXK _) (fun h=>by omega);have e:atan k w=(N,J):=by
  unfold atan;rw[<-r1];simp
 rw[e];have hJ:J<=1048576:=by omega
 have:=aEV hk w hJ r4;refine⟨by dsimp only;omega,?_⟩;dsimp only;have e0:sum (fun i=>sg i*(iN k w i:Rat)) 0=0:=rfl;rw[e0]at r3;have e1:(N:Rat)=sum (fun i=>sg i*(iN k w i:Rat)) J:=by
  have z:((0:Nat):Rat)=0:=by norm_cast
  rw[z]at r3;grind
 rw[e1];exact this
end R
namespace W
open Go AI M
namespace Cc
def E:=mE [(147,gV.aJ),(149,dO.aJ),(226,Ou.aJ)] 55 [52] [(6,[0,1,6,7,20,21])] []
def aF:=bd f223
theorem aU:Nk E aF:=nk
def L6 a b (c:Nat) (d:List Int) e f g:=nN E f223 aF 6 [iU a,dM b,Dg 2 c 23 d,dM e,bK f,bK g]
theorem start a b:aG E f223 aF [D.s (ints u64 a),D.s (sc (int u64 b))]=letI A:=(a.length:Int);letI B:=A+(1:Int);aO (a.length<=1099511627776) (aD (!gV.qO a) (some [D.s (sc (slice none 0 0)),D.s (sc (int i64 2))]) (if 0<=i64.wrap B/\i64.wrap B<=i64.wrap B/\i64.wrap B<=8796093022208 then Cc.L6 a b (i64.wrap B).toNat (bZK (i64.wrap B).toNat (0:Int)) 0 A 0 else none)):=eJ aU
theorem qW a b c d e f g:L6 a b c d e f g=letI C:=a.getD g.toNat 0*b%18446744073709551616+e+0;letI B:=(a.length:Int);letI A:=d.set B.toNat e;aD (decide (g<f)) (if 0<=g/\g<B then aO (0<=a.getD g.toNat 0/\a.getD g.toNat 0<(18446744073709551616:Int)/\0<=b/\b<18446744073709551616) (aO (0<=a.getD g.toNat 0*b%18446744073709551616/\0<=e/\(0:Int)<=(0:Int)/\(0:Int)<=(1:Int)) (if 0<=g/\g<(c:Int)then Cc.L6 a b c (d.set g.toNat (C%18446744073709551616)) (u64.wrap (a.getD g.toNat 0*b/18446744073709551616+C/18446744073709551616)) f (i64.wrap (g+1))else none))else none) (if 0<=B/\B<(c:Int)then aO (M6.bN A/\A.length<=1099511627776) (some [D.s (ints u64 (bif dO.oM (M6.val A)then M6.dg (M6.val A)else [])),D.s (sc (int i64 (bif dO.oM (M6.val A)then(0:Int)else(5:Int))))])else none):=lJ aU
theorem L{a:List Int}{b:Nat}(ha:M6.bN a)(hl:a.length<=8192)(hb:b<18446744073709551616):∀(k i:Nat) (pre:List Int) (c:Nat),i+k=a.length->pre.length=i->M6.bN pre->c<18446744073709551616 ->
  M6.val pre+18446744073709551616^i*c=M6.val (a.take i)*b ->
  L6 a b (a.length+1) (pre ++ bZK (k+1) 0) c a.length i=some [D.s (.ints .u64 (bif dO.oM (M6.val a*b)then M6.dg (M6.val a*b)else [])),D.s (.sc (.int .i64 (bif dO.oM (M6.val a*b)then 0 else 5)))]:=by
 intro k
 induction k with
 |zero =>
  intro i pre c hi hp hd hc hv;rw[M6.cA (by omega)]at hv;have hs:(pre ++ bZK (0+1) 0).set a.length (c:Int)=pre ++ [(c:Int)]:=by
   have:=Bc (pre:=pre) (i:=a.length) (k:=0) (by omega) (c:Int);simpa using this
  have hval:M6.val (pre ++ [(c:Int)])=M6.val a*b:=by
   rw[M6.kR,hp,cBF];exact hv
  have bKD:M6.bN (pre ++ [(c:Int)]):=M6.kU hd ⟨cHN _,by omega⟩;rw[qW,aN,if_pos ⟨by omega,by omega⟩,cBF,hs,gP ⟨bKD,by simp;omega⟩,hval]
 |succ k ih =>
  intro i pre c hi hp hd hc hv;have g:=ha.get i;obtain⟨x,hx⟩:=cCM g.1;have Dj:x<18446744073709551616:=by omega
  have bFT:x*b<=18446744073709551615*18446744073709551615:=cIC (by omega) (by omega);have e1:((x:Int)*(b:Int))=((x*b:Nat):Int):=by rw[cDY]
  have wJ:M6.val (pre ++ [(((x*b%18446744073709551616+c)%18446744073709551616:Nat):Int)])+18446744073709551616^(i+1)*(x*b/18446744073709551616+(x*b%18446744073709551616+c)/18446744073709551616)=M6.val (a.take (i+1))*b:=by
   rw[M6.kR,hp,M6.bR,hx,cBF,cBF,bZU,<-hv,cCK,cCN (18446744073709551616^i) x b,cCN (18446744073709551616^i) 18446744073709551616];have e:(x*b%18446744073709551616+c)%18446744073709551616+18446744073709551616*(x*b/18446744073709551616+(x*b%18446744073709551616+c)/18446744073709551616)=x*b+c:=by omega
   have e2:=congrArg (18446744073709551616^i*·) e;simp only[Nat.mul_add]at e2 ⊢;omega
  have bON:x*b/18446744073709551616+(x*b%18446744073709551616+c)/18446744073709551616<18446744073709551616:=by omega
  have w1:u64.wrap ((x:Int)*(b:Int)/18446744073709551616+((x:Int)*(b:Int)%18446744073709551616+(c:Int)+0)/18446744073709551616)=((x*b/18446744073709551616+(x*b%18446744073709551616+c)/18446744073709551616:Nat):Int):=by
   rw[e1,wrap_u64];omega
  have w2:((x:Int)*(b:Int)%18446744073709551616+(c:Int)+0)%18446744073709551616=(((x*b%18446744073709551616+c)%18446744073709551616:Nat):Int):=by rw[e1];omega
  rw[qW,aR,if_pos ⟨by omega,by omega⟩,cBF,hx,gP ⟨by omega,by omega,by omega,by omega⟩,gP ⟨by rw[e1];omega,by omega,by omega,by omega⟩,if_pos ⟨by omega,by omega⟩,Bc hp,w1,w2,wrap_i64 (n:=(i:Int)+1),show(i:Int)+1=((i+1:Nat):Int)from rfl];exact ih (i+1) _ _ (by omega) (by simp[hp]) (M6.kU hd ⟨cHN _,by omega⟩) bON wJ
def sp(a:List Int)(b:Int):Prop×List D:=(M6.cI a/\a.length<=8192/\0<=b/\b<18446744073709551616,[.s (.ints .u64 (bif dO.oM (M6.val a*b.toNat)then M6.dg (M6.val a*b.toNat)else [])),.s (.sc (.int .i64 (bif dO.oM (M6.val a*b.toNat)then 0 else 5)))])
theorem spec:eR E f223 aF (pI .u64) (pN .u64) sp:=by
 rintro a b ⟨ha,hl,h0,h1⟩;obtain⟨n,rfl⟩:=cCM h0;refine(start a n).trans ?_;have w:i64.wrap ((a.length:Int)+1)=((a.length+1:Nat):Int):=by rw[wrap_i64];rfl
 have:=L (b:=n) ha.gT hl (by omega) a.length 0 [] 0 (by omega) rfl M6.lB (by omega) (by simp[M6.val]);rw[gP,gV.pD ha hl,bZH,bF,w,if_pos ⟨by omega,by omega,by omega⟩,cBF];rw[List.nil_append]at this;exact this
def aJ:dG:=orc2 (pI .u64) (pN .u64) sp
theorem ok:OK 223 aJ:=(dZ E aF (aA gV.ok (aA dO.ok (aA Ou.ok aE))) func223).jR rfl spec
end Cc
namespace Uj
def E:=mE [(140,uZ.aJ),(134,wL.aJ),(108,rZ.aJ)] 26 [14,21] [] []
def aF:=bd f224
theorem aU:Nk E aF:=nk
theorem start a b:aG E f224 aF [D.s (ints u64 a),D.s (sc (int u64 b))]=letI B:=M6.dg b.toNat;letI C:=M6.val a+M6.val B;letI A:=M6.cI a/\M6.cI B/\a.length<=8192/\B.length<=8192;aO (0<=b/\b<18446744073709551616) (aO A (aO (0<=b/\b<18446744073709551616) (aO A (some [D.s (ints u64 (M6.dg (M6.val a-M6.val B))),D.s (ints u64 (bif dO.oM C then M6.dg C else []))])))):=eJ aU
theorem aWB{v n:Nat}(hv:v<18446744073709551616^8000)(hn:n<18446744073709551616):dO.oM (v+n)=true:=by
 unfold dO.oM;refine decide_eq_true (bYC (M6.cU (k:=8001) ?_) (by decide));rw[cCK];have h1:1<=18446744073709551616^8000:=cAH (by decide);generalize 18446744073709551616^8000=X at *;omega
def sp(a:List Int)(b:Int):Prop×List D:=(M6.cI a/\a.length<=8000/\0<=b/\b<18446744073709551616,[.s (.ints .u64 (M6.dg (M6.val a-b.toNat))),.s (.ints .u64 (M6.dg (M6.val a+b.toNat)))])
theorem spec:eR E f224 aF (pI .u64) (pN .u64) sp:=by
 rintro a b ⟨hn,hl,h0,h1⟩;have hb:b.toNat<18446744073709551616:=by omega
 have lb:(M6.dg b.toNat).length<=1:=M6.cU (k:=1) (by rw[Nat.pow_one];exact hb);refine(start a b).trans ?_;have lv:=M6.cR hn.gT;have ok:dO.oM (M6.val a+b.toNat)=true:=aWB (bYH lv (cAI (by decide) hl)) hb;rw[gP ⟨h0,h1⟩,gP ⟨hn,M6.bA _,by omega,by omega⟩,gP ⟨h0,h1⟩,gP ⟨hn,M6.bA _,by omega,by omega⟩,M6.bD,ok];rfl
def aJ:dG:=orc2 (pI .u64) (pN .u64) sp
theorem ok:OK 224 aJ:=(dZ E aF (aA uZ.ok (aA wL.ok (aA rZ.ok aE))) func224).jR rfl spec
end Uj
namespace mZ
def E:=mE [(222,fF.aJ),(223,Cc.aJ),(140,uZ.aJ),(224,Uj.aJ)] 45 [42] [] []
def aF:=bd f191
theorem aU:Nk E aF:=nk
theorem start a:aG E f191 aF [D.s (sc (int i64 a))]=letI K:=Arctan.atan (cLC 5) a.toNat;letI I:=Arctan.atan (cLC 239) a.toNat;letI F:=M6.dg K.fst;letI G:=bif dO.oM (M6.val F*16)then M6.dg (M6.val F*16)else [];letI C:=M6.dg I.fst;letI H:=bif dO.oM (M6.val C*4)then M6.dg (M6.val C*4)else [];letI B:=u64.wrap ((16:Int)*(↑((2:Nat)+(3:Nat)*K.snd):Int))+u64.wrap ((4:Int)*(↑((2:Nat)+(3:Nat)*I.snd):Int));letI A:=M6.dg (M6.val G-M6.val H);aO (((2:Int)<=(5:Int)/\(5:Int)<(4294967296:Int))/\0<=a/\a<=150000) (aO (((2:Int)<=(239:Int)/\(239:Int)<(4294967296:Int))/\0<=a/\a<=150000) (aO (M6.cI F/\F.length<=8192/\(0:Int)<=(16:Int)/\(16:Int)<(18446744073709551616:Int)) (aO (M6.cI C/\C.length<=8192/\(0:Int)<=(4:Int)/\(4:Int)<(18446744073709551616:Int)) (aO (M6.cI G/\M6.cI H/\G.length<=8192/\H.length<=8192) (aO (M6.cI A/\A.length<=8000/\0<=u64.wrap B/\u64.wrap B<18446744073709551616) (some [D.s (ints u64 (M6.dg (M6.val A-(u64.wrap B).toNat))),D.s (ints u64 (M6.dg (M6.val A+(u64.wrap B).toNat)))])))))):=eJ aU
def mX(w:Nat):Nat:=(Arctan.atan 5 w).1*16-(Arctan.atan 239 w).1*4
def mO(w:Nat):Nat:=16*(2+3*(Arctan.atan 5 w).2)+4*(2+3*(Arctan.atan 239 w).2)
theorem aTX(w:Nat):mO w<=60*w+160:=by
 have h1:=(Arctan.wW 5 w).2;have h2:=(Arctan.wW 239 w).2;unfold mO;omega
def sp(w:Int):Prop×List D:=(0<=w/\w<=150000,[.s (.ints .u64 (M6.dg (mX w.toNat-mO w.toNat))),.s (.ints .u64 (M6.dg (mX w.toNat+mO w.toNat)))])
theorem spec:iD E f191 aF (pN .i64) sp:=by
 rintro w ⟨h0,h1⟩;refine(start w).trans ?_;obtain⟨q,rfl⟩:=cCM h0;have a1:=Arctan.wW 5 q;have a2:=Arctan.wW 239 q;have hO:=aTX q;unfold sp;have k1:cLC 5=5:=rfl;have k2:cLC 239=239:=rfl;simp only[cBF,k1,k2,M6.bD];have eO:u64.wrap (u64.wrap (16*((2+3*(Arctan.atan 5 q).2:Nat):Int))+u64.wrap (4*((2+3*(Arctan.atan 239 q).2:Nat):Int)))=((mO q:Nat):Int):=by
  rw[wrap_u64 (n:=16*_),wrap_u64 (n:=4*_),wrap_u64];unfold mO;omega
 rw[eO];have hX:mX q<=(Arctan.atan 5 q).1*16:=cDX _ _;unfold mX at hX ⊢;generalize (Arctan.atan 5 q).1=a at *;generalize (Arctan.atan 239 q).1=b at *;have hp:2^(2*q+4+4)=16*2^(2*q+4):=by rw[cCH];omega
 have b1:a*16<2^(2*q+4+4):=by rw[hp];omega
 have b2:b*4<2^(2*q+4+4):=by rw[hp];omega
 have b3:a*16-b*4<2^(2*q+4+4):=by omega
 have l3:(M6.dg (a*16-b*4)).length<=8000:=gD (k:=8000) (bYC (dX.2 b3) (by omega));rw[gP ⟨⟨by decide,by decide⟩,by omega,by omega⟩,gP ⟨⟨by decide,by decide⟩,by omega,by omega⟩,gP ⟨M6.bA _,fF.oD a1.1 (by omega),by decide,by decide⟩,gP ⟨M6.bA _,fF.oD a2.1 (by omega),by decide,by decide⟩,
  fF.aWA b1 (by omega),fF.aWA b2 (by omega),cond_true,cond_true]
 simp only[M6.bD,cBF];rw[gP ⟨M6.bA _,M6.bA _,fF.oD b1 (by omega),fF.oD b2 (by omega)⟩,gP ⟨M6.bA _,l3,by omega,by omega⟩]
open R in
theorem num {w:Nat} (bPA:40<=w) (hw:w<=1000000):R.ab ((mX w:Rat)-((2^w:Nat):Rat)*R.pi)<=(mO w:Rat):=by
 obtain⟨j1,e1⟩:=R.Br (k:=5) (by decide) hw;obtain⟨j2,e2⟩:=R.Br (k:=239) (by decide) hw;have hp:=R.mR.1;have hW:(1099511627776:Rat)<=((2^w:Nat):Rat):=by
  have:2^40<=2^w:=cAI (by decide) bPA;exact_mod_cast this
 have hO:(mO w:Rat)=16*(2+3*((Arctan.atan 5 w).2:Rat))+4*(2+3*((Arctan.atan 239 w).2:Rat)):=by
  unfold mO
  push_cast
  rfl
 have hJ1:((Arctan.atan 5 w).2:Rat)<=1000002:=by exact_mod_cast bYC j1 (by omega)
 have hJ2:((Arctan.atan 239 w).2:Rat)<=1000002:=by exact_mod_cast bYC j2 (by omega)
 have bAO:(0:Rat)<=((Arctan.atan 5 w).2:Rat):=by exact_mod_cast cCR _
 have bDI:(0:Rat)<=((Arctan.atan 239 w).2:Rat):=by exact_mod_cast cCR _
 rw[hO];clear hO;have h3:0<=R.pi-3:=by grind
 have hm:=R.aM (cCL (by decide:(0:Rat)<=1099511627776) hW) h3;have bCY:((2^w:Nat):Rat)*R.pi=16*(((2^w:Nat):Rat)*R.Oa 5)-4*(((2^w:Nat):Rat)*R.Oa 239):=by
  rw[show R.pi=16*R.Oa 5-4*R.Oa 239 from rfl];grind
 have bTD:3*((2^w:Nat):Rat)<=((2^w:Nat):Rat)*R.pi:=by grind
 rw[R.dJ]at e1 e2 ⊢;have bUT:(mX w:Rat)=((mX w:Nat):Rat):=rfl;unfold mX;generalize ((2^w:Nat):Rat)*R.pi=WP at *;generalize ((2^w:Nat):Rat)*R.Oa 5=W5 at *;generalize ((2^w:Nat):Rat)*R.Oa 239=W2 at *;generalize ((2^w:Nat):Rat)=W at *;clear hm h3 hp bUT;generalize ((Arctan.atan 5 w).2:Rat)=J1 at *;generalize ((Arctan.atan 239 w).2:Rat)=J2 at *;generalize (Arctan.atan 5 w).1=a at *;generalize (Arctan.atan 239 w).1=b at *;have hle:b*4<=a*16:=by
  have:(b:Rat)*4<=(a:Rat)*16:=by
   obtain⟨e3,e4⟩:=e1;obtain⟨e5,e6⟩:=e2;grind
  exact_mod_cast this
 have hX:((a*16-b*4:Nat):Rat)=(a:Rat)*16-(b:Rat)*4:=by
  have e:(a*16-b*4)+b*4=a*16:=by omega
  have e':((a*16-b*4:Nat):Rat)+(b:Rat)*4=(a:Rat)*16:=by exact_mod_cast e
  grind
 rw[hX];obtain⟨e3,e4⟩:=e1;obtain⟨e5,e6⟩:=e2;constructor <;> grind
def aJ:dG:=orc1 (pN .i64) sp
theorem ok:OK 191 aJ:=(dZ E aF (aA fF.ok (aA Cc.ok (aA uZ.ok (aA Uj.ok aE)))) func191).oS rfl spec
end mZ
namespace yN
def E:=mE [(191,mZ.aJ),(106,Gv.aJ),(139,Ce.aJ)] 39 [19,25] [(5,[0,4]),(3,[0])] [3]
def aF:=bd f151
theorem aU:Nk E aF:=nk
def J3 a:=lE E f151 aF 3 [bK a]
def L5 a b:=nN E f151 aF 5 [bK a,bK b]
theorem start a:aG E f151 aF [D.s (sc (int i64 a))]=letI A:=some [D.s (sc (slice none 0 0)),D.s (sc (int i64 1))];aD (decide (a<1)) A (aD (decide (70000<a)) A (yN.J3 a)):=eJ aU
theorem fB a:J3 a=yN.L5 a 48:=cJ aU
theorem Dz a b:L5 a b=letI G:=i64.wrap (a+b);letI B:=M6.dg (mZ.mX G.toNat+mZ.mO G.toNat);letI F:=M6.dg (M6.val B/(2:Nat)^b.toNat);letI A:=M6.dg (mZ.mX G.toNat-mZ.mO G.toNat);letI C:=M6.dg (M6.val A/(2:Nat)^b.toNat);aO (0<=i64.wrap (a+b)/\i64.wrap (a+b)<=150000) (aO (M6.cI A/\A.length<=8192/\0<=b/\b<4611686018427387904) (aO (M6.cI B/\B.length<=8192/\0<=b/\b<4611686018427387904) (aO (M6.bN C/\M6.bN F/\C.length<=1099511627776/\F.length<=1099511627776) (aD (iS (M6.val C) (M6.val F)==0) (some [D.s (ints u64 C),D.s (sc (int i64 0))]) (yN.L5 a (i64.wrap (b*2))))))):=lJ aU
def sp(p:Int):Prop×List D:=(1<=p/\p<=70000,[.s (.ints .u64 (M6.dg (R.pF p.toNat))),.s (.sc (.int .i64 0))])
theorem bCK(w:Nat):mZ.mX w<2^(2*w+8):=by
 have a1:=Arctan.wW 5 w;have hp:2^(2*w+8)=16*2^(2*w+4):=by rw[show 2*w+8=2*w+4+4 by omega,cCH];omega
 have:mZ.mX w<=(Arctan.atan 5 w).1*16:=cDX _ _;omega
theorem spec:iD E f151 aF (pN .i64) sp:=by
 rintro p ⟨h0,h1⟩;refine(start p).trans ?_;obtain⟨q,rfl⟩:=cCM (show 0<=p by omega);have hX:=mZ.num (w:=q+48) (by omega) (by omega);have hO:=mZ.aTX (q+48);have lX:=bCK (q+48);have bVK:2*mZ.mO (q+48)<=2^(48-24):=by
  have:2^(48-24)=16777216:=by decide
  omega
 obtain⟨o1,o2,o3⟩:=R.aTQ (q:=q) (g:=48) (by omega) (by omega) bVK hX;have ew:i64.wrap ((q:Int)+48)=((q+48:Nat):Int):=by rw[wrap_i64];omega
 unfold sp;rw[aN,aN,fB,Dz,ew,cBF,cBF];have hp:2^(2*(q+48)+9)=2*2^(2*(q+48)+8):=by rw[cCK];omega
 have bPA:2^40<=2^(2*(q+48)+8):=fM;have l1:=fF.oD (n:=mZ.mX (q+48)-mZ.mO (q+48)) (k:=2*(q+48)+8) (by omega) (by omega);have l2:=fF.oD (n:=mZ.mX (q+48)+mZ.mO (q+48)) (k:=2*(q+48)+9) (by omega) (by omega);rw[gP ⟨by omega,by omega⟩,gP ⟨M6.bA _,l1,by decide,by decide⟩,gP ⟨M6.bA _,l2,by decide,by decide⟩];simp only[M6.bD,show cLC 48=48 from rfl,o2,o3];have l3:(M6.dg (R.pF q)).length<=8192:=by
  rw[<-o2];exact fF.oD (k:=2*(q+48)+8) (cEC (cDK _ _) (by omega)) (by omega)
 rw[gP ⟨M6.bZ _,M6.bZ _,by omega,by omega⟩,cL (by unfold iS;simp)]
def aJ:dG:=orc1 (pN .i64) sp
theorem ok:OK 151 aJ:=(dZ E aF (aA mZ.ok (aA Gv.ok (aA Ce.ok aE))) func151).oS rfl spec
end yN
namespace uE
def E:=mE [(99,Ir.aJ),(112,lP.aJ)] 37 [] [] []
def aF:=bd f152
theorem aU:Nk E aF:=nk
theorem start a c d b:aG E f152 aF [D.agg [sc (bool a),ints u64 c,sc (int i64 d)],D.s (sc (int i64 b))]=letI C:=i64.wrap ((0:Int)-d)-b;letI B:=wv (a,c)/(↑((2:Nat)^(i64.wrap C).toNat):Int);letI A:=bif fit (M6.val c*(2:Nat)^(i64.wrap (d+b)).toNat)then wv (a,c)*(↑((2:Nat)^(i64.wrap (d+b)).toNat):Int)else(0:Int);aD (decide (0<=i64.wrap (d+b))) (aO (iY (a,c)/\0<=i64.wrap (d+b)/\i64.wrap (d+b)<4611686018427387904) (some [D.agg [sc (bool (isNeg A)),ints u64 (M6.dg A.natAbs)]])) (aO (iY (a,c)/\0<=i64.wrap C/\i64.wrap C<4611686018427387904) (some [D.agg [sc (bool (isNeg B)),ints u64 (M6.dg B.natAbs)]])):=eJ aU
def aLQ(p:Int×Int)(n:Int):Int:=if 0<=p.2+n then p.1*((2^(p.2+n).toNat:Nat):Int)else p.1/((2^(-p.2-n).toNat:Nat):Int)
def sp(x:iW)(n:Int):Prop×List D:=(aW x/\-1099511627776<=n/\n<=1099511627776/\(0<=x.2.2+n->fit ((dv x).1.natAbs*2^(x.2.2+n).toNat)=true),[wD (aLQ (dv x) n)])
theorem spec:eR E f152 aF jE (pN .i64) sp:=by
 rintro x n ⟨hx,h1,h2,hf⟩;have he:=hx.2.1;refine(start x.1 x.2.1 x.2.2 n).trans ?_;have w1:i64.wrap (x.2.2+n)=x.2.2+n:=wrap_i64;have w2:i64.wrap (i64.wrap (0-x.2.2)-n)=-x.2.2-n:=by rw[wrap_i64 (n:=0-x.2.2),wrap_i64];omega
 have ha:(dv x).1.natAbs=M6.val x.2.1:=iT (x.1,x.2.1);unfold sp aLQ
 by_cases c:0<=x.2.2+n
 ·have aUN:=hf c;rw[ha]at aUN;rw[w1,aR c,gP ⟨hx.Le,c,by omega⟩,aUN,cond_true];dsimp only;rw[if_pos (show 0<=(dv x).2+n from c)];rfl
 ·rw[w1,w2,aN c,gP ⟨hx.Le,by omega,by omega⟩];dsimp only;rw[if_neg (show ¬0<=(dv x).2+n from c)];rfl
def aJ:dG:=orc2 jE (pN .i64) sp
theorem ok:OK 152 aJ:=(dZ E aF (aA Ir.ok (aA lP.ok aE)) func152).jR rfl spec
end uE
namespace uC
def E:=mE [(104,fY.aJ),(133,Bz.aJ),(140,uZ.aJ),(139,Ce.aJ),(195,Ye.aJ)] 66 [31,43,63] [(3,[0,4,5,6])] [3]
def aF:=bd f192
theorem aU:Nk E aF:=nk
def J3 a b c d e f:=lE E f192 aF 3 [bK a,bM 1 33 [bC b,eF c],bM 2 33 [bC d,eF e],bM 3 33 [bC f,sc (slice none 0 0)]]
theorem start a b c d e:aG E f192 aF [D.s (sc (int i64 a)),D.agg [sc (bool b),ints u64 c],D.agg [sc (bool d),ints u64 e]]=letI A:=some [D.agg [sc (bool false),sc (slice none 0 0)],D.s (sc (int i64 2))];aO (c.length<=1099511627776) (aC (fY.pS (b,c)) fun f=>aD (!f) A (aO (e.length<=1099511627776) (aC (fY.pS (d,e)) fun g=>aD (!g) A (uC.J3 a b c d e false)))):=eJ aU
theorem fB a b c d e f:J3 a b c d e f=aD ((e.length:Int)==(0:Int)) (some [D.agg [sc (bool false),sc (slice none 0 0)],D.s (sc (int i64 4))]) (aO (M6.cI c/\c.length<=8192/\M6.cI e/\1<=e.length/\e.length<=8192) (aC (M6.dg (M6.val c/M6.val e)) fun g=>aC (M6.dg (M6.val c%M6.val e)) fun h=>aO (M6.cI e/\M6.cI h/\e.length<=8192/\h.length<=8192) (aC (M6.dg (M6.val e-M6.val h)) fun i=>letI A:=M6.val g+bif qF.qE a (b !=d) (decide (M6.val g%2=(1:Nat))) (decide (0<(h.length:Int))) (iS (M6.val h) (M6.val i))then(1:Nat)else(0:Nat);letI B:=bif fit A then zs (b !=d) A else(0:Int);aC (if M6.val e<M6.val h then(3:Int)else(0:Int)) fun j=>aD (j !=0) (some [D.agg [sc (bool false),sc (slice none 0 0)],D.s (sc (int i64 j))]) (aO (M6.bN h/\M6.bN i/\h.length<=1099511627776/\i.length<=1099511627776) (aO (M6.cI g/\g.length<=8192) (aC (isNeg B) fun k=>aC (M6.dg B.natAbs) fun l=>aC (bif fit A then(0:Int)else(5:Int)) fun m=>some [D.agg [sc (bool k),ints u64 l],D.s (sc (int i64 m))])))))):=cJ aU
def vT(w:Int)(neg:Bool)(u v:Nat):Nat:=u/v+bif qF.qE w neg (decide (u/v%2=1)) (decide (u%v≠0)) (iS (u%v) (v-u%v))then 1 else 0
def sp(w:Int)(x y:Bool×List Int):Prop×List D:=(iY x/\iY y/\wv y≠0,wE (fit (vT w (x.1 !=y.1) (M6.val x.2) (M6.val y.2))) (zs (x.1 !=y.1) (vT w (x.1 !=y.1) (M6.val x.2) (M6.val y.2))))
theorem spec:sR E f192 aF (pN .i64) qN qN sp:=by
 rintro w x y ⟨hx,hy,h0⟩;refine(start w x.1 x.2 y.1 y.2).trans ?_;have l1:=hx.len;have l2:=hy.len;have f1:=fY.mM hx;have f2:=fY.mM hy;have hv0:M6.val y.2≠0:=fun h=>h0 (aBM.2 h)
 have aRC:y.2.length≠0:=fun h=>hv0 ((M6.cX hy.1).1 h)
 have hm:=bZR (M6.val x.2) (show 0<M6.val y.2 by omega);have b1:=hx.bl;have b2:=hy.bl;have q1:=gD (n:=M6.val x.2/M6.val y.2) (k:=8192) (bYC (fW (cDK _ _)) b1);have q2:=gD (n:=M6.val x.2%M6.val y.2) (k:=8192) (bYC (fW (cLD hm)) b2);have q3:=gD (n:=M6.val y.2-M6.val x.2%M6.val y.2) (k:=8192) (bYC (fW (cDX _ _)) b2);have hd:decide (0<(((M6.dg (M6.val x.2%M6.val y.2)).length:Nat):Int))=decide (M6.val x.2%M6.val y.2≠0):=by
  have:=M6.fT (n:=M6.val x.2%M6.val y.2)
  by_cases h:M6.val x.2%M6.val y.2=0
  ·rw[decide_eq_false (by have:=this.2 h;omega),decide_eq_false (by omega)]
  ·rw[decide_eq_true (by have:=fun hl=>h (this.1 hl);omega),decide_eq_true h]
 simp only[aB];rw[gP,f1,bZH,bF,gP,f2,bZH,bF,fB];simp only[aB];rw[cO,gP ⟨hx.1,l1,hy.1,by omega,l2⟩,gP ⟨hy.1,M6.bA _,l2,by omega⟩,M6.bD,bG,gG rfl,gP ⟨M6.bZ _,M6.bZ _,by omega,by omega⟩,gP ⟨M6.bA _,by omega⟩,hd];simp only[M6.bD];rfl
def aJ:dG:=orc3 (pN .i64) qN qN sp
theorem ok:OK 192 aJ:=(dZ E aF (aA fY.ok (aA Bz.ok (aA uZ.ok (aA Ce.ok (aA Ye.ok aE))))) func192).Cq rfl spec
end uC
namespace Ov
def E:=mE [(192,uC.aJ)] 11 [8] [] []
def aF:=bd f153
theorem aU:Nk E aF:=nk
theorem start a b c d:aG E f153 aF [D.agg [sc (bool a),ints u64 b],D.agg [sc (bool c),ints u64 d]]=letI A:=uC.vT 2 (a !=c) (M6.val b) (M6.val d);letI B:=bif fit A then zs (a !=c) A else(0:Int);aO (iY (a,b)/\iY (c,d)/\wv (c,d)≠0) (some [D.agg [sc (bool (isNeg B)),ints u64 (M6.dg B.natAbs)],D.s (sc (int i64 (bif fit A then(0:Int)else(5:Int))))]):=eJ aU
def sp(x y:Bool×List Int):Prop×List D:=(iY x/\iY y/\wv y≠0/\fit (uC.vT 2 false (M6.val x.2) (M6.val y.2))=true,[wD (zs (x.1 !=y.1) (uC.vT 2 false (M6.val x.2) (M6.val y.2))),.s (.sc (.int .i64 0))])
theorem spec:eR E f153 aF qN qN sp:=by
 rintro x y ⟨hx,hy,h0,hf⟩;refine(start x.1 x.2 y.1 y.2).trans ((gP ⟨hx,hy,h0⟩).trans ?_);have e:uC.vT 2 (x.1 !=y.1) (M6.val x.2) (M6.val y.2)=uC.vT 2 false (M6.val x.2) (M6.val y.2):=rfl;unfold sp
 try dsimp only
 rw[e,hf];rfl
def aJ:dG:=orc2 qN qN sp
theorem ok:OK 153 aJ:=(dZ E aF (aA uC.ok aE) func153).jR rfl spec
end Ov
namespace aHB
def E:=mE [(104,fY.aJ),(107,Fa.aJ),(100,Gw.aJ)] 25 [22] [(3,[2,3,4])] [3]
def aF:=bd f154
theorem aU:Nk E aF:=nk
def J3 a b c d e:=lE E f154 aF 3 [bM 0 33 [bC a,eF b],bM 1 33 [bC c,eF d],bM 2 33 [bC e,sc (slice none 0 0)]]
theorem start a b c d:aG E f154 aF [D.agg [sc (bool a),ints u64 b],D.agg [sc (bool c),ints u64 d]]=letI A:=some [D.agg [sc (bool false),sc (slice none 0 0)],D.s (sc (int i64 2))];aO (b.length<=1099511627776) (aD (!fY.pS (a,b)) A (aO (d.length<=1099511627776) (aD (!fY.pS (c,d)) A (aHB.J3 a b c d false)))):=eJ aU
theorem fB a b c d e:J3 a b c d e=letI C:=zs (!c) (M6.val d);letI A:=(isNeg C,M6.dg C.natAbs);letI B:=bif fit (wv (a,b)+wv A).natAbs then wv (a,b)+wv A else(0:Int);aO (M6.cI d/\d.length<=1099511627776) (aO (iY (a,b)/\iY A) (some [D.agg [sc (bool (isNeg B)),ints u64 (M6.dg B.natAbs)],D.s (sc (int i64 (bif fit (wv (a,b)+wv A).natAbs then(0:Int)else(5:Int))))])):=cJ aU
def sp(x y:Bool×List Int):Prop×List D:=(iY x/\iY y,wE (fit (wv x-wv y).natAbs) (wv x-wv y))
theorem spec:eR E f154 aF qN qN sp:=by
 rintro x y ⟨hx,hy⟩;refine(start x.1 x.2 y.1 y.2).trans ?_;have l1:=hx.len;have l2:=hy.len;have f1:=fY.mM hx;have f2:=fY.mM hy;have e1:zs (!y.1) (M6.val y.2)=-(wv y):=by unfold wv zs;cases y.1 <;> simp
 have b2:bl (-(wv y)).natAbs<=524288:=by rw[cFM,iT];exact hy.bl
 rw[gP,f1,bZH,bF,gP,f2,bZH,bF,fB,gP ⟨hy.1,by omega⟩,e1,gP ⟨hx,gY b2⟩,tB];rfl
def aJ:dG:=orc2 qN qN sp
theorem ok:OK 154 aJ:=(dZ E aF (aA fY.ok (aA Fa.ok (aA Gw.ok aE))) func154).jR rfl spec
end aHB
namespace aBL
def E:=mE [(154,aHB.aJ),(112,lP.aJ)] 22 [] [] []
def aF:=bd f155
theorem aU:Nk E aF:=nk
theorem start a b d e c:aG E f155 aF [D.agg [sc (bool a),ints u64 b],D.agg [sc (bool d),ints u64 e],D.s (sc (int i64 c))]=letI A:=bif fit (wv (a,b)-wv (d,e)).natAbs then wv (a,b)-wv (d,e)else(0:Int);letI C:=(isNeg A,M6.dg A.natAbs);letI B:=wv C/(↑((2:Nat)^c.toNat):Int);aO (iY (a,b)/\iY (d,e)) (aO (iY C/\0<=c/\c<4611686018427387904) (some [D.agg [sc (bool (isNeg B)),ints u64 (M6.dg B.natAbs)]])):=eJ aU
def sp(x y:Bool×List Int)(n:Int):Prop×List D:=(iY x/\iY y/\fit (wv x-wv y).natAbs=true/\0<=n/\n<4611686018427387904,[wD ((wv x-wv y)/((2^n.toNat:Nat):Int))])
theorem spec:sR E f155 aF qN qN (pN .i64) sp:=by
 rintro x y n ⟨h1,h2,h3,h4,h5⟩;have aYG:fit (wv (x.1,x.2)-wv (y.1,y.2)).natAbs=true:=h3;refine(start x.1 x.2 y.1 y.2 n).trans ?_;rw[gP ⟨h1,h2⟩];simp only[aYG,cond_true,tB];exact gP ⟨gY (zG h3),h4,h5⟩
def aJ:dG:=orc3 qN qN (pN .i64) sp
theorem ok:OK 155 aJ:=(dZ E aF (aA aHB.ok (aA lP.ok aE)) func155).Cq rfl spec
end aBL
namespace aHD
def E:=mE [(104,fY.aJ),(139,Ce.aJ)] 43 [37,42] [(3,[2,3])] [3]
def aF:=bd f193
theorem aU:Nk E aF:=nk
def J3 a b c d:=lE E f193 aF 3 [bM 0 33 [bC a,eF b],bM 1 33 [bC c,eF d]]
theorem start a b c d:aG E f193 aF [D.agg [sc (bool a),ints u64 b],D.agg [sc (bool c),ints u64 d]]=letI A:=some [D.s (sc (int i64 0)),D.s (sc (int i64 2))];aO (b.length<=1099511627776) (aD (!fY.pS (a,b)) A (aO (d.length<=1099511627776) (aD (!fY.pS (c,d)) A (aHD.J3 a b c d)))):=eJ aU
theorem fB a b c d:J3 a b c d=letI C:=sc (int i64 0);letI A:=aD a (aO (M6.bN d/\M6.bN b/\d.length<=1099511627776/\b.length<=1099511627776) (some [D.s (sc (int i64 (iS (M6.val d) (M6.val b)))),D.s C])) (aO (M6.bN b/\M6.bN d/\b.length<=1099511627776/\d.length<=1099511627776) (some [D.s (sc (int i64 (iS (M6.val b) (M6.val d)))),D.s C]));letI B:=aD (!a) (aD c (some [D.s (sc (int i64 1)),D.s C]) A) A;aD a (aD (!c) (some [D.s (sc (int i64 (-1:Int))),D.s C]) B) B:=cJ aU
def cT(a b:Int):Int:=if a<b then -1 else if b<a then 1 else 0
def sp(x y:Bool×List Int):Prop×List D:=(iY x/\iY y,[.s (.sc (.int .i64 (cT (wv x) (wv y)))),.s (.sc (.int .i64 0))])
theorem spec:eR E f193 aF qN qN sp:=by
 rintro x y ⟨hx,hy⟩;refine(start x.1 x.2 y.1 y.2).trans ?_;have l1:=hx.len;have l2:=hy.len;have f1:=fY.mM hx;have f2:=fY.mM hy;have d1:=hx.1.gT;have d2:=hy.1.gT;have z1:=hx.2.1;have z2:=hy.2.1;rw[gP,f1,bZH,bF,gP,f2,bZH,bF,fB];unfold sp cT wv zs;obtain⟨p,a⟩:=x;obtain⟨q,b⟩:=y
 try dsimp only at *
 have g1:M6.bN b/\M6.bN a/\b.length<=1099511627776/\a.length<=1099511627776:=⟨d2,d1,by omega,by omega⟩;have g2:M6.bN a/\M6.bN b/\a.length<=1099511627776/\b.length<=1099511627776:=⟨d1,d2,by omega,by omega⟩;simp only[gP g1,gP g2];cases p with
 |true =>
  have:=z1 rfl;cases q with
  |true =>
   simp only[aD,bZH,cond_true,cond_false];have e:∀z:Int,z=(if -(M6.val a:Int) < -(M6.val b:Int)then -1 else if -(M6.val b:Int) < -(M6.val a:Int)then 1 else 0)->some [D.s (.sc (.int .i64 z)),D.s (.sc (.int .i64 0))]=some [D.s (.sc (.int .i64 (if -(M6.val a:Int) < -(M6.val b:Int)then -1 else if -(M6.val b:Int) < -(M6.val a:Int)then 1 else 0))),D.s (.sc (.int .i64 0))]:=fun z h=>by rw[h]
   refine e _ ?_;unfold iS
   (repeat' split) <;> omega
  |false =>
   simp only[aD,cJB,cond_true,cond_false];rw[aT]
 |false =>
  cases q with
  |true =>
   have:=z2 rfl;simp only[aD,cJB,cond_true,cond_false];rw[bG,aT]
  |false =>
   simp only[aD,cJB,cond_true,cond_false];have e:∀z:Int,z=(if(M6.val a:Int)<(M6.val b:Int)then -1 else if(M6.val b:Int)<(M6.val a:Int)then 1 else 0)->some [D.s (.sc (.int .i64 z)),D.s (.sc (.int .i64 0))]=some [D.s (.sc (.int .i64 (if(M6.val a:Int)<(M6.val b:Int)then -1 else if(M6.val b:Int)<(M6.val a:Int)then 1 else 0))),D.s (.sc (.int .i64 0))]:=fun z h=>by rw[h]
   refine e _ ?_;unfold iS
   (repeat' split) <;> omega
def aJ:dG:=orc2 qN qN sp
theorem ok:OK 193 aJ:=(dZ E aF (aA fY.ok (aA Ce.ok aE)) func193).jR rfl spec
end aHD
namespace sD
def E:=mE [(99,Ir.aJ),(100,Gw.aJ),(193,aHD.aJ)] 39 [] [] []
def aF:=bd f156
theorem aU:Nk E aF:=nk
theorem start a b c d e f:aG E f156 aF [D.agg [sc (bool a),ints u64 b],D.agg [sc (bool c),ints u64 d],D.agg [sc (bool e),ints u64 f]]=letI B:=bif fit (M6.val d*4)then wv (c,d)*4 else(0:Int);aO (iY (c,d)/\(0:Int)<=(2:Int)/\(2:Int)<(4611686018427387904:Int)) (aC (isNeg B) fun g=>aC (M6.dg B.natAbs) fun h=>letI A:=bif fit (wv (false,b)+wv (g,h)).natAbs then wv (false,b)+wv (g,h)else(0:Int);aO (iY (false,b)/\iY (g,h)) (aC (isNeg A) fun i=>aC (M6.dg A.natAbs) fun j=>letI C:=bif fit (M6.val j*2)then wv (i,j)*2 else(0:Int);aO (iY (i,j)/\(0:Int)<=(1:Int)/\(1:Int)<(4611686018427387904:Int)) (aC (isNeg C) fun k=>aC (M6.dg C.natAbs) fun l=>aO (iY (k,l)/\iY (e,f)) (aC (aHD.cT (wv (k,l)) (wv (e,f))) fun m=>some [D.s (sc (bool (decide (m<0))))])))):=eJ aU
theorem aSH{n k:Nat}(h:bl n<=k):bl (n*4)<=k+2:=dX.2 (by rw[cCH];exact cGJ (dX.1 h) (by decide))
theorem Ky{n k:Nat}(h:bl n<=k):bl (n*2)<=k+1:=dX.2 (by rw[cCK];exact cGJ (dX.1 h) (by decide))
theorem Bq{a b:Int}{n k:Nat}(ha:bl a.natAbs<=k)(hb:bl b.natAbs<=k)(hn:n=(a+b).natAbs):bl n<=k+1:=dX.2 (by
 have h1:=dX.1 ha;have h2:=dX.1 hb;rw[cCK];generalize 2^k=Q at *;omega)
def aMV(r off pi:Int):Bool:=decide (aHD.cT (((r.natAbs:Int)+off*4)*2) pi<0)
def sp(x y z:Bool×List Int):Prop×List D:=(iY x/\iY y/\iY z/\0<=wv y/\bl (wv x).natAbs<=524000/\bl (wv y).natAbs<=524000,[.s (.sc (.bool (aMV (wv x) (wv y) (wv z))))])
theorem spec:sR E f156 aF qN qN qN sp:=by
 rintro x y z ⟨h1,h2,h3,h0,b1,b2⟩;refine(start x.1 x.2 y.1 y.2 z.1 z.2).trans ?_;have ex:(x.1,x.2)=x:=rfl;have ey:(y.1,y.2)=y:=rfl;have ez:(z.1,z.2)=z:=rfl;have vy:(wv y).natAbs=M6.val y.2:=iT y;have vx:(wv x).natAbs=M6.val x.2:=iT x;have wx:wv (false,x.2)=(((wv x).natAbs:Nat):Int):=by rw[vx];rfl
 have bQV:iY (false,x.2):=⟨h1.1,fun hf=>(by cases hf),h1.len⟩;have c1:bl (wv y*4).natAbs<=524002:=by
  rw[cDE];exact aSH b2
 have f1:fit (M6.val y.2*4)=true:=decide_eq_true (by
  rw[cDE,vy]at c1;exact bYC c1 (by decide))
 rw[gP ⟨h2,by decide,by decide⟩];simp only[aB,ex,ey,ez,f1,cond_true];have oS:iY (isNeg (wv y*4),M6.dg (wv y*4).natAbs):=gY (bYC c1 (by decide));have c2:bl ((((wv x).natAbs:Nat):Int)+wv y*4).natAbs<=524003:=Bq (k:=524002) (by rw[cDF];exact bYC b1 (by decide)) c1 rfl;have f2:fit ((((wv x).natAbs:Nat):Int)+wv y*4).natAbs=true:=decide_eq_true (bYC c2 (by decide));rw[gP ⟨bQV,oS⟩];simp only[wx,tB,f2,cond_true,M6.bD];have jR:iY (isNeg ((((wv x).natAbs:Nat):Int)+wv y*4),M6.dg ((((wv x).natAbs:Nat):Int)+wv y*4).natAbs):=gY (bYC c2 (by decide));have c3:bl (((((wv x).natAbs:Nat):Int)+wv y*4).natAbs*2)<=524004:=Ky c2;have f3:fit (((((wv x).natAbs:Nat):Int)+wv y*4).natAbs*2)=true:=decide_eq_true (bYC c3 (by decide));rw[gP ⟨jR,by decide,by decide⟩,f3,cond_true,gP ⟨gY (by rw[cDE];exact bYC c3 (by decide)),h3⟩];rfl
def aJ:dG:=orc3 qN qN qN sp
theorem ok:OK 156 aJ:=(dZ E aF (aA Ir.ok (aA Gw.ok (aA aHD.ok aE))) func156).Cq rfl spec
end sD
namespace cH
def E:=mE [(131,yK.aJ),(151,yN.aJ),(152,uE.aJ),(99,Ir.aJ),(153,Ov.aJ),(93,aHC.aJ),(154,aHB.aJ),(100,Gw.aJ),(113,Fe.aJ),(155,aBL.aJ),(156,sD.aJ)] 90 [89] [] []
def aF:=bd f111
theorem aU:Nk E aF:=nk
theorem start a c d b:aG E f111 aF [D.agg [sc (bool a),ints u64 c,sc (int i64 d)],D.s (sc (int i64 b))]=letI U:=(isNeg 3,M6.dg 3);letI C:=d+(↑(bl (M6.val c)):Int);letI B:=i64.wrap (b+match BinOp.gtr with |BinOp.gtr=>if(0:Int)>i64.wrap C then(0:Int)else i64.wrap C |x=>if 0<i64.wrap C then(0:Int)else i64.wrap C)+8;letI A:=i64.wrap (b+if(0:Int)>i64.wrap C then(0:Int)else i64.wrap C)+8;letI P:=uE.aLQ (dv (a,c,d)) (i64.wrap A);letI I:=i64.wrap (i64.wrap A-b)+1;letI Q:=(↑((2:Nat)^(i64.wrap I).toNat):Int);aO (M6.bN c/\c.length<=1099511627776) (aO (1<=i64.wrap A/\i64.wrap A<=70000) (aC (M6.dg (R.pF (i64.wrap A).toNat)) fun e=>letI O:=(false,e);aO (aW (a,c,d)/\(-1099511627776:Int)<=i64.wrap A/\i64.wrap A<=1099511627776/\(0<=(a,c,d).snd.snd+i64.wrap B->fit ((dv (a,c,d)).fst.natAbs*(2:Nat)^((a,c,d).snd.snd+i64.wrap B).toNat)=true)) (aC (isNeg P) fun f=>aC (M6.dg P.natAbs) fun g=>letI N:=bif fit (M6.val g*2)then wv (f,g)*2 else(0:Int);aO (iY (f,g)/\(0:Int)<=(1:Int)/\(1:Int)<(4611686018427387904:Int)) (aC (isNeg N) fun h=>aC (M6.dg N.natAbs) fun i=>letI G:=uC.vT 2 false (M6.val i) (M6.val e);aO (iY (h,i)/\iY O/\wv O≠0/\fit G=true) (aC (isNeg (zs (h !=false) G)) fun j=>aC (M6.dg (zs (h !=false) G).natAbs) fun k=>letI H:=bif fit (wv (j,k)*wv O).natAbs then wv (j,k)*wv O else(0:Int);letI F:=bif fit (wv (false,k)+wv U).natAbs then wv (false,k)+wv U else(0:Int);aO (iY (j,k)/\iY O) (aC (isNeg H) fun l=>aC (M6.dg H.natAbs) fun m=>letI K:=bif fit (wv (h,i)-wv (l,m)).natAbs then wv (h,i)-wv (l,m)else(0:Int);aO (iY (h,i)/\iY (l,m)) (aC (isNeg K) fun n=>aC (M6.dg K.natAbs) fun o=>aO ((-9223372036854775808:Int)<=(3:Int)/\(3:Int)<(9223372036854775808:Int)) (aO (iY (false,k)/\iY U) (aC (isNeg F) fun p=>aC (M6.dg F.natAbs) fun q=>letI T:=wv (n,o)-wv (p,q);aO (iY (n,o)/\iY (p,q)/\fit T.natAbs=true/\0<=i64.wrap I/\i64.wrap I<4611686018427387904) (aC (isNeg (T/Q)) fun r=>aC (M6.dg (T/Q).natAbs) fun s=>aO (iY (n,o)/\iY (p,q)/\iY O/\0<=wv (p,q)/\bl (wv (n,o)).natAbs<=524000/\bl (wv (p,q)).natAbs<=524000) (aC (sD.aMV (wv (n,o)) (wv (p,q)) (wv O)) fun t=>some [D.agg [sc (bool j),ints u64 k],D.agg [sc (bool r),ints u64 s],D.s (sc (bool t))]))))))))))):=eJ aU
def rJ(p:Int×Int):Int:=if 0>p.2+(bl p.1.natAbs:Nat)then 0 else p.2+(bl p.1.natAbs:Nat)
def rG(p:Int×Int)(w:Int):Int:=w+rJ p+8
def rF(p:Int×Int)(w:Int):Nat:=R.pF (rG p w).toNat
def rX(p:Int×Int)(w:Int):Int:=uE.aLQ p (rG p w)*2
def nK(X:Int)(f:Nat):Int:=zs (isNeg X) (uC.vT 2 false X.natAbs f)
def rK(p:Int×Int)(w:Int):Int:=nK (rX p w) (rF p w)
def rR(p:Int×Int)(w:Int):Int:=rX p w-rK p w*(rF p w:Nat)
def rO(p:Int×Int)(w:Int):Int:=((rK p w).natAbs:Nat)+3
def rM(p:Int×Int)(w:Int):Int:=(rR p w-rO p w)/((2^(rG p w-w+1).toNat:Nat):Int)
def sp(x:iW)(w:Int):Prop×List D:=(aW x/\bl (dv x).1.natAbs<=64/\(-1200<=(dv x).2/\(dv x).2<=1200)/\1<=w/\w<=66600,[wD (rK (dv x) w),wD (rM (dv x) w),.s (.sc (.bool (sD.aMV (rR (dv x) w) (rO (dv x) w) (rF (dv x) w:Nat))))])
theorem Db{n k m:Nat}(h:bl n<=m):bl (n*2^k)<=m+k:=dX.2 (by rw[cCH];exact cGJ (dX.1 h) (cAH (by decide)))
theorem aRX(X f:Nat):uC.vT 2 false X f<=X/f+1:=by
 unfold uC.vT;cases qF.qE 2 false (decide (X/f%2=1)) (decide (X%f≠0)) (iS (X%f) (f-X%f)) <;> simp
theorem aCJ{X:Int}{f B:Nat}(hX:bl X.natAbs<=B)(hf:bl f<=B)(hB:2<=B) :
  bl (uC.vT 2 false X.natAbs f)<=B+1/\bl (nK X f*(f:Int)).natAbs<=B+1/\bl (X-nK X f*(f:Int)).natAbs<=B+2/\bl (((nK X f).natAbs:Int)+3).natAbs<=B+2/\bl (X-nK X f*(f:Int)-(((nK X f).natAbs:Int)+3)).natAbs<=B+3:=by
 have h1:=dX.1 hX;have h2:=dX.1 hf;have h3:=aRX X.natAbs f;have h4:X.natAbs/f*f<=X.natAbs:=Nat.div_mul_le_self _ _;have h5:X.natAbs/f<=X.natAbs:=cDK _ _;have h6:uC.vT 2 false X.natAbs f*f<=X.natAbs+f:=bYC (cBK f h3) (by rw[bZU,cBL];omega);have ek:(nK X f).natAbs=uC.vT 2 false X.natAbs f:=nA _ _;have h7:(nK X f*(f:Int)).natAbs<=X.natAbs+f:=by rw[cDE,ek,cDF];exact h6
 have e4:4<=2^B:=bYC (show 4<=2^2 by decide) (cAI (by decide) hB);have p1:2^(B+1)=2*2^B:=by rw[cCK];omega
 have p2:2^(B+2)=4*2^B:=by rw[cCH];omega
 have p3:2^(B+3)=8*2^B:=by rw[cCH];omega
 generalize nK X f*(f:Int)=kf at *;rw[ek];generalize uC.vT 2 false X.natAbs f=d at *;generalize 2^B=Q at *;refine⟨dX.2 ?_,dX.2 ?_,dX.2 ?_,dX.2 ?_,dX.2 ?_⟩
 ·rw[p1];omega
 ·rw[p1];omega
 ·rw[p2];omega
 ·rw[p2];omega
 ·rw[p3];omega
theorem Cp{g:Nat}(hg:g<=136000):bl (R.pF g)<=g+2/\R.pF g≠0:=by
 obtain⟨h1,h2⟩:=R.Fy hg;obtain⟨q1,q2⟩:=R.mR;have hW:(1:Rat)<=((2^g:Nat):Rat):=by exact_mod_cast cAH (by decide)
 constructor
 ·refine dX.2 ?_;rw[cCH];have:(R.pF g:Rat)<((2^g:Nat):Rat)*4:=by
   have:=R.aM (cCL (by decide:(0:Rat)<=1) hW) (show 0<=3142/1000-R.pi by grind);generalize ((2^g:Nat):Rat)=W at *;grind
  exact_mod_cast this
 ·intro h0;rw[h0]at h2;have z:((0:Nat):Rat)=0:=by norm_cast
  rw[z]at h2;have:=R.aM (cCL (by decide:(0:Rat)<=1) hW) (show 0<=R.pi-3 by grind);generalize ((2^g:Nat):Rat)=W at *;grind
theorem aCS{p:Int×Int}{w:Int}(hz:bl p.1.natAbs<=64)(e1:-1200<=p.2)(e2:p.2<=1200)(w1:1<=w)(w2:w<=66600):bl (rM p w).natAbs<=80004/\bl (rK p w).natAbs<=80002:=by
 have t0:0<=rJ p/\rJ p<=1264:=by unfold rJ;split <;> omega
 have g1:1<=rG p w/\rG p w<=70000:=by unfold rG;omega
 have bEK:bl (uE.aLQ p (rG p w)).natAbs<=80000:=by
  unfold uE.aLQ;split
  ·rw[cDE,cDF];exact bYC (Db hz) (by omega)
  ·exact bYC (fW (qI (cAH (by decide)))) (by omega)
 have Xs:bl (rX p w).natAbs<=80001:=by
  unfold rX;rw[cDE];exact sD.Ky bEK
 obtain⟨Fs,F0⟩:=Cp (g:=(rG p w).toNat) (by omega);have hF:R.pF (rG p w).toNat=rF p w:=rfl;rw[hF]at Fs F0;obtain⟨s1,s2,s3,s4,s5⟩:=aCJ (X:=rX p w) (f:=rF p w) (B:=80001) Xs (by omega) (by decide);refine⟨bYC (fW (qI (cAH (by decide)))) s5,?_⟩;show bl (zs _ _).natAbs<=_;rw[nA];exact s1
theorem spec:eR E f111 aF jE (pN .i64) sp:=by
 rintro x w ⟨hx,hz,⟨e1,e2⟩,w1,w2⟩;refine(start x.1 x.2.1 x.2.2 w).trans ?_;have ha:(dv x).1.natAbs=M6.val x.2.1:=iT (x.1,x.2.1);have aDK:x.2.2=(dv x).2:=rfl;have aFT:(x.1,x.2.1,x.2.2)=x:=rfl;have len:=hx.len;unfold sp;dsimp only;simp only[aFT,aDK,<-ha];have hT:rJ (dv x)=if 0>(dv x).2+(bl (dv x).1.natAbs:Nat)then 0 else(dv x).2+(bl (dv x).1.natAbs:Nat):=rfl
 have wt:i64.wrap ((dv x).2+((bl (dv x).1.natAbs:Nat):Int))=(dv x).2+((bl (dv x).1.natAbs:Nat):Int):=wrap_i64;have t0:0<=rJ (dv x)/\rJ (dv x)<=1264:=by rw[hT];split <;> omega
 have t1:(dv x).2+(bl (dv x).1.natAbs:Nat)<=rJ (dv x):=by rw[hT];split <;> omega
 have hG:rG (dv x) w=w+rJ (dv x)+8:=rfl;have wg:i64.wrap (i64.wrap (w+rJ (dv x))+8)=rG (dv x) w:=by rw[wrap_i64 (n:=w+rJ (dv x)),wrap_i64,hG]
 have wl:i64.wrap (i64.wrap (rG (dv x) w-w)+1)=rG (dv x) w-w+1:=by rw[wrap_i64 (n:=rG (dv x) w-w),wrap_i64]
 simp only[wt,<-hT,wg,wl,aB];have g1:1<=rG (dv x) w/\rG (dv x) w<=70000:=by omega
 have bEK:bl (uE.aLQ (dv x) (rG (dv x) w)).natAbs<=80000:=by
  unfold uE.aLQ;split
  ·rw[cDE,cDF];exact bYC (Db hz) (by omega)
  ·exact bYC (fW (qI (cAH (by decide)))) (by omega)
 have Xs:bl (rX (dv x) w).natAbs<=80001:=by
  unfold rX;rw[cDE];exact sD.Ky bEK
 obtain⟨Fs,F0⟩:=Cp (g:=(rG (dv x) w).toNat) (by omega);have hF:R.pF (rG (dv x) w).toNat=rF (dv x) w:=rfl;rw[hF]at Fs F0;obtain⟨s1,s2,s3,s4,s5⟩:=aCJ (X:=rX (dv x) w) (f:=rF (dv x) w) (B:=80001) Xs (by omega) (by decide);have aXN:(0:Int)<=x.2.2+rG (dv x) w->fit ((dv x).1.natAbs*2^(x.2.2+rG (dv x) w).toNat)=true:=fun _=>decide_eq_true (bYC (Db hz) (by omega))
 rw[gP ⟨hx.Fh.gT,by omega⟩,gP g1,gP ⟨hx,by omega,by omega,aXN⟩];have aOR:(x.1,x.2.1,(dv x).2)=x:=rfl;have f1:fit ((uE.aLQ (dv x) (rG (dv x) w)).natAbs*2)=true:=decide_eq_true (bYC (sD.Ky bEK) (by decide));have eX:uE.aLQ (dv x) (rG (dv x) w)*2=rX (dv x) w:=rfl;have eK:zs (isNeg (rX (dv x) w)) (uC.vT 2 false (rX (dv x) w).natAbs (rF (dv x) w))=rK (dv x) w:=rfl;have vN:∀n:Nat,wv (false,M6.dg n)=(n:Int):=fun n=>by show(M6.val (M6.dg n):Int)=n;rw[M6.bD]
 have wN:∀n:Nat,bl n<=524288->iY (false,M6.dg n):=fun n hn=>by
  have:=gY (z:=(n:Int)) (by rw[cDF];exact hn);rw[fH.2 (by omega),cDF]at this;exact this
 have v3:wv (isNeg 3,M6.dg 3)=3:=tB 3;have k3:iY (isNeg 3,M6.dg 3):=gY (z:=3) (by decide +kernel);have kK:(rK (dv x) w).natAbs=uC.vT 2 false (rX (dv x) w).natAbs (rF (dv x) w):=nA _ _;rw[show nK (rX (dv x) w) (rF (dv x) w)=rK (dv x) w from rfl]at s2 s3 s4 s5;have f2:fit (rK (dv x) w*(rF (dv x) w:Nat)).natAbs=true:=decide_eq_true (bYC s2 (by decide));have f3:fit (rX (dv x) w-rK (dv x) w*(rF (dv x) w:Nat)).natAbs=true:=decide_eq_true (bYC s3 (by decide));have f4:fit (((rK (dv x) w).natAbs:Int)+3).natAbs=true:=decide_eq_true (bYC s4 (by decide));have f5:fit (rX (dv x) w-rK (dv x) w*(rF (dv x) w:Nat)-(((rK (dv x) w).natAbs:Int)+3)).natAbs=true:=decide_eq_true (bYC s5 (by decide));simp only[aOR,hF,tB,M6.bD,f1,cond_true,eX,Bool.bne_false,eK,vN,v3,f2,f3,f4];rw[gP ⟨gY (bYC bEK (by decide)),by decide,by decide⟩,gP ⟨gY (bYC Xs (by decide)),wN _ (by omega),by omega,decide_eq_true (bYC s1 (by decide))⟩,
  gP ⟨gY (by rw[kK];exact bYC s1 (by decide)),wN _ (by omega)⟩,gP ⟨gY (bYC Xs (by decide)),gY (bYC s2 (by decide))⟩,gP ⟨by decide,by decide⟩,
  gP ⟨wN _ (by rw[kK];exact bYC s1 (by decide)),k3⟩,gP ⟨gY (bYC s3 (by decide)),gY (bYC s4 (by decide)),f5,by omega,by omega⟩,
  gP ⟨gY (bYC s3 (by decide)),gY (bYC s4 (by decide)),wN _ (by omega),by omega,bYC s3 (by decide),bYC s4 (by decide)⟩]
 rfl
def aJ:dG:=orc2 jE (pN .i64) sp
theorem ok:OK 111 aJ:=(dZ E aF (aA yK.ok (aA yN.ok (aA uE.ok (aA Ir.ok (aA Ov.ok (aA aHC.ok (aA aHB.ok (aA Gw.ok (aA Fe.ok (aA aBL.ok (aA sD.ok aE))))))))))) func111).jR rfl spec
end cH
namespace aSS
def E:=mE [(104,fY.aJ),(133,Bz.aJ),(140,uZ.aJ),(137,Cg.aJ)] 60 [28,50,57] [(3,[2,3,4])] [3]
def aF:=bd f114
theorem aU:Nk E aF:=nk
def J3 a b c d e:=lE E f114 aF 3 [bM 0 33 [bC a,eF b],bM 1 33 [bC c,eF d],bM 2 33 [bC e,sc (slice none 0 0)]]
theorem start a b c d:aG E f114 aF [D.agg [sc (bool a),ints u64 b],D.agg [sc (bool c),ints u64 d]]=letI A:=some [D.agg [sc (bool false),sc (slice none 0 0)],D.s (sc (int i64 2))];aO (b.length<=1099511627776) (aD (!fY.pS (a,b)) A (aO (d.length<=1099511627776) (aD (!fY.pS (c,d)) A (aSS.J3 a b c d false)))):=eJ aU
theorem fB a b c d e:J3 a b c d e=letI A:=M6.dg (M6.val b%M6.val d);letI F:=M6.dg (M6.val d-M6.val A);letI C:=bif (if M6.val d<M6.val A then(3:Int)else(0:Int))==0 then zs c (M6.val F)else(0:Int);letI B:=aO (M6.cI A/\A.length<=1099511627776) (some [D.agg [sc (bool (isNeg (zs c (M6.val A)))),ints u64 (M6.dg (zs c (M6.val A)).natAbs)],D.s (sc (int i64 0))]);aD ((d.length:Int)==(0:Int)) (some [D.agg [sc (bool false),sc (slice none 0 0)],D.s (sc (int i64 4))]) (aO (M6.cI b/\b.length<=8192/\M6.cI d/\1<=d.length/\d.length<=8192) (aD (a !=c) (aD (decide (0<(A.length:Int))) (aO (M6.cI d/\M6.cI A/\d.length<=8192/\A.length<=8192) (aO (M6.cI F/\F.length<=1099511627776) (some [D.agg [sc (bool (isNeg C)),ints u64 (M6.dg C.natAbs)],D.s (sc (int i64 (if M6.val d<M6.val A then(3:Int)else(0:Int))))]))) B) B)):=cJ aU
def sp(x y:Bool×List Int):Prop×List D:=(iY x/\iY y/\y.1=false/\1<=y.2.length,[wD (wv x%wv y),.s (.sc (.int .i64 0))])
theorem spec:eR E f114 aF qN qN sp:=by
 rintro x y ⟨hx,hy,hn,h1⟩;refine(start x.1 x.2 y.1 y.2).trans ?_;have l1:=hx.len;have l2:=hy.len;have f1:=fY.mM hx;have f2:=fY.mM hy;have b2:=hy.bl;obtain⟨p,a⟩:=x;obtain⟨q,b⟩:=y;have n1:M6.cI a:=hx.1;have n2:M6.cI b:=hy.1
 try dsimp only at *
 subst hn;unfold sp
 try dsimp only
 have hz:M6.val b≠0:=fun h=>by have:=(M6.cX n2).2 h;omega
 have hm:=bZR (M6.val a) (show 0<M6.val b by omega);have hl:=gD (n:=M6.val a%M6.val b) (k:=8192) (bYC (fW (cLD hm)) b2);have bGD:=gD (n:=M6.val b-M6.val a%M6.val b) (k:=8192) (bYC (fW (cDX _ _)) b2);have hb:wv (false,b)=(M6.val b:Int):=Hd (x:=(false,b)) rfl;have zf:∀n:Nat,zs false n=(n:Int):=fun n=>rfl
 rw[gP,f1,bZH,bF,gP,f2,bZH,bF,fB,cO,gP ⟨n1,l1,n2,h1,l2⟩];simp only[M6.bD];cases p with
 |false =>
  have ha:wv (false,a)=(M6.val a:Int):=Hd (x:=(false,a)) rfl;rw[show(false !=false)=false from rfl,bF,gP ⟨M6.bA _,by omega⟩,ha,hb,<-cED];rfl
 |true =>
  have ha:wv (true,a)=-(M6.val a:Int):=Rp (x:=(true,a)) rfl;rw[show(true !=false)=true from rfl,bT]
  by_cases hr:M6.val a%M6.val b=0
  ·have e0:-(M6.val a:Int)%(M6.val b:Int)=0:=by
    have bAW:=cCS (M6.val a) (M6.val b);rw[hr,bYI]at bAW;rw[<-bAW,cDY,<-cGW];exact Int.mul_emod_right _ _
   rw[hr,M6.cG,aN (by simp),gP ⟨M6.Ga,by simp⟩,ha,hb,e0];rfl
  ·have hd:(M6.dg (M6.val a%M6.val b)).length≠0:=fun h=>hr (M6.fT.1 h)
   have e0:-(M6.val a:Int)%(M6.val b:Int)=((M6.val b-M6.val a%M6.val b:Nat):Int):=by
    have bAW:=cCS (M6.val a) (M6.val b);have e1:-(M6.val a:Int)=((M6.val b-M6.val a%M6.val b:Nat):Int)+(M6.val b:Int)*(-(((M6.val a/M6.val b+1:Nat)):Int)):=by
     have e2:((M6.val b*(M6.val a/M6.val b)+M6.val a%M6.val b:Nat):Int)=(M6.val a:Int):=by rw[bAW]
     rw[cLF,cDY]at e2;rw[cGW,cLF,Int.mul_add];generalize M6.val a%M6.val b=r at *;generalize (M6.val b:Int)*((M6.val a/M6.val b:Nat):Int)=z at *;omega
    rw[e1,Int.add_mul_emod_self_left];exact Int.emod_eq_of_lt (by omega) (by omega)
   rw[aR,gP ⟨n2,M6.bA _,l2,hl⟩,gP ⟨M6.bA _,by omega⟩,bG,ha,hb,e0];rfl
def aJ:dG:=orc2 qN qN sp
theorem ok:OK 114 aJ:=(dZ E aF (aA fY.ok (aA Bz.ok (aA uZ.ok (aA Cg.ok aE)))) func114).jR rfl spec
end aSS
namespace Fb
def E:=mE [(104,fY.aJ)] 40 [] [(8,[1,4])] [8]
def aF:=bd f115
theorem aU:Nk E aF:=nk
def J8 a b c:=lE E f115 aF 8 [bM 0 33 [bC a,eF b],dM c]
theorem start a b:aG E f115 aF [D.agg [sc (bool a),ints u64 b]]=letI F:=Fb.J8 a b (b.getD 0 0);letI C:=(b.length:Int);letI B:=sc (int i64 0);letI A:=some [D.s B,D.s (sc (int i64 5))];aO (b.length<=1099511627776) (aD (!fY.pS (a,b)) (some [D.s B,D.s (sc (int i64 2))]) (aD (C==(0:Int)) (some [D.s B,D.s B]) (if(0:Int)<=(0:Int)/\0<C then aD (decide (1<C)) A (aD (decide (9223372036854775808<b.getD 0 0)) A (aD (b.getD 0 0==(9223372036854775808:Int)) (aD (!a) A F) F))else none))):=eJ aU
theorem Am a b c:J8 a b c=aD a (some [D.s (sc (int i64 (i64.wrap (u64.wrap ((0:Int)-c))))),D.s (sc (int i64 0))]) (some [D.s (sc (int i64 (i64.wrap c))),D.s (sc (int i64 0))]):=cJ aU
def yX(z:Int):Bool:=decide (-9223372036854775808<=z)&&decide (z<9223372036854775808)
def sp(x:Bool×List Int):Prop×List D:=(iY x,[.s (.sc (.int .i64 (bif yX (wv x)then wv x else 0))),.s (.sc (.int .i64 (bif yX (wv x)then 0 else 5)))])
theorem spec:iD E f115 aF qN sp:=by
 intro x h;have h:iY x:=h;refine(start x.1 x.2).trans ?_;obtain⟨b,a⟩:=x;have hl:a.length<=8192:=h.len;have h1:M6.cI a:=h.1;have g:=h1.gT.get 0;have hf:=fY.mM h
 try dsimp only
 unfold sp
 try dsimp only
 rw[gP,hf,bZH,bF];have yes:∀z:Int,-9223372036854775808<=z->z<9223372036854775808->yX z=true:=fun z h h'=>by unfold yX;rw[decide_eq_true h,decide_eq_true h'];rfl
 have no:∀z:Int,(z < -9223372036854775808\/9223372036854775808<=z)->yX z=false:=fun z h=>by
  unfold yX;rcases h with h |h
  ·rw[decide_eq_false (by omega),cCU]
  ·rw[decide_eq_false (show ¬z<_ by omega),cDB]
 by_cases hz:a.length=0
 ·have hv:=(M6.cX h1).1 hz;have:wv (b,a)=0:=by
   have:=iT (b,a);rw[show M6.val (b,a).2=0 from hv]at this;omega
  rw[cL,this];rfl
 ·rw[cO,if_pos ⟨by omega,by omega⟩];have hvz:M6.val a≠0:=fun h=>hz ((M6.cX h1).2 h)
  have aLL:=iT (b,a)
  try dsimp only at aLL
  by_cases h2:1<a.length
  ·have Ao:18446744073709551616<=M6.val a:=by
    have:=M6.Cx (n:=M6.val a) (k:=1) (by rw[aKC h1];exact h2);omega
   rw[aR,no _ (by omega)];rfl
  ·have hv:M6.val a=(a.getD 0 0).toNat:=by
    have:=M6.bR (a:=a) 0;rw[M6.cA (by omega)]at this;simpa [M6.val] using this
   rw[aN];generalize a.getD 0 0=w at *
   by_cases h3:9223372036854775808<w
   ·rw[aR h3,no _ (by omega)];rfl
   ·rw[aN h3,Am];cases b with
    |true =>
     have hw:wv (true,a)=-(M6.val a:Int):=Rp (x:=(true,a)) rfl;have e1:i64.wrap (u64.wrap (0-w))=wv (true,a):=by rw[hw,gA,It];omega
     rw[yes _ (by omega) (by omega),bZH,bF,bT,e1];unfold aD;cases (w==9223372036854775808) <;> rfl
    |false =>
     have hw:wv (false,a)=(M6.val a:Int):=Hd (x:=(false,a)) rfl;rw[cJB,bT,bF]
     by_cases h4:w=9223372036854775808
     ·rw[cL h4,no _ (by omega)];rfl
     ·rw[cO h4,yes _ (by omega) (by omega),wrap_i64];rw[show w=wv (false,a)from by omega];rfl
def aJ:dG:=orc1 qN sp
theorem ok:OK 115 aJ:=(dZ E aF (aA fY.ok aE) func115).oS rfl spec
end Fb
namespace aQ
def E:=mE [(109,Ur.aJ),(110,uD.aJ),(111,cH.aJ),(112,lP.aJ),(113,Fe.aJ),(100,Gw.aJ),(67,mD.aJ),(114,aSS.aJ),(115,Fb.aJ)] 105 [33,98] [(3,[0,1,5])] [3]
def aF:=bd f69
theorem aU:Nk E aF:=nk
def J3 a b c d e f:=lE E f69 aF 3 [dM a,bK b,bM 2 37 [bC c,sc (slice none 0 0),cV d,bC e,sc (slice none 0 0),cV f]]
theorem start a b:aG E f69 aF [D.s (sc (int u64 a)),D.s (sc (int i64 b))]=letI B:=int i64 0;letI A:=some [D.s (sc B),D.agg [sc (bool false),sc (slice none 0 0),sc B,sc (bool false),sc (slice none 0 0),sc B],D.s (sc (int i64 1))];aD (decide (b<1)) A (aD (decide (68000<b)) A (aQ.J3 a b false 0 false 0)):=eJ aU
theorem fB a b c d e f:J3 a b c d e f=letI O:=int i64 0;letI H:=(isNeg 4,M6.dg 4);letI C:=i64.wrap ((0:Int)-i64.wrap (b+8));letI B:=if(72:Int)>i64.wrap (b+8)then(72:Int)else i64.wrap (b+8);letI P:=B-i64.wrap (b+8);letI A:=bif gX.lO 64 a&&iM.tZ 64 a then bV (gO.wH 64 a) (gO.wZ 64 a)else((0:Int),(0:Int));letI Q:=M6.dg A.fst.natAbs;aO (0<=a/\a<18446744073709551616) (aC (isNeg A.fst) fun g=>aC Q fun h=>aC A.snd fun i=>letI I:=dv (g,h,i);aC (bif gX.lO 64 a then bif iM.tZ 64 a then(0:Int)else(6:Int)else(2:Int)) fun j=>aD (j !=0) (some [D.s (sc O),D.agg [sc (bool false),sc (slice none 0 0),sc O,sc (bool false),sc (slice none 0 0),sc O],D.s (sc (int i64 j))]) (aO (aW (g,h,i)) (aC (uD.aOL I) fun k=>aD k (aO (0<=a/\a<18446744073709551616) (aC (isNeg A.fst) fun l=>aC Q fun m=>aC A.snd fun n=>some [D.s (sc O),D.agg [sc (bool g),ints u64 h,sc (int i64 i),sc (bool l),ints u64 m,sc (int i64 n)],D.s (sc O)])) (aO (aW (g,h,i)/\bl I.fst.natAbs<=64/\((-1200:Int)<=I.snd/\I.snd<=1200)/\(1<=if(72:Int)>i64.wrap (b+8)then(72:Int)else i64.wrap (b+8))/\B<=66600) (aC (isNeg (cH.rK I B)) fun o=>aC (M6.dg (cH.rK I B).natAbs) fun p=>aC (isNeg (cH.rM I B)) fun q=>aC (M6.dg (cH.rM I B).natAbs) fun r=>letI K:=wv (q,r)/(↑((2:Nat)^(i64.wrap P).toNat):Int);aO (iY (q,r)/\0<=i64.wrap P/\i64.wrap P<4611686018427387904) (aC (isNeg K) fun s=>aC (M6.dg K.natAbs) fun t=>letI N:=bif fit (wv (s,t)+wv H).natAbs then wv (s,t)+wv H else(0:Int);letI F:=bif jD (wv (s,t)) C then bV (wv (s,t)) C else((0:Int),(0:Int));aO ((-9223372036854775808:Int)<=(4:Int)/\(4:Int)<(9223372036854775808:Int)) (aO (iY (s,t)/\iY H) (aC (isNeg N) fun u=>aC (M6.dg N.natAbs) fun v=>letI G:=bif jD (wv (u,v)) C then bV (wv (u,v)) C else((0:Int),(0:Int));aO (iY (s,t)/\(-9223372036854775808:Int)<=i64.wrap ((0:Int)-i64.wrap (b+8))/\i64.wrap ((0:Int)-i64.wrap (b+8))<9223372036854775808) (aC (isNeg F.fst) fun w=>aC (M6.dg F.fst.natAbs) fun x=>aC F.snd fun y=>aO (iY (u,v)/\(-9223372036854775808:Int)<=i64.wrap ((0:Int)-i64.wrap (b+8))/\i64.wrap ((0:Int)-i64.wrap (b+8))<9223372036854775808) (aC (isNeg G.fst) fun z=>aC (M6.dg G.fst.natAbs) fun aa=>aC G.snd fun ab=>aO ((-9223372036854775808:Int)<=(4:Int)/\(4:Int)<(9223372036854775808:Int)) (aO (iY (o,p)/\iY H/\isNeg 4=false/\1<=(M6.dg 4).length) (aC (isNeg (wv (o,p)%wv H)) fun ac=>aC (M6.dg (wv (o,p)%wv H).natAbs) fun ad=>aO (iY (ac,ad)) (aC (bif Fb.yX (wv (ac,ad))then wv (ac,ad)else(0:Int)) fun ae=>some [D.s (sc (int i64 ae)),D.agg [sc (bool w),ints u64 x,sc (int i64 y),sc (bool z),ints u64 aa,sc (int i64 ab)],D.s (sc O)]))))))))))))):=cJ aU
def kQ(b:Int):Int×Int:=bV (gO.wH 64 b) (gO.wZ 64 b)
def cW(p:Int):Int:=if 72>p+8 then 72 else p+8
def cM(x:Int×Int)(p:Int):Int:=cH.rM x (cW p)/((2^(cW p-(p+8)).toNat:Nat):Int)
def cQ(x:Int×Int)(p:Int):Int:=bif uD.aOL x then 0 else cH.rK x (cW p)%4
def Ap(x:Int×Int)(p:Int):Int×Int:=bif uD.aOL x then x else bV (cM x p) (-(p+8))
def Aq(x:Int×Int)(p:Int):Int×Int:=bif uD.aOL x then x else bV (cM x p+4) (-(p+8))
def sp(b p:Int):Prop×List D:=((0<=b/\b<18446744073709551616)/\gX.lO 64 b=true/\iM.tZ 64 b=true/\(1<=p/\p<=66590)/\mU (kQ b)/\bl (kQ b).1.natAbs<=64/\-1200<=(kQ b).2/\(kQ b).2<=1200,[.s (.sc (.int .i64 (cQ (kQ b) p))),Dn (Ap (kQ b) p) (Aq (kQ b) p),.s (.sc (.int .i64 0))])
theorem aEU{z:Int}{k:Nat}(h:bl z.natAbs<=k)(hk:3<=k):bl (z+4).natAbs<=k+1:=sD.Bq h (by rw[show(4:Int).natAbs=4 from rfl,show bl 4=3 from rfl];exact hk) rfl
theorem spec:eR E f69 aF (pN .u64) (pN .i64) sp:=by
 rintro b p ⟨hb,hp,hf,⟨p1,p2⟩,hx,hz,e1,e2⟩;refine(start b p).trans ?_;unfold sp cQ Ap Aq;dsimp only;have eb:(bif gX.lO 64 b&&iM.tZ 64 b then bV (gO.wH 64 b) (gO.wZ 64 b)else(0,0))=kQ b:=by rw[hp,hf];rfl
 have ee:(bif gX.lO 64 b then(bif iM.tZ 64 b then 0 else 6)else 2:Int)=0:=by rw[hp,hf];rfl
 have dk:=eI hx;have dc:=gF (kQ b);rw[aN,aN,fB,gP hb];simp only[aB,eb,ee,dc];rw[gG rfl,gP dk];cases hs:uD.aOL (kQ b)with
 |true =>
  rw[cond_true,cond_true,cond_true];show aO _ _=_;rw[gP hb];rfl
 |false =>
  rw[cond_false,cond_false,cond_false];show aO _ _=_;have w8:i64.wrap (p+8)=p+8:=wrap_i64;have eW:(if 72>p+8 then 72 else p+8)=cW p:=rfl;have hW:1<=cW p/\cW p<=66600/\p+8<=cW p:=by unfold cW;split <;> omega
  have wd:i64.wrap (cW p-(p+8))=cW p-(p+8):=wrap_i64;have w0:i64.wrap (0-(p+8))=-(p+8):=by rw[wrap_i64];omega
  obtain⟨sM,sK⟩:=cH.aCS (p:=kQ b) (w:=cW p) hz e1 e2 hW.1 hW.2.1;have v4:wv (isNeg 4,M6.dg 4)=4:=tB 4;have k4:iY (isNeg 4,M6.dg 4):=gY (z:=4) (by decide +kernel);have eM:cH.rM (kQ b) (cW p)/((2^(cW p-(p+8)).toNat:Nat):Int)=cM (kQ b) p:=rfl;have sC:bl (cM (kQ b) p).natAbs<=80004:=bYC (fW (qI (cAH (by decide)))) sM;have bMR:=aEU sC (by decide);have f4:fit (cM (kQ b) p+4).natAbs=true:=decide_eq_true (bYC bMR (by decide));have i1:jD (cM (kQ b) p) (-(p+8))=true:=mS (by omega) (by omega);have i2:jD (cM (kQ b) p+4) (-(p+8))=true:=mS (by omega) (by omega);have m4:0<=cH.rK (kQ b) (cW p)%4/\cH.rK (kQ b) (cW p)%4<4:=by omega
  have sm:Fb.yX (cH.rK (kQ b) (cW p)%4)=true:=by
   unfold Fb.yX;simp only[bXN,decide_eq_true_eq];omega
  have b3:bl (cH.rK (kQ b) (cW p)%4).natAbs<=3:=dX.2 (by have:(2:Nat)^3=8:=rfl;omega);have l4:(M6.dg 4).length=1:=by decide +kernel
  simp only[w8,eW,wd,w0,tB,v4,eM,f4,i1,i2,sm,cond_true];rw[gP ⟨dk,hz,⟨e1,e2⟩,hW.1,hW.2.1⟩,gP ⟨gY (bYC sM (by decide)),by omega,by omega⟩,gP ⟨by decide,by decide⟩,gP ⟨gY (bYC sC (by decide)),k4⟩,
   gP ⟨gY (bYC sC (by decide)),by omega,by omega⟩,gP ⟨gY (bYC bMR (by decide)),by omega,by omega⟩,gP ⟨by decide,by decide⟩,
   gP ⟨gY (bYC sK (by decide)),k4,by decide,by omega⟩,gP (gY (bYC b3 (by decide)))]
  rfl
def aJ:dG:=orc2 (pN .u64) (pN .i64) sp
theorem ok:OK 69 aJ:=(dZ E aF (aA Ur.ok (aA uD.ok (aA cH.ok (aA lP.ok (aA Fe.ok (aA Gw.ok (aA mD.ok (aA aSS.ok (aA Fb.ok aE))))))))) func69).jR rfl spec
end aQ
end W
namespace M
open Go AI W
theorem aGO{u v:Nat}(hv:0<v):2*u<=2*(uC.vT 2 false u v*v)+v/\2*(uC.vT 2 false u v*v)<=2*u+v:=by
 have hd:=cCS u v;have hm:=bZR u hv;have hc:v*(u/v)=u/v*v:=Nat.mul_comm _ _;unfold uC.vT qF.qE
 by_cases h:v-u%v<=u%v
 ·cases hb:(bif (2:Int)==0 then false&&decide (u%v≠0)else bif (2:Int)==1 then !false&&decide (u%v≠0)else(decide (0<iS (u%v) (v-u%v))||(iS (u%v) (v-u%v)==0&&decide (u/v%2=1))))with
  |true=>rw[cond_true,bZU,cBL];omega
  |false =>
   rw[cond_false,bYI];have Dq:¬0<iS (u%v) (v-u%v):=by
    intro hh;rw[decide_eq_true hh]at hb
    revert hb
    simp
   have:u%v<=v-u%v:=by
    unfold iS at Dq;split at Dq
    ·omega
    ·split at Dq <;> omega
   omega
 ·have e:iS (u%v) (v-u%v)=-1:=by unfold iS;rw[aT]
  rw[e];have hb:(bif (2:Int)==0 then false&&decide (u%v≠0)else bif (2:Int)==1 then !false&&decide (u%v≠0)else(decide ((0:Int) < -1)||((-1:Int)==0&&decide (u/v%2=1))))=false:=by
   cases decide (u/v%2=1) <;> rfl
  rw[hb,cond_false,bYI];omega
theorem aQN{X:Int}{f:Nat}(hf:0<f):-(f:Rat)<=2*((X:Rat)-(cH.nK X f:Rat)*(f:Rat))/\2*((X:Rat)-(cH.nK X f:Rat)*(f:Rat))<=(f:Rat):=by
 obtain⟨d1,d2⟩:=aGO (u:=X.natAbs) hf;have h:-(f:Int)<=2*(X-cH.nK X f*(f:Int))/\2*(X-cH.nK X f*(f:Int))<=(f:Int):=by
  have bWG:2*(X.natAbs:Int)<=2*((uC.vT 2 false X.natAbs f:Nat)*(f:Int))+f:=by exact_mod_cast d1
  have bWF:2*((uC.vT 2 false X.natAbs f:Nat)*(f:Int))<=2*(X.natAbs:Int)+f:=by exact_mod_cast d2
  unfold cH.nK;generalize uC.vT 2 false X.natAbs f=d at *;cases hb:isNeg X with
  |true =>
   have:X<0:=jL.1 hb;have e:zs true d*(f:Int)=-((d:Int)*(f:Int)):=by show -(d:Int)*_=_;rw[cHK]
   rw[e];generalize (d:Int)*(f:Int)=P at *;omega
  |false =>
   have:0<=X:=fH.1 hb;have e:zs false d*(f:Int)=(d:Int)*(f:Int):=rfl;rw[e];generalize (d:Int)*(f:Int)=P at *;omega
 obtain⟨h1,h2⟩:=h;constructor
 ·have:((-(f:Int):Int):Rat)<=((2*(X-cH.nK X f*(f:Int)):Int):Rat):=by exact_mod_cast h1
  rw[cIX,cEV,cLB,cEV,cEW]at this;exact this
 ·have:((2*(X-cH.nK X f*(f:Int)):Int):Rat)<=((f:Int):Rat):=by exact_mod_cast h2
  rw[cEV,cLB,cEV,cEW]at this;exact this
theorem aIL{q:Rat}{a b:Int}(h1:R.pz a<=q)(h2:q<R.pz (a+1))(h3:R.pz b<=q)(h4:q<R.pz (b+1)):a=b:=by
 have:R.pz a<R.pz (b+1):=by grind
 have:=R.xR.1 this;have:R.pz b<R.pz (a+1):=by grind
 have:=R.xR.1 this;omega
theorem aVI{p q:Int×Int}(hp:p.1≠0)(h:R.qz p=R.qz q):bI p=bI q:=by
 have hq:q.1≠0:=Gb (by rw[<-h];exact aTL hp);obtain⟨a,b⟩:=nR hp;obtain⟨c,d⟩:=nR hq;rw[h]at a b;exact aIL a b c d
structure Up(z e:Int):Prop where
 z0:z≠0
 z1:z.natAbs<9007199254740992
 e0:-1074<=e
 e1:e<=971
theorem La(z:Int):R.ab (z:Rat)=(z.natAbs:Rat):=by
 unfold R.ab
 by_cases hz:0<=z
 ·rw[if_pos (by exact_mod_cast hz),<-cEW];congr 1;omega
 ·rw[if_neg (by intro hc;exact hz (by exact_mod_cast hc)),<-cEW,<-cIX];congr 1;omega
theorem aCI(p:Int×Int):uD.aOL p=decide (R.ab (R.qz p)<=3/4):=by
 unfold uD.aOL;have e:R.qz (3,-2)=3/4:=by
  unfold R.qz;dsimp only;rw[show(-2:Int)=-((2:Nat):Int) by rfl,R.vJ];have h3:R.hf 2=1/4:=by simp[R.hf];grind
  have:((3:Int):Rat)=3:=by norm_cast
  rw[h3,this];grind
 by_cases h:R.ab (R.qz p)<=3/4
 ·rw[decide_eq_true h];refine decide_eq_true (lC.2 ?_);rw[Eh,e];exact h
 ·rw[decide_eq_false h];refine decide_eq_false fun hc=>h ?_
  have:=lC.1 hc;rwa [Eh,e]at this
structure aBI(x:Int×Int):Prop where
 rB:mU x
 ne:x.1≠0
 bl:bl x.1.natAbs<=53
 t0:-1074<=bI x
 t1:bI x<=1023
 e0:-1074<=x.2
 e1:x.2<=1023
 fit:R.Fit (R.qz x)
 aGV:¬R.ab (R.qz x)<=3/4->-53<=x.2/\R.bBH (R.qz x)
theorem aMJ{z e:Int}(h:Up z e):aBI (bV z e):=by
 obtain⟨z0,z1,e0,e1⟩:=h;have bz:bl z.natAbs<=53:=dX.2 (by have:(2:Nat)^53=9007199254740992:=rfl;omega);have b0:=oO (n:=z.natAbs) (by omega);have q:=rL z e;have q':R.qz (bV z e)=R.qz (z,e):=q;have ne:(bV z e).1≠0:=fun hz=>z0 (sT.1 hz)
 have tt:=aVI ne q';have t':bI (z,e)=e+(bl z.natAbs:Nat)-1:=rfl;have ge:=wM (e:=e) z0;have bb:=Cr z e;have b1:=oO (n:=(bV z e).1.natAbs) (by omega);have te:bI (bV z e)=(bV z e).2+(bl (bV z e).1.natAbs:Nat)-1:=rfl;have rB:mU (bV z e):=jQ (mS (by omega) (by omega)) (by omega);have num:¬R.ab (R.qz (bV z e))<=3/4->-53<=e/\R.bBH (R.qz (bV z e)):=by
  intro hb;have he:-53<=e:=by
   refine Int.not_lt.1 fun hn=>hb ?_
   have h2:=(nR (p:=(z,e)) z0).2;have:R.pz (bI (z,e)+1)<=R.pz (-1):=R.cN (by omega);have p1:R.pz (-1)*2=1:=by
    have:=R.pW 0;rw[R.fA]at this;exact this
   rw[q'];grind
  refine⟨he,(z.natAbs:Int),e,by omega,by omega,he,e1,?_⟩;rw[q',cEW,<-La];show(z:Rat)*R.pz e=_\/(z:Rat)*R.pz e=_;unfold R.ab;split
  ·left;rfl
  ·right;grind
 refine⟨rB,ne,by omega,by omega,by omega,by omega,by omega,?_,fun hb=>⟨by have:=(num hb).1;omega,(num hb).2⟩⟩
 by_cases c:R.ab (R.qz (bV z e))<=3/4
 ·exact Or.inr c
 ·exact Or.inl (num c).2
theorem aPZ{G q K f M P W p:Rat}(hG:G=W*(256*P))(P1:1<=P)(W1:1<=W)(aq:R.ab q<=P)(f0:0<=f)(f1:f<=G*p)(f2:G*p<f+1)(p1:314159/100000<p)(p2:p<314160/100000)
  (n1:-f<=2*(2*(G*q)-K*f)) (n2:2*(2*(G*q)-K*f)<=f) (m1:M*(512*P)<=2*(G*q)-K*f-(R.ab K+3)) (m2:2*(G*q)-K*f-(R.ab K+3)<(M+1)*(512*P)) :
  M<=W*(q-K*(p/2))/\W*(q-K*(p/2))<=M+2/\W*R.ab (q-K*(p/2))<=W*(p/4)+1:=by
 have WP:=R.aM (show 0<=W-1 by grind) (show 0<=P-1 by grind);have G1:256<=G:=by rw[hG];grind
 have Gp:=R.aM (show 0<=G by grind) (show 0<=p-314159/100000 by grind);have bXG:=R.aM (show 0<=G by grind) (show 0<=314160/100000-p by grind);have f3:3*G<=f:=by grind
 have f4:f<=4*G:=by grind
 have k0:=R.bB K;have eX:R.ab (2*(G*q))=2*(G*R.ab q):=by
  rw[R.eA,R.eA,R.bW (show(0:Rat)<=2 by grind),R.bW (show 0<=G by grind)]
 have eK:R.ab (K*f)=R.ab K*f:=by rw[R.eA,R.bW f0]
 have bWW:R.ab K*f<=2*(G*R.ab q)+f/2:=by
  rw[<-eK,<-eX];have a1:=R.Ah (2*(G*q));have a2:=R.mG (2*(G*q));rw[R.dJ];constructor <;> grind
 have g1:=R.aM (show 0<=G by grind) (show 0<=P-R.ab q by grind);have g2:=R.aM k0 (show 0<=f-3*G by grind);have aK:3*R.ab K<=2*P+2:=by
  refine R.bP (q:=G) (by grind) ?_;grind
 have kd:R.ab (K*(G*p-f))<=R.ab K:=by
  rw[R.eA,R.bW (show 0<=G*p-f by grind)];have:=R.aM k0 (show 0<=1-(G*p-f) by grind);grind
 rw[R.dJ]at kd;have e2:2*(G*q)-K*f-K*(G*p-f)=512*P*(W*(q-K*(p/2))):=by rw[hG];grind
 have P0:0<512*P:=by grind
 refine⟨?_,?_,?_⟩
 ·refine R.bP P0 ?_;rw[<-e2];generalize K*(G*p-f)=Z at *;grind
 ·refine R.bP P0 ?_;rw[<-e2];generalize K*(G*p-f)=Z at *;grind
 ·refine R.bP P0 ?_;have e3:512*P*(W*R.ab (q-K*(p/2)))=R.ab (512*P*(W*(q-K*(p/2)))):=by
   rw[R.eA (512*P),R.eA W,R.bW (cCJ P0),R.bW (show 0<=W by grind)]
  rw[e3,<-e2,R.dJ];have e4:512*P*(W*(p/4)+1)=G*p/2+512*P:=by rw[hG];grind
  rw[e4];generalize K*(G*p-f)=Z at *;constructor <;> grind
structure aZM(x:Int×Int)(w k:Int):Prop where
 Mo:R.oY (R.qz x) k
 q:aQ.cQ x w=k%4
 pl:mU (aQ.Ap x w)
 ph:mU (aQ.Aq x w)
 lo:R.qz (aQ.Ap x w)<=R.qz x-(k:Rat)*(R.pi/2)
 hi:R.qz x-(k:Rat)*(R.pi/2)<=R.qz (aQ.Aq x w)
 wd:R.qz (aQ.Aq x w)-R.qz (aQ.Ap x w)<=R.pz (57-w)*R.ab (R.qz x-(k:Rat)*(R.pi/2))
 rg:R.pz (-1074)<=R.ab (R.qz x-(k:Rat)*(R.pi/2))
theorem uO{x:Int×Int}{w:Int}(hx:aBI x)(hw:64<=w/\w<=66590):∃k,aZM x w k:=by
 obtain⟨q1,q2⟩:=R.mR
 by_cases c:R.ab (R.qz x)<=3/4
 ·have sm:uD.aOL x=true:=by rw[aCI,decide_eq_true c]
  have k0:((0:Int):Rat)=0:=by norm_cast
  have dL:aQ.Ap x w=x:=by unfold aQ.Ap;rw[sm];rfl
  have dH:aQ.Aq x w=x:=by unfold aQ.Aq;rw[sm];rfl
  have er:R.qz x-((0:Int):Rat)*(R.pi/2)=R.qz x:=by rw[k0];grind
  refine⟨0,?_,by unfold aQ.cQ;rw[sm];rfl,by rw[dL];exact hx.rB,by rw[dH];exact hx.rB,by rw[dL,er];exact cDM,by rw[dH,er];exact cDM,?_,?_⟩
  ·unfold R.oY;rw[er];grind
  ·rw[dL,dH,er];have:=R.aM (cCJ (R.cY (57-w))) (R.bB (R.qz x));grind
  ·rw[er];have:=(nR hx.ne).1;have:=R.cN hx.t0;grind
 ·have sm:uD.aOL x=false:=by rw[aCI,decide_eq_false c]
  obtain⟨e53,num⟩:=hx.aGV c;have hb:=hx.bl;have aOW:=hx.e1;obtain⟨sM,sK⟩:=cH.aCS (p:=x) (w:=aQ.cW w) (by omega) (by omega) (by omega) (by unfold aQ.cW;split <;> omega) (by unfold aQ.cW;split <;> omega);have eW:aQ.cW w=w+8:=by unfold aQ.cW;split <;> omega
  have hM:aQ.cM x w=cH.rM x (w+8):=by
   unfold aQ.cM;rw[eW,show w+8-(w+8)=0 by omega];show cH.rM x (w+8)/((2^(0:Int).toNat:Nat):Int)=_;rw[show(2^(0:Int).toNat:Nat)=1 by rfl];omega
  have hQ:aQ.cQ x w=cH.rK x (w+8)%4:=by unfold aQ.cQ;rw[sm,eW];rfl
  have dL:aQ.Ap x w=bV (cH.rM x (w+8)) (-(w+8)):=by unfold aQ.Ap;rw[sm,hM];rfl
  have dH:aQ.Aq x w=bV (cH.rM x (w+8)+4) (-(w+8)):=by unfold aQ.Aq;rw[sm,hM];rfl
  rw[eW]at sM sK;have hT:cH.rJ x=if 0>bI x+1 then 0 else bI x+1:=by
   unfold cH.rJ bI;rw[show x.2+((M.bl x.1.natAbs:Nat):Int)-1+1=x.2+((M.bl x.1.natAbs:Nat):Int) by omega]
  have t1:=hx.t1;have T0:0<=cH.rJ x/\bI x+1<=cH.rJ x/\cH.rJ x<=1024:=by rw[hT];split <;> omega
  have hG:cH.rG x (w+8)=w+8+cH.rJ x+8:=rfl;obtain⟨g,hg⟩:=cCM (show 0<=cH.rG x (w+8) by omega);have hX:(cH.rX x (w+8):Rat)=2*(R.pz (cH.rG x (w+8))*R.qz x):=by
   unfold cH.rX uE.aLQ;rw[aT];obtain⟨n,hn⟩:=cCM (show 0<=x.2+cH.rG x (w+8) by omega);rw[hn,cBF,cEV,cEV,cEW];have e1:((2^n:Nat):Rat)=R.pz x.2*R.pz (cH.rG x (w+8)):=by rw[<-R.iG,hn,R.iF]
   rw[e1];unfold R.qz;have:((2:Int):Rat)=2:=by norm_cast
   rw[this];grind
  obtain⟨f1,f2⟩:=R.Fy (q:=(cH.rG x (w+8)).toNat) (by omega);have f0:=(cH.Cp (g:=(cH.rG x (w+8)).toNat) (by omega)).2;have hF:R.pF (cH.rG x (w+8)).toNat=cH.rF x (w+8):=rfl;rw[hF]at f0 f1 f2;have eG:((2^(cH.rG x (w+8)).toNat:Nat):Rat)=R.pz (cH.rG x (w+8)):=by rw[hg,cBF,R.iF]
  rw[eG]at f1 f2;obtain⟨n1,n2⟩:=aQN (X:=cH.rX x (w+8)) (f:=cH.rF x (w+8)) (by omega);have hK:cH.nK (cH.rX x (w+8)) (cH.rF x (w+8))=cH.rK x (w+8):=rfl;rw[hK]at n1 n2;have hR:(cH.rR x (w+8):Rat)=(cH.rX x (w+8):Rat)-(cH.rK x (w+8):Rat)*(cH.rF x (w+8):Rat):=by
   unfold cH.rR;rw[cLB,cEV,cEW]
  have hO:(cH.rO x (w+8):Rat)=R.ab (cH.rK x (w+8):Rat)+3:=by
   unfold cH.rO;rw[cIY,cEW,La];have:((3:Int):Rat)=3:=by norm_cast
   rw[this]
  have hS:cH.rG x (w+8)-(w+8)+1=cH.rJ x+9:=by omega
  have bVH:cH.rM x (w+8)=(cH.rR x (w+8)-cH.rO x (w+8))/((2^(cH.rJ x+9).toNat:Nat):Int):=by
   show(cH.rR x (w+8)-cH.rO x (w+8))/((2^(cH.rG x (w+8)-(w+8)+1).toNat:Nat):Int)=_;rw[hS]
  obtain⟨m1,m2⟩:=yE (z:=cH.rR x (w+8)-cH.rO x (w+8)) (k:=(cH.rJ x+9).toNat);rw[<-bVH,cLB]at m1 m2;obtain⟨s,hs⟩:=cCM (show 0<=cH.rJ x+9 by omega);have eS:((2^(cH.rJ x+9).toNat:Nat):Rat)=512*R.pz (cH.rJ x):=by
   rw[hs,cBF,<-R.iF,<-hs];have:=R.dT (cH.rJ x) 9;have n9:((2^9:Nat):Rat)=512:=by norm_cast
   rw[n9]at this;rw[show cH.rJ x+9=cH.rJ x+((9:Nat):Int) by rfl,this];grind
  rw[eS]at m1 m2;have bVY:R.pz (cH.rG x (w+8))=R.pz (w+8)*(256*R.pz (cH.rJ x)):=by
   rw[hG,R.iG,R.iG];have:R.pz 8=256:=by rw[show(8:Int)=((8:Nat):Int) by rfl,R.iF];norm_cast
   rw[this];grind
  have P1:1<=R.pz (cH.rJ x):=by rw[<-R.fA];exact R.cN (by omega)
  have aq:R.ab (R.qz x)<=R.pz (cH.rJ x):=by
   have:=(nR hx.ne).2;have:=R.cN T0.2.1;grind
  have bWY:(4722366482869645213696:Rat)<=R.pz (w+8):=by
   have:=R.cN (show(72:Int)<=w+8 by omega);have e:R.pz 72=4722366482869645213696:=by rw[show(72:Int)=((72:Nat):Int) by rfl,R.iF];norm_cast
   rw[e]at this;grind
  rw[hR,hO,hX]at m1 m2;rw[hX]at n1 n2;have F0:(0:Rat)<=(cH.rF x (w+8):Rat):=by exact_mod_cast cCR _
  obtain⟨r1,r2,r3⟩:=aPZ bVY P1 (by grind) aq F0 f1 f2 q1 q2 n1 n2 m1 m2;have Wi:=R.Ma (w+8);have Wp:=R.cY (-(w+8));have v:=R.aJR num (cH.rK x (w+8));have i1:jD (cH.rM x (w+8)) (-(w+8))=true:=mS (by omega) (by omega);have s4:M.bl (cH.rM x (w+8)+4).natAbs<=80010:=by
   have:=aQ.aEU sM (by decide);omega
  have i2:jD (cH.rM x (w+8)+4) (-(w+8))=true:=mS (by omega) (by omega);have vL:R.qz (aQ.Ap x w)=(cH.rM x (w+8):Rat)*R.pz (-(w+8)):=by rw[dL,rL]
  have vH:R.qz (aQ.Aq x w)=(cH.rM x (w+8):Rat)*R.pz (-(w+8))+4*R.pz (-(w+8)):=by
   rw[dH,rL,cIY];have:((4:Int):Rat)=4:=by norm_cast
   rw[this];grind
  have p63:R.pz (57-w)*(1/9223372036854775808)=4*R.pz (-(w+8)):=by
   have:=R.gE (57-w) (n:=65) (c:=36893488147419103232) (by norm_cast);rw[show 57-w-((65:Nat):Int)=-(w+8) by omega]at this;grind
  have mm:=R.aM (cCJ (R.cY (57-w))) (show 0<=R.ab (R.qz x-(cH.rK x (w+8):Rat)*(R.pi/2))-1/9223372036854775808 by grind);have bCE:R.oY (R.qz x) (cH.rK x (w+8)):=by
   unfold R.oY;generalize R.ab (R.qz x-(cH.rK x (w+8):Rat)*(R.pi/2))=a at *;have u:=R.aM (cCJ Wp) (show 0<=R.pz (w+8)*(R.pi/4)+1-R.pz (w+8)*a by grind);have u3:R.pz (-(w+8))*(R.pz (w+8)*a)=a:=by rw[<-cEU,cIU (R.pz (-(w+8))),Wi];grind
   have u4:R.pz (-(w+8))*(R.pz (w+8)*(R.pi/4))=R.pi/4:=by rw[<-cEU,cIU (R.pz (-(w+8))),Wi];grind
   have l65:R.pz (-(w+8))<=R.pz (-65):=R.cN (by omega);have bWA:=R.gE 0 (n:=65) (c:=36893488147419103232) (by norm_cast);rw[R.fA,show(0:Int)-((65:Nat):Int)=-65 by rfl]at bWA;grind
  obtain⟨r,hr⟩:∃r,r=R.qz x-(cH.rK x (w+8):Rat)*(R.pi/2):=⟨_,rfl⟩;rw[<-hr]at r1 r2 r3 v mm;have u1:=R.aM (cCJ Wp) (show 0<=R.pz (w+8)*r-(cH.rM x (w+8):Rat) by grind);have u2:=R.aM (cCJ Wp) (show 0<=(cH.rM x (w+8):Rat)+2-R.pz (w+8)*r by grind);have u3:R.pz (-(w+8))*(R.pz (w+8)*r)=r:=by rw[<-cEU,cIU (R.pz (-(w+8))),Wi];grind
  refine⟨cH.rK x (w+8),?_,hQ,by rw[dL];exact jQ i1 (by omega),by rw[dH];exact jQ i2 (by omega),?_,?_,?_,?_⟩
  ·exact bCE
  ·rw[vL,<-hr];grind
  ·rw[vH,<-hr];grind
  ·rw[vH,vL,<-hr];grind
  ·rw[<-hr];have p64:R.pz (-1074)<=R.pz (-63):=R.cN (by omega);have bEN:=R.gE 0 (n:=63) (c:=9223372036854775808) (by norm_cast);rw[R.fA,show(0:Int)-((63:Nat):Int)=-63 by rfl]at bEN;grind
end M
namespace AI
open Go Go.RowKit
def t2{β:Type}(x y:β):Nat->β
 |0=>x
 |_+1=>y
def t4{β:Type}(x y z u:β):Nat->β
 |0=>x
 |1=>y
 |2=>z
 |_+3=>u
def bMU{β:Type}(p:SPar β)(d:β):oH (β) where
 put x:=.rows p.n 1 fun _=>p.put x
 get
  | .rows sz n g=>if n=1/\sz=p.n then(p.get (g 0)).bind fun x=>some x else none
  |_=>none
 le:=by
  intro dd x h
  match dd,h with
  | .rows sz n g,h =>
   dsimp only at h;split at h
   ·rename_i hc;obtain⟨rfl,hc⟩:=hc;simp only[bZQ]at h;obtain⟨y0,h0,h⟩:=h;cases h;have En:allB 1 (fun i=>(p.get (g i)).isSome)=true:=by simp[allB,h0]
    have e:=(pR p d).le (d:=.rows sz 1 g) (x:=(1,fun i=>(p.get (g i)).getD d)) (if_pos ⟨hc,En⟩);rintro Y w v hv;obtain⟨A,c,e1,e2,e3⟩:=e Y w v hv;refine⟨A,c,e1,e2,fun i hi=>?_⟩;have e4:=e3 i hi;obtain rfl:i=0:=by omega
    dsimp only at e4;rw[h0]at e4;exact e4
   ·cases h
def aHI{β:Type}(p:SPar β)(d:β):oH (β×β) where
 put x:=.rows p.n 2 fun i=>p.put (t2 x.1 x.2 i)
 get
  | .rows sz n g=>if n=2/\sz=p.n then(p.get (g 0)).bind fun x=>(p.get (g 1)).bind fun y=>some (x,y)else none
  |_=>none
 le:=by
  intro dd x h
  match dd,h with
  | .rows sz n g,h =>
   dsimp only at h;split at h
   ·rename_i hc;obtain⟨rfl,hc⟩:=hc;simp only[bZQ]at h;obtain⟨y0,h0,y1,h1,h⟩:=h;cases h;have En:allB 2 (fun i=>(p.get (g i)).isSome)=true:=by simp[allB,h0,h1]
    have e:=(pR p d).le (d:=.rows sz 2 g) (x:=(2,fun i=>(p.get (g i)).getD d)) (if_pos ⟨hc,En⟩);rintro Y w v hv;obtain⟨A,c,e1,e2,e3⟩:=e Y w v hv;refine⟨A,c,e1,e2,fun i hi=>?_⟩;have e4:=e3 i hi;obtain rfl |rfl:i=0\/i=1:=by omega
    ·dsimp only at e4;rw[h0]at e4;exact e4
    ·dsimp only at e4;rw[h1]at e4;exact e4
   ·cases h
end AI
namespace W
open Go AI M
namespace Bw
def E:=mE [] 9 [] [] []
def aF:=bd f85
theorem aU:Nk E aF:=nk
theorem start a:aG E f85 aF [D.s (sc (int i64 a))]=aD (decide (1<=a)) (some [D.s (sc (bool (decide (a<=70000))))]) (some [D.s (sc (bool false))]):=eJ aU
def sp(p:Int):Prop×List D:=(True,[.s (.sc (.bool (decide (1<=p)&&decide (p<=70000))))])
theorem spec:iD E f85 aF (pN .i64) sp:=by
 intro p h;refine(start p).trans ?_;unfold sp aD;cases (decide ((1:Int)<=p)) <;> rfl
def aJ:dG:=orc1 (pN .i64) sp
theorem ok:OK 85 aJ:=(dZ E aF aE func85).oS rfl spec
end Bw
namespace zU
def E:=mE [(85,Bw.aJ),(46,tI.aJ)] 20 [] [(4,[10,11,12])] []
def aF:=bd f48
theorem aU:Nk E aF:=nk
def L4(a:Nat)(b:Nat->Bool)(c:Nat->List Int)(d:Nat->Int)(e:Nat->Bool)(f:Nat->List Int)(g:Nat->Int) x7 h:=nN E f48 aF 4 [(A.v (V.one (L.rows 6 a fun i=>[sc (bool (b i)),ints u64 (c i),sc (int i64 (d i)),sc (bool (e i)),ints u64 (f i),sc (int i64 (g i))])),none),bK x7,bK h]
theorem start p (a:vF) (b:vF):aG E f48 aF [D.s (sc (int i64 p)),D.rows 6 2 fun i=>[sc (bool (t2 a b i).fst),ints u64 (t2 a b i).snd.fst,sc (int i64 (t2 a b i).snd.snd.fst),sc (bool (t2 a b i).snd.snd.snd.fst),ints u64 (t2 a b i).snd.snd.snd.snd.fst,sc (int i64 (t2 a b i).snd.snd.snd.snd.snd)]]=aO True (aD (!(decide (1<=p)&&decide (p<=70000))) (some [D.s (sc (int i64 1))]) (zU.L4 2 (fun i=>(t2 a b i).fst) (fun i=>(t2 a b i).snd.fst) (fun i=>(t2 a b i).snd.snd.fst) (fun i=>(t2 a b i).snd.snd.snd.fst) (fun i=>(t2 a b i).snd.snd.snd.snd.fst) (fun i=>(t2 a b i).snd.snd.snd.snd.snd) 2 0)):=eJ aU
theorem kV a b c d e f g h j:L4 a b c d e f g h j=aD (decide (j<h)) (if 0<=j/\j<(a:Int)then aO (dR (b j.toNat,c j.toNat,d j.toNat,e j.toNat,f j.toNat,g j.toNat)) (zU.L4 a (fun i=>b i) (fun i=>c i) (fun i=>d i) (fun i=>e i) (fun i=>f i) (fun i=>g i) h (i64.wrap (j+1)))else none) (some [D.s (sc (int i64 0))]):=lJ aU
def sp(p:Int)(a:vF×vF):Prop×List D:=(dR a.1/\dR a.2,[.s (.sc (.int .i64 (if 1<=p/\p<=70000 then 0 else 1)))])
theorem L(n:Nat)(f:Nat->vF)(hn:n<=1000)(hf:∀i,i<n->dR (f i)):∀d k:Nat,k+d=n->L4 n (fun i=>(f i).1) (fun i=>(f i).2.1) (fun i=>(f i).2.2.1) (fun i=>(f i).2.2.2.1) (fun i=>(f i).2.2.2.2.1) (fun i=>(f i).2.2.2.2.2) (n:Int) (k:Int)=some [D.s (.sc (.int .i64 0))]
 |0,k,h=>by rw[kV,aN]
 |d+1,k,h=>by
  have e:i64.wrap ((k:Int)+1)=((k+1:Nat):Int):=by rw[wrap_i64];omega
  rw[kV,aR,aT,cBF,gP (hf k (by omega)),e];exact L n f hn hf d (k+1) (by omega)
theorem spec:eR E f48 aF (pN .i64) (aHI (.pair sB (.pair (sI .u64) (.pair (sN .i64) (.pair sB (.pair (sI .u64) (sN .i64)))))) (false,[],0,false,[],0)) sp:=by
 intro p a h;have hf:∀i,i<2->dR (t2 a.1 a.2 i):=fun i hi=>by
  obtain rfl |rfl:i=0\/i=1:=by omega
  ·exact h.1
  ·exact h.2
 refine(start p a.1 a.2).trans ((gP trivial).trans ?_);unfold sp
 by_cases hp:1<=p/\p<=70000
 ·rw[if_pos hp,decide_eq_true hp.1,decide_eq_true hp.2];exact L 2 (fun i=>t2 a.1 a.2 i) (by decide) hf 2 0 (by omega)
 ·rw[if_neg hp];have:(decide (1<=p)&&decide (p<=70000))=false:=by
   rw[cII,decide_eq_false_iff_not,decide_eq_false_iff_not];omega
  rw[this];rfl
def aJ:dG:=orc2 (pN .i64) (aHI (.pair sB (.pair (sI .u64) (.pair (sN .i64) (.pair sB (.pair (sI .u64) (sN .i64)))))) (false,[],0,false,[],0)) sp
theorem ok:OK 48 aJ:=(dZ E aF (aA Bw.ok (aA tI.ok aE)) func48).jR rfl spec
end zU
namespace Ev
def E:=mE [(49,By.aJ)] 6 [5] [] []
def aF:=bd f47
theorem aU:Nk E aF:=nk
theorem start a b c:aG E f47 aF [D.agg [sc (bool a),ints u64 b,sc (int i64 c)]]=aO (aW (a,b,c)/\aW (false,[],(0:Int))) (some [D.s (sc (int i64 (dQ (dv (a,b,c)) (dv (false,[],Int.ofNat (nat_lit 0))))))]):=eJ aU
def sp(x:iW):Prop×List D:=(aW x,[.s (.sc (.int .i64 (dQ (dv x) (0,0))))])
theorem bHN:aW (false,[],0):=⟨⟨M6.Ga,fun h=>Bool.noConfusion h,by simp⟩,by constructor <;> decide,fun _=>rfl,fun h=>(h rfl).elim⟩
theorem spec:iD E f47 aF jE sp:=by
 intro x h;exact(start x.1 x.2.1 x.2.2).trans (gP ⟨h,bHN⟩)
def aJ:dG:=orc1 jE sp
theorem ok:OK 47 aJ:=(dZ E aF (aA By.ok aE) func47).oS rfl spec
end Ev
namespace eQ
def E:=mE [(46,tI.aJ),(47,Ev.aJ)] 18 [] [] []
def aF:=bd f19
theorem aU:Nk E aF:=nk
theorem start a b c d e f:aG E f19 aF [D.agg [sc (bool a),ints u64 b,sc (int i64 c),sc (bool d),ints u64 e,sc (int i64 f)]]=letI A:=sc (int i64 0);aO (dR (a,b,c,d,e,f)) (aO (aW (d,e,f)) (aD (decide (dQ (dv (d,e,f)) ((0:Int),(0:Int))<0)) (some [D.s (sc (int i64 (-1:Int))),D.s A]) (aO (aW (a,b,c)) (aD (decide (0<dQ (dv (a,b,c)) ((0:Int),(0:Int)))) (some [D.s (sc (int i64 1)),D.s A]) (some [D.s A,D.s A]))))):=eJ aU
def sE(a b:Int×Int):Int:=if dQ b (0,0)<0 then -1 else if 0<dQ a (0,0)then 1 else 0
def sp(s:vF):Prop×List D:=(dR s,[.s (.sc (.int .i64 (sE (dv (fL s)) (dv (fO s))))),.s (.sc (.int .i64 0))])
theorem spec:iD E f19 aF tN sp:=by
 intro s h;have h:dR s:=h;have hL:aW (s.1,s.2.1,s.2.2.1):=h.1;have hH:aW (s.2.2.2.1,s.2.2.2.2.1,s.2.2.2.2.2):=h.2.1;refine(start s.1 s.2.1 s.2.2.1 s.2.2.2.1 s.2.2.2.2.1 s.2.2.2.2.2).trans ?_;unfold sp sE
 try dsimp only
 rw[gP h,gP hH];show aD (decide (dQ (dv (fO s)) (0,0)<0)) _ _=_
 by_cases c1:dQ (dv (fO s)) (0,0)<0
 ·rw[aR c1,if_pos c1]
 ·rw[aN c1,if_neg c1,gP hL];show aD (decide (0<dQ (dv (fL s)) (0,0))) _ _=_
  by_cases c2:0<dQ (dv (fL s)) (0,0)
  ·rw[aR c2,if_pos c2]
  ·rw[aN c2,if_neg c2]
def aJ:dG:=orc1 tN sp
theorem ok:OK 19 aJ:=(dZ E aF (aA tI.ok (aA Ev.ok aE)) func19).oS rfl spec
end eQ
namespace Pe
def E:=mE [(92,cP.aJ)] 14 [11] [] []
def aF:=bd f54
theorem aU:Nk E aF:=nk
theorem start a b d e f g c:aG E f54 aF [D.agg [sc (bool a),ints u64 b,sc (int i64 d)],D.agg [sc (bool e),ints u64 f,sc (int i64 g)],D.s (sc (int i64 c))]=letI A:=cP.sJ false c (dv (a,b,d)) (dv (e,f,g));letI B:=bif jD A.fst A.snd then bV A.fst A.snd else((0:Int),(0:Int));aO (aW (a,b,d)/\aW (e,f,g)/\(dv (e,f,g)).fst≠0/\b.length<=4096/\f.length<=4096/\1<=c/\c<=70000) (some [D.agg [sc (bool (isNeg B.fst)),ints u64 (M6.dg B.fst.natAbs),sc (int i64 B.snd)],D.s (sc (int i64 (bif jD A.fst A.snd then(0:Int)else(5:Int))))]):=eJ aU
def sp(x y:iW)(p:Int):Prop×List D:=(aW x/\aW y/\(dv y).1≠0/\x.2.1.length<=4096/\y.2.1.length<=4096/\1<=p/\p<=70000,dE (jD (cP.sJ false p (dv x) (dv y)).1 (cP.sJ false p (dv x) (dv y)).2) (bV (cP.sJ false p (dv x) (dv y)).1 (cP.sJ false p (dv x) (dv y)).2))
theorem spec:sR E f54 aF jE jE (pN .i64) sp:=by
 intro x y p h;refine(start x.1 x.2.1 x.2.2 y.1 y.2.1 y.2.2 p).trans ((gP h).trans ?_);rfl
def aJ:dG:=orc3 jE jE (pN .i64) sp
theorem ok:OK 54 aJ:=(dZ E aF (aA cP.ok aE) func54).Cq rfl spec
end Pe
namespace aBK
def E:=mE [(92,cP.aJ)] 14 [11] [] []
def aF:=bd f55
theorem aU:Nk E aF:=nk
theorem start a b d e f g c:aG E f55 aF [D.agg [sc (bool a),ints u64 b,sc (int i64 d)],D.agg [sc (bool e),ints u64 f,sc (int i64 g)],D.s (sc (int i64 c))]=letI A:=cP.sJ true c (dv (a,b,d)) (dv (e,f,g));letI B:=bif jD A.fst A.snd then bV A.fst A.snd else((0:Int),(0:Int));aO (aW (a,b,d)/\aW (e,f,g)/\(dv (e,f,g)).fst≠0/\b.length<=4096/\f.length<=4096/\1<=c/\c<=70000) (some [D.agg [sc (bool (isNeg B.fst)),ints u64 (M6.dg B.fst.natAbs),sc (int i64 B.snd)],D.s (sc (int i64 (bif jD A.fst A.snd then(0:Int)else(5:Int))))]):=eJ aU
def sp(x y:iW)(p:Int):Prop×List D:=(aW x/\aW y/\(dv y).1≠0/\x.2.1.length<=4096/\y.2.1.length<=4096/\1<=p/\p<=70000,dE (jD (cP.sJ true p (dv x) (dv y)).1 (cP.sJ true p (dv x) (dv y)).2) (bV (cP.sJ true p (dv x) (dv y)).1 (cP.sJ true p (dv x) (dv y)).2))
theorem spec:sR E f55 aF jE jE (pN .i64) sp:=by
 intro x y p h;refine(start x.1 x.2.1 x.2.2 y.1 y.2.1 y.2.2 p).trans ((gP h).trans ?_);rfl
def aJ:dG:=orc3 jE jE (pN .i64) sp
theorem ok:OK 55 aJ:=(dZ E aF (aA cP.ok aE) func55).Cq rfl spec
end aBK
namespace Yd
def E:=mE [] 23 [] [] []
def aF:=bd f56
theorem aU:Nk E aF:=nk
theorem start a c e b f g h d:aG E f56 aF [D.agg [sc (bool a),ints u64 c,sc (int i64 e)],D.s (sc (int i64 b)),D.agg [sc (bool f),ints u64 g,sc (int i64 h)],D.s (sc (int i64 d))]=letI B:=int i64 0;letI A:=some [D.agg [sc (bool false),sc (slice none 0 0),sc B,sc (bool false),sc (slice none 0 0),sc B],D.s (sc (int i64 (if d>b then d else b)))];aD (b !=0) A (aD (d !=0) A (some [D.agg [sc (bool a),ints u64 c,sc (int i64 e),sc (bool f),ints u64 g,sc (int i64 h)],D.s (sc B)])):=eJ aU
def sp(x:iW)(e:Int)(y:iW)(f:Int):Prop×List D:=(e=0/\f=0,[.agg [.sc (.bool x.1),.ints .u64 x.2.1,.sc (.int .i64 x.2.2),.sc (.bool y.1),.ints .u64 y.2.1,.sc (.int .i64 y.2.2)],.s (.sc (.int .i64 0))])
theorem spec:Ud E f56 aF jE (pN .i64) jE (pN .i64) sp:=by
 rintro x e y f ⟨rfl,rfl⟩;exact start x.1 x.2.1 x.2.2 0 y.1 y.2.1 y.2.2 0
def aJ:dG:=orc4 jE (pN .i64) jE (pN .i64) sp
theorem ok:OK 56 aJ:=(dZ E aF aE func56).aQH rfl spec
end Yd
namespace iQ
def E:=mE [(48,zU.aJ),(19,eQ.aJ),(22,kD.aJ),(47,Ev.aJ),(54,Pe.aJ),(55,aBK.aJ),(56,Yd.aJ)] 86 [21,83] [(11,[2,3,4,6]),(14,[2,3,4,6,11,12]),(16,[2,3,6,11,12])] [11,14,16]
def aF:=bd f23
theorem aU:Nk E aF:=nk
def Jw a b c d e f g h i j k l m n o p q:=lE E f23 aF 11 [bK a,bM 1 37 [bC b,eF c,cV d,bC e,eF f,cV g],bM 2 37 [bC h,eF i,cV j,bC k,eF l,cV m],bM 3 37 [bC n,sc (slice none 0 0),cV o,bC p,sc (slice none 0 0),cV q]]
def aSV a b c d e f g h i j k l m n o p q r s t u v w:=lE E f23 aF 14 [bK a,bM 1 37 [bC b,eF c,cV d,bC e,eF f,cV g],bM 2 37 [bC h,eF i,cV j,bC k,eF l,cV m],bM 3 37 [bC n,sc (slice none 0 0),cV o,bC p,sc (slice none 0 0),cV q],bM 4 35 [bC r,eF s,cV t],bM 5 35 [bC u,eF v,cV w]]
def aST a b c d e f g h i j k l m n o p q:=lE E f23 aF 16 [bK a,bM 1 37 [bC b,eF c,cV d,bC e,eF f,cV g],bM 2 37 [bC h,sc (slice none 0 0),cV i,bC j,sc (slice none 0 0),cV k],bM 3 35 [bC l,eF m,cV n],bM 4 35 [bC o,eF p,cV q]]
theorem start a b d e f g h i j k l m c:aG E f23 aF [D.agg [sc (bool a),ints u64 b,sc (int i64 d),sc (bool e),ints u64 f,sc (int i64 g)],D.agg [sc (bool h),ints u64 i,sc (int i64 j),sc (bool k),ints u64 l,sc (int i64 m)],D.s (sc (int i64 c))]=letI I:=int i64 0;letI F:=bool false;letI C:=slice none 0 0;letI B:=(a,b,d,e,f,g);letI N:=dv (fL B);letI K:=dv (fO B);letI A:=(h,i,j,k,l,m);letI H:=dv (fO A);letI G:=dv (fL A);aO (dR B/\dR A) (aC (if 1<=c/\c<=70000 then(0:Int)else(1:Int)) fun n=>aD (n !=0) (some [D.agg [sc F,sc C,sc I,sc F,sc C,sc I],D.s (sc (int i64 n))]) (aO (dR A) (aC (eQ.sE G H) fun o=>aD (o==0) (some [D.agg [sc F,sc C,sc I,sc F,sc C,sc I],D.s (sc (int i64 4))]) (aD (o==(-1:Int)) (aO (dR B) (aC (isNeg (-K.fst)) fun p=>aC (M6.dg (-K.fst).natAbs) fun q=>aC K.snd fun r=>aC (isNeg (-N.fst)) fun s=>aC (M6.dg (-N.fst).natAbs) fun t=>aC N.snd fun u=>aO (dR A) (aC (isNeg (-H.fst)) fun v=>aC (M6.dg (-H.fst).natAbs) fun w=>aC H.snd fun x=>aC (isNeg (-G.fst)) fun y=>aC (M6.dg (-G.fst).natAbs) fun z=>aC G.snd fun aa=>iQ.Jw c p q r s t u v w x y z aa false 0 false 0))) (iQ.Jw c a b d e f g h i j k l m false 0 false 0))))):=eJ aU
theorem wA a b c d e f g h i j k l m n o p q:Jw a b c d e f g h i j k l m n o p q=aO (aW (b,c,d)) (aC (dQ (dv (b,c,d)) ((0:Int),(0:Int))) fun r=>aD (decide (r<0)) (iQ.aSV a b c d e f g h i j k l m n o p q h i j h i j) (iQ.aSV a b c d e f g h i j k l m n o p q k l m h i j)):=cJ aU
theorem Uk a b c d e f g h i j k l m n o p q r s t u v w:aSV a b c d e f g h i j k l m n o p q r s t u v w=aO (aW (e,f,g)) (aC (dQ (dv (e,f,g)) ((0:Int),(0:Int))) fun x=>aD (decide (x<0)) (iQ.aST a b c d e f g n o p q r s t k l m) (iQ.aST a b c d e f g n o p q r s t u v w)):=cJ aU
theorem aBF a b c d e f g h i j k l m n o p q:aST a b c d e f g h i j k l m n o p q=letI B:=cP.sJ true a (dv (e,f,g)) (dv (o,p,q));letI F:=bif jD B.fst B.snd then bV B.fst B.snd else((0:Int),(0:Int));letI A:=cP.sJ false a (dv (b,c,d)) (dv (l,m,n));letI C:=bif jD A.fst A.snd then bV A.fst A.snd else((0:Int),(0:Int));aO (aW (b,c,d)/\aW (l,m,n)/\(dv (l,m,n)).fst≠0/\c.length<=4096/\m.length<=4096/\1<=a/\a<=70000) (aC (isNeg C.fst) fun r=>aC (M6.dg C.fst.natAbs) fun s=>aC C.snd fun t=>aC (bif jD A.fst A.snd then(0:Int)else(5:Int)) fun u=>aO (aW (e,f,g)/\aW (o,p,q)/\(dv (o,p,q)).fst≠0/\f.length<=4096/\p.length<=4096/\1<=a/\a<=70000) (aC (isNeg F.fst) fun v=>aC (M6.dg F.fst.natAbs) fun w=>aC F.snd fun x=>aC (bif jD B.fst B.snd then(0:Int)else(5:Int)) fun y=>aO (u=0/\y=0) (some [D.agg [sc (bool r),ints u64 s,sc (int i64 t),sc (bool v),ints u64 w,sc (int i64 x)],D.s (sc (int i64 0))]))):=cJ aU
def aFF(p:Int)(a u v:Int×Int):Int×Int:=cP.sJ false p a (bif decide (dQ a (0,0)<0)then u else v)
def aFG(p:Int)(a u v:Int×Int):Int×Int:=cP.sJ true p a (bif decide (dQ a (0,0)<0)then v else u)
def Jo(p:Int)(a b u v:Int×Int):Int×Int:=bif eQ.sE u v==-1 then aFF p (kD.wI b) (kD.wI v) (kD.wI u)else aFF p a u v
def Jp(p:Int)(a b u v:Int×Int):Int×Int:=bif eQ.sE u v==-1 then aFG p (kD.wI a) (kD.wI v) (kD.wI u)else aFG p b u v
def sp(s t:vF)(p:Int):Prop×List D:=(dR s/\dR t/\(1<=p/\p<=70000)/\eQ.sE (dv (fL t)) (dv (fO t))≠0 /\
 (bl (dv (fL s)).1.natAbs<=262144/\bl (dv (fO s)).1.natAbs<=262144/\bl (dv (fL t)).1.natAbs<=262144/\bl (dv (fO t)).1.natAbs<=262144) /\
 jD (Jo p (dv (fL s)) (dv (fO s)) (dv (fL t)) (dv (fO t))).1 (Jo p (dv (fL s)) (dv (fO s)) (dv (fL t)) (dv (fO t))).2=true/\jD (Jp p (dv (fL s)) (dv (fO s)) (dv (fL t)) (dv (fO t))).1 (Jp p (dv (fL s)) (dv (fO s)) (dv (fL t)) (dv (fO t))).2=true,
 [Dn (bV (Jo p (dv (fL s)) (dv (fO s)) (dv (fL t)) (dv (fO t))).1 (Jo p (dv (fL s)) (dv (fO s)) (dv (fL t)) (dv (fO t))).2) (bV (Jp p (dv (fL s)) (dv (fO s)) (dv (fL t)) (dv (fO t))).1 (Jp p (dv (fL s)) (dv (fO s)) (dv (fL t)) (dv (fO t))).2),.s (.sc (.int .i64 0))])
theorem J{p:Int}(hp:1<=p/\p<=70000){x y u v:iW}(hx:aW x)(hy:aW y)(hu:aW u)(hv:aW v)(u0:(dv u).1≠0)(v0:(dv v).1≠0)(lx:x.2.1.length<=4096)(ly:y.2.1.length<=4096)(lu:u.2.1.length<=4096)(lv:v.2.1.length<=4096)
  (i1:jD (aFF p (dv x) (dv u) (dv v)).1 (aFF p (dv x) (dv u) (dv v)).2=true) (i2:jD (aFG p (dv y) (dv u) (dv v)).1 (aFG p (dv y) (dv u) (dv v)).2=true) :
  Jw p x.1 x.2.1 x.2.2 y.1 y.2.1 y.2.2 u.1 u.2.1 u.2.2 v.1 v.2.1 v.2.2 false 0 false 0=some [Dn (bV (aFF p (dv x) (dv u) (dv v)).1 (aFF p (dv x) (dv u) (dv v)).2) (bV (aFG p (dv y) (dv u) (dv v)).1 (aFG p (dv y) (dv u) (dv v)).2),.s (.sc (.int .i64 0))]:=by
 have fin:∀m n:iW,aW m->aW n->(dv m).1≠0->(dv n).1≠0->m.2.1.length<=4096->n.2.1.length<=4096->jD (cP.sJ false p (dv x) (dv m)).1 (cP.sJ false p (dv x) (dv m)).2=true->jD (cP.sJ true p (dv y) (dv n)).1 (cP.sJ true p (dv y) (dv n)).2=true ->
   aST p x.1 x.2.1 x.2.2 y.1 y.2.1 y.2.2 false 0 false 0 m.1 m.2.1 m.2.2 n.1 n.2.1 n.2.2=some [Dn (bV (cP.sJ false p (dv x) (dv m)).1 (cP.sJ false p (dv x) (dv m)).2) (bV (cP.sJ true p (dv y) (dv n)).1 (cP.sJ true p (dv y) (dv n)).2),.s (.sc (.int .i64 0))]:=by
  intro m n hm hn m0 n0 lm ln j1 j2;have x1:(x.1,x.2.1,x.2.2)=x:=rfl;have x2:(y.1,y.2.1,y.2.2)=y:=rfl;have x3:(m.1,m.2.1,m.2.2)=m:=rfl;have x4:(n.1,n.2.1,n.2.2)=n:=rfl;rw[aBF];simp only[aB,x1,x2,x3,x4,j1,j2,cond_true];rw[gP ⟨hx,hm,m0,lx,lm,hp.1,hp.2⟩,gP ⟨hy,hn,n0,ly,ln,hp.1,hp.2⟩,gP ⟨trivial,trivial⟩];rfl
 unfold aFF aFG at *;rw[wA,gP hx,aB]
 by_cases c1:dQ (dv x) (0,0)<0
 ·rw[show dv (x.1,x.2.1,x.2.2)=dv x from rfl,aR c1,Uk,gP hy,aB,show dv (y.1,y.2.1,y.2.2)=dv y from rfl];rw[decide_eq_true c1,cond_true]at i1 ⊢
  by_cases c2:dQ (dv y) (0,0)<0
  ·rw[aR c2];rw[decide_eq_true c2,cond_true]at i2 ⊢;exact fin u v hu hv u0 v0 lu lv i1 i2
  ·rw[aN c2];rw[decide_eq_false c2,cond_false]at i2 ⊢;exact fin u u hu hu u0 u0 lu lu i1 i2
 ·rw[show dv (x.1,x.2.1,x.2.2)=dv x from rfl,aN c1,Uk,gP hy,aB,show dv (y.1,y.2.1,y.2.2)=dv y from rfl];rw[decide_eq_false c1,cond_false]at i1 ⊢
  by_cases c2:dQ (dv y) (0,0)<0
  ·rw[aR c2];rw[decide_eq_true c2,cond_true]at i2 ⊢;exact fin v v hv hv v0 v0 lv lv i1 i2
  ·rw[aN c2];rw[decide_eq_false c2,cond_false]at i2 ⊢;exact fin v u hv hu v0 u0 lv lu i1 i2
theorem cell{q:Int×Int}(h:mU q)(hb:bl q.1.natAbs<=262144):(isNeg q.1,M6.dg q.1.natAbs,q.2).2.1.length<=4096:=by
 have:=eI h;refine this.fD ?_;rw[gF];exact hb
theorem spec:sR E f23 aF tN tN (pN .i64) sp:=by
 rintro s t p ⟨h1,h2,hp,hs,⟨l1,l2,l3,l4⟩,i1,i2⟩;refine(start s.1 s.2.1 s.2.2.1 s.2.2.2.1 s.2.2.2.2.1 s.2.2.2.2.2 t.1 t.2.1 t.2.2.1 t.2.2.2.1 t.2.2.2.2.1 t.2.2.2.2.2 p).trans ?_;rw[gP ⟨h1,h2⟩,aB,if_pos hp,gG rfl,gP h2,aB];unfold sp;have n1:(dv (fL t)).1≠0:=fun hz=>by
  have:=Da.1 (Cj hz);have o:=lC.1 h2.2.2;unfold eQ.sE at hs
  by_cases g:dQ (dv (fO t)) (0,0)<0
  ·have:=zL.1 g;grind
  ·rw[if_neg g,if_neg (by rw[Cj hz];omega)]at hs;exact hs rfl
 have n2:(dv (fO t)).1≠0:=fun hz=>by
  have:=Da.1 (Cj hz);have o:=lC.1 h2.2.2;unfold eQ.sE at hs;rw[if_neg (by rw[Cj hz];omega)]at hs
  by_cases g:0<dQ (dv (fL t)) (0,0)
  ·have:=uY.1 g;grind
  ·rw[if_neg g]at hs;exact hs rfl
 show aD (eQ.sE (dv (fL t)) (dv (fO t))==0) _ _=_;rw[cO hs];have p1:=h1.1.rB;have p2:=h1.2.1.rB;have p3:=h2.1.rB;have p4:=h2.2.1.rB;unfold Jo Jp at *
 by_cases c:eQ.sE (dv (fL t)) (dv (fO t))=-1
 ·rw[show(eQ.sE (dv (fL t)) (dv (fO t))==-1)=true from beq_iff_eq.2 c,cond_true]at i1 i2;show aD (eQ.sE (dv (fL t)) (dv (fO t))==-1) _ _=_;rw[cL c,gP h1];simp only[aB];rw[gP h2];rw[show(eQ.sE (dv (fL t)) (dv (fO t))==-1)=true from beq_iff_eq.2 c,cond_true,cond_true];have e:=J hp (eI p2.Hr) (eI p1.Hr) (eI p4.Hr) (eI p3.Hr);rw[gF,gF,gF,gF]at e;dsimp only at e;exact e (by omega) (by omega) (cell p2.Hr (by dsimp only;rw[cFM];exact l2)) (cell p1.Hr (by dsimp only;rw[cFM];exact l1)) (cell p4.Hr (by dsimp only;rw[cFM];exact l4)) (cell p3.Hr (by dsimp only;rw[cFM];exact l3)) i1 i2
 ·rw[show(eQ.sE (dv (fL t)) (dv (fO t))==-1)=false from beq_eq_false_iff_ne.2 c,cond_false]at i1 i2;show aD (eQ.sE (dv (fL t)) (dv (fO t))==-1) _ _=_;rw[cO c];rw[show(eQ.sE (dv (fL t)) (dv (fO t))==-1)=false from beq_eq_false_iff_ne.2 c,cond_false,cond_false];exact J hp h1.1 h1.2.1 h2.1 h2.2.1 n1 n2 (h1.1.fD l1) (h1.2.1.fD l2) (h2.1.fD l3) (h2.2.1.fD l4) i1 i2
def aJ:dG:=orc3 tN tN (pN .i64) sp
theorem ok:OK 23 aJ:=(dZ E aF (aA zU.ok (aA eQ.ok (aA kD.ok (aA Ev.ok (aA Pe.ok (aA aBK.ok (aA Yd.ok aE))))))) func23).Cq rfl spec
end iQ
namespace VTurned
def E:=mE [(22,kD.aJ)] 29 [16] [(2,[3,4,6,7,11,12])] []
def aF:=bd f72
theorem aU:Nk E aF:=nk
def L2 a b c d e f g h i j k l m n o p q r s t u v:=nN E f72 aF 2 [bM 0 37 [bC a,eF b,cV c,bC d,eF e,cV f],bM 1 37 [bC g,eF h,cV i,bC j,eF k,cV l],bM 2 37 [bC m,sc (slice none 0 0),cV n,bC o,sc (slice none 0 0),cV p],bM 3 37 [bC q,sc (slice none 0 0),cV r,bC s,sc (slice none 0 0),cV t],bK u,bK v]
theorem start a b d e f g h i j k l m c:aG E f72 aF [D.agg [sc (bool a),ints u64 b,sc (int i64 d),sc (bool e),ints u64 f,sc (int i64 g)],D.agg [sc (bool h),ints u64 i,sc (int i64 j),sc (bool k),ints u64 l,sc (int i64 m)],D.s (sc (int i64 c))]=VTurned.L2 a b d e f g h i j k l m false 0 false 0 false 0 false 0 c 0:=eJ aU
theorem lG a b c d e f g h i j k l m n o p q r s t u v:L2 a b c d e f g h i j k l m n o p q r s t u v=letI A:=(a,b,c,d,e,f);letI C:=dv (fL A);letI B:=dv (fO A);aD (decide (v<u)) (aO (dR A) (aC (isNeg (-B.fst)) fun w=>aC (M6.dg (-B.fst).natAbs) fun x=>aC B.snd fun y=>aC (isNeg (-C.fst)) fun z=>aC (M6.dg (-C.fst).natAbs) fun aa=>aC C.snd fun ab=>VTurned.L2 g h i j k l w x y z aa ab m n o p q r s t u (i64.wrap (v+1)))) (some [D.agg [sc (bool a),ints u64 b,sc (int i64 c),sc (bool d),ints u64 e,sc (int i64 f)],D.agg [sc (bool g),ints u64 h,sc (int i64 i),sc (bool j),ints u64 k,sc (int i64 l)],D.s (sc (int i64 0))]):=lJ aU
def trn(s c:(Int×Int)×(Int×Int)):Nat->((Int×Int)×(Int×Int))×((Int×Int)×(Int×Int))
 |0=>(s,c)
 |n+1=>trn c (kD.wI s.2,kD.wI s.1) n
def sp(s c:vF)(q:Int):Prop×List D:=(dR s/\dR c/\0<=q/\q<=3,[Dn (trn (dv (fL s),dv (fO s)) (dv (fL c),dv (fO c)) q.toNat).1.1 (trn (dv (fL s),dv (fO s)) (dv (fL c),dv (fO c)) q.toNat).1.2,Dn (trn (dv (fL s),dv (fO s)) (dv (fL c),dv (fO c)) q.toNat).2.1 (trn (dv (fL s),dv (fO s)) (dv (fL c),dv (fO c)) q.toNat).2.2,.s (.sc (.int .i64 0))])
theorem aWE{s:vF}(h:dR s):dR (uF (kD.wI (dv (fO s))) (kD.wI (dv (fL s)))):=by
 refine Fp h.2.1.rB.Hr h.1.rB.Hr ?_;have:=lC.1 h.2.2;refine lC.2 ?_;unfold kD.wI;rw[nU,nU];grind
theorem L:∀(d k:Nat) (s c:vF),k+d<=1000->dR s->dR c->L2 s.1 s.2.1 s.2.2.1 s.2.2.2.1 s.2.2.2.2.1 s.2.2.2.2.2 c.1 c.2.1 c.2.2.1 c.2.2.2.1 c.2.2.2.2.1 c.2.2.2.2.2 false 0 false 0 false 0 false 0 ((k+d:Nat):Int) (k:Int)=some [Dn (trn (dv (fL s),dv (fO s)) (dv (fL c),dv (fO c)) d).1.1 (trn (dv (fL s),dv (fO s)) (dv (fL c),dv (fO c)) d).1.2,Dn (trn (dv (fL s),dv (fO s)) (dv (fL c),dv (fO c)) d).2.1 (trn (dv (fL s),dv (fO s)) (dv (fL c),dv (fO c)) d).2.2,.s (.sc (.int .i64 0))]
 |0,k,s,c,h,h1,h2=>by
  rw[lG,aN];unfold trn;dsimp only;rw[h1.Dn,h2.Dn]
 |d+1,k,s,c,h,h1,h2=>by
  have e:i64.wrap ((k:Int)+1)=((k+1:Nat):Int):=by rw[wrap_i64];omega
  rw[lG,aR,gP h1];simp only[aB,e];have r:=L d (k+1) c (uF (kD.wI (dv (fO s))) (kD.wI (dv (fL s)))) (by omega) h2 (aWE h1);rw[jU,jV,show k+1+d=k+(d+1) by omega]at r;exact r
theorem spec:sR E f72 aF tN tN (pN .i64) sp:=by
 rintro s c q ⟨h1,h2,q0,q1⟩;refine(start s.1 s.2.1 s.2.2.1 s.2.2.2.1 s.2.2.2.2.1 s.2.2.2.2.2 c.1 c.2.1 c.2.2.1 c.2.2.2.1 c.2.2.2.2.1 c.2.2.2.2.2 q).trans ?_;obtain⟨n,rfl⟩:=cCM q0;have:=L n 0 s c (by omega) h1 h2;rw[bXL]at this;exact this
def aJ:dG:=orc3 tN tN (pN .i64) sp
theorem ok:OK 72 aJ:=(dZ E aF (aA kD.ok aE) func72).Cq rfl spec
end VTurned
end W
namespace M
open Go AI W
structure Bx(s:(Int×Int)×(Int×Int))(V W m:Rat):Prop where
 pl:mU s.1
 ph:mU s.2
 bl:bl s.1.1.natAbs<=100000
 bh:M.bl s.2.1.natAbs<=100000
 m0:0<=m
 lo:R.qz s.1+m<=V
 hi:V+m<=R.qz s.2
 wd:R.qz s.2-R.qz s.1<=W
theorem Bx.neg{s:(Int×Int)×(Int×Int)}{V W m:Rat}(h:Bx s V W m):Bx (kD.wI s.2,kD.wI s.1) (-V) W m:=by
 obtain⟨h1,h2,h3,h4,h5,h6,h7,h8⟩:=h;refine⟨h2.Hr,h1.Hr,?_,?_,h5,?_,?_,?_⟩
 ·show M.bl (-s.2.1).natAbs<=_;rw[cFM];exact h4
 ·show M.bl (-s.1.1).natAbs<=_;rw[cFM];exact h3
 ·show R.qz (-s.2.1,s.2.2)+m<=_;rw[nU];grind
 ·show _<=R.qz (-s.1.1,s.1.2);rw[nU];grind
 ·show R.qz (-s.1.1,s.1.2)-R.qz (-s.2.1,s.2.2)<=_;rw[nU,nU];grind
theorem Bx.Ec{s:(Int×Int)×(Int×Int)}{V W m:Rat}(h:Bx s V W m):dR (uF s.1 s.2):=Fp h.pl h.ph (lC.2 (by have:=h.lo;have:=h.hi;have:=h.m0;grind))
theorem Bx.trn{s c:(Int×Int)×(Int×Int)}{S C Ws Wc m:Rat}(hs:Bx s S Ws m)(hc:Bx c C Wc m){k:Int} :
  Bx (VTurned.trn s c (k%4).toNat).1 (R.rs k S C) (if k%2=0 then Ws else Wc) m/\Bx (VTurned.trn s c (k%4).toNat).2 (R.rc k S C) (if k%2=0 then Wc else Ws) m:=by
 have h4:k%4=0\/k%4=1\/k%4=2\/k%4=3:=by omega
 unfold R.rs R.rc;rcases h4 with h |h |h |h
 ·have h2:k%2=0:=by omega
  simp[h,h2];exact⟨hs,hc⟩
 ·have h2:k%2=1:=by omega
  simp[h,h2];exact⟨hc,hs.neg⟩
 ·have h2:k%2=0:=by omega
  simp[h,h2];exact⟨hs.neg,hc.neg⟩
 ·have h2:k%2=1:=by omega
  simp[h,h2];have e:s=(kD.wI (kD.wI s.1),kD.wI (kD.wI s.2)):=by
   obtain⟨⟨a,b⟩,c,d⟩:=s;unfold kD.wI;dsimp only;rw[Int.neg_neg,Int.neg_neg]
  refine⟨hc.neg,?_⟩;have:=hs;rw[e]at this;exact this
theorem aSB(up:Bool){z:Int}{v:Rat}{k:Nat}(hk:1<=k)(h:(z:Rat)=v\/(z%2=1/\(z:Rat)-1<v/\v<(z:Rat)+1)) :
  (up=false->(lK.rD up z k:Rat)*((2^k:Nat):Rat)<=v/\v<=(lK.rD up z k:Rat)*((2^k:Nat):Rat)+((2^k:Nat):Rat))/\(up=true->v<=(lK.rD up z k:Rat)*((2^k:Nat):Rat)/\(lK.rD up z k:Rat)*((2^k:Nat):Rat)<=v+((2^k:Nat):Rat)):=by
 obtain⟨c1,c2⟩:=aEI up z k;have K0:(0:Rat)<((2^k:Nat):Rat):=by exact_mod_cast cAH (by decide)
 rcases h with h |⟨ho,h1,h2⟩
 ·rw[<-h];exact⟨fun hu=>⟨(c1 hu).1,cCJ (c1 hu).2⟩,fun hu=>⟨(c2 hu).1,cCJ (c2 hu).2⟩⟩
 ·
  have ev:(2:Int)∣((2^k:Nat):Int):=by
   obtain⟨j,rfl⟩:∃j,k=j+1:=⟨k-1,by omega⟩;rw[cCK];exact⟨((2^j:Nat):Int),by push_cast;omega⟩
  have fl:∀w:Int,w%2=1->w/((2^k:Nat):Int)*((2^k:Nat):Int)+1<=w/\w+1<=w/((2^k:Nat):Int)*((2^k:Nat):Int)+((2^k:Nat):Int):=by
   intro w hw;have e:=Int.mul_ediv_add_emod w ((2^k:Nat):Int);have hp:(0:Int)<((2^k:Nat):Int):=by have:=cAH (n:=k) (show 0<2 by decide);omega
   have m0:=Int.emod_nonneg w (show((2^k:Nat):Int)≠0 by omega);have m1:=Int.emod_lt_of_pos w hp;have m2:w%((2^k:Nat):Int)%2=1:=by rw[Int.emod_emod_of_dvd w ev];exact hw
   rw[Int.mul_comm]at e;generalize w/((2^k:Nat):Int)*((2^k:Nat):Int)=P at *;omega
  constructor
  ·rintro rfl;unfold lK.rD;rw[cond_false];obtain⟨f1,f2⟩:=fl z ho;have bVT:((z/((2^k:Nat):Int):Int):Rat)*((2^k:Nat):Rat)+1<=(z:Rat):=by exact_mod_cast f1
   have bVS:(z:Rat)+1<=((z/((2^k:Nat):Int):Int):Rat)*((2^k:Nat):Rat)+((2^k:Nat):Rat):=by exact_mod_cast f2
   generalize ((z/((2^k:Nat):Int):Int):Rat)*((2^k:Nat):Rat)=P at *;constructor <;> grind
  ·rintro rfl;unfold lK.rD;rw[cond_true];obtain⟨f1,f2⟩:=fl (-z) (by omega);have bVT:((-z/((2^k:Nat):Int):Int):Rat)*((2^k:Nat):Rat)+1<=-(z:Rat):=by exact_mod_cast f1
   have bVS:-(z:Rat)+1<=((-z/((2^k:Nat):Int):Int):Rat)*((2^k:Nat):Rat)+((2^k:Nat):Rat):=by exact_mod_cast f2
   rw[cIX];have e:-((-z/((2^k:Nat):Int):Int):Rat)*((2^k:Nat):Rat)=-(((-z/((2^k:Nat):Int):Int):Rat)*((2^k:Nat):Rat)):=by grind
   rw[e];generalize ((-z/((2^k:Nat):Int):Int):Rat)*((2^k:Nat):Rat)=P at *;constructor <;> grind
theorem aQB{a b s:Nat}(hb:0<b):∃v:Rat,v*(b:Rat)=2*((a:Rat)*((2^s:Nat):Rat))/\0<=v/\((cP.Vt a b s:Rat)=v\/(cP.Vt a b s%2=1/\(cP.Vt a b s:Rat)-1<v/\v<(cP.Vt a b s:Rat)+1)):=by
 have b0:(0:Rat)<(b:Rat):=by exact_mod_cast hb
 have hd:=cCS (a*2^s) b;have hm:=bZR (a*2^s) hb;have A:(b:Rat)*((a*2^s/b:Nat):Rat)+((a*2^s%b:Nat):Rat)=(a:Rat)*((2^s:Nat):Rat):=by exact_mod_cast hd
 have Mm:((a*2^s%b:Nat):Rat)<(b:Rat):=by exact_mod_cast hm
 have q0:(0:Rat)<=((a*2^s/b:Nat):Rat):=by exact_mod_cast cCR _
 have m0:(0:Rat)<=((a*2^s%b:Nat):Rat):=by exact_mod_cast cCR _
 refine⟨2*((a:Rat)*((2^s:Nat):Rat))/(b:Rat),by grind,?_,?_⟩
 ·refine R.bP b0 ?_;have:(b:Rat)*(2*((a:Rat)*((2^s:Nat):Rat))/(b:Rat))=2*((a:Rat)*((2^s:Nat):Rat)):=by grind
  rw[this,<-A];have:=R.aM (cCJ b0) q0;grind
 ·have e:(b:Rat)*(2*((a:Rat)*((2^s:Nat):Rat))/(b:Rat))=2*((b:Rat)*((a*2^s/b:Nat):Rat)+((a*2^s%b:Nat):Rat)):=by rw[A];grind
  generalize 2*((a:Rat)*((2^s:Nat):Rat))/(b:Rat)=v at *;unfold cP.Vt
  by_cases hz:a*2^s%b=0
  ·left;rw[if_pos hz,bYI,cCP];rw[hz]at e;have z:((0:Nat):Rat)=0:=by norm_cast
   have two:((2:Nat):Rat)=2:=by norm_cast
   rw[z]at e;rw[two];have:(b:Rat)*v=(b:Rat)*(((a*2^s/b:Nat):Rat)*2):=by rw[e];grind
   exact(cJT (R.bP b0 (by rw[this];exact cDM)) (R.bP b0 (by rw[this];exact cDM))).symm
  ·right;have m1:(1:Rat)<=((a*2^s%b:Nat):Rat):=by exact_mod_cast(show 1<=a*2^s%b by omega)
   rw[if_neg hz];have c:((a*2^s/b*2+1:Nat):Rat)=2*((a*2^s/b:Nat):Rat)+1:=by
    rw[cIB,cCP];have two:((2:Nat):Rat)=2:=by norm_cast
    have one:((1:Nat):Rat)=1:=by norm_cast
    rw[two,one];grind
   rw[c];refine⟨by omega,?_,?_⟩
   ·refine R.qQ b0 ?_;rw[e];grind
   ·refine R.qQ b0 ?_;rw[e];grind
end M
namespace W
open Go AI M
namespace zW
def E:=mE [(85,Bw.aJ),(46,tI.aJ)] 20 [] [(4,[10,11,12])] []
def aF:=bd f48
theorem aU:Nk E aF:=nk
def L4(a:Nat)(b:Nat->Bool)(c:Nat->List Int)(d:Nat->Int)(e:Nat->Bool)(f:Nat->List Int)(g:Nat->Int) x7 h:=nN E f48 aF 4 [(A.v (V.one (L.rows 6 a fun i=>[sc (bool (b i)),ints u64 (c i),sc (int i64 (d i)),sc (bool (e i)),ints u64 (f i),sc (int i64 (g i))])),none),bK x7,bK h]
theorem start p (a:vF):aG E f48 aF [D.s (sc (int i64 p)),D.rows 6 1 fun i=>[sc (bool a.fst),ints u64 a.snd.fst,sc (int i64 a.snd.snd.fst),sc (bool a.snd.snd.snd.fst),ints u64 a.snd.snd.snd.snd.fst,sc (int i64 a.snd.snd.snd.snd.snd)]]=aO True (aD (!(decide (1<=p)&&decide (p<=70000))) (some [D.s (sc (int i64 1))]) (zW.L4 1 (fun i=>a.fst) (fun i=>a.snd.fst) (fun i=>a.snd.snd.fst) (fun i=>a.snd.snd.snd.fst) (fun i=>a.snd.snd.snd.snd.fst) (fun i=>a.snd.snd.snd.snd.snd) 1 0)):=eJ aU
theorem kV a b c d e f g h j:L4 a b c d e f g h j=aD (decide (j<h)) (if 0<=j/\j<(a:Int)then aO (dR (b j.toNat,c j.toNat,d j.toNat,e j.toNat,f j.toNat,g j.toNat)) (zW.L4 a (fun i=>b i) (fun i=>c i) (fun i=>d i) (fun i=>e i) (fun i=>f i) (fun i=>g i) h (i64.wrap (j+1)))else none) (some [D.s (sc (int i64 0))]):=lJ aU
def sp(p:Int)(a:vF):Prop×List D:=(dR a,[.s (.sc (.int .i64 (if 1<=p/\p<=70000 then 0 else 1)))])
theorem L(n:Nat)(f:Nat->vF)(hn:n<=1000)(hf:∀i,i<n->dR (f i)):∀d k:Nat,k+d=n->L4 n (fun i=>(f i).1) (fun i=>(f i).2.1) (fun i=>(f i).2.2.1) (fun i=>(f i).2.2.2.1) (fun i=>(f i).2.2.2.2.1) (fun i=>(f i).2.2.2.2.2) (n:Int) (k:Int)=some [D.s (.sc (.int .i64 0))]
 |0,k,h=>by rw[kV,aN]
 |d+1,k,h=>by
  have e:i64.wrap ((k:Int)+1)=((k+1:Nat):Int):=by rw[wrap_i64];omega
  rw[kV,aR,aT,cBF,gP (hf k (by omega)),e];exact L n f hn hf d (k+1) (by omega)
theorem spec:eR E f48 aF (pN .i64) (bMU (.pair sB (.pair (sI .u64) (.pair (sN .i64) (.pair sB (.pair (sI .u64) (sN .i64)))))) (false,[],0,false,[],0)) sp:=by
 intro p a h;have hf:∀i,i<1->dR (a):=fun i hi=>h
 refine(start p a).trans ((gP trivial).trans ?_);unfold sp
 by_cases hp:1<=p/\p<=70000
 ·rw[if_pos hp,decide_eq_true hp.1,decide_eq_true hp.2];exact L 1 (fun _=>a) (by decide) hf 1 0 (by omega)
 ·rw[if_neg hp];have:(decide (1<=p)&&decide (p<=70000))=false:=by
   rw[cII,decide_eq_false_iff_not,decide_eq_false_iff_not];omega
  rw[this];rfl
def aJ:dG:=orc2 (pN .i64) (bMU (.pair sB (.pair (sI .u64) (.pair (sN .i64) (.pair sB (.pair (sI .u64) (sN .i64)))))) (false,[],0,false,[],0)) sp
theorem ok:OK 48 aJ:=(dZ E aF (aA Bw.ok (aA tI.ok aE)) func48).jR rfl spec
end zW
namespace aNK
def E:=mE [(87,Ch.aJ),(88,xI.aJ)] 24 [10] [] []
def aF:=bd f51
theorem aU:Nk E aF:=nk
theorem start a b c:aG E f51 aF [D.agg [sc (bool a),ints u64 b,sc (int i64 c)]]=letI B:=dv (a,b,c);aO (aW (a,b,c)) (aC (if B.fst=0 then(0:Int)else c+(↑(bl (M6.val b)):Int)-(1:Int)) fun d=>letI C:=i64.wrap ((0:Int)-d);letI A:=bif xI.Zd B C then xI.bAJ B C else((0:Int),(0:Int));aO (aW (a,b,c)/\(-9223372036854775808:Int)<=i64.wrap ((0:Int)-d)/\i64.wrap ((0:Int)-d)<9223372036854775808) (aC (M6.dg A.fst.natAbs) fun e=>aC A.snd fun f=>some [D.agg [sc (bool false),ints u64 e,sc (int i64 f)],D.s (sc (int i64 d))])):=eJ aU
def sp(x:iW):Prop×List D:=(aW x/\(dv x).1≠0,[dD (((dv x).1.natAbs:Nat),1-(bl (dv x).1.natAbs:Nat)),.s (.sc (.int .i64 (bI (dv x))))])
theorem spec:iD E f51 aF jE sp:=by
 rintro x ⟨hx,h0⟩;have he:=hx.2.1;have ha:(dv x).1.natAbs=M6.val x.2.1:=iT (x.1,x.2.1);have hb:=hx.Le.bl;dsimp only at hb;have hb0:=oO (n:=M6.val x.2.1) (by omega);refine(start x.1 x.2.1 x.2.2).trans ?_;have ht:x.2.2+(bl (M6.val x.2.1):Int)-1=bI (dv x):=by unfold bI;rw[ha];rfl
 have h2:(dv x).2=x.2.2:=rfl;have Wo:xI.Zd (dv x) (0-bI (dv x))=true:=by
  unfold xI.Zd;rw[decide_eq_false h0,bZI,decide_eq_true (by omega),decide_eq_true (by omega)];rfl
 have bSM:xI.bAJ (dv x) (0-bI (dv x))=((dv x).1,1-((bl (dv x).1.natAbs:Nat):Int)):=by
  unfold xI.bAJ;rw[if_neg h0];congr 1;unfold bI;omega
 have aXE:isNeg ((((dv x).1.natAbs:Nat):Int))=false:=fH.2 (by omega);simp only[aB];have bVQ:¬((dv (x.1,x.2.1,x.2.2)).1=0):=h0;rw[gP hx,if_neg bVQ,ht,wrap_i64 (n:=0-bI (dv x)),gP ⟨hx,by omega,by omega⟩,show dv (x.1,x.2.1,x.2.2)=dv x from rfl,Wo,cond_true,bSM];unfold sp dD
 try dsimp only
 rw[aXE,cDF]
def aJ:dG:=orc1 jE sp
theorem ok:OK 51 aJ:=(dZ E aF (aA Ch.ok (aA xI.ok aE)) func51).oS rfl spec
end aNK
namespace vY
def E:=mE [(48,zW.aJ),(49,By.aJ),(19,eQ.aJ),(50,aBJ.aJ),(51,aNK.aJ)] 77 [19,41] [(15,[1,9,11])] [15]
def aF:=bd f20
theorem aU:Nk E aF:=nk
def aSU a b c d e f g:=lE E f20 aF 15 [bK a,bM 1 35 [bC b,eF c,cV d],bM 2 35 [bC e,eF f,cV g]]
theorem start a c d e f g b:aG E f20 aF [D.agg [sc (bool a),ints u64 c,sc (int i64 d),sc (bool e),ints u64 f,sc (int i64 g)],D.s (sc (int i64 b))]=letI G:=sc (bool false);letI F:=dv (e,f,g);letI C:=(a,c,d,e,f,g);letI B:=dv (a,c,d);letI A:=bif bY.jG F (-B.fst,B.snd)then bY.kB F (-B.fst,B.snd)else((0:Int),(0:Int));aO (dR C) (aC (if 1<=b/\b<=70000 then(0:Int)else(1:Int)) fun h=>aD (h !=0) (some [D.s G,D.s (sc (int i64 h))]) (aO (aW (a,c,d)/\aW (e,f,g)) (aC (dQ B F) fun i=>aD (i==0) (some [D.s (sc (bool true)),D.s (sc (int i64 0))]) (aO (dR C) (aC (eQ.sE (dv (fL C)) (dv (fO C))) fun j=>aD (j==0) (some [D.s G,D.s (sc (int i64 0))]) (aO (aW (e,f,g)/\aW (a,c,d)) (aC (isNeg A.fst) fun k=>aC (M6.dg A.fst.natAbs) fun l=>aC A.snd fun m=>aC (bif bY.jG F (-B.fst,B.snd)then(0:Int)else(5:Int)) fun n=>aD (n !=0) (some [D.s G,D.s (sc (int i64 n))]) (aD (decide (j<0)) (vY.aSU b k l m e f g) (vY.aSU b k l m a c d))))))))):=eJ aU
theorem aBG a b c d e f g:aSU a b c d e f g=letI B:=dv (e,f,g);letI F:=(B.fst.natAbs:Int);letI A:=dv (b,c,d);letI C:=(A.fst.natAbs:Int);aO (aW (b,c,d)/\A.fst≠0) (aC (isNeg C) fun h=>aC (M6.dg C.natAbs) fun i=>aC ((1:Int)-(↑(bl A.fst.natAbs):Int)) fun j=>aC (bI A) fun k=>aO (aW (e,f,g)/\B.fst≠0) (aC (isNeg F) fun l=>aC (M6.dg F.natAbs) fun m=>aC ((1:Int)-(↑(bl B.fst.natAbs):Int)) fun n=>aC (bI B) fun o=>aD (i64.wrap (k+a) !=o) (some [D.s (sc (bool (decide (i64.wrap (k+a)<o)))),D.s (sc (int i64 0))]) (aO (aW (h,i,j)/\aW (l,m,n)) (aC (dQ (dv (h,i,j)) (dv (l,m,n))) fun p=>some [D.s (sc (bool (decide (p<=0)))),D.s (sc (int i64 0))])))):=cJ aU
def aHH(a b:Int×Int)(p:Int):Bool :=
 bif dQ a b==0 then true else bif eQ.sE a b==0 then false else
 bif (bI (bY.kB b (-a.1,a.2))+p) !=bI (bif decide (eQ.sE a b<0)then b else a)then decide (bI (bY.kB b (-a.1,a.2))+p<bI (bif decide (eQ.sE a b<0)then b else a))
 else decide (dQ (aHG (bY.kB b (-a.1,a.2))) (aHG (bif decide (eQ.sE a b<0)then b else a))<=0)
def sp(s:vF)(p:Int):Prop×List D:=(dR s/\(1<=p/\p<=70000)/\bY.jG (dv (fO s)) (-(dv (fL s)).1,(dv (fL s)).2)=true,[.s (.sc (.bool (aHH (dv (fL s)) (dv (fO s)) p))),.s (.sc (.int .i64 0))])
theorem J{p:Int}{w n:Int×Int}{x:iW}(hp:1<=p/\p<=70000)(hw:mU w)(hn:aW x)(he:dv x=n)(w0:w.1≠0)(n0:n.1≠0) :
  aSU p (isNeg w.1) (M6.dg w.1.natAbs) w.2 x.1 x.2.1 x.2.2=some [.s (.sc (.bool (bif (bI w+p) !=bI n then decide (bI w+p<bI n)else decide (dQ (aHG w) (aHG n)<=0)))),.s (.sc (.int .i64 0))]:=by
 subst he;have c:=gF w;have cx:(x.1,x.2.1,x.2.2)=x:=rfl;have t1:=hw.top;have t2:=hn.rB.top;rw[aBG];simp only[aB,c,cx];rw[gP ⟨eI hw,w0⟩,gP ⟨hn,n0⟩,wrap_i64 (n:=bI w+p)]
 by_cases h:bI w+p=bI (dv x)
 ·rw[gG h];have d1:=eI (aJX hw w0);have d2:=eI (aJX hn.rB n0);have e1:=gF (aHG w);have e2:=gF (aHG (dv x));rw[show((bI w+p) !=bI (dv x))=false from by rw[h];exact bne_self_eq_false _,cond_false];unfold aHG at d1 d2 e1 e2 ⊢;dsimp only at d1 d2 e1 e2 ⊢;rw[gP ⟨d1,d2⟩,e1,e2]
 ·rw[nD h,show((bI w+p) !=bI (dv x))=true from bne_iff_ne.2 h,cond_true]
theorem spec:eR E f20 aF tN (pN .i64) sp:=by
 rintro s p ⟨h1,hp,ao⟩;have hL:aW (s.1,s.2.1,s.2.2.1):=h1.1;have hH:aW (s.2.2.2.1,s.2.2.2.2.1,s.2.2.2.2.2):=h1.2.1;refine(start s.1 s.2.1 s.2.2.1 s.2.2.2.1 s.2.2.2.2.1 s.2.2.2.2.2 p).trans ?_;rw[gP h1,aB,if_pos hp,gG rfl,gP ⟨hL,hH⟩,aB];unfold sp aHH;dsimp only;unfold fL fO at *;generalize ha:dv (s.1,s.2.1,s.2.2.1)=a at *;generalize hb:dv (s.2.2.2.1,s.2.2.2.2.1,s.2.2.2.2.2)=b at *
 by_cases c:dQ a b=0
 ·rw[cL c,show(dQ a b==0)=true from beq_iff_eq.2 c,cond_true]
 ·rw[cO c,show(dQ a b==0)=false from beq_eq_false_iff_ne.2 c,cond_false,gP h1,aB]
  by_cases d:eQ.sE a b=0
  ·rw[cL d,show(eQ.sE a b==0)=true from beq_iff_eq.2 d,cond_true]
  ·rw[cO d,show(eQ.sE a b==0)=false from beq_eq_false_iff_ne.2 d,cond_false,gP ⟨hH,hL⟩,ao];simp only[aB,cond_true];rw[gG rfl];have pa:mU a:=ha▸hL.rB;have pb:mU b:=hb▸hH.rB;have pw:=Co pb (by obtain⟨x1,x2,x3,x4⟩:=pa;exact⟨by dsimp only;rw[cFM];exact x1,x2,fun h=>x3 (by dsimp only at h;omega),fun h=>by dsimp only at h ⊢;have:=x4 (by omega);omega⟩) ao;have w0:=aJB c
   by_cases g:eQ.sE a b<0
   ·have n0:b.1≠0:=fun hz=>by
     have:=Cj hz;unfold eQ.sE at g;rw[bG]at g;split at g <;> omega
    rw[aR g,decide_eq_true g,cond_true];exact J hp pw hH hb w0 n0
   ·have n0:a.1≠0:=fun hz=>by
     have:=Cj hz;unfold eQ.sE at g d;split at g
     ·omega
     ·rw[bG,bG]at d;exact d rfl
    rw[aN g,decide_eq_false g,cond_false];exact J hp pw hL ha w0 n0
def aJ:dG:=orc2 tN (pN .i64) sp
theorem ok:OK 20 aJ:=(dZ E aF (aA zW.ok (aA By.ok (aA eQ.ok (aA aBJ.ok (aA aNK.ok aE))))) func20).jR rfl spec
end vY
end W
namespace M
open Go AI W
theorem aQC{a b:Nat}{p:Int}(hp:1<=p)(ha:a≠0)(hb:b≠0):p+3<=(bl (cP.Vt a b (cP.Dp p a b)):Nat):=by
 have h1:=Rg ha;have h2:=wP b;have b0:=oO ha;have key:2^(p+1).toNat<=a*2^(cP.Dp p a b)/b:=by
  rw[Nat.le_div_iff_mul_le (by omega)];have e1:2^(p+1).toNat*b<=2^((p+1).toNat+bl b):=by rw[cCH];exact bZW _ (cLD h2)
  have e2:2^(bl a-1+cP.Dp p a b)<=a*2^(cP.Dp p a b):=by rw[cCH];exact cBK _ h1
  have e3:2^((p+1).toNat+bl b)<=2^(bl a-1+cP.Dp p a b):=cAI (by decide) (by unfold cP.Dp;omega);omega
 have:2^(p+2).toNat<=cP.Vt a b (cP.Dp p a b):=by
  have e:2^(p+2).toNat=2^(p+1).toNat*2:=by rw[<-cCK];congr 1;omega
  unfold cP.Vt;rw[e];generalize a*2^(cP.Dp p a b)/b=Q at *;omega
 have:=(sO (n:=cP.Vt a b (cP.Dp p a b)) (k:=(p+2).toNat)).2 this;omega
theorem Ro(b:Bool)(n:Nat):(zs b n:Rat)=(if b then -1 else 1)*(n:Rat):=by
 cases b
 ·show((n:Int):Rat)=_;rw[cEW];simp
 ·show((-(n:Int):Int):Rat)=_;rw[cIX,cEW,if_pos rfl];grind
theorem aSZ(z:Int):zs (isNeg z) z.natAbs=z:=by
 cases h:isNeg z with
 |true=>have:=jL.1 h;show -(z.natAbs:Int)=z;omega
 |false=>have:=fH.1 h;show(z.natAbs:Int)=z;omega
theorem Cm(up:Bool){x y:Int×Int}{p:Int}{q:Rat}(hp:1<=p)(hy:y.1≠0)(hq:q*R.qz y=R.qz x) :
  (up=false->R.qz (bV (cP.sJ up p x y).1 (cP.sJ up p x y).2)<=q/\q<=R.qz (bV (cP.sJ up p x y).1 (cP.sJ up p x y).2)+R.pz (2-p)*R.ab q) /\
  (up=true->q<=R.qz (bV (cP.sJ up p x y).1 (cP.sJ up p x y).2)/\R.qz (bV (cP.sJ up p x y).1 (cP.sJ up p x y).2)<=q+R.pz (2-p)*R.ab q):=by
 rw[rL];unfold cP.sJ cP.bBW;dsimp only;obtain⟨v,v1,v2,v3⟩:=aQB (a:=x.1.natAbs) (b:=y.1.natAbs) (s:=cP.Dp p x.1.natAbs y.1.natAbs) (by omega);have aGV:=aQC (a:=x.1.natAbs) (b:=y.1.natAbs) hp;have bWV:=R.bB q;generalize hs:cP.Dp p x.1.natAbs y.1.natAbs=s at *;generalize hQ:cP.Vt x.1.natAbs y.1.natAbs s=Q at *;obtain⟨e,he⟩:∃e,e=x.2-y.2-(s:Int)-1:=⟨_,rfl⟩;rw[<-he];have pe:=R.cY e;have vq:q=(if(isNeg x.1 !=isNeg y.1)then -1 else 1)*v*R.pz e:=by
  have aUA:(x.1:Rat)=(if isNeg x.1 then -1 else 1)*(x.1.natAbs:Rat):=by rw[<-Ro,aSZ]
  have aKQ:(y.1:Rat)=(if isNeg y.1 then -1 else 1)*(y.1.natAbs:Rat):=by rw[<-Ro,aSZ]
  have bQA:R.qz y≠0:=aTL hy;have ex:R.pz x.2=2*((2^s:Nat):Rat)*R.pz e*R.pz y.2:=by
   have:x.2=e+y.2+(s:Int)+1:=by omega
   rw[this,R.jJ,R.dT,R.iG];grind
  have e2:((if(isNeg x.1 !=isNeg y.1)then -1 else 1)*v*R.pz e)*R.qz y=R.qz x:=by
   unfold R.qz;rw[ex,aUA,aKQ];have:v*(y.1.natAbs:Rat)=2*((x.1.natAbs:Rat)*((2^s:Nat):Rat)):=v1;cases isNeg x.1 <;> cases isNeg y.1 <;> simp <;> grind
  have e3:(q-(if(isNeg x.1 !=isNeg y.1)then -1 else 1)*v*R.pz e)*R.qz y=0:=by grind
  rcases Rat.mul_eq_zero.1 e3 with h |h
  ·grind
  ·exact absurd h bQA
 obtain⟨w,hw⟩:∃w,w=(if(isNeg x.1 !=isNeg y.1)then(-1:Rat)else 1)*v:=⟨_,rfl⟩;rw[<-hw]at vq;obtain⟨z,hz⟩:∃z,z=zs (isNeg x.1 !=isNeg y.1) Q:=⟨_,rfl⟩;rw[<-hz];have bIC:(z:Rat)=w\/(z%2=1/\(z:Rat)-1<w/\w<(z:Rat)+1):=by
  rw[hz,Ro,hw];rcases v3 with h |⟨h1,h2,h3⟩
  ·left;rw[h]
  ·right;refine⟨?_,?_⟩
   ·cases (isNeg x.1 !=isNeg y.1)
    ·show((Q:Nat):Int)%2=1;omega
    ·show(-(Q:Int))%2=1;omega
   ·cases (isNeg x.1 !=isNeg y.1) <;> simp <;> constructor <;> grind
 have za:z.natAbs=Q:=by rw[hz];exact nA _ _
 have bWU:R.ab q=R.ab w*R.pz e:=by rw[vq,R.eA,R.bW (cCJ pe)]
 have bPB:=R.cY (2-p);unfold cZ.pC
 by_cases c:(bl z.natAbs:Int)-p<=0
 ·rw[if_pos c];dsimp only;have bCO:(z:Rat)=w:=by
   rcases bIC with h |⟨h,_⟩
   ·exact h
   ·exfalso;have Kt:x.1.natAbs≠0:=by
     intro h0;rw[h0]at hQ;have:Q=0:=by
      rw[<-hQ];unfold cP.Vt;rw[Nat.zero_mul,cEK,Nat.zero_mod,if_pos rfl]
     omega
    have:=aGV Kt (by omega);rw[za]at c;omega
  have:=R.aM (cCJ bPB) bWV;rw[bCO,<-vq];constructor <;> (intro _;constructor <;> grind)
 ·rw[if_neg c];dsimp only;obtain⟨k,hk⟩:=cCM (show 0<=(bl z.natAbs:Int)-p by omega);rw[hk,cBF,R.dT];obtain⟨c1,c2⟩:=aSB up (z:=z) (v:=w) (k:=k) (by omega) bIC;have lit:((2^k:Nat):Rat)<=R.pz (2-p)*R.ab w:=by
   have aQW:z≠0:=by intro h0;rw[h0]at c;exact c (by show(bl 0:Int)-p<=0;rw[wV];omega)
   have t1:=(nR (p:=(z,0)) aQW).1;have ez:R.qz (z,0)=(z:Rat):=by unfold R.qz;dsimp only;rw[R.fA];grind
   rw[ez]at t1;have et:bI (z,0)=(bl z.natAbs:Int)-1:=by unfold bI;dsimp only;omega
   rw[et]at t1;have b2:2<=bl z.natAbs:=by omega
   have aw:R.ab (z:Rat)-1<=R.ab w:=by
    rcases bIC with h |⟨_,h1,h2⟩
    ·rw[h];grind
    ·have:=R.xG w ((z:Rat)-w);have:R.ab ((z:Rat)-w)<=1:=by rw[R.dJ];constructor <;> grind
     have:w+((z:Rat)-w)=(z:Rat):=by grind
     grind
   have e1:R.pz ((bl z.natAbs:Int)-1)=2*R.pz ((bl z.natAbs:Int)-2):=by rw[<-R.jJ];congr 1;omega
   have e2:1<=R.pz ((bl z.natAbs:Int)-2):=by rw[<-R.fA];exact R.cN (by omega)
   have e3:((2^k:Nat):Rat)=R.pz (2-p)*R.pz ((bl z.natAbs:Int)-2):=by rw[<-R.iG,<-R.iF,<-hk];congr 1;omega
   rw[e3];have:=R.aM (cCJ bPB) (show 0<=R.ab w-R.pz ((bl z.natAbs:Int)-2) by grind);grind
  rw[bWU,vq];have l2:=R.aM (cCJ pe) (show 0<=R.pz (2-p)*R.ab w-((2^k:Nat):Rat) by grind);generalize (lK.rD up z k:Rat)=cz at *;generalize ((2^k:Nat):Rat)=K at *;generalize R.pz (2-p)=P2 at *;generalize R.pz e=E at *;generalize R.ab w=aw at *;constructor
  ·intro hu;obtain⟨d1,d2⟩:=c1 hu;have m1:=R.aM (cCJ pe) (show 0<=w-cz*K by grind);have m2:=R.aM (cCJ pe) (show 0<=cz*K+K-w by grind);constructor <;> grind
  ·intro hu;obtain⟨d1,d2⟩:=c2 hu;have m1:=R.aM (cCJ pe) (show 0<=cz*K-w by grind);have m2:=R.aM (cCJ pe) (show 0<=w+K-cz*K by grind);constructor <;> grind
theorem aJU(up:Bool){x y:Int×Int}{p:Int}(hp:1<=p/\p<=70000)(bx:bl x.1.natAbs<=100000)(bWM:bl y.1.natAbs<=100000)(ex:-110000<=x.2/\x.2<=1000)(ey:-110000<=y.2/\y.2<=1000) :
  jD (cP.sJ up p x y).1 (cP.sJ up p x y).2=true/\bl (bV (cP.sJ up p x y).1 (cP.sJ up p x y).2).1.natAbs<=70001:=by
 unfold cP.sJ cP.bBW;dsimp only;have hs:cP.Dp p x.1.natAbs y.1.natAbs<=170002:=by unfold cP.Dp;omega
 have hQ:bl (cP.Vt x.1.natAbs y.1.natAbs (cP.Dp p x.1.natAbs y.1.natAbs))<=270006:=by
  have h1:bl (x.1.natAbs*2^(cP.Dp p x.1.natAbs y.1.natAbs))<=270002:=bYC (cH.Db bx) (by omega);have h2:cP.Vt x.1.natAbs y.1.natAbs (cP.Dp p x.1.natAbs y.1.natAbs)<=x.1.natAbs*2^(cP.Dp p x.1.natAbs y.1.natAbs)*2+1:=by
   have:x.1.natAbs*2^(cP.Dp p x.1.natAbs y.1.natAbs)/y.1.natAbs<=x.1.natAbs*2^(cP.Dp p x.1.natAbs y.1.natAbs):=cDK _ _;unfold cP.Vt;generalize x.1.natAbs*2^(cP.Dp p x.1.natAbs y.1.natAbs)/y.1.natAbs=A at *;generalize x.1.natAbs*2^(cP.Dp p x.1.natAbs y.1.natAbs)=B at *;split <;> omega
  refine bYC (fW h2) (bYC (qR _ _) ?_);have h3:=nC (x.1.natAbs*2^(cP.Dp p x.1.natAbs y.1.natAbs)) 2;have h4:bl 2=2:=rfl;have h5:bl 1=1:=rfl;omega
 generalize cP.Dp p x.1.natAbs y.1.natAbs=s at *;generalize cP.Vt x.1.natAbs y.1.natAbs s=Q at *;have hz:(zs (isNeg x.1 !=isNeg y.1) Q).natAbs=Q:=nA _ _;rw[<-hz]at hQ;generalize zs (isNeg x.1 !=isNeg y.1) Q=z at *;unfold cZ.pC;split
 ·dsimp only;exact⟨mS (by omega) (by omega),bYC (Cr _ _) (by omega)⟩
 ·dsimp only;have hc:=aAG up z ((bl z.natAbs:Int)-p).toNat p.toNat (by omega);generalize lK.rD up z ((bl z.natAbs:Int)-p).toNat=c at *;exact⟨mS (by omega) (by omega),bYC (Cr _ _) (by omega)⟩
theorem Gj{a b u v S C V ρ m q1 q2:Rat}(ha:a+m<=S)(hb:S+m<=b)(aRI:b-a<=ρ*S)(hu:u+m<=C)(hv:C+m<=v)(huv:v-u<=ρ*C)(m0:0<=m)(S0:0<S)(C0:0<C)(C1:C<=1)(r0:0<=ρ)(r1:ρ<=1/64)(hV:V*C=S)(h1:q1*v=a)(h2:q2*u=b) :
  q1+m<=V/\V+m<=q2/\q2<=V+3*ρ*V/\V-2*ρ*V<=q1/\0<V/\0<=q1:=by
 have rS:=R.aM (cCJ S0) (show 0<=1/64-ρ by grind);have rC:=R.aM (cCJ C0) (show 0<=1/64-ρ by grind);have a0:0<a:=by grind
 have u0:0<u:=by grind
 have v0:0<v:=by grind
 have V0:0<V:=by
  refine Rat.not_le.1 fun hn=>?_
  have:=R.aM (show 0<=-V by grind) (cCJ C0);grind
 have bFO:0<q1:=by
  refine Rat.not_le.1 fun hn=>?_
  have:=R.aM (show 0<=-q1 by grind) (cCJ v0);grind
 have bQR:0<q2:=by
  refine Rat.not_le.1 fun hn=>?_
  have:=R.aM (show 0<=-q2 by grind) (cCJ u0);grind
 have mC:=R.aM m0 (show 0<=1-C by grind);have rV:=R.aM r0 (cCJ V0);have bMT:=R.aM rV (cCJ C0);have rr:=R.aM bMT (show 0<=1/64-ρ by grind);have rq:=R.aM bMT r0;refine⟨?_,?_,?_,?_,V0,cCJ bFO⟩
 ·refine R.bP C0 ?_;have:=R.aM (cCJ bFO) (show 0<=v-C by grind);grind
 ·refine R.bP C0 ?_;have:=R.aM (cCJ bQR) (show 0<=C-u by grind);grind
 ·refine R.bP u0 ?_;have h:=R.aM (show 0<=V+3*ρ*V by grind) (show 0<=u-(C-ρ*C) by grind);have e:(V+3*ρ*V)*(C-ρ*C)=V*C+2*(ρ*V*C)-3*(ρ*V*C*ρ):=by grind
  have e2:ρ*S=ρ*V*C:=by rw[<-hV];grind
  grind
 ·refine R.bP v0 ?_;have h:=R.aM (show 0<=V-2*ρ*V by have:=R.aM (cCJ V0) (show 0<=1/64-ρ by grind);grind) (show 0<=(C+ρ*C)-v by grind);have e:(V-2*ρ*V)*(C+ρ*C)=V*C-ρ*V*C-2*(ρ*V*C*ρ):=by grind
  have e2:ρ*S=ρ*V*C:=by rw[<-hV];grind
  grind
theorem aEO{p:Int×Int}:decide (dQ p (0,0)<0)=decide (R.qz p<0):=by
 have h:=zL (p:=p) (q:=(0,0));rw[R.qH (p:=(0,0)) rfl]at h
 by_cases c:R.qz p<0
 ·rw[decide_eq_true c,decide_eq_true (h.2 c)]
 ·rw[decide_eq_false c,decide_eq_false fun hh=>c (h.1 hh)]
def Io(p:Int×Int):Prop:=bl p.1.natAbs<=100000/\-110000<=p.2/\p.2<=1000
theorem Hg{p:Int×Int}(hb:bl p.1.natAbs<=100000)(Dq:p.1≠0)(h0:R.pz (-1300)<=R.ab (R.qz p))(h1:R.ab (R.qz p)<=2):Io p:=by
 have a:=yU Dq h0;have b:bI p<=1:=uL Dq (by rw[R.Ho];exact h1);have c:=oO (n:=p.1.natAbs) (by omega);unfold bI at a b;exact⟨hb,by omega,by omega⟩
theorem aCU{s c:(Int×Int)×(Int×Int)}{S C V ρ m:Rat}{p:Int}(hs:Bx s S (ρ*R.ab S) m)(hc:Bx c C (ρ*R.ab C) m)(S0:S≠0)(C0:0<C)(C1:C<=1)(r0:0<=ρ)(r1:ρ<=1/64)(hV:V*C=S)(hp:4<=p/\p<=70000)
  (z1:Io s.1) (z2:Io s.2) (z3:Io c.1) (z4:Io c.2) :
  jD (iQ.aFF p s.1 c.1 c.2).1 (iQ.aFF p s.1 c.1 c.2).2=true/\jD (iQ.aFG p s.2 c.1 c.2).1 (iQ.aFG p s.2 c.1 c.2).2=true /\
  Bx (bV (iQ.aFF p s.1 c.1 c.2).1 (iQ.aFF p s.1 c.1 c.2).2,bV (iQ.aFG p s.2 c.1 c.2).1 (iQ.aFG p s.2 c.1 c.2).2) V ((5*ρ+3*R.pz (2-p))*R.ab V) m:=by
 obtain⟨s1,s2,s3,s4,m0,s6,s7,s8⟩:=hs;obtain⟨c1,c2,c3,c4,_,c6,c7,c8⟩:=hc;rw[R.bW (cCJ C0)]at c8;have rC:=R.aM (cCJ C0) (show 0<=1/64-ρ by grind);have u0:0<R.qz c.1:=by grind
 have v0:0<R.qz c.2:=by grind
 have un:c.1.1≠0:=Gb (by grind);have vn:c.2.1≠0:=Gb (by grind);have e2:=R.cY (2-p);have e3:R.pz (2-p)<=1/4:=by
  have h:=R.cN (show 2-p<=-2 by omega);have h2:=R.vJ 2;rw[show -((2:Nat):Int)=-2 by rfl]at h2;rw[h2]at h;have h3:R.hf 2=1/4:=by simp[R.hf];grind
  grind
 have rB:∀up (x y:Int×Int),Io x->Io y->jD (cP.sJ up p x y).1 (cP.sJ up p x y).2=true/\mU (bV (cP.sJ up p x y).1 (cP.sJ up p x y).2)/\bl (bV (cP.sJ up p x y).1 (cP.sJ up p x y).2).1.natAbs<=100000:=by
  intro up x y hx hy;obtain⟨h1,h2⟩:=aJU up (x:=x) (y:=y) (p:=p) (by omega) hx.1 hy.1 hx.2 hy.2;refine⟨h1,⟨by omega,?_,fun h=>Ek h,fun h=>Ml h⟩,by omega⟩;unfold jD at h1;unfold bV;split
  ·dsimp only;omega
  ·rename_i Dq;rw[decide_eq_false Dq,bZI,bXN]at h1;exact⟨of_decide_eq_true h1.1,of_decide_eq_true h1.2⟩
 have Qz:∀a b:Rat,b≠0->a/b*b=a:=fun a b h=>by grind
 unfold iQ.aFF iQ.aFG;rw[aEO,aEO]
 by_cases hS:0<S
 ·rw[R.bW (cCJ hS)]at s8;have rS:=R.aM (cCJ hS) (show 0<=1/64-ρ by grind);rw[decide_eq_false (show ¬R.qz s.1<0 by grind),decide_eq_false (show ¬R.qz s.2<0 by grind),cond_false,cond_false];obtain⟨d1,d2,d3,d4,V0,q0⟩:=Gj (q1:=R.qz s.1/R.qz c.2) (q2:=R.qz s.2/R.qz c.1) s6 s7 s8 c6 c7 c8 m0 hS C0 C1 r0 r1 hV (Qz _ _ (by grind)) (Qz _ _ (by grind));have n1:=(Cm false (x:=s.1) (y:=c.2) (p:=p) (q:=R.qz s.1/R.qz c.2) (by omega) vn (Qz _ _ (by grind))).1 rfl;have n2:=(Cm true (x:=s.2) (y:=c.1) (p:=p) (q:=R.qz s.2/R.qz c.1) (by omega) un (Qz _ _ (by grind))).2 rfl;obtain⟨i1,p1,b1⟩:=rB false s.1 c.2 z1 z4;obtain⟨i2,p2,b2⟩:=rB true s.2 c.1 z2 z3;rw[R.bW q0]at n1;rw[R.bW (show 0<=R.qz s.2/R.qz c.1 by grind)]at n2;refine⟨i1,i2,p1,p2,b1,b2,m0,by grind,by grind,?_⟩;rw[R.bW (cCJ V0)];generalize R.qz s.1/R.qz c.2=q1 at *;generalize R.qz s.2/R.qz c.1=q2 at *;have k1:=R.aM (cCJ e2) (show 0<=V+3*ρ*V-q2 by grind);have k2:=R.aM (cCJ e2) (show 0<=V-q1 by grind);have k3:=R.aM (R.aM (cCJ e2) (cCJ V0)) (show 0<=1/64-ρ by grind);dsimp only;grind
 ·have bEF:0 < -S:=by grind
  have eS:R.ab S=-S:=by unfold R.ab;rw[if_neg (by grind)]
  rw[eS]at s8;have rS:=R.aM (cCJ bEF) (show 0<=1/64-ρ by grind);rw[decide_eq_true (show R.qz s.1<0 by grind),decide_eq_true (show R.qz s.2<0 by grind),cond_true,cond_true];have f1:-(R.qz s.2/R.qz c.2)*R.qz c.2=-R.qz s.2:=by have:=Qz (R.qz s.2) (R.qz c.2) (by grind);grind
  have f2:-(R.qz s.1/R.qz c.1)*R.qz c.1=-R.qz s.1:=by have:=Qz (R.qz s.1) (R.qz c.1) (by grind);grind
  obtain⟨d1,d2,d3,d4,V0,q0⟩:=Gj (V:=-V) (a:=-R.qz s.2) (b:=-R.qz s.1) (S:=-S) (q1:=-(R.qz s.2/R.qz c.2)) (q2:=-(R.qz s.1/R.qz c.1)) (by grind) (by grind) (by grind) c6 c7 c8 m0 bEF C0 C1 r0 r1 (by grind) f1 f2;have n1:=(Cm false (x:=s.1) (y:=c.1) (p:=p) (q:=R.qz s.1/R.qz c.1) (by omega) un (Qz _ _ (by grind))).1 rfl;have n2:=(Cm true (x:=s.2) (y:=c.2) (p:=p) (q:=R.qz s.2/R.qz c.2) (by omega) vn (Qz _ _ (by grind))).2 rfl;obtain⟨i1,p1,b1⟩:=rB false s.1 c.1 z1 z3;obtain⟨i2,p2,b2⟩:=rB true s.2 c.2 z2 z4;rw[<-R.iB,R.bW (show 0<=-(R.qz s.1/R.qz c.1) by grind)]at n1;rw[<-R.iB,R.bW q0]at n2;refine⟨i1,i2,p1,p2,b1,b2,m0,by grind,by grind,?_⟩;rw[<-R.iB,R.bW (cCJ V0)];generalize R.qz s.2/R.qz c.2=q1 at *;generalize R.qz s.1/R.qz c.1=q2 at *;have k1:=R.aM (cCJ e2) (show 0<=-V+3*ρ*-V+q2 by grind);have k2:=R.aM (cCJ e2) (show 0<=-V+q1 by grind);have k3:=R.aM (R.aM (cCJ e2) (cCJ V0)) (show 0<=1/64-ρ by grind);dsimp only;grind
theorem Ka{p:Int×Int}(h:Io p):Io (kD.wI p):=by
 obtain⟨a,b⟩:=h;refine⟨?_,b⟩;show bl (-p.1).natAbs<=_;rw[cFM];exact a
theorem Hj{a b:Int×Int}(h:0<R.qz a)(aRI:R.qz a<=R.qz b):eQ.sE a b=1:=by
 unfold eQ.sE;have z:R.qz (0,0)=0:=R.qH rfl;rw[if_neg (fun hh=>by have:=zL.1 hh;grind),if_pos (uY.2 (by grind))]
theorem Se{a b:Int×Int}(h:R.qz b<0):eQ.sE a b=-1:=by
 unfold eQ.sE;have z:R.qz (0,0)=0:=R.qH rfl;rw[if_pos (zL.2 (by grind))]
theorem aJT{s c:(Int×Int)×(Int×Int)}{S C V ρ m:Rat}{p:Int}(hs:Bx s S (ρ*R.ab S) m)(hc:Bx c C (ρ*R.ab C) m)(S0:S≠0)(C0:C≠0)(C1:R.ab C<=1)(r0:0<=ρ)(r1:ρ<=1/64)(hV:V*C=S)(hp:4<=p/\p<=70000)
  (z1:Io s.1) (z2:Io s.2) (z3:Io c.1) (z4:Io c.2) :
  eQ.sE c.1 c.2≠0/\jD (iQ.Jo p s.1 s.2 c.1 c.2).1 (iQ.Jo p s.1 s.2 c.1 c.2).2=true/\jD (iQ.Jp p s.1 s.2 c.1 c.2).1 (iQ.Jp p s.1 s.2 c.1 c.2).2=true /\
  Bx (bV (iQ.Jo p s.1 s.2 c.1 c.2).1 (iQ.Jo p s.1 s.2 c.1 c.2).2,bV (iQ.Jp p s.1 s.2 c.1 c.2).1 (iQ.Jp p s.1 s.2 c.1 c.2).2) V ((5*ρ+3*R.pz (2-p))*R.ab V) m:=by
 have lo:=hc.lo;have hi:=hc.hi;have m0:=hc.m0;have wd:=hc.wd
 by_cases c0:0<C
 ·rw[R.bW (cCJ c0)]at C1 wd;have rC:=R.aM (cCJ c0) (show 0<=1/64-ρ by grind);have sg:=Hj (a:=c.1) (b:=c.2) (by grind) (by grind);unfold iQ.Jo iQ.Jp;rw[sg,show((1:Int)==-1)=false from rfl];simp only[cond_false];exact⟨by decide,aCU hs hc S0 c0 C1 r0 r1 hV hp z1 z2 z3 z4⟩
 ·have e:R.ab C=-C:=by unfold R.ab;rw[if_neg (by grind)]
  rw[e]at C1 wd;have rC:=R.aM (show 0<=-C by grind) (show 0<=1/64-ρ by grind);have sg:=Se (a:=c.1) (b:=c.2) (by grind);unfold iQ.Jo iQ.Jp;rw[sg,show((-1:Int)==-1)=true from rfl];simp only[cond_true];have tW:=hs.neg;have bOP:=hc.neg;rw[<-R.iB]at tW bOP;have s0:-S≠0:=by grind
  have c1:0 < -C:=by grind
  have v1:V*-C=-S:=by grind
  have q:=aCU tW bOP s0 c1 C1 r0 r1 v1 hp (Ka z2) (Ka z1) (Ka z4) (Ka z3);dsimp only at q;exact⟨by decide,q⟩
theorem Zj{s:(Int×Int)×(Int×Int)}{V W m:Rat}{n:Int}(h:Bx s V W m)(hn:1<=n/\n<=70000)(h1:R.ab (R.qz s.1)<=R.pz 1100)(h2:R.ab (R.qz s.2)<=R.pz 1100) :
  wG false s.1 n=true/\wG true s.2 n=true/\Bx (shD false s.1 n,shD true s.2 n) V (W+R.pz (1-n)*(R.ab (R.qz s.1)+R.ab (R.qz s.2))) m:=by
 obtain⟨pl,ph,bl',bh,m0,lo,hi,wd⟩:=h;have aTU:∀{p:Int×Int},mU p->R.ab (R.qz p)<=R.pz 1100->bGV p:=by
  intro p hp hv;refine⟨hp,?_⟩
  by_cases h0:p.1=0
  ·have hb:M.bl p.1.natAbs=0:=by rw[h0];rfl
   have:=hp.2.2.1 h0;omega
  ·have:=uL h0 hv;unfold bI at this;omega
 obtain⟨a1,a2⟩:=Ql (up:=false) (n:=n) (aTU pl h1) hn.1;obtain⟨a3,a4⟩:=Ql (up:=true) (n:=n) (aTU ph h2) hn.1;have n1:=(Hi false s.1 hn.1).1 rfl;have n2:=(Hi true s.2 hn.1).2 rfl;have b1:=xQ false s.1 n.toNat;have b2:=xQ true s.2 n.toNat;rw[show((n.toNat:Nat):Int)=n by omega]at b1 b2;exact⟨a1,a3,a2,a4,by dsimp only;omega,by dsimp only;omega,m0,by dsimp only;grind,by dsimp only;grind,by dsimp only;grind⟩
theorem aPP{a b:Int×Int}{p:Int}(aRI:R.qz a<=R.qz b)(h:(0<R.qz a/\(R.qz b-R.qz a)*R.pz p<=R.qz a)\/(R.qz b<0/\(R.qz b-R.qz a)*R.pz p<=-R.qz b)):vY.aHH a b p=true:=by
 unfold vY.aHH
 by_cases he:dQ a b=0
 ·rw[he];rfl
 ·rw[show(dQ a b==0)=false from beq_eq_false_iff_ne.2 he,cond_false];obtain⟨n,hn,sg,hw⟩:∃n:Int×Int,(bif decide (eQ.sE a b<0)then b else a)=n/\eQ.sE a b≠0/\(n.1≠0/\(R.qz b-R.qz a)*R.pz p<=R.ab (R.qz n)):=by
   rcases h with ⟨h1,h2⟩ |⟨h1,h2⟩
   ·rw[Hj h1 aRI];exact⟨a,rfl,by decide,Gb (by grind),by rw[R.bW (cCJ h1)];exact h2⟩
   ·rw[Se h1];refine⟨b,rfl,by decide,Gb (by grind),?_⟩;have:R.ab (R.qz b)=-R.qz b:=by unfold R.ab;rw[if_neg (by grind)]
    rw[this];exact h2
  rw[show(eQ.sE a b==0)=false from beq_eq_false_iff_ne.2 sg,cond_false,hn];have w0:(bY.kB b (-a.1,a.2)).1≠0:=aJB he;have wq:R.qz (bY.kB b (-a.1,a.2))=R.qz b-R.qz a:=by rw[Eg,nU];grind
  generalize bY.kB b (-a.1,a.2)=w at *;obtain⟨n0,hw⟩:=hw;rw[<-wq]at hw;have wp:0<=R.qz w:=by rw[wq];grind
  obtain⟨t1,t2⟩:=nR w0;obtain⟨u1,u2⟩:=nR n0;rw[R.bW wp]at t1 t2;have pp:=R.cY p
  by_cases ht:bI w+p=bI n
  ·rw[show(bI w+p !=bI n)=false from by rw[ht];exact bne_self_eq_false _,cond_false];refine decide_eq_true (lC.2 ?_);have un:∀x:Int×Int,R.qz (aHG x)*R.pz (bI x)=R.ab (R.qz x):=by
    intro x;rw[aEY];unfold aHG R.qz;dsimp only;rw[cEW,cEU,<-R.iG];congr 2;unfold bI;omega
   have e1:=un w;have e2:=un n;rw[R.bW wp]at e1;rw[<-ht,R.iG]at e2;refine R.bP (q:=R.pz (bI w)*R.pz p) (cCX (R.cY _) pp) ?_;have e3:R.qz (aHG w)*(R.pz (bI w)*R.pz p)=R.qz w*R.pz p:=by rw[<-cEU,e1]
   grind
  ·rw[show(bI w+p !=bI n)=true from bne_iff_ne.2 ht,cond_true];refine decide_eq_true ?_;have:R.pz (bI w+p)<R.pz (bI n+1):=by
    rw[R.iG];have:=R.aM (show 0<=R.qz w-R.pz (bI w) by grind) (cCJ pp);grind
   have:=R.xR.1 this;omega
end M
namespace W
open Go AI M
namespace sQ
def Qj(x:iW):Prop:=aW x/\((dv x).1≠0->dQ (((dv x).1.natAbs:Nat),(dv x).2) (1,0)<=0/\-524288<=(dv x).2+(bl (dv x).1.natAbs:Nat)-1)
end sQ
namespace rT
def E:=mE [(84,oR.aJ),(86,Jx.aJ),(30,aHE.aJ),(87,Ch.aJ)] 62 [] [(10,[30,31,32]),(4,[1,20,21,22]),(3,[1])] [3]
def aF:=bd f158
theorem aU:Nk E aF:=nk
def J3(a:Nat)(b:Nat->Bool)(c:Nat->List Int)(d:Nat->Int):=lE E f158 aF 3 [(A.v (V.one (L.rows 3 a fun i=>[sc (bool (b i)),ints u64 (c i),sc (int i64 (d i))])),none)]
def L4(a:Nat)(b:Nat->Bool)(c:Nat->List Int)(d:Nat->Int)(e:Nat)(f:Nat->Bool)(g:Nat->List Int)(h:Nat->Int) j k:=nN E f158 aF 4 [(A.v (V.one (L.rows 3 a fun i=>[sc (bool (b i)),ints u64 (c i),sc (int i64 (d i))])),none),(A.v (V.one (L.rows 3 e fun i=>[sc (bool (f i)),ints u64 (g i),sc (int i64 (h i))])),none),bK j,bK k]
def Dl(a:Nat)(b:Nat->Bool)(c:Nat->List Int)(d:Nat->Int) e f:=nN E f158 aF 10 [(A.v (V.one (L.rows 3 a fun i=>[sc (bool (b i)),ints u64 (c i),sc (int i64 (d i))])),none),bK e,bK f]
theorem start p (a:iW) (b:iW):aG E f158 aF [D.s (sc (int i64 p)),D.rows 3 2 fun i=>[sc (bool (t2 a b i).fst),ints u64 (t2 a b i).snd.fst,sc (int i64 (t2 a b i).snd.snd)]]=letI A:=some [D.s (sc (int i64 1))];aD (decide (p<1)) A (aD (decide (67000<p)) A (rT.J3 2 (fun i=>(t2 a b i).fst) (fun i=>(t2 a b i).snd.fst) fun i=>(t2 a b i).snd.snd)):=eJ aU
theorem fB a b c d:J3 a b c d=rT.L4 a (fun i=>b i) (fun i=>c i) (fun i=>d i) a (fun i=>b i) (fun i=>c i) (fun i=>d i) (a:Int) 0:=cJ aU
theorem kV a b c d e f g h j k:L4 a b c d e f g h j k=aD (decide (k<j)) (if 0<=k/\k<(e:Int)then aO (aW (f k.toNat,g k.toNat,h k.toNat)) (rT.L4 a (fun i=>b i) (fun i=>c i) (fun i=>d i) e (fun i=>f i) (fun i=>g i) (fun i=>h i) j (i64.wrap (k+1)))else none) (rT.Dl a (fun i=>b i) (fun i=>c i) (fun i=>d i) (a:Int) 0):=lJ aU
theorem qB a b c d e f:Dl a b c d e f=letI F:=some [D.s (sc (int i64 5))];letI C:=(b f.toNat,c f.toNat,d f.toNat);letI B:=(false,c f.toNat,d f.toNat);letI A:=(isNeg (bV 1 0).fst,M6.dg (bV 1 0).fst.natAbs,(bV 1 0).snd);aD (decide (f<e)) (if 0<=f/\f<(a:Int)then aD ((↑(c f.toNat).length:Int)==(0:Int)) (rT.Dl a (fun i=>b i) (fun i=>c i) (fun i=>d i) e (i64.wrap (f+1))) (aO ((-9223372036854775808:Int)<=(1:Int)/\(1:Int)<(9223372036854775808:Int)) (aO (aW B/\aW A) (aO (aW C) (aD (decide (0<cT (bY.pK (dv B) (dv A)) (bY.pJ (dv B) (dv A)))) F (aD (decide ((if(dv C).fst=0 then(0:Int)else d f.toNat+(↑(bl (M6.val (c f.toNat))):Int)-(1:Int))<(-524288:Int))) F (rT.Dl a (fun i=>b i) (fun i=>c i) (fun i=>d i) e (i64.wrap (f+1))))))))else none) (some [D.s (sc (int i64 0))]):=lJ aU
abbrev Qj:=sQ.Qj
def sp(p:Int)(a:iW×iW):Prop×List D:=((1<=p/\p<=67000)/\Qj a.1/\Qj a.2,[.s (.sc (.int .i64 0))])
theorem LB(n:Nat)(f:Nat->iW)(hn:n<=1000)(hf:∀i,i<n->Qj (f i)):∀d k:Nat,k+d=n->Dl n (fun i=>(f i).1) (fun i=>(f i).2.1) (fun i=>(f i).2.2) (n:Int) (k:Int)=some [.s (.sc (.int .i64 0))]
 |0,k,h=>by rw[qB,aN]
 |d+1,k,h=>by
  have e:i64.wrap ((k:Int)+1)=((k+1:Nat):Int):=by rw[wrap_i64];omega
  have r:=LB n f hn hf d (k+1) (by omega);obtain⟨hx,ht⟩:=hf k (by omega);have hz:=M6.cX hx.Fh;have ha:(dv (f k)).1.natAbs=M6.val (f k).2.1:=iT ((f k).1,(f k).2.1);rw[qB,aR,aT,cBF,e]
  by_cases h0:(f k).2.1.length=0
  ·rw[cL];exact r
  ·have hv:(dv (f k)).1≠0:=fun hc=>h0 (hz.2 (by omega))
   obtain⟨t1,t2⟩:=ht hv;have n1:bV 1 0=(1,0):=by decide +kernel
   have pn:mU (1,0):=⟨by decide +kernel,⟨by decide,by decide⟩,fun h=>absurd h (by decide),fun _=>by decide⟩;have v1:=gF ((1,0):Int×Int);have ok:aW (false,(f k).2.1,(f k).2.2):=⟨⟨hx.1.1,fun hf=>(by cases hf),hx.1.len⟩,hx.2⟩;have vx:dv (false,(f k).2.1,(f k).2.2)=((((dv (f k)).1.natAbs:Nat):Int),(dv (f k)).2):=by rw[ha];rfl
   have bUA:((f k).1,(f k).2.1,(f k).2.2)=f k:=rfl;simp only[n1,v1,vx,bUA];rw[cO,gP ⟨by decide,by decide⟩,gP ⟨ok,eI pn⟩,gP hx];have bQI:¬0<cT (bY.pK ((((dv (f k)).1.natAbs:Nat):Int),(dv (f k)).2) (1,0)) (bY.pJ ((((dv (f k)).1.natAbs:Nat):Int),(dv (f k)).2) (1,0)):=Int.not_lt.2 t1;have bHE:¬(f k).2.2+((bl (M6.val (f k).2.1):Nat):Int)-1 < -524288:=by
    rw[ha]at t2;have:(dv (f k)).2=(f k).2.2:=rfl;omega
   rw[aN bQI,if_neg hv,aN bHE];exact r
theorem LA(n:Nat)(f:Nat->iW)(hn:n<=1000)(hf:∀i,i<n->Qj (f i)):∀d k:Nat,k+d=n->L4 n (fun i=>(f i).1) (fun i=>(f i).2.1) (fun i=>(f i).2.2) n (fun i=>(f i).1) (fun i=>(f i).2.1) (fun i=>(f i).2.2) (n:Int) (k:Int)=some [.s (.sc (.int .i64 0))]
 |0,k,h=>by rw[kV,aN];exact LB n f hn hf n 0 (by omega)
 |d+1,k,h=>by
  have e:i64.wrap ((k:Int)+1)=((k+1:Nat):Int):=by rw[wrap_i64];omega
  rw[kV,aR,aT,cBF,gP (hf k (by omega)).1,e];exact LA n f hn hf d (k+1) (by omega)
theorem spec:eR E f158 aF (pN .i64) (aHI (.pair sB (.pair (sI .u64) (sN .i64))) (false,[],0)) sp:=by
 rintro p a ⟨⟨p0,p1⟩,h⟩;have hf:∀i,i<2->Qj (t2 a.1 a.2 i):=fun i hi=>by
  obtain rfl |rfl:i=0\/i=1:=by omega
  ·exact h.1
  ·exact h.2
 refine(start p a.1 a.2).trans ?_;rw[aN,aN,fB];exact LA 2 (fun i=>t2 a.1 a.2 i) (by decide) hf 2 0 (by omega)
def aJ:dG:=orc2 (pN .i64) (aHI (.pair sB (.pair (sI .u64) (sN .i64))) (false,[],0)) sp
theorem ok:OK 158 aJ:=(dZ E aF (aA oR.ok (aA Jx.ok (aA aHE.ok (aA Ch.ok aE)))) func158).jR rfl spec
end rT
namespace Il
def E:=mE [(46,tI.aJ),(158,rT.aJ)] 21 [20] [(3,[1,2])] [3]
def aF:=bd f116
theorem aU:Nk E aF:=nk
def J3 a b c d e f g:=lE E f116 aF 3 [bK a,bM 1 37 [bC b,eF c,cV d,bC e,eF f,cV g]]
theorem start a c d e f g b:aG E f116 aF [D.agg [sc (bool a),ints u64 c,sc (int i64 d),sc (bool e),ints u64 f,sc (int i64 g)],D.s (sc (int i64 b))]=letI A:=some [D.s (sc (int i64 1))];aD (decide (b<1)) A (aD (decide (67000<b)) A (Il.J3 b a c d e f g)):=eJ aU
theorem fB a b c d e f g:J3 a b c d e f g=aO (dR (b,c,d,e,f,g)) (aO ((1<=a/\a<=67000)/\rT.Qj (b,c,d)/\rT.Qj (e,f,g)) (some [D.s (sc (int i64 0))])):=cJ aU
def sp(s:vF)(p:Int):Prop×List D:=((1<=p/\p<=67000)/\dR s/\sQ.Qj (fL s)/\sQ.Qj (fO s),[.s (.sc (.int .i64 0))])
theorem spec:eR E f116 aF tN (pN .i64) sp:=by
 rintro s p ⟨⟨p0,p1⟩,h1,h2,h3⟩;refine(start s.1 s.2.1 s.2.2.1 s.2.2.2.1 s.2.2.2.2.1 s.2.2.2.2.2 p).trans ?_;rw[aN,aN]
 first
  |exact(gP h1).trans (gP ⟨⟨p0,p1⟩,h2,h3⟩)
  | (rw[fB];exact(gP h1).trans (gP ⟨⟨p0,p1⟩,h2,h3⟩))
def aJ:dG:=orc2 tN (pN .i64) sp
theorem ok:OK 116 aJ:=(dZ E aF (aA tI.ok (aA rT.ok aE)) func116).jR rfl spec
end Il
namespace dY
def E:=mE [(116,Il.aJ),(49,By.aJ),(86,Jx.aJ),(19,eQ.aJ),(118,cF.aJ)] 61 [17] [(10,[1,2,4,9,10]),(13,[1,4,9,10])] [10,13]
def aF:=bd f71
theorem aU:Nk E aF:=nk
def Vb a b c d e f g h i j k l m n o p q:=lE E f71 aF 10 [bK a,bM 1 37 [bC b,eF c,cV d,bC e,eF f,cV g],bM 2 37 [bC h,sc (slice none 0 0),cV i,bC j,sc (slice none 0 0),cV k],bM 3 35 [bC l,eF m,cV n],bM 4 35 [bC o,eF p,cV q]]
def Qf a b c d e f g h i j:=lE E f71 aF 13 [bK a,bM 1 37 [bC b,sc (slice none 0 0),cV c,bC d,sc (slice none 0 0),cV e],bM 2 35 [bC f,sc (slice none 0 0),cV g],bM 3 35 [bC h,eF i,cV j]]
def aOE a b c d e f g h i j k:=lE E f71 aF 13 [bK a,bM 1 37 [bC b,sc (slice none 0 0),cV c,bC d,sc (slice none 0 0),cV e],bM 2 35 [bC f,eF g,cV h],bM 3 35 [bC i,eF j,cV k]]
theorem start a c d e f g b:aG E f71 aF [D.agg [sc (bool a),ints u64 c,sc (int i64 d),sc (bool e),ints u64 f,sc (int i64 g)],D.s (sc (int i64 b))]=letI C:=(false,f,g);letI B:=(false,c,d);letI A:=(a,c,d,e,f,g);aO ((1<=b/\b<=67000)/\dR A/\sQ.Qj (fL A)/\sQ.Qj (fO A)) (aO (aW B/\aW C) (aC (cT (bY.pK (dv B) (dv C)) (bY.pJ (dv B) (dv C))) fun h=>aD (decide (0<h)) (dY.Vb b a c d e f g false 0 false 0 false f g false c d) (dY.Vb b a c d e f g false 0 false 0 false c d false f g))):=eJ aU
theorem Fc a b c d e f g h i j k l m n o p q:Vb a b c d e f g h i j k l m n o p q=letI A:=(b,c,d,e,f,g);aO (dR A) (aC (eQ.sE (dv (fL A)) (dv (fO A))) fun r=>aD (r==0) (dY.Qf a h i j k false 0 o p q) (dY.aOE a h i j k l m n o p q)):=cJ aU
theorem Ab a b c d e f g h i j:Qf a b c d e f g h i j=letI A:=i64.wrap (a+2);letI C:=cF.uX (dv (h,i,j)) A;letI B:=cF.uA (dv (f,[],g)) A;aO (cF.aGQ (h,i,j) A) (aC (isNeg C.fst) fun k=>aC (M6.dg C.fst.natAbs) fun l=>aC C.snd fun m=>aO (cF.aGQ (f,[],g) A) (aC (isNeg B.fst) fun n=>aC (M6.dg B.fst.natAbs) fun o=>aC B.snd fun p=>some [D.agg [sc (bool k),ints u64 l,sc (int i64 m),sc (bool n),ints u64 o,sc (int i64 p)],D.s (sc (int i64 0))])):=cJ aU
theorem aSX a b c d e f g h i j k:aOE a b c d e f g h i j k=letI A:=i64.wrap (a+2);letI C:=cF.uA (dv (f,g,h)) A;letI B:=cF.uX (dv (i,j,k)) A;aO (cF.aGQ (i,j,k) A) (aC (isNeg B.fst) fun l=>aC (M6.dg B.fst.natAbs) fun m=>aC B.snd fun n=>aO (cF.aGQ (f,g,h) A) (aC (isNeg C.fst) fun o=>aC (M6.dg C.fst.natAbs) fun p=>aC C.snd fun q=>some [D.agg [sc (bool l),ints u64 m,sc (int i64 n),sc (bool o),ints u64 p,sc (int i64 q)],D.s (sc (int i64 0))])):=cJ aU
def Yq(x:iW):iW:=(false,x.2.1,x.2.2)
def Eo(s:vF):iW:=bif decide (0<dQ (dv (Yq (fL s))) (dv (Yq (fO s))))then Yq (fL s)else Yq (fO s)
def wO(s:vF):iW:=bif eQ.sE (dv (fL s)) (dv (fO s))==0 then(false,[],0)else bif decide (0<dQ (dv (Yq (fL s))) (dv (Yq (fO s))))then Yq (fO s)else Yq (fL s)
def aSG(s:vF)(p:Int):Prop:=((1<=p/\p<=67000)/\dR s/\sQ.Qj (fL s)/\sQ.Qj (fO s))/\(cF.sp (Eo s) (p+2)).1/\(cF.sp (wO s) (p+2)).1
def sp(s:vF)(p:Int):Prop×List D:=(aSG s p,[Dn (cF.uX (dv (Eo s)) (p+2)) (cF.uA (dv (wO s)) (p+2)),.s (.sc (.int .i64 0))])
theorem JN{s:vF}{p:Int}(hp:1<=p/\p<=67000)(hs:dR s){n f:iW}(hf:(cF.sp f (p+2)).1)(hn:(cF.sp (bif eQ.sE (dv (fL s)) (dv (fO s))==0 then(false,[],0)else n) (p+2)).1) :
  Vb p s.1 s.2.1 s.2.2.1 s.2.2.2.1 s.2.2.2.2.1 s.2.2.2.2.2 false 0 false 0 n.1 n.2.1 n.2.2 f.1 f.2.1 f.2.2=some [Dn (cF.uX (dv f) (p+2)) (cF.uA (dv (bif eQ.sE (dv (fL s)) (dv (fO s))==0 then(false,[],0)else n)) (p+2)),.s (.sc (.int .i64 0))]:=by
 have w:i64.wrap (p+2)=p+2:=wrap_i64;rw[Fc,gP hs,aB];show aD (eQ.sE (dv (fL s)) (dv (fO s))==0) _ _=_
 by_cases c:eQ.sE (dv (fL s)) (dv (fO s))=0
 ·rw[show(eQ.sE (dv (fL s)) (dv (fO s))==0)=true from beq_iff_eq.2 c,cond_true]at hn ⊢;show Qf _ _ _ _ _ _ _ _ _ _=_;rw[Ab];simp only[w,aB];exact(gP hf).trans ((gP hn).trans rfl)
 ·rw[show(eQ.sE (dv (fL s)) (dv (fO s))==0)=false from beq_eq_false_iff_ne.2 c,cond_false]at hn ⊢;show aOE _ _ _ _ _ _ _ _ _ _ _=_;rw[aSX];simp only[w,aB];exact(gP hf).trans ((gP hn).trans rfl)
theorem spec:eR E f71 aF tN (pN .i64) sp:=by
 rintro s p ⟨h1,h2,h3⟩;refine(start s.1 s.2.1 s.2.2.1 s.2.2.2.1 s.2.2.2.2.1 s.2.2.2.2.2 p).trans ?_;have ab:∀x:iW,aW x->aW (Yq x):=fun x hx=>⟨⟨hx.1.1,fun hf=>(by cases hf),hx.1.len⟩,hx.2⟩
 refine(gP h1).trans ((gP ⟨ab _ h1.2.1.1,ab _ h1.2.1.2.1⟩).trans ?_);rw[aB];unfold sp;unfold Eo wO at *;dsimp only;show aD (decide (0<dQ (dv (Yq (fL s))) (dv (Yq (fO s))))) _ _=_
 by_cases c:0<dQ (dv (Yq (fL s))) (dv (Yq (fO s)))
 ·rw[aR c];rw[decide_eq_true c,cond_true,cond_true]at *;exact JN h1.1 h1.2.1 h2 h3
 ·rw[aN c];rw[decide_eq_false c,cond_false,cond_false]at *;exact JN h1.1 h1.2.1 h2 h3
def aJ:dG:=orc2 tN (pN .i64) sp
theorem ok:OK 71 aJ:=(dZ E aF (aA Il.ok (aA By.ok (aA Jx.ok (aA eQ.ok (aA cF.ok aE))))) func71).jR rfl spec
end dY
namespace yJ
def E:=mE [(116,Il.aJ),(117,gK.aJ)] 27 [9] [] []
def aF:=bd f70
theorem aU:Nk E aF:=nk
theorem start a c d e f g b:aG E f70 aF [D.agg [sc (bool a),ints u64 c,sc (int i64 d),sc (bool e),ints u64 f,sc (int i64 g)],D.s (sc (int i64 b))]=letI F:=(a,c,d,e,f,g);letI A:=i64.wrap (b+2);letI C:=gK.Sb (dv (e,f,g)) A;letI B:=gK.Sa (dv (a,c,d)) A;aO ((1<=b/\b<=67000)/\dR F/\sQ.Qj (fL F)/\sQ.Qj (fO F)) (aO (gK.aPU (a,c,d) A) (aC (isNeg B.fst) fun h=>aC (M6.dg B.fst.natAbs) fun i=>aC B.snd fun j=>aO (gK.aPU (e,f,g) A) (aC (isNeg C.fst) fun k=>aC (M6.dg C.fst.natAbs) fun l=>aC C.snd fun m=>some [D.agg [sc (bool h),ints u64 i,sc (int i64 j),sc (bool k),ints u64 l,sc (int i64 m)],D.s (sc (int i64 0))]))):=eJ aU
def aPS(s:vF)(p:Int):Prop:=((1<=p/\p<=67000)/\dR s/\sQ.Qj (fL s)/\sQ.Qj (fO s))/\(gK.sp (fL s) (p+2)).1/\(gK.sp (fO s) (p+2)).1
def sp(s:vF)(p:Int):Prop×List D:=(aPS s p,[Dn (gK.Sa (dv (fL s)) (p+2)) (gK.Sb (dv (fO s)) (p+2)),.s (.sc (.int .i64 0))])
theorem spec:eR E f70 aF tN (pN .i64) sp:=by
 rintro s p ⟨h1,h2,h3⟩;have p0:=h1.1;refine(start s.1 s.2.1 s.2.2.1 s.2.2.2.1 s.2.2.2.2.1 s.2.2.2.2.2 p).trans ?_;have w:i64.wrap (p+2)=p+2:=wrap_i64;simp only[w];rw[gP h1];simp only[aB];exact(gP h2).trans ((gP h3).trans rfl)
def aJ:dG:=orc2 tN (pN .i64) sp
theorem ok:OK 70 aJ:=(dZ E aF (aA Il.ok (aA gK.ok aE)) func70).jR rfl spec
end yJ
end W
namespace R
def fv(fn:Int)(x:Rat)(k:Int):Rat:=if fn=1 then Sf x k else if fn=2 then Cf x k else Sf x k/Cf x k
end R
namespace M
open Go AI W
def mg(p:Int):Rat:=if p<2500 then 0 else R.pz (-p-1500)
theorem aTV(p:Int):0<=mg p:=by
 unfold mg;split
 ·exact cDM
 ·exact cCJ (R.cY _)
theorem aTW(p:Int):mg p<=R.pz (-p-1500):=by
 unfold mg;split
 ·exact cCJ (R.cY _)
 ·exact cDM
structure oH(u v:Int×Int)(a:Rat)(p:Int):Prop where
 pu:mU u
 pv:mU v
 a0:R.pz (-1074)<=a
 a1:a<=79/100
 lu:R.ab (R.qz u)<=a
 lv:a<=R.ab (R.qz v)
 wd:R.ab (R.qz v)-R.ab (R.qz u)<=R.pz (-p-23)*a
theorem oH.more{u v:Int×Int}{a:Rat}{p:Int}(h:oH u v a p)(hp:1<=p):0<a/\3/4*a<=R.ab (R.qz u)/\R.ab (R.qz v)<=5/4*a/\R.ab (R.qz v)<=4/5/\u.1≠0/\v.1≠0/\-1075<=bI u/\-1075<=bI v:=by
 obtain⟨_,_,a0,a1,lu,lv,wd⟩:=h;have ap:0<a:=by have:=R.cY (-1074);grind
 have bPY:R.pz (-p-23)<=1/16777216:=by
  have:=R.cN (show -p-23<=-24 by omega);have e:=R.gE 0 (n:=24) (c:=16777216) (by norm_cast);rw[R.fA,show(0:Int)-((24:Nat):Int)=-24 by rfl]at e;grind
 have m:=R.aM (cCJ ap) (show 0<=1/16777216-R.pz (-p-23) by grind);have u1:3/4*a<=R.ab (R.qz u):=by grind
 have aBR:u.1≠0:=Gb (by intro hz;rw[hz,R.bW cDM]at u1;grind);have aHF:v.1≠0:=Gb (by intro hz;rw[hz,R.bW cDM]at lv;grind);have t:R.pz (-1075)*2=R.pz (-1074):=by have:=R.pW (-1074);rw[show(-1074:Int)-1=-1075 by rfl]at this;exact this
 have tp:=R.cY (-1075);exact⟨ap,u1,by grind,by grind,aBR,aHF,yU aBR (by grind),yU aHF (by grind)⟩
theorem aJG{u v:Int×Int}{a:Rat}{p:Int}(h:oH u v a p)(hp:1<=p/\p<=66000):bBG u (p+14)/\bBG v (p+14)/\Bx (gK.uN u (p+14),gK.tQ v (p+14)) (R.sn a) (R.pz (-p-12)*R.ab (R.sn a)) (mg p):=by
 obtain⟨ap,u1,v1,v2,aBR,aHF,tu,tv⟩:=h.more hp.1;obtain⟨pu,pv,a0,a1,lu,lv,wd⟩:=h;have nu:=Vo pu aBR (p:=p+14) (by grind) (by omega) (by omega);have nv:=Vo pv aHF (p:=p+14) (by grind) (by omega) (by omega);refine⟨nu,nv,nu.pl,nv.ph,bYC nu.bl (by decide),bYC nv.bh (by decide),aTV p,?_,?_,?_⟩
 ·dsimp only;have h1:=nu.lo;have h2:=R.aCF (x:=R.ab (R.qz u)) (y:=a) (by rw[R.bW (R.bB _)];grind) (by rw[R.bW (by grind)];grind) lu;have h3:=aTW p;have h4:R.pz (-p-1500)<=R.pz (bI u-(p+14)-270):=R.cN (by omega);grind
 ·dsimp only;have h2:=R.aCF (x:=a) (y:=R.ab (R.qz v)) (by rw[R.bW (by grind)];grind) (by rw[R.bW (R.bB _)];grind) lv;unfold mg;split
  ·have:=nv.hi;grind
  ·have:=nv.mh (by omega);have h4:R.pz (-p-1500)<=R.pz (bI v-(p+14)-270):=R.cN (by omega);grind
 ·dsimp only;have k1:=nu.wd;have k2:=nv.wd;have k3:=nu.hi;have k4:=nv.lo;have pz1:=R.cY (bI v-(p+14)-270);have bHT:=R.Rz (x:=R.ab (R.qz u)) (y:=R.ab (R.qz v)) (by rw[R.bW (R.bB _)];grind) (by rw[R.bW (R.bB _)];grind);rw[R.bW (show 0<=R.ab (R.qz v)-R.ab (R.qz u) by grind)]at bHT;have l2:=R.Ah (R.sn (R.ab (R.qz v))-R.sn (R.ab (R.qz u)));obtain⟨s1,s2⟩:=R.aCH (cCJ ap) (show a<=4/5 by grind);rw[R.bW (show 0<=R.sn a by grind)];rw[show -(p+14)-1=-p-15 by omega]at k1 k2;have bEO:R.pz (-p-15)=256*R.pz (-p-23):=by
   have:=R.gE (-p-15) (n:=8) (c:=256) (by norm_cast);rw[show -p-15-((8:Nat):Int)=-p-23 by omega]at this;grind
  have bEQ:R.pz (-p-12)=2048*R.pz (-p-23):=by
   have:=R.gE (-p-12) (n:=11) (c:=2048) (by norm_cast);rw[show -p-12-((11:Nat):Int)=-p-23 by omega]at this;grind
  have zp:=R.cY (-p-23);rw[bEO]at k1 k2;rw[bEQ];generalize R.pz (-p-23)=z at *;have m1:=R.aM (cCJ zp) (show 0<=5/4*a-R.ab (R.qz v) by grind);have m2:=R.aM (cCJ zp) (show 0<=a-R.ab (R.qz u) by grind);have m3:=R.aM (cCJ zp) (show 0<=R.sn a-4/5*a by grind);have m4:=R.aM (cCJ zp) (cCJ ap);grind
theorem aLY{n:Nat}(h:n<=1048576):R.uU<=R.pz (-(n:Int)):=by
 rw[R.vJ];exact R.yA h
theorem aYU{u v:Int×Int}{a:Rat}{p:Int}(h:oH u v a p)(hp:1<=p/\p<=66000):bHA u (p+14)/\bHA v (p+14)/\Bx (cF.uX v (p+14),cF.uA u (p+14)) (R.cs a) (R.pz (-p-12)*R.ab (R.cs a)) (mg p):=by
 obtain⟨ap,u1,v1,v2,aBR,aHF,tu,tv⟩:=h.more hp.1;obtain⟨pu,pv,a0,a1,lu,lv,wd⟩:=h;have nu:=Ns (x:=u) (p:=p+14) (by grind) (fun _=>by omega) (by omega);have nv:=Ns (x:=v) (p:=p+14) (by grind) (fun _=>by omega) (by omega);have he:2*R.uU<=R.pz (-p-1501):=by
  have:=aLY (n:=100000) (by omega);have h2:=R.cN (show -((100000:Nat):Int)+1<=-p-1501 by omega);rw[R.jJ]at h2;grind
 have e1500:R.pz (-p-1500)=2*R.pz (-p-1501):=by rw[<-R.jJ];congr 1;omega
 have pp:=R.cY (-p-1501);have m1:=R.aEM (x:=R.ab (R.qz u)) (y:=a) (R.bB _) lu (by grind);have m2:=R.aEM (x:=a) (y:=R.ab (R.qz v)) (cCJ ap) lv (by grind);have mm:=aTW p;obtain⟨c1,c2⟩:=R.Xn (r:=a) (by rw[R.bW (cCJ ap)];grind);refine⟨nu,nv,nv.pl,nu.ph,bYC nv.bl (by decide),bYC nu.bh (by decide),aTV p,?_,?_,?_⟩
 ·dsimp only;have:=nv.ml aHF;have h4:R.pz (-p-1499)<=R.pz (bI v-(p+14)-270):=R.cN (by omega);have bEP:R.pz (-p-1499)=2*R.pz (-p-1500):=by rw[<-R.jJ];congr 1;omega
  grind
 ·dsimp only
  by_cases c:2*bI u+8 < -(p+14)
  ·have e:cF.uA u (p+14)=(1,0):=by
    have et:aZ.jI u=bI u:=by unfold aZ.jI bI;rw[if_neg aBR]
    unfold cF.uA;rw[et,if_neg aBR,if_pos c]
   unfold mg;rw[aT,e,nT];grind
  ·have:=nu.mh aBR c;have h4:R.pz (-p-1499)<=R.pz (bI u-(p+14)-270):=R.cN (by omega);have bEP:R.pz (-p-1499)=2*R.pz (-p-1500):=by rw[<-R.jJ];congr 1;omega
   grind
 ·dsimp only;have k1:=nu.wd;have k2:=nv.wd;have k3:=nu.lo;have k4:=nv.hi;have bHT:=R.aAI (x:=R.ab (R.qz u)) (y:=R.ab (R.qz v)) (by rw[R.bW (R.bB _)];grind) (by rw[R.bW (R.bB _)];grind);rw[R.bW (show 0<=R.ab (R.qz v)-R.ab (R.qz u) by grind)]at bHT;have l2:=R.mG (R.cs (R.ab (R.qz v))-R.cs (R.ab (R.qz u)));rw[R.bW (show 0<=R.cs a by grind)];rw[show -(p+14)-1=-p-15 by omega]at k1 k2;have bEO:R.pz (-p-15)=256*R.pz (-p-23):=by
   have:=R.gE (-p-15) (n:=8) (c:=256) (by norm_cast);rw[show -p-15-((8:Nat):Int)=-p-23 by omega]at this;grind
  have bEQ:R.pz (-p-12)=2048*R.pz (-p-23):=by
   have:=R.gE (-p-12) (n:=11) (c:=2048) (by norm_cast);rw[show -p-12-((11:Nat):Int)=-p-23 by omega]at this;grind
  have zp:=R.cY (-p-23);have h5:R.pz (-p-1501)<=R.pz (-p-23):=R.cN (by omega);rw[bEO]at k1 k2;rw[bEQ];generalize R.pz (-p-23)=z at *;have m3:=R.aM (cCJ zp) (show 0<=R.cs a-17/25 by grind);have m4:=R.aM (cCJ zp) (show 0<=1-a by grind);grind
def rS(x:Int×Int)(w q:Int):(Int×Int)×(Int×Int):=(gK.Sa (aQ.Ap x w) q,gK.Sb (aQ.Aq x w) q)
def Yj(x:Int×Int)(w:Int):vF:=uF (aQ.Ap x w) (aQ.Aq x w)
def rC(x:Int×Int)(w q:Int):(Int×Int)×(Int×Int):=(cF.uX (dv (dY.Eo (Yj x w))) q,cF.uA (dv (dY.wO (Yj x w))) q)
def sH(x:Int×Int)(w q:Int):((Int×Int)×(Int×Int))×((Int×Int)×(Int×Int)):=VTurned.trn (rS x w q) (rC x w q) (aQ.cQ x w).toNat
def rQ (x : Int × Int) (w p : Int) : (Int × Int) × (Int × Int) :=
  (bV (iQ.Jo (p + 8) (sH x w (p + 2)).1.1 (sH x w (p + 2)).1.2 (sH x w (p + 2)).2.1 (sH x w (p + 2)).2.2).1 (iQ.Jo (p + 8) (sH x w (p + 2)).1.1 (sH x w (p + 2)).1.2 (sH x w (p + 2)).2.1 (sH x w (p + 2)).2.2).2,
   bV (iQ.Jp (p + 8) (sH x w (p + 2)).1.1 (sH x w (p + 2)).1.2 (sH x w (p + 2)).2.1 (sH x w (p + 2)).2.2).1 (iQ.Jp (p + 8) (sH x w (p + 2)).1.1 (sH x w (p + 2)).1.2 (sH x w (p + 2)).2.1 (sH x w (p + 2)).2.2).2)
def rE(fn:Int)(x:Int×Int)(w p:Int):(Int×Int)×(Int×Int):=bif fn==1 then(sH x w (p+2)).1 else bif fn==2 then(sH x w (p+2)).2 else rQ x w p
theorem aBZ{x:Int×Int}(h:x.1≠0):aZ.jI x=bI x:=by unfold aZ.jI bI;rw[if_neg h]
theorem aTE{x:iW}{p:Int}(hx:aW x)(hp:1<=p/\p<=67100)(ht:-1200<=bI (dv x))(n:bBG (dv x) p):gK.aPU x p:=by
 refine⟨hx,hp,fun h0=>?_⟩;rw[aBZ h0];refine⟨by omega,n.pl,n.ph,lC.2 ?_,n.bHM,n.okB⟩;have h1:=n.lo;have h2:=n.hi;have h3:=R.cY (bI (dv x)-p-270);grind
theorem aUX{x:iW}{p:Int}(hx:aW x)(hp:1<=p/\p<=67100)(ht:(dv x).1≠0->-1200<=bI (dv x))(n:bHA (dv x) p):cF.aGQ x p:=by
 refine⟨hx,hp,fun h0=>?_⟩;have:=ht h0;rw[aBZ h0];exact⟨by omega,n.bHM h0,n.okB h0⟩
theorem Tn(a b:Int×Int):dv (dY.Yq (fL (uF a b)))=((a.1.natAbs:Int),a.2):=by
 show((M6.val (M6.dg a.1.natAbs):Int),a.2)=_;rw[M6.bD]
theorem Tp(a b:Int×Int):dv (dY.Yq (fO (uF a b)))=((b.1.natAbs:Int),b.2):=by
 show((M6.val (M6.dg b.1.natAbs):Int),b.2)=_;rw[M6.bD]
theorem Tz{x:iW}(hx:aW x):aW (dY.Yq x):=⟨⟨hx.1.1,fun hf=>(by cases hf),hx.1.len⟩,hx.2⟩
theorem uB(p:Int×Int):R.ab (R.qz ((p.1.natAbs:Int),p.2))=R.ab (R.qz p):=by rw[Eh,R.bW (R.bB _)]
theorem Xd{a b:Int×Int}(hs:eQ.sE a b≠0)(ha:mU a)(hb:mU b) :
  (aW (dY.Eo (uF a b))/\aW (dY.wO (uF a b))) /\
  ((R.ab (R.qz b)<R.ab (R.qz a)/\dv (dY.Eo (uF a b))=((a.1.natAbs:Int),a.2)/\dv (dY.wO (uF a b))=((b.1.natAbs:Int),b.2)) \/
  (R.ab (R.qz a)<=R.ab (R.qz b)/\dv (dY.Eo (uF a b))=((b.1.natAbs:Int),b.2)/\dv (dY.wO (uF a b))=((a.1.natAbs:Int),a.2))):=by
 have oa:aW (fL (uF a b)):=eI ha;have ob:aW (fO (uF a b)):=eI hb;unfold dY.Eo dY.wO;rw[jU,jV,show(eQ.sE a b==0)=false from beq_eq_false_iff_ne.2 hs,cond_false,Tn,Tp];have hc:=uY (p:=((a.1.natAbs:Int),a.2)) (q:=((b.1.natAbs:Int),b.2));rw[Eh,Eh]at hc
 by_cases h:R.ab (R.qz b)<R.ab (R.qz a)
 ·rw[decide_eq_true (hc.2 h),cond_true,cond_true,Tn,Tp];exact⟨⟨Tz oa,Tz ob⟩,Or.inl ⟨h,rfl,rfl⟩⟩
 ·rw[decide_eq_false (fun hh=>h (hc.1 hh)),cond_false,cond_false,Tn,Tp];exact⟨⟨Tz ob,Tz oa⟩,Or.inr ⟨Rat.not_lt.1 h,rfl,rfl⟩⟩
theorem aPR{a:Int×Int}{x:iW}(hx:aW x)(e:dv x=a)(h1:R.ab (R.qz a)<=1)(ht:a.1≠0->-1200<=bI a):sQ.Qj x:=by
 refine⟨hx,fun h0=>?_⟩;rw[e]at h0 ⊢;have:=ht h0;refine⟨lC.2 (by rw[Eh,nT];exact h1),?_⟩;unfold bI at this;omega
structure bPN(x:Int×Int)(p:Int)(r:Rat):Prop where
 so:yJ.aPS (Yj x (p+80)) (p+12)
 co:dY.aSG (Yj x (p+80)) (p+12)
 s:Bx (rS x (p+80) (p+14)) (R.sn r) (R.pz (-p-12)*R.ab (R.sn r)) (mg p)
 c:Bx (rC x (p+80) (p+14)) (R.cs r) (R.pz (-p-12)*R.ab (R.cs r)) (mg p)
 s1:R.ab (R.qz (rS x (p+80) (p+14)).1)<=1/\R.ab (R.qz (rS x (p+80) (p+14)).2)<=1
 c1:R.ab (R.qz (rC x (p+80) (p+14)).1)<=1/\R.ab (R.qz (rC x (p+80) (p+14)).2)<=1
theorem aKO{s:(Int×Int)×(Int×Int)}{V W m:Rat}(h:Bx s V W m)(h1:-1<=R.qz s.1)(h2:R.qz s.2<=1):R.ab (R.qz s.1)<=1/\R.ab (R.qz s.2)<=1:=by
 have:=h.lo;have:=h.hi;have:=h.m0;constructor <;> (rw[R.dJ];constructor <;> grind)
theorem aVH{x:Int×Int}{p k:Int}(hp:1<=p/\p<=66000)(h:aZM x (p+80) k):bPN x p (R.qz x-(k:Rat)*(R.pi/2)):=by
 have nl:=R.Kq h.Mo;obtain⟨_,_,pl,ph,lo,hi,wd,rg⟩:=h;rw[show 57-(p+80)=-p-23 by omega]at wd;generalize R.qz x-(k:Rat)*(R.pi/2)=r at *;have bPY:R.pz (-p-23)<=1/16777216:=by
  have:=R.cN (show -p-23<=-24 by omega);have e:=R.gE 0 (n:=24) (c:=16777216) (by norm_cast);rw[R.fA,show(0:Int)-((24:Nat):Int)=-24 by rfl]at e;grind
 have rp:0<R.ab r:=by have:=R.cY (-1074);grind
 have m:=R.aM (cCJ rp) (show 0<=1/16777216-R.pz (-p-23) by grind);have tok:∀q:Int,q=p+12->(1<=q/\q<=67000):=fun q hq=>by omega
 have oa:aW (fL (Yj x (p+80))):=eI pl;have ob:aW (fO (Yj x (p+80))):=eI ph;have ea:dv (fL (Yj x (p+80)))=aQ.Ap x (p+80):=jU _ _;have eb:dv (fO (Yj x (p+80)))=aQ.Aq x (p+80):=jV _ _;have sk:dR (Yj x (p+80)):=Fp pl ph (lC.2 (by grind));have aPC:p+12+2=p+14:=by omega
 have fin:∀(a:Rat),a=R.ab r->R.ab (R.qz (aQ.Ap x (p+80)))<=4/5->R.ab (R.qz (aQ.Aq x (p+80)))<=4/5 ->
   ((aQ.Ap x (p+80)).1≠0/\-1075<=bI (aQ.Ap x (p+80)))->((aQ.Aq x (p+80)).1≠0/\-1075<=bI (aQ.Aq x (p+80))) ->
   bBG (aQ.Ap x (p+80)) (p+14)->bBG (aQ.Aq x (p+80)) (p+14) ->
   oH (dv (dY.wO (Yj x (p+80)))) (dv (dY.Eo (Yj x (p+80)))) a p->aW (dY.Eo (Yj x (p+80)))->aW (dY.wO (Yj x (p+80))) ->
   Bx (rS x (p+80) (p+14)) (R.sn r) (R.pz (-p-12)*R.ab (R.sn r)) (mg p)->-1<=R.qz (rS x (p+80) (p+14)).1->R.qz (rS x (p+80) (p+14)).2<=1->bPN x p r:=by
  intro a ha l1 l2 t1 t2 n1 n2 par of on bs b1 b2;obtain⟨cu,cv,cb⟩:=aYU par hp;obtain⟨_,_,_,_,_,_,tu,tv⟩:=par.more hp.1;have ec:R.cs a=R.cs r:=by rw[ha];exact R.aAJ r
  rw[ec]at cb;refine⟨⟨⟨tok _ rfl,sk,aPR oa ea (by grind) (fun _=>by omega),aPR ob eb (by grind) (fun _=>by omega)⟩,?_,?_⟩,⟨⟨tok _ rfl,sk,aPR oa ea (by grind) (fun _=>by omega),aPR ob eb (by grind) (fun _=>by omega)⟩,?_,?_⟩,bs,cb,aKO bs b1 b2,aKO cb ?_ cu.one⟩
  ·rw[aPC];exact aTE oa (by omega) (by rw[ea];omega) (by rw[ea];exact n1)
  ·rw[aPC];exact aTE ob (by omega) (by rw[eb];omega) (by rw[eb];exact n2)
  ·rw[aPC];exact aUX of (by omega) (fun _=>by omega) cv
  ·rw[aPC];exact aUX on (by omega) (fun _=>by omega) cu
  ·have h1:=cb.wd;have h2:=cb.hi;have h3:=cb.m0;obtain⟨c1,c2⟩:=R.Xn (r:=r) (by grind);rw[R.bW (show 0<=R.cs r by grind)]at h1;have z12:R.pz (-p-12)<=1:=by rw[<-R.fA];exact R.cN (by omega)
   have:=R.aM (show 0<=R.cs r by grind) (show 0<=1-R.pz (-p-12) by grind);show -1<=R.qz (cF.uX (dv (dY.Eo (Yj x (p+80)))) (p+14));dsimp only at h1 h2;grind
 have t75:R.pz (-1075)*2=R.pz (-1074):=by have:=R.pW (-1074);rw[show(-1074:Int)-1=-1075 by rfl]at this;exact this
 by_cases c:0<r
 ·have er:R.ab r=r:=R.bW (cCJ c);rw[er]at nl wd rg rp m;have al:R.ab (R.qz (aQ.Ap x (p+80)))=R.qz (aQ.Ap x (p+80)):=R.bW (by grind);have ah:R.ab (R.qz (aQ.Aq x (p+80)))=R.qz (aQ.Aq x (p+80)):=R.bW (by grind);have par:oH (aQ.Ap x (p+80)) (aQ.Aq x (p+80)) r p:=⟨pl,ph,rg,nl,by rw[al];exact lo,by rw[ah];exact hi,by rw[al,ah];exact wd⟩;obtain⟨_,_,_,v2,aBR,aHF,tu,tv⟩:=par.more hp.1;obtain⟨nu,nv,bs⟩:=aJG par hp;have sg:eQ.sE (aQ.Ap x (p+80)) (aQ.Aq x (p+80))≠0:=by rw[Hj (by grind) (by grind)];decide
  obtain⟨⟨of,on⟩,hd⟩:=Xd sg pl ph;have n1:isNeg (aQ.Ap x (p+80)).1=false:=fH.2 (by have:=Ef.1 (show 0<R.qz (aQ.Ap x (p+80)) by grind);omega);have n2:isNeg (aQ.Aq x (p+80)).1=false:=fH.2 (by have:=Ef.1 (show 0<R.qz (aQ.Aq x (p+80)) by grind);omega);have eS:rS x (p+80) (p+14)=(gK.uN (aQ.Ap x (p+80)) (p+14),gK.tQ (aQ.Aq x (p+80)) (p+14)):=by
   unfold rS gK.Sa gK.Sb;rw[if_neg aBR,if_neg aHF,n1,n2];rfl
  refine fin r er.symm (by grind) (by grind) ⟨aBR,tu⟩ ⟨aHF,tv⟩ nu nv ?_ of on (by rw[eS];exact bs) ?_ ?_
  ·rcases hd with ⟨d1,d2,d3⟩ |⟨d1,d2,d3⟩
   ·grind
   ·show oH (dv (dY.wO (uF _ _))) (dv (dY.Eo (uF _ _))) r p;rw[d2,d3];exact⟨yZ pl,yZ ph,rg,nl,by rw[uB,al];exact lo,by rw[uB,ah];exact hi,by rw[uB,uB,al,ah];exact wd⟩
  ·rw[eS];have:=nu.pos;dsimp only;grind
  ·rw[eS];exact nv.one
 ·have er:R.ab r=-r:=by
   unfold R.ab
   by_cases hr:0<=r
   ·have:r=0:=by grind
    rw[this,R.bW cDM]at rp;grind
   ·rw[if_neg hr]
  rw[er]at nl wd rg rp m;have al:R.ab (R.qz (aQ.Ap x (p+80)))=-R.qz (aQ.Ap x (p+80)):=by rw[<-R.iB];exact R.bW (by grind)
  have ah:R.ab (R.qz (aQ.Aq x (p+80)))=-R.qz (aQ.Aq x (p+80)):=by rw[<-R.iB];exact R.bW (by grind)
  have par:oH (aQ.Aq x (p+80)) (aQ.Ap x (p+80)) (-r) p:=⟨ph,pl,rg,nl,by rw[ah];grind,by rw[al];grind,by rw[al,ah];grind⟩;obtain⟨_,_,_,v2,aBR,aHF,tu,tv⟩:=par.more hp.1;obtain⟨nu,nv,bs⟩:=aJG par hp;have sg:eQ.sE (aQ.Ap x (p+80)) (aQ.Aq x (p+80))≠0:=by rw[Se (by grind)];decide
  obtain⟨⟨of,on⟩,hd⟩:=Xd sg pl ph;have n1:isNeg (aQ.Ap x (p+80)).1=true:=jL.2 (Lz.1 (by grind));have n2:isNeg (aQ.Aq x (p+80)).1=true:=jL.2 (Lz.1 (by grind));have eS:rS x (p+80) (p+14)=(kD.wI (gK.tQ (aQ.Ap x (p+80)) (p+14)),kD.wI (gK.uN (aQ.Aq x (p+80)) (p+14))):=by
   unfold rS gK.Sa gK.Sb;rw[if_neg aBR,if_neg aHF,n1,n2];rfl
  have bn:=bs.neg;have es:-R.sn (-r)=R.sn r:=by rw[R.xB];grind
  have bVV:R.ab (R.sn (-r))=R.ab (R.sn r):=by rw[R.xB,R.iB]
  rw[es,bVV]at bn;refine fin (-r) er.symm (by grind) (by grind) ⟨aHF,tv⟩ ⟨aBR,tu⟩ nv nu ?_ of on (by rw[eS];exact bn) ?_ ?_
  ·show oH (dv (dY.wO (uF _ _))) (dv (dY.Eo (uF _ _))) (-r) p;rcases hd with ⟨d1,d2,d3⟩ |⟨d1,d2,d3⟩
   ·rw[d2,d3];exact⟨yZ ph,yZ pl,rg,nl,by rw[uB,ah];grind,by rw[uB,al];grind,by rw[uB,uB,al,ah];grind⟩
   ·rw[d2,d3];exact⟨yZ pl,yZ ph,rg,nl,by rw[uB,al];grind,by rw[uB,ah];grind,by rw[uB,uB,al,ah];grind⟩
  ·rw[eS];show -1<=R.qz (-(gK.tQ (aQ.Ap x (p+80)) (p+14)).1,(gK.tQ (aQ.Ap x (p+80)) (p+14)).2);rw[nU];have:=nv.one;grind
  ·rw[eS];show R.qz (-(gK.uN (aQ.Aq x (p+80)) (p+14)).1,(gK.uN (aQ.Aq x (p+80)) (p+14)).2)<=1;rw[nU];have:=nu.pos;grind
end M
namespace M
open Go AI W
theorem Sd{up:Bool}{p:Int×Int}{n:Int}(hn:1<=n)(h:R.ab (R.qz p)<=1):R.ab (R.qz (shD up p n))<=1:=by
 unfold shD cZ.pC;rw[rL];split
 ·exact h
 ·rename_i hk;dsimp only;have h0:p.1≠0:=by
   intro hz;rw[hz]at hk;exact hk (by show(bl 0:Int)-n<=0;rw[wV];omega)
  have ht:=uL h0 (by rw[R.fA];exact h);unfold bI at ht;obtain⟨k,aHS⟩:=cCM (show 0<=(bl p.1.natAbs:Int)-n by omega);rw[aHS,cBF];obtain⟨j,hj⟩:=cCM (show 0<=-(p.2+(k:Int)) by omega);have hz:p.1.natAbs<=2^j*2^k:=by
   rw[aEY]at h;rw[<-cCH];have e1:R.pz p.2*((2^(j+k):Nat):Rat)=1:=by rw[<-R.dT,show p.2+((j+k:Nat):Int)=0 by omega,R.fA]
   have P:(0:Rat)<=((2^(j+k):Nat):Rat):=by exact_mod_cast cCR _
   have m:=R.aM P (show 0<=1-(p.1.natAbs:Rat)*R.pz p.2 by grind);have:(p.1.natAbs:Rat)<=((2^(j+k):Nat):Rat):=by
    have e2:((2^(j+k):Nat):Rat)*((p.1.natAbs:Rat)*R.pz p.2)=(p.1.natAbs:Rat):=by
     rw[cIU,cEU,e1];grind
    grind
   exact_mod_cast this
  have hp:(0:Int)<((2^k:Nat):Int):=by have:=cAH (n:=k) (show 0<2 by decide);omega
  have bNC:(p.1.natAbs:Int)<=((2^j:Nat):Int)*((2^k:Nat):Int):=by exact_mod_cast hz
  have hc:-((2^j:Nat):Int)<=lK.rD up p.1 k/\lK.rD up p.1 k<=((2^j:Nat):Int):=by
   have fl:∀w:Int,(w.natAbs:Int)<=((2^j:Nat):Int)*((2^k:Nat):Int)->-((2^j:Nat):Int)<=w/((2^k:Nat):Int)/\w/((2^k:Nat):Int)<=((2^j:Nat):Int):=by
    intro w hw;constructor
    ·refine Int.le_ediv_of_mul_le hp ?_;rw[cHK];omega
    ·exact Int.ediv_le_of_le_mul hp (by omega)
   unfold lK.rD;cases up with
   |false=>rw[cond_false];exact fl _ bNC
   |true =>
    rw[cond_true];have:=fl (-p.1) (by rw[cFM];exact bNC);omega
  generalize lK.rD up p.1 k=c at *;have e1:R.pz (p.2+(k:Int))*((2^j:Nat):Rat)=1:=by rw[<-R.dT,show p.2+(k:Int)+(j:Int)=0 by omega,R.fA]
  have pp:=R.cY (p.2+(k:Int));have c1:-((2^j:Nat):Rat)<=(c:Rat):=by
   have:((-((2^j:Nat):Int):Int):Rat)<=(c:Rat):=by exact_mod_cast hc.1
   rwa [cIX,cEW]at this
  have c2:(c:Rat)<=((2^j:Nat):Rat):=by
   have:(c:Rat)<=(((2^j:Nat):Int):Rat):=by exact_mod_cast hc.2
   rwa [cEW]at this
  have m1:=R.aM (cCJ pp) (show 0<=(c:Rat)+((2^j:Nat):Rat) by grind);have m2:=R.aM (cCJ pp) (show 0<=((2^j:Nat):Rat)-(c:Rat) by grind);rw[R.dJ];constructor <;> grind
def On(s:(Int×Int)×(Int×Int)):Prop:=R.ab (R.qz s.1)<=1/\R.ab (R.qz s.2)<=1
theorem On.neg{s:(Int×Int)×(Int×Int)}(h:On s):On (kD.wI s.2,kD.wI s.1):=by
 constructor
 ·show R.ab (R.qz (-s.2.1,s.2.2))<=1;rw[nU,R.iB];exact h.2
 ·show R.ab (R.qz (-s.1.1,s.1.2))<=1;rw[nU,R.iB];exact h.1
theorem On.trn{s c:(Int×Int)×(Int×Int)}(hs:On s)(hc:On c):∀n:Nat,On (VTurned.trn s c n).1/\On (VTurned.trn s c n).2:=by
 intro n
 induction n generalizing s c with
 |zero=>exact⟨hs,hc⟩
 |succ n ih=>exact ih hc hs.neg
theorem Bp{s:(Int×Int)×(Int×Int)}{V ρ m:Rat}(h:Bx s V (ρ*R.ab V) m)(r1:ρ<=1/64)(V0:V≠0) :
  63/64*R.ab V<=R.ab (R.qz s.1)/\R.ab (R.qz s.1)<=65/64*R.ab V/\63/64*R.ab V<=R.ab (R.qz s.2)/\R.ab (R.qz s.2)<=65/64*R.ab V/\(0<V->0<R.qz s.1)/\(V<0->R.qz s.2<0)/\0<R.ab V:=by
 obtain⟨_,_,_,_,m0,lo,hi,wd⟩:=h;have a0:0<R.ab V:=by
  unfold R.ab;split <;> grind
 have k:=R.aM (cCJ a0) (show 0<=1/64-ρ by grind);generalize hρ:ρ*R.ab V=W at *
 by_cases c:0<V
 ·have e:R.ab V=V:=R.bW (cCJ c);rw[e]at a0 k hρ;rw[e];rw[R.bW (show 0<=R.qz s.1 by grind),R.bW (show 0<=R.qz s.2 by grind)];refine⟨by grind,by grind,by grind,by grind,fun _=>by grind,fun _=>by grind,c⟩
 ·have e:R.ab V=-V:=by unfold R.ab;rw[if_neg (by grind)]
  rw[e]at a0 k hρ;rw[e];rw[<-R.iB,R.bW (show 0<=-R.qz s.1 by grind),<-R.iB,R.bW (show 0<=-R.qz s.2 by grind)];refine⟨by grind,by grind,by grind,by grind,fun _=>by grind,fun _=>by grind,by grind⟩
theorem Re{s:(Int×Int)×(Int×Int)}{V W W' m:Rat}(h:Bx s V W m)(hw:W<=W'):Bx s V W' m:=by
 obtain⟨a,b,c,d,e,f,g,i⟩:=h;exact⟨a,b,c,d,e,f,g,cCL i hw⟩
def eE(fn:Int)(x:Int×Int)(p:Int):(Int×Int)×(Int×Int):=(shD false (rE fn x (p+80) (p+12)).1 (p+20),shD true (rE fn x (p+80) (p+12)).2 (p+20))
structure bFL(fn:Int)(x:Int×Int)(p k:Int):Prop where
 so:yJ.aPS (Yj x (p+80)) (p+12)
 co:dY.aSG (Yj x (p+80)) (p+12)
 sS:dR (uF (rS x (p+80) (p+14)).1 (rS x (p+80) (p+14)).2)
 sC:dR (uF (rC x (p+80) (p+14)).1 (rC x (p+80) (p+14)).2)
 t1:dR (uF (sH x (p+80) (p+14)).1.1 (sH x (p+80) (p+14)).1.2)
 t2:dR (uF (sH x (p+80) (p+14)).2.1 (sH x (p+80) (p+14)).2.2)
 z:Io (sH x (p+80) (p+14)).1.1/\Io (sH x (p+80) (p+14)).1.2/\Io (sH x (p+80) (p+14)).2.1/\Io (sH x (p+80) (p+14)).2.2
 q0:eQ.sE (sH x (p+80) (p+14)).2.1 (sH x (p+80) (p+14)).2.2≠0
 q1:jD (iQ.Jo (p+20) (sH x (p+80) (p+14)).1.1 (sH x (p+80) (p+14)).1.2 (sH x (p+80) (p+14)).2.1 (sH x (p+80) (p+14)).2.2).1 (iQ.Jo (p+20) (sH x (p+80) (p+14)).1.1 (sH x (p+80) (p+14)).1.2 (sH x (p+80) (p+14)).2.1 (sH x (p+80) (p+14)).2.2).2=true
 q2:jD (iQ.Jp (p+20) (sH x (p+80) (p+14)).1.1 (sH x (p+80) (p+14)).1.2 (sH x (p+80) (p+14)).2.1 (sH x (p+80) (p+14)).2.2).1 (iQ.Jp (p+20) (sH x (p+80) (p+14)).1.1 (sH x (p+80) (p+14)).1.2 (sH x (p+80) (p+14)).2.1 (sH x (p+80) (p+14)).2.2).2=true
 re:dR (uF (rE fn x (p+80) (p+12)).1 (rE fn x (p+80) (p+12)).2)
 s1:wG false (rE fn x (p+80) (p+12)).1 (p+20)=true
 s2:wG true (rE fn x (p+80) (p+12)).2 (p+20)=true
 v0:R.fv fn (R.qz x) k≠0
 vl:R.pz (-1100)<=R.ab (R.fv fn (R.qz x) k)
 vh:R.ab (R.fv fn (R.qz x) k)<=R.pz 1090
 bx:Bx (eE fn x p) (R.fv fn (R.qz x) k) (R.pz (-p-8)*R.ab (R.fv fn (R.qz x) k)) (mg p)
 bits:(bl (eE fn x p).1.1.natAbs:Int)<=p+21/\(bl (eE fn x p).2.1.natAbs:Int)<=p+21
 ok:bY.jG (eE fn x p).2 (-(eE fn x p).1.1,(eE fn x p).1.2)=true
 thin:vY.aHH (eE fn x p).1 (eE fn x p).2 p=true
 on:fn<=2->On (eE fn x p)
theorem xV{p:Int×Int}(h:0<R.ab (R.qz p)):p.1≠0:=Gb fun hz=>by rw[hz,R.bW cDM]at h;exact Rat.lt_irrefl h
theorem aJP(k:Int)(s c:Rat):R.ab (R.rs k s c)=if k%2=0 then R.ab s else R.ab c:=by
 have h4:k%4=0\/k%4=1\/k%4=2\/k%4=3:=by omega
 unfold R.rs;rcases h4 with h |h |h |h
 ·have h2:k%2=0:=by omega
  simp[h,h2,R.iB]
 ·have h2:k%2=1:=by omega
  simp[h,h2,R.iB]
 ·have h2:k%2=0:=by omega
  simp[h,h2,R.iB]
 ·have h2:k%2=1:=by omega
  simp[h,h2,R.iB]
theorem aJS(k:Int)(s c:Rat):R.ab (R.rc k s c)=if k%2=0 then R.ab c else R.ab s:=by
 have h4:k%4=0\/k%4=1\/k%4=2\/k%4=3:=by omega
 unfold R.rc;rcases h4 with h |h |h |h
 ·have h2:k%2=0:=by omega
  simp[h,h2,R.iB]
 ·have h2:k%2=1:=by omega
  simp[h,h2,R.iB]
 ·have h2:k%2=0:=by omega
  simp[h,h2,R.iB]
 ·have h2:k%2=1:=by omega
  simp[h,h2,R.iB]
theorem wU{fn:Int}{x:Int×Int}{p k:Int}(hx:aBI x)(hp:1<=p/\p<=66000)(hf:1<=fn/\fn<=3)(h:aZM x (p+80) k):bFL fn x p k:=by
 obtain⟨so,co,bs,bc,os,oc⟩:=aVH hp h;have rn:=R.Kq h.Mo;have rg:=h.rg;have hq:=h.q;obtain⟨r,hr⟩:∃r,r=R.qz x-(k:Rat)*(R.pi/2):=⟨_,rfl⟩;have bBE:R.Sf (R.qz x) k=R.rs k (R.sn r) (R.cs r):=by rw[hr];rfl
 have bBF:R.Cf (R.qz x) k=R.rc k (R.sn r) (R.cs r):=by rw[hr];rfl
 rw[<-hr]at bs bc rn rg;have t75:R.pz (-1075)*2=R.pz (-1074):=by have:=R.pW (-1074);rw[show(-1074:Int)-1=-1075 by rfl]at this;exact this
 have bQU:=R.cY (-1075);have l75:R.pz (-1075)<=1/2:=by
  have:=R.cN (show(-1074:Int)<=0 by omega);rw[R.fA]at this;grind
 obtain⟨c1,c2⟩:=R.Xn (r:=r) (by grind);have s0:R.pz (-1075)<=R.ab (R.sn r)/\R.ab (R.sn r)<=1:=by
  rw[<-R.Yx (by grind)];obtain⟨a,b⟩:=R.aCH (R.bB r) (by grind);constructor <;> grind
 have s1:R.pz (-1075)<=R.ab (R.cs r)/\R.ab (R.cs r)<=1:=by
  rw[R.bW (show 0<=R.cs r by grind)];constructor <;> grind
 have sS:R.pz (-1075)<=R.ab (R.Sf (R.qz x) k)/\R.ab (R.Sf (R.qz x) k)<=1:=by
  rw[bBE,aJP];split <;> assumption
 have sC:R.pz (-1075)<=R.ab (R.Cf (R.qz x) k)/\R.ab (R.Cf (R.qz x) k)<=1:=by
  rw[bBF,aJS];split <;> assumption
 have Mp:∀v:Rat,R.pz (-1075)<=R.ab v->v≠0:=fun v hv hz=>by rw[hz,R.bW cDM]at hv;grind
 have S0:=Mp _ sS.1;have C0:=Mp _ sC.1;obtain⟨z,hz⟩:∃z,z=R.pz (-p-20):=⟨_,rfl⟩;have z0:=R.cY (-p-20);rw[<-hz]at z0;have pw:∀(a:Int) (n:Nat) (c:Rat),a=-p-20+(n:Int)->((2^n:Nat):Rat)=c->R.pz a=c*z:=fun a n c ha hc=>by
  rw[ha,R.dT,hc,hz];grind
 have bEQ:=pw (-p-12) 8 256 (by omega) (by norm_cast);have e8:=pw (-p-8) 12 4096 (by omega) (by norm_cast);have bWC:=pw (1-(p+20)) 1 2 (by omega) (by norm_cast);have bWD:=pw (2-(p+20)) 2 4 (by omega) (by norm_cast);have zs:z<=1/2097152:=by
  have:=R.cN (show -p-20<=-21 by omega);have e:=R.gE 0 (n:=21) (c:=2097152) (by norm_cast);rw[R.fA,show(0:Int)-((21:Nat):Int)=-21 by rfl]at e;grind
 obtain⟨b1,b2⟩:=Bx.trn bs bc (k:=k);have eT:sH x (p+80) (p+14)=VTurned.trn (rS x (p+80) (p+14)) (rC x (p+80) (p+14)) (k%4).toNat:=by unfold sH;rw[hq]
 rw[<-eT,<-bBE]at b1;rw[<-eT,<-bBF]at b2;have bHP:=On.trn os oc (k%4).toNat;rw[<-eT]at bHP;have b1:Bx (sH x (p+80) (p+14)).1 (R.Sf (R.qz x) k) (R.pz (-p-12)*R.ab (R.Sf (R.qz x) k)) (mg p):=by
  refine Re b1 ?_;rw[bBE,aJP];split <;> exact cDM
 have b2:Bx (sH x (p+80) (p+14)).2 (R.Cf (R.qz x) k) (R.pz (-p-12)*R.ab (R.Cf (R.qz x) k)) (mg p):=by
  refine Re b2 ?_;rw[bBF,aJS];split <;> exact cDM
 rw[bEQ]at b1 b2;have bQK:=bs.Ec;have bQJ:=bc.Ec;have n1:=Bp b1 (by grind) S0;have n2:=Bp b2 (by grind) C0;have h1300:R.pz (-1300)<=R.pz (-1075)/2:=by
  have:=R.pW (-1075);have:=R.cN (show(-1300:Int)<=-1075-1 by omega);grind
 have z1:Io (sH x (p+80) (p+14)).1.1:=Hg b1.bl (xV (by grind)) (by grind) (by grind);have z2:Io (sH x (p+80) (p+14)).1.2:=Hg b1.bh (xV (by grind)) (by grind) (by grind);have z3:Io (sH x (p+80) (p+14)).2.1:=Hg b2.bl (xV (by grind)) (by grind) (by grind);have z4:Io (sH x (p+80) (p+14)).2.2:=Hg b2.bh (xV (by grind)) (by grind) (by grind);have bOU:R.Sf (R.qz x) k/R.Cf (R.qz x) k*R.Cf (R.qz x) k=R.Sf (R.qz x) k:=by grind
 obtain⟨q0,q1,q2,bq⟩:=aJT (p:=p+20) b1 b2 S0 C0 sC.2 (by grind) (by grind) bOU (by omega) z1 z2 z3 z4;rw[bWD]at bq;have aV:R.ab (R.Sf (R.qz x) k/R.Cf (R.qz x) k)*R.ab (R.Cf (R.qz x) k)=R.ab (R.Sf (R.qz x) k):=by rw[<-R.eA,bOU]
 have i75:R.pz (-1075)*R.pz 1075=1:=by rw[<-R.iG];exact R.fA
 have P75:1<=R.pz 1075:=by rw[<-R.fA];exact R.cN (by omega)
 have tV:R.pz (-1075)<=R.ab (R.Sf (R.qz x) k/R.Cf (R.qz x) k)/\R.ab (R.Sf (R.qz x) k/R.Cf (R.qz x) k)<=R.pz 1075:=by
  have a0:=R.bB (R.Sf (R.qz x) k/R.Cf (R.qz x) k);generalize R.ab (R.Sf (R.qz x) k/R.Cf (R.qz x) k)=a at *;constructor
  ·have:=R.aM a0 (show 0<=1-R.ab (R.Cf (R.qz x) k) by grind);grind
  ·refine R.bP bQU ?_;have:=R.aM a0 (show 0<=R.ab (R.Cf (R.qz x) k)-R.pz (-1075) by grind);grind
 have bWZ:=Mp _ tV.1;obtain⟨bE,vl,vh,V0,oE⟩:Bx (rE fn x (p+80) (p+12)) (R.fv fn (R.qz x) k) (2048*z*R.ab (R.fv fn (R.qz x) k)) (mg p)/\R.pz (-1075)<=R.ab (R.fv fn (R.qz x) k)/\R.ab (R.fv fn (R.qz x) k)<=R.pz 1075/\R.fv fn (R.qz x) k≠0/\(fn<=2->On (rE fn x (p+80) (p+12))):=by
  have aPC:p+12+2=p+14:=by omega
  have bLK:p+12+8=p+20:=by omega
  have h3:fn=1\/fn=2\/fn=3:=by omega
  rcases h3 with rfl |rfl |rfl
  ·have a:R.fv 1 (R.qz x) k=R.Sf (R.qz x) k:=rfl;have b:rE 1 x (p+80) (p+12)=(sH x (p+80) (p+14)).1:=by unfold rE;rw[aPC];rfl
   rw[a,b];exact⟨Re b1 (by have:=R.aM (cCJ z0) (R.bB (R.Sf (R.qz x) k));grind),sS.1,by grind,S0,fun _=>bHP.1⟩
  ·have a:R.fv 2 (R.qz x) k=R.Cf (R.qz x) k:=rfl;have b:rE 2 x (p+80) (p+12)=(sH x (p+80) (p+14)).2:=by unfold rE;rw[aPC];rfl
   rw[a,b];exact⟨Re b2 (by have:=R.aM (cCJ z0) (R.bB (R.Cf (R.qz x) k));grind),sC.1,by grind,C0,fun _=>bHP.2⟩
  ·have a:R.fv 3 (R.qz x) k=R.Sf (R.qz x) k/R.Cf (R.qz x) k:=rfl;have b:rE 3 x (p+80) (p+12)=rQ x (p+80) (p+12):=rfl;rw[a,b];unfold rQ;rw[aPC,bLK];exact⟨Re bq (by have:=R.aM (cCJ z0) (R.bB (R.Sf (R.qz x) k/R.Cf (R.qz x) k));grind),tV.1,tV.2,bWZ,fun h=>absurd h (by decide)⟩
 have nE:=Bp bE (by grind) V0;have P1100:2*R.pz 1075<=R.pz 1100:=by rw[<-R.jJ];exact R.cN (by omega)
 obtain⟨bQM,bQL,bO⟩:=Zj (n:=p+20) bE (by omega) (by grind) (by grind);rw[bWC]at bO;have bX:Bx (eE fn x p) (R.fv fn (R.qz x) k) (4096*z*R.ab (R.fv fn (R.qz x) k)) (mg p):=by
  refine Re bO ?_;have k1:=R.aM (cCJ z0) (show 0<=65/64*R.ab (R.fv fn (R.qz x) k)-R.ab (R.qz (rE fn x (p+80) (p+12)).1) by grind);have k2:=R.aM (cCJ z0) (show 0<=65/64*R.ab (R.fv fn (R.qz x) k)-R.ab (R.qz (rE fn x (p+80) (p+12)).2) by grind);have k3:=R.aM (cCJ z0) (R.bB (R.fv fn (R.qz x) k));grind
 have nX:=Bp bX (by grind) V0;have g1:=xQ false (rE fn x (p+80) (p+12)).1 (p+20).toNat;have g2:=xQ true (rE fn x (p+80) (p+12)).2 (p+20).toNat;rw[show(((p+20).toNat:Nat):Int)=p+20 by omega]at g1 g2;have m1:(eE fn x p).1.1≠0:=xV (by grind);have m2:(eE fn x p).2.1≠0:=xV (by grind);have x1:=aCL (up:=false) (p:=(rE fn x (p+80) (p+12)).1) (n:=p+20) m1;have x2:=aCL (up:=true) (p:=(rE fn x (p+80) (p+12)).2) (n:=p+20) m2;have h1076:R.pz (-1076)<=63/64*R.pz (-1075):=by
  have:=R.pW (-1075);rw[show(-1075:Int)-1=-1076 by rfl]at this;grind
 have y1:=yU (p:=(rE fn x (p+80) (p+12)).1) (E:=-1076) (xV (by grind)) (by grind);have y2:=yU (p:=(rE fn x (p+80) (p+12)).2) (E:=-1076) (xV (by grind)) (by grind);refine⟨so,co,bQK,bQJ,b1.Ec,b2.Ec,⟨z1,z2,z3,z4⟩,q0,q1,q2,bE.Ec,bQM,bQL,V0,?_,?_,?_,?_,?_,?_,?_⟩
 ·have:=R.cN (show(-1100:Int)<=-1075 by omega);grind
 ·have:=R.cN (show(1075:Int)<=1090 by omega);grind
 ·rw[e8];exact bX
 ·constructor
  ·show((bl (shD false (rE fn x (p+80) (p+12)).1 (p+20)).1.natAbs:Nat):Int)<=_;omega
  ·show((bl (shD true (rE fn x (p+80) (p+12)).2 (p+20)).1.natAbs:Nat):Int)<=_;omega
 ·have P1200:R.pz 1100<=R.pz (-p-1400+((p+2600).toNat:Nat)):=R.cN (by omega);refine Ty (E:=-p-1400) (n:=(p+2600).toNat) bX.ph bX.pl.Hr ?_ ?_ (by grind) ?_ (by omega) (by omega) (by omega)
  ·show -p-1400<=(shD true (rE fn x (p+80) (p+12)).2 (p+20)).2;omega
  ·show -p-1400<=(shD false (rE fn x (p+80) (p+12)).1 (p+20)).2;omega
  ·rw[nU,R.iB];grind
 ·have bHI:R.pz p*z=1/1048576:=by
   rw[hz,<-R.iG,show p+(-p-20)=-20 by omega];have e:=R.gE 0 (n:=20) (c:=1048576) (by norm_cast);rw[R.fA,show(0:Int)-((20:Nat):Int)=-20 by rfl]at e;grind
  have wd:=bX.wd;have lo:=bX.lo;have hi:=bX.hi;have m0:=bX.m0;have k1:=R.aM (cCJ (R.cY p)) (show 0<=4096*z*R.ab (R.fv fn (R.qz x) k)-(R.qz (eE fn x p).2-R.qz (eE fn x p).1) by grind);have k2:R.pz p*(4096*z*R.ab (R.fv fn (R.qz x) k))=R.ab (R.fv fn (R.qz x) k)/256:=by
   have:R.pz p*(4096*z*R.ab (R.fv fn (R.qz x) k))=4096*(R.pz p*z)*R.ab (R.fv fn (R.qz x) k):=by grind
   rw[this,bHI];grind
  refine aPP (by grind) ?_
  by_cases c:0<R.fv fn (R.qz x) k
  ·left;have s:=nX.2.2.2.2.1 c;rw[R.bW (cCJ c)]at *;have e:=R.bW (cCJ s);refine⟨s,?_⟩;have:=nX.1;rw[e]at this;grind
  ·right;have s:=nX.2.2.2.2.2.1 (by grind);have e:R.ab (R.qz (eE fn x p).2)=-R.qz (eE fn x p).2:=by rw[<-R.iB,R.bW (by grind)]
   refine⟨s,?_⟩;have:=nX.2.2.1;rw[e]at this;grind
 ·intro h2;exact⟨Sd (by omega) (oE h2).1,Sd (by omega) (oE h2).2⟩
end M
namespace W
open Go AI M
namespace aAZ
def E:=mE [(69,aQ.aJ),(70,yJ.aJ),(71,dY.aJ),(72,VTurned.aJ),(23,iQ.aJ)] 72 [18,29,39,50,69] [] []
def aF:=bd f31
theorem aU:Nk E aF:=nk
theorem start a b c d:aG E f31 aF [D.s (sc (int i64 a)),D.s (sc (int u64 b)),D.s (sc (int i64 c)),D.s (sc (int i64 d))]=letI Z:=sc (int i64 0);letI F:=aQ.kQ b;letI W:=aQ.Aq F c;letI U:=aQ.Ap F c;aO ((0<=b/\b<18446744073709551616)/\gX.lO 64 b=true/\iM.tZ 64 b=true/\(1<=c/\c<=66590)/\mU F/\bl F.fst.natAbs<=64/\(-1200:Int)<=F.snd/\F.snd<=1200) (aC (isNeg U.fst) fun e=>aC (M6.dg U.fst.natAbs) fun f=>aC U.snd fun g=>aC (isNeg W.fst) fun h=>aC (M6.dg W.fst.natAbs) fun i=>aC W.snd fun j=>letI G:=(e,f,g,h,i,j);letI P:=gK.Sb (dv (fO G)) (d+2);letI O:=gK.Sa (dv (fL G)) (d+2);letI K:=cF.uX (dv (dY.Eo G)) (d+2);letI I:=cF.uA (dv (dY.wO G)) (d+2);aO (yJ.aPS G d) (aC (isNeg O.fst) fun k=>aC (M6.dg O.fst.natAbs) fun l=>aC O.snd fun m=>aC (isNeg P.fst) fun n=>aC (M6.dg P.fst.natAbs) fun o=>aC P.snd fun p=>letI A1:=(k,l,m,n,o,p);aO (dY.aSG G d) (aC (isNeg K.fst) fun q=>aC (M6.dg K.fst.natAbs) fun r=>aC K.snd fun s=>aC (isNeg I.fst) fun t=>aC (M6.dg I.fst.natAbs) fun u=>aC I.snd fun v=>letI B1:=(q,r,s,t,u,v);letI A:=VTurned.trn (dv (fL A1),dv (fO A1)) (dv (fL B1),dv (fO B1)) (aQ.cQ F c).toNat;aO (dR A1/\dR B1/\0<=aQ.cQ F c/\aQ.cQ F c<=3) (aC (isNeg A.fst.fst.fst) fun w=>aC (M6.dg A.fst.fst.fst.natAbs) fun x=>aC A.fst.fst.snd fun y=>aC (isNeg A.fst.snd.fst) fun z=>aC (M6.dg A.fst.snd.fst.natAbs) fun aa=>aC A.fst.snd.snd fun ab=>letI N:=(w,x,y,z,aa,ab);letI D1:=dv (fO N);letI C1:=dv (fL N);aC (isNeg A.snd.fst.fst) fun ac=>aC (M6.dg A.snd.fst.fst.natAbs) fun ad=>aC A.snd.fst.snd fun ae=>aC (isNeg A.snd.snd.fst) fun af=>aC (M6.dg A.snd.snd.fst.natAbs) fun ag=>aC A.snd.snd.snd fun ah=>letI H:=(ac,ad,ae,af,ag,ah);letI Y:=dv (fO H);letI X:=dv (fL H);letI C:=iQ.Jp (i64.wrap (d+8)) C1 D1 X Y;letI T:=bV C.fst C.snd;letI B:=iQ.Jo (i64.wrap (d+8)) C1 D1 X Y;letI Q:=bV B.fst B.snd;aD (a==1) (some [D.agg [sc (bool w),ints u64 x,sc (int i64 y),sc (bool z),ints u64 aa,sc (int i64 ab)],D.s Z]) (aD (a==2) (some [D.agg [sc (bool ac),ints u64 ad,sc (int i64 ae),sc (bool af),ints u64 ag,sc (int i64 ah)],D.s Z]) (aO (dR N/\dR H/\(1<=i64.wrap (d+8)/\i64.wrap (d+8)<=70000)/\eQ.sE X Y≠0/\(bl C1.fst.natAbs<=262144/\bl D1.fst.natAbs<=262144/\bl X.fst.natAbs<=262144/\bl Y.fst.natAbs<=262144)/\jD B.fst B.snd=true/\jD C.fst C.snd=true) (aC (isNeg Q.fst) fun ai=>aC (M6.dg Q.fst.natAbs) fun aj=>aC Q.snd fun ak=>aC (isNeg T.fst) fun al=>aC (M6.dg T.fst.natAbs) fun am=>aC T.snd fun an=>some [D.agg [sc (bool ai),ints u64 aj,sc (int i64 ak),sc (bool al),ints u64 am,sc (int i64 an)],D.s Z]))))))):=eJ aU
def sp(fn b w p:Int):Prop×List D:=((1<=fn/\fn<=3)/\(0<=b/\b<18446744073709551616)/\gX.lO 64 b=true/\iM.tZ 64 b=true/\aBI (aQ.kQ b)/\(13<=p/\p<=66012)/\w=p+68,[Dn (rE fn (aQ.kQ b) w p).1 (rE fn (aQ.kQ b) w p).2,.s (.sc (.int .i64 0))])
theorem fold(a b:Int×Int):(isNeg a.1,M6.dg a.1.natAbs,a.2,isNeg b.1,M6.dg b.1.natAbs,b.2)=uF a b:=rfl
theorem spec:Ud E f31 aF (pN .i64) (pN .u64) (pN .i64) (pN .i64) sp:=by
 rintro fn b w p ⟨hf,hb,aRA,wK,hx,hp,hw⟩;obtain⟨pp,rfl⟩:∃pp,p=pp+12:=⟨p-12,by omega⟩;obtain rfl:w=pp+80:=by omega
 refine(start fn b (pp+80) (pp+12)).trans ?_;obtain⟨k,hk⟩:=uO (w:=pp+80) hx (by omega);have N:=wU (fn:=fn) (p:=pp) hx (by omega) hf hk;have q4:0<=aQ.cQ (aQ.kQ b) (pp+80)/\aQ.cQ (aQ.kQ b) (pp+80)<=3:=by rw[hk.q];omega
 have eb:=hx.bl;have xe0:=hx.e0;have xe1:=hx.e1;have aPC:pp+12+2=pp+14:=by omega
 have bLK:pp+12+8=pp+20:=by omega
 have bQF:i64.wrap (pp+20)=pp+20:=wrap_i64;have so:=N.so;have co:=N.co;have sS:=N.sS;have sC:=N.sC;have t1:=N.t1;have t2:=N.t2;obtain⟨z1,z2,z3,z4⟩:=N.z;unfold sp rE rQ;dsimp only;rw[aPC,bLK,bQF,gP ⟨hb,aRA,wK,⟨by omega,by omega⟩,hx.rB,by omega,by omega,by omega⟩,aB,aB,aB,aB,aB,aB,fold];refine(gP so).trans ?_;rw[jU,jV,aB,aB,aB,aB,aB,aB,fold];refine(gP co).trans ?_;rw[aB,aB,aB,aB,aB,aB,fold];refine(gP ⟨sS,sC,q4.1,q4.2⟩).trans ?_;rw[jU,jV,jU,jV];have eT:VTurned.trn (gK.Sa (aQ.Ap (aQ.kQ b) (pp+80)) (pp+14),gK.Sb (aQ.Aq (aQ.kQ b) (pp+80)) (pp+14)) (cF.uX (dv (dY.Eo (uF (aQ.Ap (aQ.kQ b) (pp+80)) (aQ.Aq (aQ.kQ b) (pp+80))))) (pp+14),cF.uA (dv (dY.wO (uF (aQ.Ap (aQ.kQ b) (pp+80)) (aQ.Aq (aQ.kQ b) (pp+80))))) (pp+14)) (aQ.cQ (aQ.kQ b) (pp+80)).toNat=sH (aQ.kQ b) (pp+80) (pp+14):=rfl;rw[eT,aB,aB,aB,aB,aB,aB,aB,aB,aB,aB,aB,aB];have h3:fn=1\/fn=2\/fn=3:=by omega
 rcases h3 with rfl |rfl |rfl
 ·rfl
 ·rfl
 ·rw[cO (by decide),cO (by decide),fold,fold,jU,jV,jU,jV];have p1:1<=pp+20:=by omega
  have p2:pp+20<=70000:=by omega
  have y1:=bYC z1.1 (show 100000<=262144 by decide);have y2:=bYC z2.1 (show 100000<=262144 by decide);have y3:=bYC z3.1 (show 100000<=262144 by decide);have y4:=bYC z4.1 (show 100000<=262144 by decide);have c:=And.intro t1 (And.intro t2 (And.intro (And.intro p1 p2) (And.intro N.q0 (And.intro (And.intro y1 (And.intro y2 (And.intro y3 y4))) (And.intro N.q1 N.q2)))));refine(gP c).trans ?_;rw[aB,aB,aB,aB,aB,aB];rfl
def aJ:dG:=orc4 (pN .i64) (pN .u64) (pN .i64) (pN .i64) sp
theorem ok:OK 31 aJ:=(dZ E aF (aA aQ.ok (aA yJ.ok (aA dY.ok (aA VTurned.ok (aA iQ.ok aE))))) func31).aQH rfl spec
end aAZ
namespace vZ
def E:=mE [(96,Pf.aJ),(97,bAE.aJ),(56,Yd.aJ)] 31 [28] [] []
def aF:=bd f59
theorem aU:Nk E aF:=nk
theorem start a b d e f g c:aG E f59 aF [D.agg [sc (bool a),ints u64 b,sc (int i64 d)],D.agg [sc (bool e),ints u64 f,sc (int i64 g)],D.s (sc (int i64 c))]=letI B:=cZ.pC true (dv (e,f,g)).fst (dv (e,f,g)).snd c;letI F:=bif jD B.fst B.snd then bV B.fst B.snd else((0:Int),(0:Int));letI A:=cZ.pC false (dv (a,b,d)).fst (dv (a,b,d)).snd c;letI C:=bif jD A.fst A.snd then bV A.fst A.snd else((0:Int),(0:Int));aO (aW (a,b,d)/\1<=c/\c<=70000) (aC (isNeg C.fst) fun h=>aC (M6.dg C.fst.natAbs) fun i=>aC C.snd fun j=>aC (bif jD A.fst A.snd then(0:Int)else(5:Int)) fun k=>aO (aW (e,f,g)/\1<=c/\c<=70000) (aC (isNeg F.fst) fun l=>aC (M6.dg F.fst.natAbs) fun m=>aC F.snd fun n=>aC (bif jD B.fst B.snd then(0:Int)else(5:Int)) fun o=>aO (k=0/\o=0) (some [D.agg [sc (bool h),ints u64 i,sc (int i64 j),sc (bool l),ints u64 m,sc (int i64 n)],D.s (sc (int i64 0))]))):=eJ aU
def sp(x y:iW)(p:Int):Prop×List D:=(aW x/\aW y/\(1<=p/\p<=70000)/\wG false (dv x) p=true/\wG true (dv y) p=true,[Dn (shD false (dv x) p) (shD true (dv y) p),.s (.sc (.int .i64 0))])
theorem spec:sR E f59 aF jE jE (pN .i64) sp:=by
 rintro x y p ⟨h1,h2,hp,i1,i2⟩;have bIA:jD (cZ.pC false (dv (x.1,x.2.1,x.2.2)).1 (dv (x.1,x.2.1,x.2.2)).2 p).1 (cZ.pC false (dv (x.1,x.2.1,x.2.2)).1 (dv (x.1,x.2.1,x.2.2)).2 p).2=true:=i1;have bHZ:jD (cZ.pC true (dv (y.1,y.2.1,y.2.2)).1 (dv (y.1,y.2.1,y.2.2)).2 p).1 (cZ.pC true (dv (y.1,y.2.1,y.2.2)).1 (dv (y.1,y.2.1,y.2.2)).2 p).2=true:=i2;refine(start x.1 x.2.1 x.2.2 y.1 y.2.1 y.2.2 p).trans ?_;simp only[aB];rw[gP ⟨h1,hp⟩,gP ⟨h2,hp⟩,bIA,bHZ,gP ⟨rfl,rfl⟩];rfl
def aJ:dG:=orc3 jE jE (pN .i64) sp
theorem ok:OK 59 aJ:=(dZ E aF (aA Pf.ok (aA bAE.ok (aA Yd.ok aE))) func59).Cq rfl spec
end vZ
namespace aZK
def E:=mE [(48,zW.aJ),(59,vZ.aJ)] 23 [10,20] [] []
def aF:=bd f32
theorem aU:Nk E aF:=nk
theorem start a c d e f g b:aG E f32 aF [D.agg [sc (bool a),ints u64 c,sc (int i64 d),sc (bool e),ints u64 f,sc (int i64 g)],D.s (sc (int i64 b))]=letI C:=int i64 0;letI B:=M.shD true (dv (e,f,g)) b;letI A:=M.shD false (dv (a,c,d)) b;aO (dR (a,c,d,e,f,g)) (aC (if 1<=b/\b<=70000 then(0:Int)else(1:Int)) fun h=>aD (h !=0) (some [D.agg [sc (bool false),sc (slice none 0 0),sc C,sc (bool false),sc (slice none 0 0),sc C],D.s (sc (int i64 h))]) (aO (aW (a,c,d)/\aW (e,f,g)/\(1<=b/\b<=70000)/\wG false (dv (a,c,d)) b=true/\wG true (dv (e,f,g)) b=true) (aC (isNeg A.fst) fun i=>aC (M6.dg A.fst.natAbs) fun j=>aC A.snd fun k=>aC (isNeg B.fst) fun l=>aC (M6.dg B.fst.natAbs) fun m=>aC B.snd fun n=>some [D.agg [sc (bool i),ints u64 j,sc (int i64 k),sc (bool l),ints u64 m,sc (int i64 n)],D.s (sc C)]))):=eJ aU
def sp(s:vF)(p:Int):Prop×List D:=(dR s/\(1<=p/\p<=70000)/\wG false (dv (fL s)) p=true/\wG true (dv (fO s)) p=true,[Dn (shD false (dv (fL s)) p) (shD true (dv (fO s)) p),.s (.sc (.int .i64 0))])
theorem spec:eR E f32 aF tN (pN .i64) sp:=by
 rintro s p ⟨h1,hp,i1,i2⟩;refine(start s.1 s.2.1 s.2.2.1 s.2.2.2.1 s.2.2.2.2.1 s.2.2.2.2.2 p).trans ?_;rw[gP h1,aB,if_pos hp,gG rfl];exact gP ⟨h1.1,h1.2.1,hp,i1,i2⟩
def aJ:dG:=orc2 tN (pN .i64) sp
theorem ok:OK 32 aJ:=(dZ E aF (aA zW.ok (aA vZ.ok aE)) func32).jR rfl spec
end aZK
namespace aI
def E:=mE [(28,bQ.aJ),(29,Om.aJ),(30,aHE.aJ),(31,aAZ.aJ),(32,aZK.aJ),(20,vY.aJ)] 93 [19,32,37,52,69,79] [(10,[0,1,2,6,10]),(6,[0,1,2,6,8]),(13,[0,1,2,6,10,11,12])] [6,13]
def aF:=bd f13
theorem aU:Nk E aF:=nk
def J6 a b c d e f g h:=lE E f13 aF 6 [bK a,dM b,bK c,bM 3 37 [bC d,sc (slice none 0 0),cV e,bC f,sc (slice none 0 0),cV g],aFE h]
def Dl a b c d e f g h:=nN E f13 aF 10 [bK a,dM b,bK c,bM 3 37 [bC d,sc (slice none 0 0),cV e,bC f,sc (slice none 0 0),cV g],bK h]
def Qf a b c d e f g h i j k l m n o:=lE E f13 aF 13 [bK a,dM b,bK c,bM 3 37 [bC d,sc (slice none 0 0),cV e,bC f,sc (slice none 0 0),cV g],bK h,bM 5 37 [bC i,eF j,cV k,bC l,eF m,cV n],bK o]
theorem start a b c:aG E f13 aF [D.s (sc (int i64 a)),D.s (sc (int u64 b)),D.s (sc (int i64 c))]=letI B:=int i64 0;letI A:=aI.J6 a b c false 0 false 0 (bQ.Yh a b c);aO (0<=b/\b<18446744073709551616) (aD (bQ.pP a b c !=0) (some [D.agg [sc (bool false),sc (slice none 0 0),sc B,sc (bool false),sc (slice none 0 0),sc B],D.s (sc (int i64 (bQ.pP a b c)))]) (aD (bQ.Yh a b c) (aD (a==2) (aO ((-9223372036854775808:Int)<=(1:Int)/\(1:Int)<(9223372036854775808:Int)) (aC (isNeg (bV 1 0).fst) fun d=>aC (M6.dg (bV 1 0).fst.natAbs) fun e=>aC (bV 1 0).snd fun f=>aO (aW (d,e,f)) (some [D.agg [sc (bool d),ints u64 e,sc (int i64 f),sc (bool d),ints u64 e,sc (int i64 f)],D.s (sc B)]))) A) A)):=eJ aU
theorem uI a b c d e f g h:J6 a b c d e f g h=aD h (aO ((-9223372036854775808:Int)<=(0:Int)/\(0:Int)<(9223372036854775808:Int)) (aC (isNeg (bV 0 0).fst) fun i=>aC (M6.dg (bV 0 0).fst.natAbs) fun j=>aC (bV 0 0).snd fun k=>aO (aW (i,j,k)) (some [D.agg [sc (bool i),ints u64 j,sc (int i64 k),sc (bool i),ints u64 j,sc (int i64 k)],D.s (sc (int i64 0))]))) (aI.Dl a b c d e f g (i64.wrap (c+80))):=cJ aU
theorem qB a b c d e f g h:Dl a b c d e f g h=letI A:=rE a (aQ.kQ b) (if 68000<h then(68000:Int)else h) (i64.wrap (c+12));aO ((1<=a/\a<=3)/\(0<=b/\b<18446744073709551616)/\gX.lO 64 b=true/\iM.tZ 64 b=true/\aBI (aQ.kQ b)/\(13<=i64.wrap (c+12)/\i64.wrap (c+12)<=66012)/\(if 68000<h then(68000:Int)else h)=i64.wrap (c+12)+68) (aC (isNeg A.fst.fst) fun i=>aC (M6.dg A.fst.fst.natAbs) fun j=>aC A.fst.snd fun k=>aC (isNeg A.snd.fst) fun l=>aC (M6.dg A.snd.fst.natAbs) fun m=>aC A.snd.snd fun n=>aI.Qf a b c d e f g (if 68000<h then(68000:Int)else h) i j k l m n 0):=lJ aU
theorem Ab a b c d e f g h i j k l m n o:Qf a b c d e f g h i j k l m n o=letI K:=int i64 0;letI H:=(i,j,k,l,m,n);letI G:=i64.wrap (c+20);letI C:=M.shD true (dv (fO H)) G;letI B:=M.shD false (dv (fL H)) G;aD (o !=0) (some [D.agg [sc (bool false),sc (slice none 0 0),sc K,sc (bool false),sc (slice none 0 0),sc K],D.s (sc (int i64 o))]) (aO (dR H/\(1<=i64.wrap (c+20)/\i64.wrap (c+20)<=70000)/\wG false (dv (fL H)) G=true/\wG true (dv (fO H)) G=true) (aC (isNeg B.fst) fun p=>aC (M6.dg B.fst.natAbs) fun q=>aC B.snd fun r=>aC (isNeg C.fst) fun s=>aC (M6.dg C.fst.natAbs) fun t=>aC C.snd fun u=>letI F:=(p,q,r,s,t,u);letI I:=dv (fL F);letI A:=some [D.agg [sc (bool p),ints u64 q,sc (int i64 r),sc (bool s),ints u64 t,sc (int i64 u)],D.s (sc K)];aO (dR F/\(1<=c/\c<=70000)/\bY.jG (dv (fO F)) (-I.fst,I.snd)=true) (aC (vY.aHH I (dv (fO F)) c) fun v=>aD v A (aD (h==68000) A (aI.Dl a b c d e f g (i64.wrap (h+64))))))):=cJ aU
def iJ(fn b p:Int):(Int×Int)×(Int×Int):=if bQ.pP fn b p≠0 then((0,0),(0,0))else bif bQ.Yh fn b p then(if fn=2 then((1,0),(1,0))else((0,0),(0,0)))else eE fn (aQ.kQ b) p
def sp(fn b p:Int):Prop×List D:=(0<=b/\b<18446744073709551616,[Dn (iJ fn b p).1 (iJ fn b p).2,.s (.sc (.int .i64 (bQ.pP fn b p)))])
theorem fold(a b:Int×Int):(isNeg a.1,M6.dg a.1.natAbs,a.2,isNeg b.1,M6.dg b.1.natAbs,b.2)=uF a b:=rfl
theorem aAF{b:Int}(hb:0<=b/\b<18446744073709551616)(c0:bQ.Dr b≠0)(c3:bQ.Dr b≠3)(c4:bQ.Dr b≠4):gX.lO 64 b=true/\iM.tZ 64 b=true/\Up (gO.wH 64 b) (gO.wZ 64 b):=by
 have hp:gX.lO 64 b=true:=rfl;unfold bQ.Dr at c0 c3 c4;rw[hp,cond_true]at c0 c3 c4;have e1:gI.tD (cE.sG 64)=4503599627370496:=rfl;have e2:yO.Di (cE.sG 64)=9218868437227405312:=rfl;have e3:jH.kF (cE.sG 64)=9223372036854775808:=rfl;have e4:(cE.sG 64).2.2.1=-1074:=rfl;unfold Af.zM at c0 c3 c4;rw[e1,e2]at c0 c3 c4;have n0:b%9223372036854775808≠0:=fun h=>by rw[h,if_pos rfl]at c0;exact c0 rfl
 have n1:b%9223372036854775808<9218868437227405312:=by
  rw[if_neg n0]at c3 c4
  by_cases h1:b%9223372036854775808<4503599627370496
  ·omega
  ·rw[if_neg h1]at c3 c4
   by_cases h2:b%9223372036854775808<9218868437227405312
   ·exact h2
   ·rw[if_neg h2]at c3 c4
    by_cases h3:b%9223372036854775808=9218868437227405312
    ·rw[if_pos h3]at c3;exact absurd rfl c3
    ·rw[if_neg h3]at c4;exact absurd rfl c4
 refine⟨hp,?_,?_⟩
 ·unfold iM.tZ;rw[e2,e3];exact decide_eq_true n1
 ·have hz:(gO.wH 64 b).natAbs=(kO.Gc (cE.sG 64) (b%9223372036854775808)).toNat:=by
   unfold gO.wH;rw[nA,e3]
  have hm:0<kO.Gc (cE.sG 64) (b%9223372036854775808)/\kO.Gc (cE.sG 64) (b%9223372036854775808)<9007199254740992:=by
   unfold kO.Gc;rw[e1];split <;> omega
  have he:-1074<=gO.wZ 64 b/\gO.wZ 64 b<=971:=by
   unfold gO.wZ kO.Ju;rw[e1,e3,e4];split <;> omega
  exact⟨by omega,by omega,he.1,he.2⟩
theorem told{fn b p:Int}(c:bQ.pP fn b p=0)(hz:bQ.Yh fn b p=false):(1<=fn/\fn<=3)/\(1<=p/\p<=66000)/\bQ.Dr b≠0/\bQ.Dr b≠3/\bQ.Dr b≠4:=by
  unfold bQ.pP at c;unfold bQ.Yh at hz
  by_cases c1:fn<1
  ·rw[if_pos c1]at c;omega
  ·rw[if_neg c1]at c hz
   by_cases c2:3<fn
   ·rw[if_pos c2]at c;omega
   ·rw[if_neg c2]at c hz
    by_cases c3:p<1
    ·rw[if_pos c3]at c;omega
    ·rw[if_neg c3]at c hz
     by_cases c4:66000<p
     ·rw[if_pos c4]at c;omega
     ·rw[if_neg c4]at c hz
      by_cases c5:bQ.Dr b=3
      ·rw[if_pos c5]at c;omega
      ·rw[if_neg c5]at c
       by_cases c6:bQ.Dr b=4
       ·rw[if_pos c6]at c;omega
       ·exact⟨by omega,by omega,beq_eq_false_iff_ne.1 hz,c5,c6⟩
theorem aDB:mU (1,0):=by
 have e:bV 1 0=(1,0):=by decide +kernel
 exact e▸jQ (mS (by decide +kernel) (by decide +kernel)) (by decide +kernel)
theorem aDC:mU (0,0):=by
 have e:bV 0 0=(0,0):=iR ..;exact e▸jQ (mS (by decide +kernel) (by decide +kernel)) (by decide +kernel)
theorem yB{fn b p:Int}(h:0<=b/\b<18446744073709551616):dR (uF (iJ fn b p).1 (iJ fn b p).2):=by
 have q:∀{w:Int×Int},mU w->dR (uF w w):=fun hw=>⟨eI hw,eI hw,Ib _⟩
 unfold iJ
 by_cases c:bQ.pP fn b p=0
 ·rw[bG];cases hz:bQ.Yh fn b p with
  |true =>
   rw[cond_true]
   by_cases f2:fn=2
   ·rw[if_pos f2];exact q aDB
   ·rw[if_neg f2];exact q aDC
  |false =>
   rw[cond_false];obtain⟨hf,hp,v0,v3,v4⟩:=told c hz;obtain⟨aRA,wK,hN⟩:=aAF h v0 v3 v4;obtain⟨k,hk⟩:=uO (w:=p+80) (aMJ hN) (by omega);exact(wU (fn:=fn) (p:=p) (aMJ hN) hp hf hk).bx.Ec
 ·rw[if_pos c];exact q aDC
theorem spec:aZH E f13 aF (pN .i64) (pN .u64) (pN .i64) sp:=by
 intro fn b p h;have h:0<=b/\b<18446744073709551616:=h;have s:=(start fn b p).trans (gP h);unfold sp iJ;dsimp only
 by_cases c:bQ.pP fn b p=0
 ·rw[bG,c];rw[c,gG rfl]at s;cases hz:bQ.Yh fn b p with
  |true =>
   rw[cond_true];rw[hz,bT]at s
   by_cases f2:fn=2
   ·rw[if_pos f2];have e:bV 1 0=(1,0):=by decide +kernel
    rw[cL f2,gP ⟨by decide,by decide⟩,e,aB,aB,aB,gP (eI (show mU (1,0)from e▸jQ (mS (by decide +kernel) (by decide +kernel)) (by decide +kernel)))]at s;exact⟨_,s,iV.refl _⟩
   ·rw[if_neg f2];have e:bV 0 0=(0,0):=iR ..;rw[cO f2,uI,bT,gP ⟨by decide,by decide⟩,e,aB,aB,aB,gP (eI (show mU (0,0)from e▸jQ (mS (by decide +kernel) (by decide +kernel)) (by decide +kernel)))]at s;exact⟨_,s,iV.refl _⟩
  |false =>
   rw[cond_false];have hv:=told c hz;obtain⟨hf,hp,v0,v3,v4⟩:=hv;obtain⟨aRA,wK,hN⟩:=aAF h v0 v3 v4;have hx:aBI (aQ.kQ b):=aMJ hN;obtain⟨k,hk⟩:=uO (w:=p+80) hx (by omega);have N:=wU (fn:=fn) (p:=p) hx hp hf hk;have w1:i64.wrap (p+80)=p+80:=wrap_i64;have w2:i64.wrap (p+12)=p+12:=wrap_i64;have w3:i64.wrap (p+20)=p+20:=wrap_i64;have p1:1<=p+20/\p+20<=70000:=⟨by omega,by omega⟩;have p2:1<=p/\p<=70000:=⟨by omega,by omega⟩;have bVZ:p+80=p+12+68:=by omega
   have u:=N.bx;obtain⟨re,s1,s2,ok,th⟩:=And.intro N.re (And.intro N.s1 (And.intro N.s2 (And.intro N.ok N.thin)));have Ec:dR (uF (eE fn (aQ.kQ b) p).1 (eE fn (aQ.kQ b) p).2):=u.Ec;unfold eE at ok th Ec ⊢;rw[hz,bF,uI,bF,w1,qB,w2,if_neg (show ¬(68000:Int)<p+80 by omega),gP ⟨hf,h,aRA,wK,hx,⟨by omega,by omega⟩,bVZ⟩]at s;generalize rE fn (aQ.kQ b) (p+80) (p+12)=q at *;rw[aB,aB,aB,aB,aB,aB,Ab,gG rfl,w3,fold,jU,jV]at s;have s:=s.trans (gP ⟨re,p1,s1,s2⟩);dsimp only at ok th Ec ⊢;generalize M.shD false q.1 (p+20)=lo at *;generalize M.shD true q.2 (p+20)=hi at *;rw[aB,aB,aB,aB,aB,aB,fold,jU,jV]at s;have s:=s.trans (gP ⟨Ec,p2,ok⟩);rw[aB,th,bT]at s;exact⟨_,s,iV.refl _⟩
 ·rw[if_pos c];rw[nD c]at s;refine⟨_,s,.cons ?_ (iV.refl _)⟩;have d0:M6.dg ((0,0):Int×Int).1.natAbs=[]:=M6.cG;unfold Dn;dsimp only;rw[show(0:Int).natAbs=0 from rfl,M6.cG];exact De.agg (.cons (Ew.refl _) (.cons (Ew.nil _) (.cons (Ew.refl _) (.cons (Ew.refl _) (.cons (Ew.nil _) (Ae.refl _))))))
def aJ:dG:=orc3 (pN .i64) (pN .u64) (pN .i64) sp
theorem ok:OK 13 aJ:=(dZ E aF (aA bQ.ok (aA Om.ok (aA aHE.ok (aA aAZ.ok (aA aZK.ok (aA vY.ok aE)))))) func13).bHD rfl spec
end aI
namespace pU
def E:=mE [(13,aI.aJ),(19,eQ.aJ)] 21 [11,18] [] []
def aF:=bd f18
theorem aU:Nk E aF:=nk
theorem start a b:aG E f18 aF [D.s (sc (int i64 a)),D.s (sc (int u64 b))]=letI A:=aI.iJ a b 8;aO (0<=b/\b<18446744073709551616) (aC (isNeg A.fst.fst) fun c=>aC (M6.dg A.fst.fst.natAbs) fun d=>aC A.fst.snd fun e=>aC (isNeg A.snd.fst) fun f=>aC (M6.dg A.snd.fst.natAbs) fun g=>aC A.snd.snd fun h=>letI B:=(c,d,e,f,g,h);aC (bQ.pP a b 8) fun i=>aD (i !=0) (some [D.s (sc (int i64 0)),D.s (sc (int i64 i))]) (aO (dR B) (aC (eQ.sE (dv (fL B)) (dv (fO B))) fun j=>some [D.s (sc (int i64 j)),D.s (sc (int i64 0))]))):=eJ aU
def Yz(fn b:Int):Int:=if bQ.pP fn b 8≠0 then 0 else eQ.sE (aI.iJ fn b 8).1 (aI.iJ fn b 8).2
def sp(fn b:Int):Prop×List D:=(0<=b/\b<18446744073709551616,[.s (.sc (.int .i64 (Yz fn b))),.s (.sc (.int .i64 (bQ.pP fn b 8)))])
theorem spec:eR E f18 aF (pN .i64) (pN .u64) sp:=by
 intro fn b h;have h:0<=b/\b<18446744073709551616:=h;have s:=(start fn b).trans (gP h);unfold sp Yz;dsimp only;rw[aB,aB,aB,aB,aB,aB,aB,aI.fold,jU,jV]at s
 by_cases c:bQ.pP fn b 8=0
 ·rw[bG,c];rw[c,gG rfl]at s;exact s.trans (gP (aI.yB h))
 ·rw[if_pos c];rw[nD c]at s;exact s
def aJ:dG:=orc2 (pN .i64) (pN .u64) sp
theorem ok:OK 18 aJ:=(dZ E aF (aA aI.ok (aA eQ.ok aE)) func18).jR rfl spec
end pU
end W
namespace R
open W.TSums
theorem Xm(w:Nat):∀(j s c:Nat),pZ w (j+1) s c=(2*((pZ w j s c).1*(pZ w j s c).2/w),w-2*((pZ w j s c).1*(pZ w j s c).1/w))
 |0,s,c=>by rw[yD];rfl
 |j+1,s,c=>by rw[yD,Xm w j,<-yD]
theorem Xl{u w j:Nat}(hj:1<=j)(hu:2^j*u<=2^w)(hw:4*j+50<=w)(aUB:w<=1000000){T:Rat}(hT:T*((2^w:Nat):Rat)=((2^j:Nat):Rat)*(u:Rat)) :
  ab (((pZ (2^w) j (xN u w) (xO u w)).1:Rat)-((2^w:Nat):Rat)*sn T)<=((4^j*(2*w+10):Nat):Rat)/\ab (((pZ (2^w) j (xN u w) (xO u w)).2:Rat)-((2^w:Nat):Rat)*cs T)<=((4^j*(2*w+10):Nat):Rat)/\0<=T/\T<=1:=by
 obtain⟨v,rfl⟩:=bYQ (show j<=w by omega);have hW:(0:Rat)<((2^(j+v):Nat):Rat):=by exact_mod_cast cAH (by decide)
 have hJ:(0:Rat)<((2^j:Nat):Rat):=by exact_mod_cast cAH (by decide)
 have aUE:(0:Rat)<=(u:Rat):=by exact_mod_cast cCR _
 have aHM:((2^j:Nat):Rat)*(u:Rat)<=((2^(j+v):Nat):Rat):=by exact_mod_cast hu
 have T0:0<=T:=by
  refine bP hW ?_;have:=aM (cCJ hJ) aUE;grind
 have T1:T<=1:=by
  refine bP hW ?_;grind
 have e:((2^(j+v):Nat):Rat)=((2^j:Nat):Rat)*((2^v:Nat):Rat):=by rw[cCH,cCP]
 have ev:((2^v:Nat):Rat)*T=(u:Rat):=by
  have h1:((2^j:Nat):Rat)*(((2^v:Nat):Rat)*T)=((2^j:Nat):Rat)*(u:Rat):=by rw[<-hT,e];grind
  exact cJT (bP hJ (by rw[h1];exact cDM)) (bP hJ (by rw[h1];exact cDM))
 have bAM:u<=2^(j+v):=by
  have:=cBK u (cAH (n:=j) (show 0<2 by decide));omega
 obtain⟨s1,s2⟩:=Lm bAM;have c:j+v=v+j:=Nat.add_comm _ _;rw[c]at s1 s2 ⊢;have r:=aES (w1:=v) (h:=j) (u:=u) T0 T1 (by rw[ev];exact cDM) (by rw[ev];grind) hj (by omega) (by omega) s1 s2;exact⟨r.1,r.2,T0,T1⟩
theorem aRZ{u w h:Nat}(hu:2^h*u<=2^w)(hw:4*h+50<=w)(aUB:w<=200000){j:Nat}(hj:1<=j)(bTN:j<=h):0<(pZ (2^w) j (xN u w) (xO u w)).2:=by
 have hW:(0:Rat)<((2^w:Nat):Rat):=by exact_mod_cast cAH (by decide)
 obtain⟨T,hT⟩:∃T:Rat,T*((2^w:Nat):Rat)=((2^j:Nat):Rat)*(u:Rat):=⟨((2^j:Nat):Rat)*(u:Rat)/((2^w:Nat):Rat),by grind⟩;have bSH:2^j*u<=2^w:=bYC (cBK _ (cAI (by decide) bTN)) hu;obtain⟨_,r,T0,T1⟩:=Xl hj bSH (by omega) (by omega) hT;have c:=(Np T0 T1).1;have m:=dW T0 T1 T0 T1;have b:((4^j*(2*w+10):Nat):Rat)*4<=((2^w:Nat):Rat):=by
  have:4^j*(2*w+10)*4<=2^w:=by
   have h1:4^j*(2*w+10)<=2^(2*j)*2^20:=by rw[Bn];exact bZW _ (by have:(2:Nat)^20=1048576:=rfl;omega)
   have h2:2^(2*j)*2^20*4=2^(2*j+22):=by rw[cCH 2 (2*j) 22,show(2:Nat)^22=2^20*4 from rfl,cCN]
   have h3:2^(2*j+22)<=2^w:=cAI (by decide) (by omega);omega
  exact_mod_cast this
 have m2:=aM (cCJ hW) (show 0<=cs T-1/2 by grind);rw[dJ]at r;have:(0:Rat)<((pZ (2^w) j (xN u w) (xO u w)).2:Rat):=by grind
 exact_mod_cast this
def zsum(u W:Nat):Nat->Int×Int
 |0=>(0,0)
 |k+1=>if k%2=0 then((bif k%4==2 then(zsum u W k).1-(sq u W k:Int)else(zsum u W k).1+(sq u W k:Int)),(zsum u W k).2)else((zsum u W k).1,bif k%4==3 then(zsum u W k).2-(sq u W k:Int)else(zsum u W k).2+(sq u W k:Int))
theorem Hc(u W k:Nat):zsum u W (k+1)=if k%2=0 then((bif k%4==2 then(zsum u W k).1-(sq u W k:Int)else(zsum u W k).1+(sq u W k:Int)),(zsum u W k).2)else((zsum u W k).1,bif k%4==3 then(zsum u W k).2-(sq u W k:Int)else(zsum u W k).2+(sq u W k:Int)):=rfl
theorem Vc(u W:Nat):∀k,((zsum u W k).1:Rat)=sum (fun k=>cc k*(sq u W k:Rat)) k/\((zsum u W k).2:Rat)=sum (fun k=>ss k*(sq u W k:Rat)) k
 |0=>⟨rfl,rfl⟩
 |k+1=>by
  obtain⟨h1,h2⟩:=Vc u W k;rw[dV,dV,<-h1,<-h2,Hc];clear h1 h2;generalize zsum u W k=A;unfold cc ss;have h4:k%4=0\/k%4=1\/k%4=2\/k%4=3:=by omega
  rcases h4 with h |h |h |h
  ·have e:k%2=0:=by omega
   simp only[h,e,if_true,show((0:Nat)==2)=false from rfl,cond_false,show ¬(0:Nat)=1 by decide,show ¬(0:Nat)=3 by decide,if_false];rw[cIY,cEW];constructor <;> grind
  ·have e:¬k%2=0:=by omega
   simp only[h,e,if_true,show((1:Nat)==3)=false from rfl,cond_false,show ¬(1:Nat)=0 by decide,show ¬(1:Nat)=2 by decide,if_false];rw[cIY,cEW];constructor <;> grind
  ·have e:k%2=0:=by omega
   simp only[h,e,if_true,show((2:Nat)==2)=true from rfl,cond_true,show ¬(2:Nat)=0 by decide,show ¬(2:Nat)=1 by decide,show ¬(2:Nat)=3 by decide,if_false];rw[cLB,cEW];constructor <;> grind
  ·have e:¬k%2=0:=by omega
   simp only[h,e,if_true,show((3:Nat)==3)=true from rfl,cond_true,show ¬(3:Nat)=0 by decide,show ¬(3:Nat)=2 by decide,show ¬(3:Nat)=1 by decide,if_false];rw[cLB,cEW];constructor <;> grind
theorem aHW{u w k:Nat}(hu:u<=2^w)(hk:k<=w+1)(hz:sq u (2^w) k=0):zsum u (2^w) k=((xO u w:Int),(xN u w:Int)):=by
 obtain⟨h1,h2⟩:=Vc u (2^w) k;obtain⟨s1,s2⟩:=Lm hu;have tail:∀g:Nat->Rat,sum (fun i=>g i*(sq u (2^w) i:Rat)) (w+1)=sum (fun i=>g i*(sq u (2^w) i:Rat)) k:=by
  intro g;obtain⟨d,hd⟩:=bYQ hk;rw[hd,lM,Fo (f:=fun i=>g (k+i)*(sq u (2^w) (k+i):Rat)) fun i _=>by rw[Lq hz];simp];grind
 rw[tail]at s1 s2;rw[<-s2]at h1;rw[<-s1]at h2;have e1:(zsum u (2^w) k).1=(xO u w:Int):=by exact_mod_cast h1
 have e2:(zsum u (2^w) k).2=(xN u w:Int):=by exact_mod_cast h2
 exact Prod.ext e1 e2
theorem Vd{u W:Nat}(hu:u<=W):∀k,(zsum u W k).1.natAbs<=k*W/\(zsum u W k).2.natAbs<=k*W
 |0=>⟨cCR _,cCR _⟩
 |k+1=>by
  obtain⟨h1,h2⟩:=Vd hu k;have hs:=Go.Proofs.YtaajbopgknekmaaGreatDoor.W.TSums.xP hu k;have e:(k+1)*W=k*W+W:=by rw[bZU,cBL]
  rw[e,Hc];generalize zsum u W k=A at *;split
  ·cases (k%4==2)
   ·rw[cond_false];dsimp only;omega
   ·rw[cond_true];dsimp only;omega
  ·cases (k%4==3)
   ·rw[cond_false];dsimp only;omega
   ·rw[cond_true];dsimp only;omega
end R
namespace M
open Go AI W
def h7(q:Nat):Nat:=THalvings.hlv q 400 8
def w7(q:Nat):Nat:=q+64+4*h7 q
def u7(y:Int)(q:Nat):Nat:=y.natAbs*2^(64+3*h7 q)
def aTI(y:Int)(q:Nat):Nat×Nat:=R.pZ (2^w7 q) (h7 q) (TSums.xN (u7 y q) (w7 q)) (TSums.xO (u7 y q) (w7 q))
def Ed(y:Int)(q:Nat):Int:=zs (isNeg y) (aTI y q).1/((2^(w7 q-q):Nat):Int)
def Es(y:Int)(q:Nat):Int:=((aTI y q).2:Int)/((2^(w7 q-q):Nat):Int)
theorem aUU(q:Nat):8<=h7 q/\h7 q<=408:=by
 have:=aZ.Tc (q:Int) 400 8;unfold h7;omega
theorem aTC{y:Int}{q:Nat}(hy:y.natAbs<=2^q):2^h7 q*u7 y q<=2^w7 q:=by
 unfold u7 w7;have e:2^h7 q*(y.natAbs*2^(64+3*h7 q))=y.natAbs*2^(64+4*h7 q):=by
  rw[Nat.mul_left_comm,<-cCH];congr 2;omega
 rw[e,show q+64+4*h7 q=q+(64+4*h7 q) by omega,cCH 2 q];exact cBK _ hy
theorem aNG(z:Int):R.ab (z:Rat)=(z.natAbs:Rat):=by
 unfold R.ab
 by_cases hz:0<=z
 ·rw[if_pos (by exact_mod_cast hz),<-cEW];congr 1;omega
 ·rw[if_neg (by intro hc;exact hz (by exact_mod_cast hc)),<-cEW,<-cIX];congr 1;omega
theorem aPV{y:Int}{q:Nat}(hy:y.natAbs<=2^q)(hq:q<=140000){Y:Rat}(hY:Y*R.pz q=(y:Rat)) :
  R.ab ((Ed y q:Rat)-R.pz q*R.sn Y)<=3/2/\R.ab ((Es y q:Rat)-R.pz q*R.cs Y)<=3/2:=by
 obtain⟨a1,a2⟩:=aUU q;have hu:=aTC hy;have P:=R.cY (q:Int);have aY:R.ab Y*R.pz q=(y.natAbs:Rat):=by rw[<-aNG,<-hY,R.eA,R.bW (cCJ P)]
 have hT:R.ab Y*((2^w7 q:Nat):Rat)=((2^h7 q:Nat):Rat)*(u7 y q:Rat):=by
  unfold u7 w7;rw[show q+64+4*h7 q=q+(h7 q+(64+3*h7 q)) by omega,cCH,cCH 2 (h7 q),cCP,cCP,cCP,<-R.iF q,<-aY];grind
 obtain⟨r1,r2,T0,T1⟩:=R.Xl (j:=h7 q) (by omega) hu (by unfold w7;omega) (by unfold w7;omega) hT;have e1:R.pZ (2^w7 q) (h7 q) (TSums.xN (u7 y q) (w7 q)) (TSums.xO (u7 y q) (w7 q))=aTI y q:=rfl;rw[e1]at r1 r2;obtain⟨K,hK⟩:∃K:Rat,K=((2^(w7 q-q):Nat):Rat):=⟨_,rfl⟩;have K0:(0:Rat)<((2^(w7 q-q):Nat):Rat):=by exact_mod_cast cAH (by decide)
 have eW:((2^w7 q:Nat):Rat)=K*R.pz q:=by
  rw[hK,R.iF,<-cCP,<-cCH];congr 2;unfold w7;omega
 have bE:((4^h7 q*(2*w7 q+10):Nat):Rat)*4<=K:=by
  rw[hK];have:4^h7 q*(2*w7 q+10)*4<=2^(w7 q-q):=by
   have h1:4^h7 q*(2*w7 q+10)<=2^(2*h7 q)*2^20:=by rw[R.Bn];exact bZW _ (by have:(2:Nat)^20=1048576:=rfl;unfold w7;omega)
   have h2:2^(2*h7 q)*2^20*4=2^(2*h7 q+22):=by rw[cCH 2 (2*h7 q) 22,show(2:Nat)^22=2^20*4 from rfl,cCN]
   have h3:2^(2*h7 q+22)<=2^(w7 q-q):=cAI (by decide) (by unfold w7;omega);omega
  exact_mod_cast this
 rw[eW]at r1 r2;have fl:∀(z:Int) (v E:Rat),R.ab ((z:Rat)-K*R.pz q*v)<=E->E*4<=K->R.ab (((z/((2^(w7 q-q):Nat):Int):Int):Rat)-R.pz q*v)<=3/2:=by
  intro z v E h1 h2;obtain⟨c1,c2⟩:=yE (z:=z) (k:=w7 q-q);rw[<-hK]at c1 c2 K0;generalize ((z/((2^(w7 q-q):Nat):Int):Int):Rat)=d at *;rw[R.dJ]at h1 ⊢;have e:K*R.pz q*v=K*(R.pz q*v):=by grind
  rw[e]at h1;generalize R.pz q*v=p at *;constructor
  ·refine R.bP K0 ?_;grind
  ·refine R.bP K0 ?_;grind
 constructor
 ·unfold Ed;refine fl _ _ _ ?_ bE;have esn:R.sn (R.ab Y)=R.ab (R.sn Y):=R.Yx T1;cases hn:isNeg y with
  |true =>
   have aKR:y<0:=jL.1 hn;have Yn:¬0<=Y:=by
    intro h;have:=R.aM h (cCJ P);rw[hY]at this;have:(0:Int)<=y:=by exact_mod_cast this
    omega
   have eY:R.ab Y=-Y:=by unfold R.ab;rw[if_neg Yn]
   rw[eY,R.xB]at r1;show R.ab (((-((aTI y q).1:Int):Int):Rat)-_)<=_;rw[cIX,cEW,<-R.iB];have e:-(-((aTI y q).1:Rat)-K*R.pz q*R.sn Y)=((aTI y q).1:Rat)-K*R.pz q*-R.sn Y:=by grind
   rw[e];exact r1
  |false =>
   have aKR:0<=y:=fH.1 hn;have Yp:0<=Y:=by
    refine R.bP P ?_;have:(0:Rat)<=(y:Rat):=by exact_mod_cast aKR
    grind
   rw[R.bW Yp]at r1;show R.ab ((((aTI y q).1:Int):Rat)-_)<=_;rw[cEW];exact r1
 ·unfold Es;refine fl _ _ _ ?_ bE;rw[R.aAJ]at r2;rw[cEW];exact r2
end M
namespace W
open Go AI M
namespace Mk
def E:=mE [(74,Norm.aJ)] 16 [] [] []
def aF:=bd f80
theorem aU:Nk E aF:=nk
theorem start a b:aG E f80 aF [D.s (sc (bool a)),D.s (ints u32 b)]=letI A:=dg (val b);aO (bN b/\b.length<=4398046511104) (aD a (some [D.agg [sc (bool (decide (0<(A.length:Int)))),ints u32 A]]) (some [D.agg [sc (bool false),ints u32 A]])):=eJ aU
def sp(b:Bool)(m:List Int):Prop×List D:=(bN m/\m.length<=4398046511104,[zD (zs b (val m))])
theorem spec:eR E f80 aF pB (pI .u32) sp:=by
 intro b m h;refine(start b m).trans ((gP h).trans ?_);unfold sp;simp only[bBL];cases b with
 |false=>rfl
 |true =>
  rw[bT];have:decide (0<((dg (val m)).length:Int))=decide (val m≠0):=by
   by_cases h:val m=0
   ·rw[h,cG];rfl
   ·rw[decide_eq_true h,decide_eq_true];have:(dg (val m)).length≠0:=fun hh=>h (fT.1 hh)
    omega
  rw[this];rfl
def aJ:dG:=orc2 pB (pI .u32) sp
theorem ok:OK 80 aJ:=(dZ E aF (aA Norm.ok aE) func80).jR rfl spec
end Mk
namespace Bu
def E:=mE [(80,Mk.aJ),(121,aPD.aJ)] 12 [] [] []
def aF:=bd f76
theorem aU:Nk E aF:=nk
theorem start a c b:aG E f76 aF [D.agg [sc (bool a),ints u32 c],D.s (sc (int i64 b))]=letI A:=dg (val c*(2:Nat)^b.toNat);aO (cI c/\c.length<=1099511627776/\b<=1099511627776) (aO (bN A/\A.length<=4398046511104) (some [D.agg [sc (bool (isNeg (zs a (val A)))),ints u32 (dg (zs a (val A)).natAbs)]])):=eJ aU
def sp(x:Bool×List Int)(k:Int):Prop×List D:=(dP x/\k<=1099511627776,[zD (zv x*2^k.toNat)])
theorem spec:eR E f76 aF nM (pN .i64) sp:=by
 intro x k h;refine(start x.1 x.2 k).trans ?_;obtain⟨hx,hk⟩:=h;have l1:=hx.len;have l2:=zE (val x.2) k.toNat;rw[kX hx.1]at l2;rw[gP ⟨hx.1,by omega,hk⟩,gP ⟨bZ _,by omega⟩,bD];show _=some [zD (zv x*2^k.toNat)];have:zs x.1 (val x.2*2^k.toNat)=zv x*2^k.toNat:=by
  unfold zv zs;cases x.1 <;> simp[cDY,Int.natCast_pow,cHK]
 rw[this];rfl
def aJ:dG:=orc2 nM (pN .i64) sp
theorem ok:OK 76 aJ:=(dZ E aF (aA Mk.ok (aA aPD.ok aE)) func76).jR rfl spec
end Bu
namespace aZI
def E:=mE [(74,Norm.aJ),(82,vV.aJ),(218,pA.aJ)] 29 [10,16,25] [] []
def aF:=bd f232
theorem aU:Nk E aF:=nk
theorem start a b:aG E f232 aF [D.s (ints u32 a),D.s (sc (int i64 b))]=letI F:=b.tdiv 32;letI C:=(a.length:Int);letI B:=(↑((2:Nat)^min (b.tmod 32).toNat 32):Int);letI A:=List.drop (i64.wrap F).toNat (List.take C.toNat a);aD (decide (b<=0)) (aO (bN a/\a.length<=4398046511104) (some [D.own 112 u32 (dg (val a))])) (aD (decide (C<=i64.wrap F)) (aO ((0:Int)<=(0:Int)/\(0:Int)<(18446744073709551616:Int)) (some [D.own 112 u32 (dg 0)])) (if 0<=i64.wrap F/\i64.wrap F<=C/\C<=C then if b.tmod 32<(0:Int)then none else aO (bN A/\A.length<=1099511627776/\0<u32.wrap ((1:Int)*B)/\u32.wrap ((1:Int)*B)<4294967296) (some [D.own 112 u32 (dg (val A/(u32.wrap ((1:Int)*B)).toNat))])else none)):=eJ aU
def sp(a:List Int)(n:Int):Prop×List D:=(bN a/\a.length<=1099511627776/\n<9223372036854775808,[.own kW .u32 (dg (val a/2^n.toNat))])
theorem spec:eR E f232 aF (pI .u32) (pN .i64) sp:=by
 rintro a n ⟨ha,h1,h2⟩;refine(start a n).trans ?_;show _=some [D.own kW .u32 (dg (val a/2^n.toNat))]
 by_cases hn:n<=0
 ·rw[aR hn,gP ⟨ha,by omega⟩,show n.toNat=0 from by omega,cEN,Nat.div_one]
 ·have e1:(n%32).toNat=n.toNat%32:=by omega
  have e2:(n/32).toNat=n.toNat/32:=by omega
  rw[aN hn,aIU (by omega),aIO (by omega),wrap_i64 (n:=n/32)]
  by_cases hz:(a.length:Int)<=n/32
  ·rw[aR hz,gP ⟨by omega,by omega⟩,cCW];rw[xS];have h3:val a<4294967296^(n.toNat/32):=bYH (cR ha) (fM);have Mx:0<2^(n.toNat%32):=cB;exact bYH h3 (Nat.le_mul_of_pos_right _ Mx)
  ·have hp:2^(n.toNat%32)<2^32:=cEE (by omega) (by omega);have Mx:0<2^(n.toNat%32):=cB;rw[aN hz,if_pos ⟨by omega,by omega,by omega⟩,bG,Lt (by omega) (by omega),cBF,List.take_length,e1,e2];rw[gP ⟨ha.drop _,by rw[List.length_drop];omega,by generalize 2^(n.toNat%32)=p at *;omega⟩,cBF,iL ha,aGN]
def aJ:dG:=orc2 (pI .u32) (pN .i64) sp
theorem ok:OK 232 aJ:=(dZ E aF (aA Norm.ok (aA vV.ok (aA pA.ok aE))) func232).jR rfl spec
end aZI
namespace bFD
def E:=mE [(82,vV.aJ),(74,Norm.aJ)] 42 [8,15,20,41] [(6,[0,1,5])] []
def aF:=bd f234
theorem aU:Nk E aF:=nk
def L6 a b (c:Nat) (d:List Int):=nN E f234 aF 6 [mK a,bK b,(A.v (V.one (L.buf 2 c)),some { e:=(112:Nat),cont:=oI.ints u32 d })]
theorem start a b:aG E f234 aF [D.s (ints u32 a),D.s (sc (int i64 b))]=letI B:=b.tdiv 32;letI A:=List.drop 0 (List.take (i64.wrap B).toNat a);aD (decide (b<=0)) (aO ((0:Int)<=(0:Int)/\(0:Int)<(18446744073709551616:Int)) (some [D.own 112 u32 (dg 0)])) (aD (decide ((a.length:Int)<=i64.wrap B)) (aO (bN a/\a.length<=4398046511104) (some [D.own 112 u32 (dg (val a))])) (if(0:Int)<=(0:Int)/\0<=i64.wrap B/\i64.wrap B<=(a.length:Int)then aO (bN A/\A.length<=4398046511104) (bFD.L6 a b (dg (val A)).length (dg (val A)))else none)):=eJ aU
theorem qW a b c d:L6 a b c d=letI G:=b.tdiv 32;letI C:=(↑((2:Nat)^min (b.tmod 32).toNat 32):Int);letI B:=a.getD (i64.wrap G).toNat 0;letI A:=u32.wrap ((1:Int)*C);letI F:=d ++ [B.tmod A];aD (decide ((c:Int)<i64.wrap G)) (if(0:Nat)<(1:Nat)/\(↑(d.length+1):Int)<=(8796093022208:Int)then bFD.L6 a b (d.length+1) (d ++ [(0:Int)])else none) (if 0<=i64.wrap G/\i64.wrap G<(a.length:Int)then if b.tmod 32<(0:Int)then none else if u32.wrap ((1:Int)*C)=0 then none else if(0:Nat)<[B.tmod A].length/\(↑(d.length+[B.tmod A].length):Int)<=(8796093022208:Int)then aO (bN F/\F.length<=4398046511104) (some [D.own 112 u32 (dg (val F))])else none else none):=lJ aU
theorem L{a:List Int}(ha:bN a)(hl:a.length<=1099511627776){n:Int}(h0:0<=n)(hn:n/32<a.length){v:Nat}(hv:val (a.take (n.toNat/32))=v):∀(d:Nat) (xs:List Int),xs.length+d=n.toNat/32->bN xs->val xs=v ->
  L6 a n xs.length xs=some [D.own kW .u32 (dg (val a%2^n.toNat))]:=by
 have t1:n.tdiv 32=n/32:=cEF (by omega);have t2:n.tmod 32=n%32:=cEG (by omega);intro d
 induction d with
 |zero =>
  intro xs hd hx aWQ;have g:=ha.get (n.toNat/32);have hp:2^(n.toNat%32)<2^32:=cEE (by omega) (by omega);have Mx:0<2^(n.toNat%32):=cB;have e1:(n%32).toNat=n.toNat%32:=by omega
  have e2:(n/32).toNat=n.toNat/32:=by omega
  rw[qW,t1,t2,wrap_i64 (n:=n/32),aN,aT,bG,Lt (by omega) (by omega),e1,e2,bG,if_pos (by simp;omega)];have em:(a.getD (n.toNat/32) 0).tmod ((2^(n.toNat%32):Nat):Int)=(((a.getD (n.toNat/32) 0).toNat%2^(n.toNat%32):Nat):Int):=by
   rw[cEG g.1,cED,Int.toNat_of_nonneg g.1]
  have jM:=bZR (a.getD (n.toNat/32) 0).toNat Mx;rw[em,gP ⟨kU hx (by omega),by simp;omega⟩,kR,aWQ,cBF];have key:val a%2^n.toNat=v+4294967296^xs.length*((a.getD (n.toNat/32) 0).toNat%2^(n.toNat%32)):=by
   have h1:=eZ a (n:=n.toNat/32) (by omega);have h2:=fR ha (n.toNat/32);rw[hv]at h1 h2;rw[h1,gB,xS n.toNat,show xs.length=n.toNat/32 by omega];generalize 4294967296^(n.toNat/32)=B at *;rw[Nat.mod_mul,cJP,cIZ h2,Nat.add_mul_div_left _ _ (by omega),cCW h2,bXL];have:4294967296*val (a.drop (n.toNat/32+1))=2^(n.toNat%32)*(2^(32-n.toNat%32)*val (a.drop (n.toNat/32+1))):=by
    rw[<-cCN,<-cCH,show n.toNat%32+(32-n.toNat%32)=32 by omega]
   rw[this,cJP]
  rw[key]
 |succ d ih =>
  intro xs hd hx aWQ;rw[qW,t1,wrap_i64 (n:=n/32),aR,aT];have bAQ:(xs ++ [(0:Int)]).length=xs.length+1:=by simp
  rw[<-bAQ];refine ih _ (by rw[bAQ];omega) (kU hx (by omega)) ?_;rw[kR,aWQ];simp
def sp(a:List Int)(n:Int):Prop×List D:=(bN a/\a.length<=1099511627776/\-9223372036854775808<=n/\n<9223372036854775808,[.own kW .u32 (dg (val a%2^n.toNat))])
theorem spec:eR E f234 aF (pI .u32) (pN .i64) sp:=by
 rintro a n ⟨ha,hl,h1,h2⟩;refine(start a n).trans ?_;show _=some [D.own kW .u32 (dg (val a%2^n.toNat))]
 by_cases h0:n<=0
 ·rw[aR h0,gP ⟨by omega,by omega⟩,show n.toNat=0 by omega,cEN,Nat.mod_one]
 ·have t1:n.tdiv 32=n/32:=cEF (by omega);rw[aN h0,t1,wrap_i64 (n:=n/32)]
  by_cases hc:(a.length:Int)<=n/32
  ·have jM:val a<2^n.toNat:=bYH (cR ha) (by rw[Iy];exact cAI (by decide) (by omega));rw[aR hc,gP ⟨ha,by omega⟩,cIZ jM]
  ·have e2:(n/32).toNat=n.toNat/32:=by omega
   have hlen:=lW (ha.take (n.toNat/32));rw[bZC]at hlen;rw[aN hc,aT,e2,List.drop_zero,gP ⟨ha.take _,by rw[bZC];omega⟩];exact L ha hl (by omega) (by omega) rfl (n.toNat/32-(dg (val (a.take (n.toNat/32)))).length) _ (by omega) (bZ _) (bD _)
def aJ:dG:=orc2 (pI .u32) (pN .i64) sp
theorem ok:OK 234 aJ:=(dZ E aF (aA vV.ok (aA Norm.ok aE)) func234).jR rfl spec
end bFD
namespace Ua
def E:=mE [(80,Mk.aJ),(81,Add.aJ),(200,aOJ.aJ),(201,Sub.aJ)] 40 [] [] []
def aF:=bd f165
theorem aU:Nk E aF:=nk
theorem start a b c d:aG E f165 aF [D.agg [sc (bool a),ints u32 b],D.agg [sc (bool c),ints u32 d]]=letI F:=dg (val d-val b);letI C:=dg (val b-val d);letI B:=dg (val b+val d);letI A:=cI b/\cI d/\b.length<=4398046511104/\d.length<=4398046511104;aD (a==c) (aO (bN b/\bN d/\b.length<=1099511627776/\d.length<=1099511627776) (aO (bN B/\B.length<=4398046511104) (some [D.agg [sc (bool (isNeg (zs a (val B)))),ints u32 (dg (zs a (val B)).natAbs)]]))) (aO A (aD (decide (0<=iS (val b) (val d))) (aO A (aO (bN C/\C.length<=4398046511104) (some [D.agg [sc (bool (isNeg (zs a (val C)))),ints u32 (dg (zs a (val C)).natAbs)]]))) (aO (cI d/\cI b/\d.length<=4398046511104/\b.length<=4398046511104) (aO (bN F/\F.length<=4398046511104) (some [D.agg [sc (bool (isNeg (zs c (val F)))),ints u32 (dg (zs c (val F)).natAbs)]]))))):=eJ aU
def sp(x y:Bool×List Int):Prop×List D:=(dP x/\dP y,[zD (zv x+zv y)])
theorem spec:eR E f165 aF nM nM sp:=by
 intro x y h;refine(start x.1 x.2 y.1 y.2).trans ?_;obtain⟨hx,hy⟩:=h;have l1:=hx.len;have l2:=hy.len;have l3:=vO (val x.2) (val y.2);have l4:=zB (val x.2) (val y.2);have l5:=zB (val y.2) (val x.2);rw[kX hx.1,kX hy.1]at l3;rw[kX hx.1]at l4;rw[kX hy.1]at l5;simp only[bD];show _=some [zD (zv x+zv y)];rw[gP ⟨hx.1.gT,hy.1.gT,by omega,by omega⟩,gP ⟨bZ _,by omega⟩,gP ⟨hx.1,hy.1,by omega,by omega⟩,gP ⟨hx.1,hy.1,by omega,by omega⟩,gP ⟨bZ _,by omega⟩,gP ⟨hy.1,hx.1,by omega,by omega⟩,gP ⟨bZ _,by omega⟩]
 by_cases he:x.1=y.1
 ·rw[Nz (by rw[he];simp)];have:zs x.1 (val x.2+val y.2)=zv x+zv y:=by
   unfold zv zs;rw[<-he];cases x.1 <;> simp <;> omega
  rw[this];rfl
 ·rw[Ii (by simpa using he)]
  by_cases hc:val y.2<=val x.2
  ·rw[aR (Kx.2 hc)];have:zs x.1 (val x.2-val y.2)=zv x+zv y:=by
    unfold zv zs;cases h1:x.1 <;> cases h2:y.1 <;> simp_all <;> omega
   rw[this];rfl
  ·rw[aN (fun h=>hc (Kx.1 h))];have:zs y.1 (val y.2-val x.2)=zv x+zv y:=by
    unfold zv zs;cases h1:x.1 <;> cases h2:y.1 <;> simp_all <;> omega
   rw[this];rfl
def aJ:dG:=orc2 nM nM sp
theorem ok:OK 165 aJ:=(dZ E aF (aA Mk.ok (aA Add.ok (aA aOJ.ok (aA Sub.ok aE)))) func165).jR rfl spec
end Ua
namespace Is
def E:=mE [(80,Mk.aJ)] 9 [] [] []
def aF:=bd f166
theorem aU:Nk E aF:=nk
theorem start a b:aG E f166 aF [D.agg [sc (bool a),ints u32 b]]=aO (bN b/\b.length<=4398046511104) (some [D.agg [sc (bool (isNeg (zs (!a) (val b)))),ints u32 (dg (zs (!a) (val b)).natAbs)]]):=eJ aU
def sp(x:Bool×List Int):Prop×List D:=(dP x,[zD (-zv x)])
theorem spec:iD E f166 aF nM sp:=by
 intro x h;refine(start x.1 x.2).trans ((gP ⟨h.1.gT,by have:=h.len;omega⟩).trans ?_);show _=some [zD (-zv x)];have:zs (!x.1) (val x.2)=-zv x:=by unfold zv zs;cases x.1 <;> simp
 rw[this];rfl
def aJ:dG:=orc1 nM sp
theorem ok:OK 166 aJ:=(dZ E aF (aA Mk.ok aE) func166).oS rfl spec
end Is
namespace Bt
def E:=mE [(165,Ua.aJ),(166,Is.aJ)] 9 [] [] []
def aF:=bd f122
theorem aU:Nk E aF:=nk
theorem start a b c d:aG E f122 aF [D.agg [sc (bool a),ints u32 b],D.agg [sc (bool c),ints u32 d]]=letI A:=(isNeg (-zv (c,d)),dg (-zv (c,d)).natAbs);aO (dP (c,d)) (aO (dP (a,b)/\dP A) (some [D.agg [sc (bool (isNeg (zv (a,b)+zv A))),ints u32 (dg (zv (a,b)+zv A).natAbs)]])):=eJ aU
def sp(x y:Bool×List Int):Prop×List D:=(dP x/\dP y,[zD (zv x-zv y)])
theorem spec:eR E f122 aF nM nM sp:=by
 intro x y h;refine(start x.1 x.2 y.1 y.2).trans ?_;obtain⟨hx,hy⟩:=h;have l2:=hy.len;rw[gP hy,gP ⟨hx,pV (by rw[cFM,kL,kX hy.1];exact l2)⟩,iX];show _=some [zD (zv x-zv y)];rw[Int.sub_eq_add_neg];rfl
def aJ:dG:=orc2 nM nM sp
theorem ok:OK 122 aJ:=(dZ E aF (aA Ua.ok (aA Is.ok aE)) func122).jR rfl spec
end Bt
namespace aAV
def E:=mE [(80,Mk.aJ),(81,Add.aJ),(82,vV.aJ)] 17 [] [] []
def aF:=bd f42
theorem aU:Nk E aF:=nk
theorem start a:aG E f42 aF [D.s (sc (int i64 a))]=letI F:=dg (u64.wrap a).toNat;letI B:=i64.wrap ((0:Int)-i64.wrap (a+1));letI A:=dg (u64.wrap B).toNat;letI C:=dg (val A+val (dg 1));aD (decide (a<0)) (aO (0<=u64.wrap B/\u64.wrap B<18446744073709551616) (aO ((0:Int)<=(1:Int)/\(1:Int)<(18446744073709551616:Int)) (aO (bN A/\bN (dg 1)/\A.length<=1099511627776/\(dg 1).length<=1099511627776) (aO (bN C/\C.length<=4398046511104) (some [D.agg [sc (bool (isNeg (zs true (val C)))),ints u32 (dg (zs true (val C)).natAbs)]]))))) (aO (0<=u64.wrap a/\u64.wrap a<18446744073709551616) (aO (bN F/\F.length<=4398046511104) (some [D.agg [sc (bool (isNeg (zs false (val F)))),ints u32 (dg (zs false (val F)).natAbs)]]))):=eJ aU
def sp(a:Int):Prop×List D:=(-9223372036854775808<=a/\a<9223372036854775808,[zD a])
theorem aDI{n:Nat}(h:n<18446744073709551616):(dg n).length<=2:=cU (by simpa using h)
theorem spec:iD E f42 aF (pN .i64) sp:=by
 rintro a ⟨h1,h2⟩;refine(start a).trans ?_;show _=some [zD a];simp only[bD]
 by_cases hn:a<0
 ·have e:u64.wrap (i64.wrap (0-i64.wrap (a+1)))=-(a+1):=by
   rw[wrap_i64 (n:=a+1),wrap_i64,wrap_u64];omega
  have l1:=aDI (n:=(-(a+1)).toNat) (by omega);have l2:=aDI (n:=(-(a+1)).toNat+1) (by omega);have l3:=aDI (n:=1) (by omega);rw[aR hn,e,gP ⟨by omega,by omega⟩,gP ⟨by omega,by omega⟩,gP ⟨bZ _,bZ _,by omega,by omega⟩,gP ⟨bZ _,by omega⟩];have ez:zs true ((-(a+1)).toNat+1)=a:=by unfold zs;simp only[cond_true];omega
  rw[ez];rfl
 ·have l1:=aDI (n:=a.toNat) (by omega);rw[aN hn,wrap_u64,gP ⟨by omega,by omega⟩,gP ⟨bZ _,by omega⟩];have ez:zs false a.toNat=a:=by unfold zs;simp only[cond_false];omega
  rw[ez];rfl
def aJ:dG:=orc1 (pN .i64) sp
theorem ok:OK 42 aJ:=(dZ E aF (aA Mk.ok (aA Add.ok (aA vV.ok aE))) func42).oS rfl spec
end aAV
namespace nI
def E:=mE [(80,Mk.aJ),(232,aZI.aJ),(234,bFD.aJ),(122,Bt.aJ),(42,aAV.aJ)] 34 [] [] []
def aF:=bd f213
theorem aU:Nk E aF:=nk
theorem start a c b:aG E f213 aF [D.agg [sc (bool a),ints u32 c],D.s (sc (int i64 b))]=letI C:=dg (val c/(2:Nat)^b.toNat);letI A:=zs a (val C);letI G:=(isNeg A,dg A.natAbs);letI F:=zv G-zv (isNeg 1,dg 1);letI B:=some [D.agg [sc (bool (isNeg A)),ints u32 (dg A.natAbs)]];aD (decide (b<=0)) (aO (bN c/\c.length<=4398046511104) (some [D.agg [sc (bool (isNeg (zs a (val c)))),ints u32 (dg (zs a (val c)).natAbs)]])) (aO (bN c/\c.length<=1099511627776/\b<9223372036854775808) (aO (bN C/\C.length<=4398046511104) (aD a (aO (bN c/\c.length<=1099511627776/\(-9223372036854775808:Int)<=b/\b<9223372036854775808) (aD (decide (0<(↑(dg (val c%(2:Nat)^b.toNat)).length:Int))) (aO ((-9223372036854775808:Int)<=(1:Int)/\(1:Int)<(9223372036854775808:Int)) (aO (dP G/\dP (isNeg 1,dg 1)) (some [D.agg [sc (bool (isNeg F)),ints u32 (dg F.natAbs)]]))) B)) B))):=eJ aU
theorem Sp(v q:Nat)(hq:0<q):(-(v:Int))/(q:Int)=if v%q=0 then -((v/q:Nat):Int)else -((v/q:Nat):Int)-1:=by
 have hd:=cCS v q;have hm:=bZR v hq
 by_cases h:v%q=0
 ·rw[if_pos h];have e:-(v:Int)=(q:Int)*(-((v/q:Nat):Int)):=by
   rw[cGW,<-cDY];generalize q*(v/q)=t at *;omega
  rw[e,Int.mul_ediv_cancel_left _ (by omega)]
 ·rw[if_neg h];have e:-(v:Int)=((q-v%q:Nat):Int)+(q:Int)*(-((v/q:Nat):Int)-1):=by
   rw[Int.mul_sub,cGW,<-cDY,Int.mul_one];generalize q*(v/q)=t at *;generalize v%q=r at *;omega
  rw[e,Int.add_mul_ediv_left _ _ (by omega),Int.ediv_eq_zero_of_lt (by omega) (by omega)];omega
def sp(x:Bool×List Int)(n:Int):Prop×List D:=(dP x/\-9223372036854775808<=n/\n<9223372036854775808,[zD (zv x/((2^n.toNat:Nat):Int))])
theorem spec:eR E f213 aF nM (pN .i64) sp:=by
 rintro x n ⟨hx,h1,h2⟩;refine(start x.1 x.2 n).trans ?_;have l1:=hx.len;have hc:=hx.cells;show _=some [zD (zv x/((2^n.toNat:Nat):Int))];have hp:0<2^n.toNat:=cAH (by decide)
 by_cases h0:n<=0
 ·rw[aR h0,gP ⟨hx.1.gT,by omega⟩,show n.toNat=0 by omega];show some [zD (zv x)]=_;rw[show zv x/((2^0:Nat):Int)=zv x by rw[cEN];omega]
 ·have hq:=vM (val x.2) (2^n.toNat);rw[kX hx.1]at hq;rw[aN h0,gP ⟨hx.1.gT,by omega,h2⟩,gP ⟨bZ _,by omega⟩,bD];obtain⟨b,a⟩:=x
  try dsimp only at *
  cases b with
  |false =>
   rw[bF];have:zv (false,a)/((2^n.toNat:Nat):Int)=zs false (val a/2^n.toNat):=by
    rw[show zv (false,a)=(val a:Int)from rfl,<-Int.natCast_ediv];rfl
   rw[this];rfl
  |true =>
   rw[bT,gP ⟨hx.1.gT,by omega,h1,h2⟩];have hz:zv (true,a)=-(val a:Int):=rfl;have e:=Sp (val a) (2^n.toNat) hp;have hl:(0:Int)<((dg (val a%2^n.toNat)).length:Int)↔val a%2^n.toNat≠0:=by
    have:=fT (n:=val a%2^n.toNat);omega
   have aTZ:dP (isNeg (zs true (val a/2^n.toNat)),dg (zs true (val a/2^n.toNat)).natAbs):=pV (by rw[nA];omega);rw[hz,e]
   by_cases hr:val a%2^n.toNat=0
   ·rw[aN (fun h=>hl.1 h hr),if_pos hr];rfl
   ·rw[aR (hl.2 hr),if_neg hr,gP ⟨by omega,by omega⟩,gP ⟨aTZ,pV (z:=1) (by show(dg 1).length<=_;rw[Nn];simp)⟩,iX];have e1:zv (isNeg 1,dg 1)=1:=iX 1;rw[e1];rfl
def aJ:dG:=orc2 nM (pN .i64) sp
theorem ok:OK 213 aJ:=(dZ E aF (aA Mk.ok (aA aZI.ok (aA bFD.ok (aA Bt.ok (aA aAV.ok aE))))) func213).jR rfl spec
end nI
namespace mY
def E:=mE [(76,Bu.aJ),(213,nI.aJ)] 14 [] [] []
def aF:=bd f209
theorem aU:Nk E aF:=nk
theorem start a c b:aG E f209 aF [D.agg [sc (bool a),ints u32 c],D.s (sc (int i64 b))]=letI B:=zv (a,c)*(2:Int)^b.toNat;letI A:=zv (a,c)/(↑((2:Nat)^(i64.wrap ((0:Int)-b)).toNat):Int);aD (decide (0<=b)) (aO (dP (a,c)/\b<=1099511627776) (some [D.agg [sc (bool (isNeg B)),ints u32 (dg B.natAbs)]])) (aO (dP (a,c)/\(-9223372036854775808:Int)<=i64.wrap ((0:Int)-b)/\i64.wrap ((0:Int)-b)<9223372036854775808) (some [D.agg [sc (bool (isNeg A)),ints u32 (dg A.natAbs)]])):=eJ aU
def Zc(m e:Int):Int:=if 0<=e then m*2^e.toNat else m/((2^(-e).toNat:Nat):Int)
def sp(x:Bool×List Int)(e:Int):Prop×List D:=(dP x/\-1099511627776<=e/\e<=1099511627776,[zD (Zc (zv x) e)])
theorem spec:eR E f209 aF nM (pN .i64) sp:=by
 rintro x e ⟨hx,h0,h1⟩;refine(start x.1 x.2 e).trans ?_;unfold sp Zc;dsimp only
 by_cases c:0<=e
 ·rw[aR c,gP ⟨hx,h1⟩,if_pos c];rfl
 ·have w:i64.wrap (0-e)=-e:=by rw[wrap_i64];omega
  rw[aN c,w,gP ⟨hx,by omega,by omega⟩,if_neg c];rfl
def aJ:dG:=orc2 nM (pN .i64) sp
theorem ok:OK 209 aJ:=(dZ E aF (aA Bu.ok (aA nI.ok aE)) func209).jR rfl spec
end mY
end W
end Go.Proofs.YtaajbopgknekmaaGreatDoor
end
