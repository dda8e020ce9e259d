/- Contracts. -/
import Derived.WalkKit
import Derived.Test.YtplagoepbghhpaaGreatDoorBZivLadders3
set_option linter.unusedVariables false
set_option linter.unusedSimpArgs false
set_option exponentiation.threshold 10000000
noncomputable section
open Go.IntKind(i8 i16 i32 i64 u8 u16 u32 u64)
open Go.Proofs.Tryz
open Nat renaming le_trans->bWK,pow_add->cAQ,lt_of_le_of_lt->cBY,pow_succ->cAN,pow_pos->bYO,mul_assoc->cAR,mul_comm->cAM,div_le_self->cFV,mul_add->cAO,lt_of_lt_of_le->bWL,add_mul->bWI,one_mul->bZS,zero_add->bVQ,mul_lt_mul''->cDP,mul_le_mul_right->bXD,mod_lt->bXW,le_refl->bVO,zero_le->cBX,sub_le->cCH,pow_lt_pow_right->cCW,pow_le_pow_right->bYP,ble->bVR,le_of_ble_eq_true->bXM,div_div_eq_div_mul->cCA,add_zero->bWM,mul_le_mul->cFZ,div_lt_of_lt_mul->cBG,beq->bVP,eq_of_beq_eq_true->bWD,add_comm->cBR,mul_one->bVY,mul_right_comm->cHH,lt_succ_self->cJO,le_of_not_lt->bYI,eq_of_mul_eq_mul_right->cJP,div_add_mod->cAT,zero_div->cFC,mul_lt_mul_of_pos_left->cJQ,mul_lt_mul_of_pos_right->cHV,mul_left_comm->cFB,div_eq_of_lt->cBI,min_eq_left->cBU,mod_add_div->cGA,mul_le_mul_left->bYC
open Int renaming toNat_natCast->bZL,natAbs_natCast->cBF,eq_ofNat_of_zero_le->cAS,natAbs->cFK,natAbs_mul->cBB,natAbs_neg->cCC,mul_nonneg->cHN,toNat->cJN,neg_mul->cEW,mul_le_mul_of_nonneg_right->bXY,natCast_mul->cBP,min_le_left->cJR,min_le_right->cJS,lt_trichotomy->cJT,mul_neg_of_neg_of_pos->cFG,mul_le_mul_of_nonneg_left->cJV,tmod_eq_emod_of_nonneg->cEA,natCast_nonneg->cFA
open Rat renaming le_of_lt->cFS,intCast_natCast->cGV,le_refl->cGB,intCast_mul->cGU,intCast_neg->cIM,natCast_add->cHZ,le_trans->cFT,natCast_mul->cFU,mul_pos->cFX,intCast_sub->cJM,mul_assoc->cGT,mul_comm->cIJ,intCast_add->cIN,le_antisymm->cJW
open Bool renaming not_true->bXO,false_or->bXP,or_true->cBQ,true_and->bYQ,true_or->cAW,and_eq_true->bVU,not_false->cGW,false_and->cAV
open List renaming take->cER,drop->cEQ,replicate->bXR,take_length->cCD,length_take->bYE,drop_zero->cCE,getD_eq_getElem?_getD->cAP,take_of_length_le->cBH,drop_replicate->cJB,length_replicate->cIW,nil_append->bZR
open Option renaming bind_eq_some_iff->bXV
namespace Go.Proofs.YtplagoepbghhpaaGreatDoor
namespace W.aSC
open Go AI M W
def aHN(N V k:Nat):Prop:=2*(k*N)<=2*V+N/\2*V<=2*(k*N)+N/\(2*(k*N)=2*V+N->k%2=0)/\(2*V=2*(k*N)+N->k%2=0)
theorem aJE{N V V' k k':Nat}(hN:0<N)(h:aHN N V k)(h':aHN N V' k')(hV:V<=V'):k<=k':=by
 obtain⟨a1,a2,a3,a4⟩:=h;obtain⟨b1,b2,b3,b4⟩:=h';apply bYI;intro jB;have m:(k'+1)*N<=k*N:=bXD _ jB;rw[bWI,bZS]at m;have e:k*N=(k'+1)*N:=by rw[bWI,bZS];omega
 have e2:=cJP hN e;have:=a3 (by omega);have:=b4 (by omega);omega
theorem aEP{N V k K:Nat}(hK:0<K)(h:aHN N V k):aHN (N*K) (V*K) k:=by
 obtain⟨a1,a2,a3,a4⟩:=h;have e1:2*(k*(N*K))=2*(k*N)*K:=by rw[<-cAR,<-cAR,<-cAR]
 have e2:2*(V*K)+N*K=(2*V+N)*K:=by rw[bWI,cAR]
 have e3:2*(k*(N*K))+N*K=(2*(k*N)+N)*K:=by rw[e1,bWI]
 have e4:2*(V*K)=2*V*K:=by rw[cAR]
 refine⟨?_,?_,fun h=>a3 ?_,fun h=>a4 ?_⟩
 ·rw[e1,e2];exact bXD _ a1
 ·rw[e3,e4];exact bXD _ a2
 ·rw[e1,e2]at h;exact cJP hK h
 ·rw[e3,e4]at h;exact cJP hK h
theorem aEQ{N k:Nat}(hN:0<N):aHN N (k*N) k:=⟨by omega,by omega,fun h=>by omega,fun h=>by omega⟩
theorem aJU{v:Nat}{n:Int}(h:0<=n):aHN (2^n.toNat) v (oB.zI v n):=by
 unfold oB.zI mP.uJ mV.mU;rw[show((2:Int)==0)=false from rfl,show((2:Int)==1)=false from rfl,cond_false,cond_false];have hv0:=cAT v (2^n.toNat);have bNA:=bXW v (bYO (n:=n.toNat) (show 0<2 by omega))
 by_cases h0:n=0
 ·subst h0;have:mP.Lp v 0=-1:=rfl;rw[this];simp[aHN]
 ·obtain⟨m,hm⟩:∃m:Nat,n=(m:Int)+1:=⟨(n-1).toNat,by omega⟩;subst hm;have t1:((m:Int)+1).toNat=m+1:=by omega
  have t2:((m:Int)+1-1).toNat=m:=by omega
  unfold mP.Lp;rw[t1,t2]at *;have hp:=bYO (n:=m) (show 0<2 by omega);have hN:2^(m+1)=2^m*2:=cAN ..;have hq:v/2^(m+1)=v/2^m/2:=by rw[hN,cCA]
  have hs:=cAT v (2^m);have bHZ:=bXW v hp;rw[decide_eq_true (show(0:Int)<=(m:Int)+1-1 by omega),bYQ];rw[hq]at *;rw[hN]at *
  by_cases hb:v/2^m%2=1
  ·have hv:v≠0:=fun hz=>by rw[hz,cFC]at hb;omega
   rw[decide_eq_true hb,cond_true];have ht:(tz v=m↔v%2^m=0):=by
    constructor
    ·intro e;apply Classical.byContradiction;intro yT;have a:=aHY (n:=v/2^m) bHZ yT;rw[cBR,hs]at a;have b:=Jo yT;have:=(Nat.pow_lt_pow_iff_right (a:=2) (by omega)).1 (cBY b bHZ);omega
    ·intro e;rw[e,bWM]at hs;have a:=Qr (n:=v/2^m) (by omega) m;rw[hs,yW hb]at a;exact a
   generalize v/2^m=d at *;generalize v%2^m=s at *;generalize hM:2^m=M at *;have hd:d=2*(d/2)+1:=by omega
   generalize d/2=q at *;have bKD:M*d=2*(M*q)+M:=by rw[hd,cAO,bVY,cFB]
   have bFD:q*(M*2)=2*(M*q):=by rw[cAM q,cHH,cAM]
   have Nm:(q+1)*(M*2)=2*(M*q)+2*M:=by rw[bWI,bFD];omega
   by_cases hc:tz v=m
   ·have s0:=ht.1 hc;rw[beq_iff_eq.2 (show(tz v:Int)=(m:Int)+1-1 by omega),cond_true];rw[show decide ((0:Int)<0)=false from rfl,bXP,show((0:Int)==0)=true from rfl,bYQ]
    by_cases ho:q%2=1
    ·rw[decide_eq_true ho,cond_true];unfold aHN;rw[Nm];exact⟨by omega,by omega,fun _=>by omega,fun h=>by omega⟩
    ·rw[decide_eq_false ho,cond_false,bWM];unfold aHN;rw[bFD];exact⟨by omega,by omega,fun h=>by omega,fun _=>by omega⟩
   ·have s0:s≠0:=fun h=>hc (ht.2 h)
    rw[beq_eq_false_iff_ne.2 (show(tz v:Int)≠(m:Int)+1-1 by omega),cond_false];rw[show decide ((0:Int)<1)=true from rfl,cAW,cond_true];unfold aHN;rw[Nm];exact⟨by omega,by omega,fun h=>by omega,fun h=>by omega⟩
  ·rw[decide_eq_false hb,cond_false];rw[show decide ((0:Int) < -1)=false from rfl,show((-1:Int)==0)=false from rfl,cAV,bXP,cond_false,bWM];generalize v/2^m=d at *;generalize v%2^m=s at *;generalize 2^m=M at *;have hd:d=2*(d/2):=by omega
   generalize d/2=q at *;have bKD:M*d=2*(M*q):=by rw[hd,cFB]
   have bFD:q*(M*2)=2*(M*q):=by rw[cAM q,cHH,cAM]
   unfold aHN;rw[bFD];exact⟨by omega,by omega,fun h=>by omega,fun h=>by omega⟩
theorem Oo{w:Int×Int×Int}{v:Nat}{e G:Int}(h1:G<=e)(h2:G<=jG.gB w v e):aHN (2^(jG.gB w v e-G).toNat) (v*2^(e-G).toNat) (jG.xD w v e):=by
 unfold jG.xD;generalize jG.gB w v e=u at *;have hp:∀n:Nat,0<2^n:=fun n=>cX
 split
 ·rename_i h;have r:=aEP (hp (e-G).toNat) (aJU (v:=v) (show 0<=u-e by omega));rw[<-cAQ,show(u-e).toNat+(e-G).toNat=(u-G).toNat by omega]at r;exact r
 ·rename_i h;have r:=aEQ (k:=v*2^(e-u).toNat) (hp (u-G).toNat);rw[cAR,<-cAQ,show(e-u).toNat+(u-G).toNat=(e-G).toNat by omega]at r;exact r
theorem aAY(w:Int×Int×Int)(v:Nat)(e:Int):w.2.1<=jG.gB w v e/\e+(bl v:Nat)-w.1<=jG.gB w v e/\(jG.gB w v e=w.2.1\/jG.gB w v e=e+(bl v:Nat)-w.1):=by
 unfold jG.gB;split <;> omega
theorem Ox{w:Int×Int×Int}(hw:mK.vB w){v v':Nat}{e e' G:Int}(hv:v≠0)(aHB:v'≠0)(h1:G<=e)(h2:G<=e')(h:v*2^(e-G).toNat<=v'*2^(e'-G).toNat):jG.zD w v e<=jG.zD w v' e':=by
 obtain⟨g,aOG,aHH⟩:∃g:Int,g<=G/\g<=w.2.1:=⟨min G w.2.1,cJR _ _,cJS _ _⟩;have hp:∀n:Nat,0<2^n:=fun n=>cX
 have h3:v*2^(e-g).toNat<=v'*2^(e'-g).toNat:=by
  have:=bXD (2^(G-g).toNat) h;rw[cAR,cAR,<-cAQ,<-cAQ,show(e-G).toNat+(G-g).toNat=(e-g).toNat by omega,show(e'-G).toNat+(G-g).toNat=(e'-g).toNat by omega]at this;exact this
 obtain⟨u1,u2,u3⟩:=aAY w v e;obtain⟨u1',u2',u3'⟩:=aAY w v' e';have r:=Oo (w:=w) (v:=v) (show g<=e by omega) (show g<=jG.gB w v e by omega);have r':=Oo (w:=w) (v:=v') (show g<=e' by omega) (show g<=jG.gB w v' e' by omega);have b:bl (v*2^(e-g).toNat)=(e-g).toNat+bl v:=by rw[cAM,xW hv]
 have b':bl (v'*2^(e'-g).toNat)=(e'-g).toNat+bl v':=by rw[cAM,xW aHB]
 have hb:=fY h3;have bp:=pD hv;have bp':=pD aHB;have l1:=vG (v*2^(e-g).toNat);have l2:=Ww (n:=v'*2^(e'-g).toNat) (Nat.ne_of_gt (Nat.mul_pos (Nat.pos_of_ne_zero aHB) (hp _)));have hm:1<=w.1/\w.1<=53:=by rcases hw with rfl |rfl <;> decide
 unfold jG.zD;generalize hU:jG.gB w v e=u at *;generalize bNY:jG.gB w v' e'=u' at *;generalize jG.xD w v e=k at *;generalize jG.xD w v' e'=k' at *;generalize hV:v*2^(e-g).toNat=V at *;generalize hV':v'*2^(e'-g).toNat=V' at *
 by_cases c:1100<e+(bl v:Nat)-1
 ·rw[if_pos c,if_pos (show 1100<e'+(bl v':Nat)-1 by omega)];exact Int.le_refl _
 ·rw[if_neg c]
  by_cases c':1100<e'+(bl v':Nat)-1
  ·rw[if_pos c'];split <;> omega
  ·rw[if_neg c'];have key:(u-w.2.1)*((2^(w.1-1).toNat:Nat):Int)+(k:Int)<=(u'-w.2.1)*((2^(w.1-1).toNat:Nat):Int)+(k':Int):=by
    have hH:=hp (w.1-1).toNat;rcases cJT u u' with jB |heq |hgt
    ·
     have k1:k<=2*2^(w.1-1).toNat:=by
      apply bYI;intro hh;have a1:=r.1;have m:(2*2^(w.1-1).toNat+1)*2^(u-g).toNat<=k*2^(u-g).toNat:=bXD _ hh;have lt:V<2*2^(w.1-1).toNat*2^(u-g).toNat:=by
       refine bWL l1 ?_;rw[show 2*2^(w.1-1).toNat=2^(w.1-1).toNat*2^1 by omega,<-cAQ,<-cAQ];exact gO
      rw[bWI,bZS]at m;have:=hp (u-g).toNat;generalize 2*2^(w.1-1).toNat*2^(u-g).toNat=x at *;omega
     have k2:2^(w.1-1).toNat<=k':=by
      apply bYI;intro hh;have a2:=r'.2.1;have m:(k'+1)*2^(u'-g).toNat<=2^(w.1-1).toNat*2^(u'-g).toNat:=bXD _ hh;have ge:2^(w.1-1).toNat*2^(u'-g).toNat<=V':=by
       refine bWK ?_ l2;rw[<-cAQ];exact gO
      rw[bWI,bZS]at m;have:=hp (u'-g).toNat;generalize 2^(w.1-1).toNat*2^(u'-g).toNat=x at *;omega
     have hd:u-w.2.1+1<=u'-w.2.1:=by omega
     have m:=bXY hd (show(0:Int)<=((2^(w.1-1).toNat:Nat):Int) by omega);rw[Int.add_mul,Int.one_mul]at m;generalize (u-w.2.1)*((2^(w.1-1).toNat:Nat):Int)=x at *;generalize (u'-w.2.1)*((2^(w.1-1).toNat:Nat):Int)=y at *;omega
    ·subst heq;have:=aJE (hp _) r r' h3;omega
    ·omega
   generalize (u-w.2.1)*((2^(w.1-1).toNat:Nat):Int)+(k:Int)=x at *;generalize (u'-w.2.1)*((2^(w.1-1).toNat:Nat):Int)+(k':Int)=y at *;split <;> split <;> omega
def sg(f:Int):Int:=if f=32 then 2147483648 else 9223372036854775808
def ord(f w:Int):Int:=if w<sg f then w else sg f-w
def sz(f:Int)(p:Int×Int):Int:=jG.zD (Ig.Ix f) p.1.natAbs p.2
theorem aZZ{f:Int}(h:f=32\/f=64):(if(Ig.Ix f).1=24 then(2147483648:Int)else 9223372036854775808)=sg f:=by rcases h with rfl |rfl <;> rfl
theorem Ou{f:Int}(h:f=32\/f=64)(p:Int×Int):0<=sz f p/\sz f p<=mK.rN (Ig.Ix f)/\mK.rN (Ig.Ix f)<sg f:=by
 have:=jH.aBS (jH.Qt h) p.1.natAbs p.2;exact⟨this.1,this.2,by rcases h with rfl |rfl <;> decide⟩
theorem Dw{f:Int}{p:Int×Int}(h:0<p.1):jH.kT f p=sz f p:=by
 unfold jH.kT sz yE.aYR;rw[aW,iO.2 (by omega),cond_false]
theorem aJW{f:Int}(hf:f=32\/f=64){p:Int×Int}(h:p.1<0):jH.kT f p=sz f p+sg f:=by
 unfold jH.kT sz yE.aYR;rw[aW,nL.2 h,cond_true,aZZ hf]
theorem aJV{f:Int}{p:Int×Int}(h:p.1=0):jH.kT f p=0:=by unfold jH.kT;rw[if_pos h]
theorem Uw{f:Int}(hf:f=32\/f=64)(p:Int×Int):ord f (jH.kT f p)=if p.1<0 then -sz f p else if p.1=0 then 0 else sz f p:=by
 have hb:=Ou hf p
 by_cases h:p.1<0
 ·rw[if_pos h,aJW hf h];unfold ord;rw[aW];omega
 ·rw[if_neg h]
  by_cases h0:p.1=0
  ·rw[if_pos h0,aJV h0];unfold ord;rw[aU]
  ·rw[if_neg h0,Dw (by omega)];unfold ord;rw[aU]
theorem aEV{f:Int}(hf:f=32\/f=64){p q:Int×Int}(h:R.qz p<=R.qz q):ord f (jH.kT f p)<=ord f (jH.kT f q):=by
 obtain⟨G,h1,h2⟩:∃G:Int,G<=p.2/\G<=q.2:=⟨min p.2 q.2,cJR _ _,cJS _ _⟩;rw[R.Ur h1 h2]at h;have hp:∀n:Nat,(0:Int)<((2^n:Nat):Int):=fun n=>by have:=bYO (n:=n) (show 0<2 by omega);omega
 have s1:=Ou hf p;have s2:=Ou hf q;have a1:=hp (p.2-G).toNat;have a2:=hp (q.2-G).toNat;rw[Uw hf,Uw hf];have hP:p.1<0->p.1*((2^(p.2-G).toNat:Nat):Int)<0:=fun h=>cFG h a1
 have bOA:0<p.1->0<p.1*((2^(p.2-G).toNat:Nat):Int):=fun h=>Int.mul_pos h a1
 have hQ:q.1<0->q.1*((2^(q.2-G).toNat:Nat):Int)<0:=fun h=>cFG h a2
 have bUB:p.1=0->p.1*((2^(p.2-G).toNat:Nat):Int)=0:=fun h=>by rw[h,Int.zero_mul]
 have bUA:q.1=0->q.1*((2^(q.2-G).toNat:Nat):Int)=0:=fun h=>by rw[h,Int.zero_mul]
 have aPW:∀(z:Int) (n:Nat),z.natAbs*2^n=(z*((2^n:Nat):Int)).natAbs:=fun z n=>by rw[cBB,cBF]
 by_cases c1:p.1<0
 ·rw[if_pos c1]
  by_cases c2:q.1<0
  ·rw[if_pos c2];have:=Ox (jH.Qt hf) (v:=q.1.natAbs) (v':=p.1.natAbs) (by omega) (by omega) h2 h1 (by rw[aPW,aPW];have:=hP c1;have:=hQ c2;omega);unfold sz;omega
  ·rw[if_neg c2];split <;> omega
 ·rw[if_neg c1]
  by_cases c0:p.1=0
  ·rw[if_pos c0]
   by_cases c2:q.1<0
   ·have:=hQ c2;have:=bUB c0;omega
   ·rw[if_neg c2];split <;> omega
  ·rw[if_neg c0];have p0:=bOA (by omega)
   by_cases c2:q.1<0
   ·have:=hQ c2;omega
   ·by_cases c3:q.1=0
    ·have:=bUA c3;omega
    ·rw[if_neg c2,if_neg c3];have:=Ox (jH.Qt hf) (v:=p.1.natAbs) (v':=q.1.natAbs) (by omega) (by omega) h1 h2 (by rw[aPW,aPW];omega);exact this
def Fin(f b:Int):Prop:=(f=32\/f=64)/\(0<=b/\b<2*sg f)/\0<b%sg f/\b%sg f<mK.rN (Ig.Ix f)
theorem aSO{f:Int}(h:f=32\/f=64):cF.cT (aI.fR f)=sg f/\jZ.lK (aI.fR f)=mK.rN (Ig.Ix f):=by rcases h with rfl |rfl <;> exact⟨rfl,rfl⟩
end W.aSC
open Go.Value(int bool slice)
open AI.S(sc ints)
namespace W
open Go AI M
namespace My
def E:=mE [(149,mP.aJ)] 11 [8] [] []
def aE:=bd f191
theorem aX:Nk E aE:=nk
theorem start a c b:aH E f191 aE [D.agg [sc (bool a),ints u64 c],D.s (sc (int i64 b))]=letI A:=mP.uJ 1 a (M6.val c) b;letI B:=bif fit A then zs a A else(0:Int);aO (gL (a,c)/\0<=b/\b<4611686018427387904) (some [D.agg [sc (bool (isNeg B)),ints u64 (M6.dg B.natAbs)],D.s (sc (int i64 (bif fit A then(0:Int)else(5:Int))))]):=eJ aX
theorem up{p:Bool}{v:Nat}{n:Int}(h:0<=n):zs p (mP.uJ 1 p v n)=-(-(zs p v)/((2^n.toNat:Nat):Int)):=by
 have e1:zs p (mP.uJ 1 p v n)=-(zs (!p) (mP.uJ 0 (!p) v n)):=by
  unfold mP.uJ mV.mU zs;cases p <;> simp
 have e2:-(zs p v)=zs (!p) v:=by unfold zs;cases p <;> simp
 rw[e1,e2,iW.down h]
theorem small{p:Bool}{v:Nat}{n:Int}(h:0<=n)(hb:bl v<=524288):fit (mP.uJ 1 p v n)=true:=by
 have e1:mP.uJ 1 p v n=mP.uJ 0 (!p) v n:=by
  unfold mP.uJ mV.mU;cases p <;> simp
 rw[e1];exact iW.small h hb
def sp(x:Bool×List Int)(n:Int):Prop×List D:=(gL x/\0<=n/\n<4611686018427387904,[wD (-(-(wv x)/((2^n.toNat:Nat):Int))),.s (.sc (.int .i64 0))])
theorem spec:gT E f191 aE oD (pN .i64) sp:=by
 intro x n h;have h':=h;obtain⟨hx,h0,h1⟩:=h;refine(start x.1 x.2 n).trans ((gP h').trans ?_);unfold sp
 try dsimp only
 rw[small h0 hx.bl];show some (wE true _)=_;rw[up h0];rfl
def aJ:dK:=orc2 oD (pN .i64) sp
theorem ok:OK 191 aJ:=(eZ E aE (aA mP.ok aD) func191).mT rfl spec
end My
namespace kD
def E:=mE [(192,iW.aJ),(191,My.aJ)] 22 [] [] []
def aE:=bd f150
theorem aX:Nk E aE:=nk
theorem start a d b c:aH E f150 aE [D.agg [sc (bool a),ints u64 d],D.s (sc (int i64 b)),D.s (sc (bool c))]=letI B:=gL (a,d)/\0<=b/\b<4611686018427387904;letI A:=(↑((2:Nat)^b.toNat):Int);aB c (aO B (some [D.agg [sc (bool (isNeg (-(-wv (a,d)/A)))),ints u64 (M6.dg (-(-wv (a,d)/A)).natAbs)]])) (aO B (some [D.agg [sc (bool (isNeg (wv (a,d)/A))),ints u64 (M6.dg (wv (a,d)/A).natAbs)]])):=eJ aX
def pC(up:Bool)(z:Int)(n:Nat):Int:=bif up then -(-z/((2^n:Nat):Int))else z/((2^n:Nat):Int)
theorem aDR(up:Bool)(z:Int)(n:Nat):(pC up z n).natAbs<=z.natAbs:=by
 unfold pC;cases up with
 |false=>exact uB (bYO (by decide))
 |true =>
  rw[cond_true,cCC];have:=uB (z:=-z) (bYO (n:=n) (show 0<2 by decide));rwa [cCC]at this
def sp(x:Bool×List Int)(n:Int)(up:Bool):Prop×List D:=(gL x/\(0<=n/\n<4611686018427387904),[wD (pC up (wv x) n.toNat)])
theorem spec:oK E f150 aE oD (pN .i64) pB sp:=by
 rintro x n up ⟨h1,h2⟩;refine(start x.1 x.2 n up).trans ?_;cases up with
 |true=>rw[bT,gP ⟨h1,h2⟩];rfl
 |false=>rw[bF,gP ⟨h1,h2⟩];rfl
def aJ:dK:=orc3 oD (pN .i64) pB sp
theorem ok:OK 150 aJ:=(eZ E aE (aA iW.ok (aA My.ok aD)) func150).yK rfl spec
end kD
namespace cE
def E:=mE [(106,rY.aJ),(50,iY.aJ),(150,kD.aJ)] 33 [20,30] [] []
def aE:=bd f240
theorem aX:Nk E aE:=nk
theorem start a e b c d:aH E f240 aE [D.agg [sc (bool a),ints u64 e],D.s (sc (int i64 b)),D.s (sc (int i64 c)),D.s (sc (bool d))]=letI H:=wv (a,e);letI C:=bif gY H b then aN H b else((0:Int),(0:Int));letI B:=(↑(bl (M6.val e)):Int);letI G:=kD.pC d H (i64.wrap (B-c)).toNat;letI F:=b+i64.wrap (B-c);letI I:=i64.wrap F;aO (M6.cY e/\e.length<=1099511627776) (aB (decide (i64.wrap (B-c)<=0)) (aO (gL (a,e)/\(-9223372036854775808:Int)<=b/\b<9223372036854775808) (aC (isNeg C.fst) fun f=>aC (M6.dg C.fst.natAbs) fun g=>aC C.snd fun h=>aC (bif gY H b then(0:Int)else(5:Int)) fun i=>some [D.agg [sc (bool f),ints u64 g,sc (int i64 h)],D.s (sc (int i64 i))])) (aO (gL (a,e)/\0<=i64.wrap (B-c)/\i64.wrap (B-c)<4611686018427387904) (aC (isNeg G) fun j=>aC (M6.dg G.natAbs) fun k=>letI A:=bif gY (wv (j,k)) I then aN (wv (j,k)) I else((0:Int),(0:Int));aO (gL (j,k)/\(-9223372036854775808:Int)<=i64.wrap F/\i64.wrap F<9223372036854775808) (aC (isNeg A.fst) fun l=>aC (M6.dg A.fst.natAbs) fun m=>aC A.snd fun n=>aC (bif gY (wv (j,k)) I then(0:Int)else(5:Int)) fun o=>some [D.agg [sc (bool l),ints u64 m,sc (int i64 n)],D.s (sc (int i64 o))])))):=eJ aX
def nQ(up:Bool)(z e p:Int):Int×Int:=if(bl z.natAbs:Int)-p<=0 then(z,e)else(kD.pC up z ((bl z.natAbs:Int)-p).toNat,e+((bl z.natAbs:Int)-p))
def sp(x:Bool×List Int)(e p:Int)(up:Bool):Prop×List D:=(gL x/\(-4611686018427387904<=e/\e<4611686018427387904)/\1<=p/\p<=70000,dE (gY (nQ up (wv x) e p).1 (nQ up (wv x) e p).2) (aN (nQ up (wv x) e p).1 (nQ up (wv x) e p).2))
theorem spec:Om E f240 aE oD (pN .i64) (pN .i64) pB sp:=by
 rintro x e p up ⟨hw,he,hp⟩;have hb:=hw.bl;have hl:=hw.len;have ha:=iG x;refine(start x.1 x.2 e p up).trans ?_;unfold sp nQ
 try dsimp only
 rw[gP ⟨hw.1.kW,by omega⟩,aG,ha,wrap_i64 (n:=(bl (M6.val x.2):Int)-p) (by omega) (by omega)];have hx:wv (x.1,x.2)=wv x:=rfl
 by_cases hn:(bl (M6.val x.2):Int)-p<=0
 ·rw[aP hn,if_pos hn,gP ⟨hw,by omega,by omega⟩];simp only[aG];rfl
 ·have aFL:=kD.aDR up (wv x) ((bl (M6.val x.2):Int)-p).toNat;have Nn:gL (isNeg (kD.pC up (wv x) ((bl (M6.val x.2):Int)-p).toNat),M6.dg (kD.pC up (wv x) ((bl (M6.val x.2):Int)-p).toNat).natAbs):=fT (bWK (fY aFL) (by rw[ha];exact hb));rw[aL hn,if_neg hn,gP ⟨hw,by omega,by omega⟩];simp only[aG];rw[wrap_i64 (n:=e+((bl (M6.val x.2):Int)-p)) (by omega) (by omega)];rw[gP ⟨Nn,by omega,by omega⟩,nA];rfl
def aJ:dK:=orc4 oD (pN .i64) (pN .i64) pB sp
theorem ok:OK 240 aJ:=(eZ E aE (aA rY.ok (aA iY.ok (aA kD.ok aD))) func240).aOE rfl spec
end cE
namespace nF
def E:=mE [] 8 [] [] []
def aE:=bd f252
theorem aX:Nk E aE:=nk
theorem start a:aH E f252 aE [D.s (ints u64 a)]=aB (decide (8192<(a.length:Int))) (some [D.s (sc (slice none 0 0)),D.s (sc (int i64 5))]) (some [D.s (ints u64 a),D.s (sc (int i64 0))]):=eJ aX
def can(a b:List Int):Prop:=Contract prog base.glob 253 [(pI .u64).put a,(pI .u64).put b] [.own gJ .u64 (M6.dg (M6.val a*M6.val b))]
def less(n:Nat):Prop:=∀c d:List Int,M6.cR c->M6.cR d->c.length+d.length<n->can c d
def prec:dK:=orc2 (pI .u64) (pI .u64) fun a b=>(can a b,[.own gJ .u64 (M6.dg (M6.val a*M6.val b))])
theorem aCE:kY prog base.glob 253 prec:=by
 intro ds g rs hd hg;unfold prec orc2 at hd;split at hd
 ·split at hd
  ·rename_i x y hx hy;have hd:=Option.some.inj hd;have e1:g=can x y:=(Prod.mk.inj hd).1.symm;have e2:=(Prod.mk.inj hd).2;subst e1;rw[<-e2];exact⟨Contract.bGY (show Contract _ _ _ _ _ from hg) ((pI .u64).le hx) ((pI .u64).le hy),oJ (c:=(f253.body).getD .skip) func253 rfl rfl⟩
  ·cases hd
 ·cases hd
def Jq(a:List Int):Bool:=decide (a.length<=8192)
def sp(a:List Int):Prop×List D:=(True,[.s (.ints .u64 (bif Jq a then a else [])),.s (.sc (.int .i64 (bif Jq a then 0 else 5)))])
theorem spec:aNH E f252 aE (pI .u64) sp:=by
 intro a _;have e:=start a;unfold sp Jq;simp only
 by_cases hc:a.length<=8192
 ·rw[aL]at e;rw[decide_eq_true hc];exact⟨_,e,iD.refl _⟩
 ·rw[aP]at e;rw[decide_eq_false hc];exact⟨_,e,.cons (yO.nil _) (iD.refl _)⟩
def aJ:dK:=orc1 (pI .u64) sp
theorem ok:OK 252 aJ:=(eZ E aE aD func252).aZT rfl spec
end nF
namespace Hr
def E:Env:={ ({ base with C:=callsOf [(250,Mw.aJ)],n0:=1,io:=[0] })with nt:=71,own:=[],keep:=fun k=>(tlook [(5,[0,1,2,6,7,13,14,18,19]),(1,[0,1,2,13,14])] k).getD [],cut:=tlook [] }
def aE:=bd f264
theorem aX:Nk E aE:=nk
def L1(a:List Int)(b:Nat)(c:Nat) d f g h:=qV E f264 aE 1 [(A.any,some { e:=(22:Nat),cont:=wX.ints u64 a }),(A.v (V.one (L.view 0 b c)),none),iM d,iM f,bP g,bP h]
def L5(a:List Int)(b:Nat)(c:Nat) d f g h i j k l:=qV E f264 aE 5 [(A.any,some { e:=(22:Nat),cont:=wX.ints u64 a }),(A.v (V.one (L.view 0 b c)),none),iM d,iM f,bP g,dC h,bP i,bP j,bP k,bP l]
theorem start al ao an b c:aH E f264 aE [D.io gJ u64 al ao an,D.s (ints u64 b),D.s (ints u64 c)]=Hr.L1 al ao an b c (c.length:Int) 0:=eJ aX
theorem Qk a b c d e f g:L1 a b c d e f g=aB (decide (g<f)) (Hr.L5 a b c d e g 0 f g (d.length:Int) 0) (some [D.io 22 u64 a 0 0]):=lJ aX
theorem Qj a b c d e f g h i j k:L5 a b c d e f g h i j k=letI C:=(d.length:Int);letI B:=b+(i64.wrap (k+f)).toNat;letI A:=d.getD k.toNat 0*e.getD f.toNat 0%(18446744073709551616:Int)+g+0;letI F:=a.getD B 0+A%18446744073709551616+(0:Int);aB (decide (k<j)) (if 0<=k/\k<C then if 0<=f/\f<(e.length:Int)then aO (0<=d.getD k.toNat 0/\d.getD k.toNat 0<(18446744073709551616:Int)/\0<=e.getD f.toNat 0/\e.getD f.toNat 0<(18446744073709551616:Int)) (aO (0<=d.getD k.toNat 0*e.getD f.toNat 0%(18446744073709551616:Int)/\0<=g/\(0:Int)<=(0:Int)/\(0:Int)<=(1:Int)) (if 0<=i64.wrap (k+f)/\i64.wrap (k+f)<(c:Int)then aO (0<=a.getD B 0/\0<=A%18446744073709551616/\(0:Int)<=(0:Int)/\(0:Int)<=(1:Int)) (if 0<=i64.wrap (k+f)/\i64.wrap (k+f)<(c:Int)then Hr.L5 (a.set B (F%18446744073709551616)) b c d e f (u64.wrap (u64.wrap (d.getD k.toNat 0*e.getD f.toNat 0/(18446744073709551616:Int)+A/18446744073709551616)+F/18446744073709551616)) h i j (i64.wrap (k+1))else none)else none))else none else none) (if 0<=i64.wrap (f+C)/\i64.wrap (f+C)<(c:Int)then Hr.L1 (a.set (b+(i64.wrap (f+C)).toNat) g) b c d e h (i64.wrap (i+1))else none):=lJ aX
def sp(x:List Int×Nat×Nat)(a b:List Int):Prop×List D:=(M6.cY x.1/\x.2.1=0/\x.2.2=x.1.length/\M6.cY a/\M6.cY b/\x.1.length=a.length+b.length/\x.1.length<=1099511627776/\M6.val x.1=0,
 [.io gJ .u64 (M6.pT x.1.length (M6.val a*M6.val b)) 0 0])
theorem bAO{x c:Int}{p:Nat}(hp:p<=340282366920938463426481119284349108225)(h0:0<=x)(h1:x<18446744073709551616)(h2:0<=c)(h3:c<18446744073709551616) :
  (0<=(p:Int)/18446744073709551616+((p:Int)%18446744073709551616+c+0)/18446744073709551616/\(p:Int)/18446744073709551616+((p:Int)%18446744073709551616+c+0)/18446744073709551616<18446744073709551616) /\
  (0<=(p:Int)/18446744073709551616+((p:Int)%18446744073709551616+c+0)/18446744073709551616+(x+((p:Int)%18446744073709551616+c+0)%18446744073709551616+0)/18446744073709551616/\(p:Int)/18446744073709551616+((p:Int)%18446744073709551616+c+0)/18446744073709551616+(x+((p:Int)%18446744073709551616+c+0)%18446744073709551616+0)/18446744073709551616<18446744073709551616) /\
  ((x+((p:Int)%18446744073709551616+c+0)%18446744073709551616+0)%18446744073709551616).toNat+18446744073709551616*((p:Int)/18446744073709551616+((p:Int)%18446744073709551616+c+0)/18446744073709551616+(x+((p:Int)%18446744073709551616+c+0)%18446744073709551616+0)/18446744073709551616).toNat=x.toNat+p+c.toNat:=by
 omega
theorem bHB{i j u X Y:Nat}:18446744073709551616^j*((u+18446744073709551616^i*X)*Y)=18446744073709551616^j*(u*Y)+18446744073709551616^(i+j)*(X*Y):=by
 rw[bWI,cAO,cAQ];congr 1;rw[cAR,<-cAR (18446744073709551616^j),cAM (18446744073709551616^j)]
theorem bVL{a b:List Int}{N j V:Nat}(hN:N<=1099511627776)(ha:M6.cY a)(hb:M6.cY b)(hj:j<b.length)(bKC:a.length+b.length=N):∀(r i:Nat) (z:List Int) (c:Int),i+r=a.length->z.length=N->M6.cY z->0<=c->c<18446744073709551616->z.getD (a.length+j) 0=0 ->
  M6.val z+18446744073709551616^(i+j)*c.toNat=V+18446744073709551616^j*(M6.val (a.take i)*(b.getD j 0).toNat) ->
  ∃z',L5 z 0 N a b j c b.length j a.length i=L1 z' 0 N a b b.length ((j+1:Nat):Int)/\z'.length=N/\M6.cY z'/\M6.val z'=V+18446744073709551616^j*(M6.val a*(b.getD j 0).toNat):=by
 intro r
 induction r with
 |zero =>
  intro i z c hi hz hd h0 h1 bAU hv;have w1:i64.wrap ((j:Int)+(a.length:Int))=((a.length+j:Nat):Int):=by rw[wrap_i64];omega
  have w2:i64.wrap ((j:Int)+1)=((j+1:Nat):Int):=by rw[wrap_i64];omega
  have bJA:i=a.length:=by omega
  subst bJA;refine⟨z.set (a.length+j) c,?_,by simp[hz],M6.oF hd ⟨h0,h1⟩,?_⟩
  ·rw[Qj,aL,w1,aU,bZL,bVQ,w2]
  ·have hs:=M6.qR (a:=z) (j:=a.length+j) (by omega) c;rw[bAU]at hs;rw[cCD]at hv;simp at hs;rw[hs];exact hv
 |succ r ih =>
  intro i z c hi hz hd h0 h1 bAU hv;have g:=hd.get (i+j);have ga:=ha.get i;have gb:=hb.get j;have w1:i64.wrap ((i:Int)+(j:Int))=((i+j:Nat):Int):=by rw[wrap_i64];omega
  have w2:i64.wrap ((i:Int)+1)=((i+1:Nat):Int):=by rw[wrap_i64];omega
  obtain⟨X,hX⟩:=cAS ga.1;obtain⟨Y,hY⟩:=cAS gb.1;have bJZ:X*Y<=340282366920938463426481119284349108225:=by
   have h2:X<=18446744073709551615:=by omega
   have h3:Y<=18446744073709551615:=by omega
   have:=cFZ h2 h3;omega
  rw[Qj,aP,aU,aU,w1,w2];simp only[bZL,bVQ];have hs:=fun d=>M6.qR (a:=z) (j:=i+j) (by omega) d
  rw[show a.getD i 0*b.getD j 0=((X*Y:Nat):Int)from by rw[hX,hY];simp];obtain⟨k1,k2,k3⟩:=bAO bJZ g.1 g.2 h0 h1;rw[gP ⟨ga.1,ga.2,gb.1,gb.2⟩,gP ⟨by omega,by omega,by omega,by omega⟩,aU,gP ⟨by omega,by omega,by omega,by omega⟩,aU];rw[wrap_u64 k1.1 k1.2,wrap_u64 k2.1 k2.2];refine ih (i+1) _ _ (by omega) (by simp[hz]) (M6.oF hd (by omega)) k2.1 k2.2 (by
   rw[cAP,List.getElem?_set_ne (by omega),<-cAP];exact bAU) ?_
  rw[M6.dR,bHB,show i+1+j=(i+j)+1 from by omega,cAN,cAR];have hs:=hs ((z.getD (i+j) 0+(((X*Y:Nat):Int)%18446744073709551616+c+0)%18446744073709551616+0)%18446744073709551616);rw[hX,hY,bZL,bZL];rw[hY,bZL]at hv;generalize ((z.getD (i+j) 0+(((X*Y:Nat):Int)%18446744073709551616+c+0)%18446744073709551616+0)%18446744073709551616)=d at *;generalize ((X*Y:Nat):Int)/18446744073709551616+(((X*Y:Nat):Int)%18446744073709551616+c+0)/18446744073709551616+(z.getD (i+j) 0+(((X*Y:Nat):Int)%18446744073709551616+c+0)%18446744073709551616+0)/18446744073709551616=c' at *;generalize X*Y=q at *;generalize 18446744073709551616^(i+j)=B at *;generalize M6.val (z.set (i+j) d)=W at *;generalize (z.getD (i+j) 0).toNat=x at *;generalize 18446744073709551616^j*(M6.val (a.take i)*Y)=U at *;have e2:B*d.toNat+B*(18446744073709551616*c'.toNat)=B*x+B*q+B*c.toNat:=by
   rw[<-cAO,k3,cAO,cAO]
  omega
theorem aON{z:List Int}(hd:M6.cY z){k:Nat}(h:M6.val z<18446744073709551616^k):z.getD k 0=0:=by
 have h1:=M6.nH hd k;rw[cBI h,M6.jM]at h1;have:=hd.get k;omega
theorem bLO{a b:List Int}{N:Nat}(hN:N<=1099511627776)(ha:M6.cY a)(hb:M6.cY b)(bKC:a.length+b.length=N):∀(r j:Nat) (z:List Int),j+r=b.length->z.length=N->M6.cY z->M6.val z=M6.val a*M6.val (b.take j) ->
  L1 z 0 N a b b.length j=some [.io gJ .u64 (M6.pT N (M6.val a*M6.val b)) 0 0]:=by
 intro r
 induction r with
 |zero =>
  intro j z hj hz hd hv;rw[Qk,aL];rw[M6.dS (by omega)]at hv;rw[M6.oY hd hz hv]
 |succ r ih =>
  intro j z hj hz hd hv;rw[Qk,aP];have jB:M6.val z<18446744073709551616^(a.length+j):=by
   rw[hv,cAQ];exact cDP (M6.dT ha) (M6.iN hb j)
  obtain⟨z',h1,h2,h3,h4⟩:=bVL hN ha hb (show j<b.length by omega) bKC a.length 0 z 0 (by omega) hz hd (by omega) (by omega) (aON hd jB) (V:=M6.val z) (by simp[M6.val]);have h1:L5 z 0 N a b j 0 b.length j a.length 0=L1 z' 0 N a b b.length ((j+1:Nat):Int):=h1;rw[h1];refine ih (j+1) z' (by omega) h2 h3 ?_;rw[h4,hv,M6.dR,cAO];congr 1;rw[<-cAR,<-cAR,cAM (18446744073709551616^j)]
theorem spec(x:List Int×Nat×Nat)(a b:List Int)(h:(sp x a b).1):aH E f264 aE [(Ds gJ .u64).put x,(pI .u64).put a,(pI .u64).put b]=some (sp x a b).2/\∃rs mZ,(sp x a b).2=rs ++ [.io gJ .u64 mZ 0 0]/\mZ.length=x.1.length:=by
 obtain⟨xl,xo,xn⟩:=x;obtain⟨hd,ho,hn,ha,hb,hl,hN,hv⟩:=h;simp only at hd ho hn hl hN hv;subst ho;subst hn;refine⟨(start xl 0 xl.length a b).trans ?_,[],_,rfl,M6.iH ?_⟩
 ·exact bLO hN ha hb hl.symm b.length 0 xl (by omega) rfl hd (by simp[hv,M6.val])
 ·show _<18446744073709551616^xl.length;rw[hl,cAQ];exact cDP (M6.dT ha) (M6.dT hb)
def aJ:dK:=orc3 (Ds gJ .u64) (pI .u64) (pI .u64) sp
theorem fnok:mA prog E 264 f264 aE:=vU rI mixed (lY _ rfl (aA Mw.ok aD) (nT)) func264 rfl rfl rfl rfl rfl
theorem ok:pW prog base.glob 264 aJ:=fnok.yK rfl spec
end Hr
namespace Aj
def E:=mE [] 22 [] [(2,[0,3])] []
def aE:=bd f261
theorem aX:Nk E aE:=nk
def L2 a b:=qV E f261 aE 2 [iM a,bP b]
theorem start a:aH E f261 aE [D.s (ints u64 a)]=Aj.L2 a (a.length:Int):=eJ aX
theorem lN a b:L2 a b=letI B:=(a.length:Int);letI A:=ints u64 (cEQ 0 (cER b.toNat a));aB (decide (0<b)) (if 0<=i64.wrap (b-1)/\i64.wrap (b-1)<B then aB (a.getD (i64.wrap (b-1)).toNat 0==(0:Int)) (Aj.L2 a (i64.wrap (b-1))) (if(0:Int)<=(0:Int)/\0<=b/\b<=b/\b<=B then some [D.s A]else none)else none) (if(0:Int)<=(0:Int)/\0<=b/\b<=b/\b<=B then some [D.s A]else none):=lJ aX
def sp(a:List Int):Prop×List D:=(M6.cY a/\a.length<=1099511627776,[.s (.ints .u64 (M6.dg (M6.val a)))])
theorem L{xs:List Int}(hd:M6.cY xs)(hl:xs.length<=4398046511104):∀n:Nat,n<=xs.length->L2 xs n=some [D.s (.ints .u64 (M6.dg (M6.val (xs.take n))))]
 |0,h=>by
  rw[lN,aL,aU];simp[M6.val,M6.cK]
 |n+1,h=>by
  rw[lN];have e:i64.wrap (((n+1:Nat):Int)-1)=(n:Int):=by rw[wrap_i64];omega
  rw[e,aP,aU,bZL]
  by_cases hz:xs.getD n 0=0
  ·rw[cO hz,L hd hl n (by omega),M6.mL (by omega),hz];simp
  ·rw[bN hz,aU,bZL,cCE];have:M6.cR (xs.take (n+1)):=M6.Fw (hd.take _) fun d hg=>by
    rw[M6.getLast_take (by omega)]at hg;cases hg;exact hz
   rw[<-this]
theorem spec:jE E f261 aE (pI .u64) sp:=by
 rintro a ⟨hd,hl⟩;refine(start a).trans ?_;rw[L hd (by omega) a.length (bVO _),cCD];rfl
def aJ:dK:=orc1 (pI .u64) sp
theorem ok:OK 261 aJ:=(eZ E aE aD func261).pU rfl spec
end Aj
namespace pM
def E:Env:={ ({ base with n0:=1,io:=[0] })with nt:=55,own:=[],keep:=fun k=>(tlook [(7,[0,6,8]),(2,[0,1,2,6,10,11])] k).getD [],cut:=tlook [] }
def aE:=bd f267
theorem aX:Nk E aE:=nk
def L2(a:List Int)(b:Nat)(c:Nat) d f g h i:=qV E f267 aE 2 [(A.any,some { e:=(22:Nat),cont:=wX.ints u64 a }),(A.v (V.one (L.view 0 b c)),none),iM d,bP f,dC g,bP h,bP i]
def L7(a:List Int)(b:Nat)(c:Nat) d f:=qV E f267 aE 7 [(A.any,some { e:=(22:Nat),cont:=wX.ints u64 a }),(A.v (V.one (L.view 0 b c)),none),dC d,bP f]
theorem start al ao an b c:aH E f267 aE [D.io gJ u64 al ao an,D.s (ints u64 b),D.s (sc (int i64 c))]=pM.L2 al ao an b c 0 (b.length:Int) 0:=eJ aX
theorem lN a b c d e f g h:L2 a b c d e f g h=letI A:=b+(i64.wrap (e+h)).toNat;letI B:=a.getD A 0+d.getD h.toNat 0+f;aB (decide (h<g)) (if 0<=i64.wrap (e+h)/\i64.wrap (e+h)<(c:Int)then if 0<=h/\h<(d.length:Int)then aO (0<=a.getD A 0/\0<=d.getD h.toNat 0/\0<=f/\f<=1) (if 0<=i64.wrap (e+h)/\i64.wrap (e+h)<(c:Int)then pM.L2 (a.set A (B%18446744073709551616)) b c d e (B/18446744073709551616) g (i64.wrap (h+1))else none)else none else none) (pM.L7 a b c f (i64.wrap (e+(d.length:Int)))):=lJ aX
theorem wW a b c d e:L7 a b c d e=letI B:=b+e.toNat;letI A:=a.getD B 0+(0:Int)+d;aB (decide (0<d)) (if 0<=e/\e<(c:Int)then aO (0<=a.getD B 0/\(0:Int)<=(0:Int)/\0<=d/\d<=1) (if 0<=e/\e<(c:Int)then pM.L7 (a.set B (A%18446744073709551616)) b c (A/18446744073709551616) (i64.wrap (e+1))else none)else none) (some [D.io 22 u64 a 0 0]):=lJ aX
def sp(x:List Int×Nat×Nat)(b:List Int)(k:Int):Prop×List D:=(M6.cY x.1/\x.2.1=0/\x.2.2=x.1.length/\M6.cY b/\0<=k/\k.toNat+b.length<=x.1.length/\x.1.length<=1099511627776/\M6.val x.1+M6.val b*18446744073709551616^k.toNat<18446744073709551616^x.1.length,
 [.io gJ .u64 (M6.pT x.1.length (M6.val x.1+M6.val b*18446744073709551616^k.toNat)) 0 0])
theorem bLL{T N:Nat}(hN:N<=1099511627776)(hT:T<18446744073709551616^N):∀(r j:Nat) (z:List Int) (c:Int),j+r=N+1->z.length=N->M6.cY z->0<=c->c<=1->M6.val z+18446744073709551616^j*c.toNat=T ->
  L7 z 0 N c j=some [.io gJ .u64 (M6.pT N T) 0 0]:=by
 intro r
 induction r with
 |zero =>
  intro j z c hj hz hd h0 h1 hv;have hc:c=0:=by
   have h2:=M6.qB (show N<=j by omega);rcases Int.lt_or_le 0 c with h3 |h3
   ·have:c=1:=by omega
    subst this;simp at hv;omega
   ·omega
  subst hc;rw[wW,aL];simp at hv;rw[M6.oY hd hz hv]
 |succ r ih =>
  intro j z c hj hz hd h0 h1 hv
  by_cases hc:c=0
  ·subst hc;rw[wW,aL];simp at hv;rw[M6.oY hd hz hv]
  ·have aWM:c=1:=by omega
   subst aWM;have bSK:j<N:=by
    rcases Nat.lt_or_ge j N with h |h
    ·exact h
    ·have h2:=M6.qB h;simp at hv;omega
   have g:=hd.get j;have w2:i64.wrap ((j:Int)+1)=((j+1:Nat):Int):=by rw[wrap_i64];omega
   rw[wW,aP,aU,bVQ,bZL,gP ⟨g.1,by omega,by omega,by omega⟩,aU,w2];refine ih (j+1) _ _ (by omega) (by simp[hz]) (M6.oF hd (by omega)) (by omega) (by omega) ?_;have hs:=M6.qR (a:=z) (j:=j) (by omega) ((z.getD j 0+0+1)%18446744073709551616);rw[cAN,cAR];generalize z.getD j 0=x at *;generalize M6.val (z.set j _)=V at *;generalize 18446744073709551616^j=B at *;have e:((x+0+1)%18446744073709551616).toNat+18446744073709551616*((x+0+1)/18446744073709551616).toNat=x.toNat+1:=by omega
   have e2:B*((x+0+1)%18446744073709551616).toNat+B*(18446744073709551616*((x+0+1)/18446744073709551616).toNat)=B*x.toNat+B:=by
    rw[<-cAO,e,cAO,bVY]
   simp at hv;omega
theorem bLN{b:List Int}{V N k:Nat}(hN:N<=1099511627776)(hb:M6.cY b)(hk:k+b.length<=N)(hT:V+M6.val b*18446744073709551616^k<18446744073709551616^N):∀(r i:Nat) (z:List Int) (c:Int),i+r=b.length->z.length=N->M6.cY z->0<=c->c<=1 ->
  M6.val z+18446744073709551616^(k+i)*c.toNat=V+M6.val (b.take i)*18446744073709551616^k ->
  L2 z 0 N b k c b.length i=some [.io gJ .u64 (M6.pT N (V+M6.val b*18446744073709551616^k)) 0 0]:=by
 intro r
 induction r with
 |zero =>
  intro i z c hi hz hd h0 h1 hv;have w1:i64.wrap ((k:Int)+(b.length:Int))=((k+b.length:Nat):Int):=by rw[wrap_i64];omega
  rw[lN,aL,w1];have aWB:i=b.length:=by omega
  subst aWB;rw[cCD]at hv;exact bLL hN hT (N+1-(k+b.length)) (k+b.length) z c (by omega) hz hd h0 h1 hv
 |succ r ih =>
  intro i z c hi hz hd h0 h1 hv;have g:=hd.get (k+i);have g2:=hb.get i;have w1:i64.wrap ((k:Int)+(i:Int))=((k+i:Nat):Int):=by rw[wrap_i64];omega
  have w2:i64.wrap ((i:Int)+1)=((i+1:Nat):Int):=by rw[wrap_i64];omega
  rw[lN,aP,w1,aU,aU,bVQ,bZL,bZL,gP ⟨g.1,g2.1,h0,h1⟩,aU,w2];refine ih (i+1) _ _ (by omega) (by simp[hz]) (M6.oF hd (by omega)) (by omega) (by omega) ?_;have hs:=M6.qR (a:=z) (j:=k+i) (by omega) ((z.getD (k+i) 0+b.getD i 0+c)%18446744073709551616);have e0:M6.val (b.take (i+1))*18446744073709551616^k=M6.val (b.take i)*18446744073709551616^k+18446744073709551616^(k+i)*(b.getD i 0).toNat:=by
   rw[M6.dR,bWI,cAQ];congr 1;rw[cHH,cAM (18446744073709551616^i)]
  rw[e0,show k+(i+1)=(k+i)+1 from by omega,cAN,cAR];generalize z.getD (k+i) 0=x at *;generalize b.getD i 0=y at *;generalize M6.val (z.set (k+i) _)=W at *;generalize 18446744073709551616^(k+i)=B at *;generalize M6.val (b.take i)*18446744073709551616^k=U at *;have e:((x+y+c)%18446744073709551616).toNat+18446744073709551616*((x+y+c)/18446744073709551616).toNat=x.toNat+y.toNat+c.toNat:=by omega
  have e2:B*((x+y+c)%18446744073709551616).toNat+B*(18446744073709551616*((x+y+c)/18446744073709551616).toNat)=B*x.toNat+B*y.toNat+B*c.toNat:=by
   rw[<-cAO,e,cAO,cAO]
  omega
theorem spec(x:List Int×Nat×Nat)(b:List Int)(k:Int)(h:(sp x b k).1):aH E f267 aE [(Ds gJ .u64).put x,(pI .u64).put b,(pN .i64).put k]=some (sp x b k).2/\∃rs mZ,(sp x b k).2=rs ++ [.io gJ .u64 mZ 0 0]/\mZ.length=x.1.length:=by
 obtain⟨xl,xo,xn⟩:=x;obtain⟨hd,ho,hn,hb,hk,aHF,hl,hT⟩:=h;simp only at hd ho hn hb hk aHF hl hT;subst ho;subst hn;obtain⟨k,rfl⟩:=cAS hk;rw[bZL]at aHF hT;refine⟨(start xl 0 xl.length b k).trans ?_,[],_,rfl,M6.iH hT⟩;have:=bLN hl hb aHF hT b.length 0 xl 0 (by omega) rfl hd (by omega) (by omega) (by simp[M6.val]);exact this
def aJ:dK:=orc3 (Ds gJ .u64) (pI .u64) (pN .i64) sp
theorem fnok:mA prog E 267 f267 aE:=vU rI mixed (lY _ rfl aD (nT)) func267 rfl rfl rfl rfl rfl
theorem ok:pW prog base.glob 267 aJ:=fnok.yK rfl spec
end pM
namespace Hd
def E:Env:={ ({ base with C:=rA [(267,pM.aJ)] (callsOf [(261,Aj.aJ),(253,nF.prec)]),ioF:=Nv [(267,pM.aJ)],n0:=1,io:=[0] })with nt:=34,own:=[],keep:=fun k=>(tlook [(1,[0,1,2,6])] k).getD [],cut:=tlook [] }
def aE:=bd f265
theorem aX:Nk E aE:=nk
def L1(a:List Int)(b:Nat)(c:Nat) d f g:=qV E f265 aE 1 [(A.any,some { e:=(22:Nat),cont:=wX.ints u64 a }),(A.v (V.one (L.view 0 b c)),none),iM d,iM f,bP g]
theorem start al ao an b c:aH E f265 aE [D.io gJ u64 al ao an,D.s (ints u64 b),D.s (ints u64 c)]=Hd.L1 al ao an b c 0:=eJ aX
theorem Qk a b c d e f:L1 a b c d e f=letI C:=(d.length:Int);letI B:=f+(e.length:Int);letI A:=cEQ f.toNat (cER (if C<i64.wrap B then C else i64.wrap B).toNat d);aB (decide (f<C)) (if 0<=f/\(f<=if C<i64.wrap B then C else i64.wrap B)/\((if C<i64.wrap B then C else i64.wrap B)<=if C<i64.wrap B then C else i64.wrap B)/\(if C<i64.wrap B then C else i64.wrap B)<=C then aO (M6.cY A/\A.length<=1099511627776) (aC (M6.dg (M6.val A)) fun g=>aO (nF.can g e) (aC (M6.dg (M6.val g*M6.val e)) fun h=>aO (M6.cY a/\b=0/\c=a.length/\M6.cY h/\0<=f/\f.toNat+h.length<=a.length/\a.length<=1099511627776/\M6.val a+M6.val h*(18446744073709551616:Nat)^f.toNat<(18446744073709551616:Nat)^a.length) (aC (M6.pT a.length (M6.val a+M6.val h*(18446744073709551616:Nat)^f.toNat)) fun i=>Hd.L1 i b c d e (i64.wrap B))))else none) (some [D.io 22 u64 a 0 0]):=lJ aX
def sp(x:List Int×Nat×Nat)(a b:List Int):Prop×List D:=(M6.cY x.1/\x.2.1=0/\x.2.2=x.1.length/\M6.cR a/\M6.cR b/\x.1.length=a.length+b.length/\x.1.length<=549755813888/\M6.val x.1=0/\0<b.length/\2*b.length<=a.length/\nF.less (a.length+b.length),
 [.io gJ .u64 (M6.pT x.1.length (M6.val a*M6.val b)) 0 0])
theorem bLO{a b:List Int}{N:Nat}(hN:N<=549755813888)(ha:M6.cR a)(hb:M6.cR b)(bKC:N=a.length+b.length)(h0:0<b.length)(h2:2*b.length<=a.length)(hc:nF.less (a.length+b.length)):∀(r at_:Nat) (z:List Int),a.length<=at_+r->at_<=N->z.length=N->M6.cY z->M6.val z=M6.val (a.take at_)*M6.val b ->
  L1 z 0 N a b at_=some [.io gJ .u64 (M6.pT N (M6.val a*M6.val b)) 0 0]:=by
 intro r
 induction r with
 |zero =>
  intro t z hr ht hz hd hv;rw[Qk,aL];rw[M6.dS (by omega)]at hv;rw[M6.oY hd hz hv]
 |succ r ih =>
  intro t z hr ht hz hd hv
  by_cases jB:t<a.length
  ·have w:i64.wrap ((t:Int)+(b.length:Int))=((t+b.length:Nat):Int):=by rw[wrap_i64];omega
   obtain⟨e,he⟩:∃e:Nat,e=min a.length (t+b.length):=⟨_,rfl⟩;have bSP:(if(a.length:Int)<((t+b.length:Nat):Int)then(a.length:Int)else((t+b.length:Nat):Int))=(e:Int):=by split <;> omega
   have Pl:((a.take e).drop t).length=e-t:=by rw[List.length_drop,bYE];omega
   have bNC:M6.cY ((a.take e).drop t):=(ha.kW.take _).drop _;have bII:=M6.dT bNC;rw[Pl]at bII;have Hx:M6.val (a.take e)=M6.val (a.take t)+18446744073709551616^t*M6.val ((a.take e).drop t):=by
    have:=M6.iZ (a.take e) (n:=t) (by rw[bYE];omega);rw[List.take_take,show min t e=t from by omega]at this;exact this
   have bNT:=M6.dT hb.kW;have iP:=M6.iN ha.kW e;have h1:M6.val ((a.take e).drop t)*M6.val b<18446744073709551616^(e-t+b.length):=by
    rw[cAQ];exact cDP bII bNT
   have h3:M6.val (a.take e)*M6.val b<18446744073709551616^N:=by
    have:M6.val (a.take e)*M6.val b<18446744073709551616^(e+b.length):=by
     rw[cAQ];exact cDP iP bNT
    exact bWL this (M6.qB (by omega))
   have h4:M6.val z+M6.val ((a.take e).drop t)*M6.val b*18446744073709551616^t=M6.val (a.take e)*M6.val b:=by
    rw[hv,Hx,bWI];congr 1;rw[cAM (18446744073709551616^t),cHH]
   rw[Qk,aP,w,bSP,if_pos ⟨by omega,by omega,by omega,by omega⟩];simp only[bZL];rw[gP ⟨bNC,by omega⟩,aG,gP (hc _ _ (M6.aY _) hb (by have:=M6.eB bII;omega)),aG,M6.bQ,M6.bQ];have Hl:=M6.eB h1;rw[gP ⟨hd,by trivial,by omega,M6.lG _,by omega,by omega,by omega,by rw[h4,hz];exact h3⟩,aG,hz,h4];refine ih (t+b.length) _ (by omega) (by omega) (M6.iH h3) M6.lW ?_;rw[M6.lV];congr 1
   by_cases bCQ:t+b.length<=a.length
   ·rw[he,Nat.min_eq_right bCQ]
   ·rw[he,cBU (by omega),cCD,M6.dS (by omega)]
  ·rw[Qk,aL];rw[M6.dS (by omega)]at hv;rw[M6.oY hd hz hv]
theorem spec(x:List Int×Nat×Nat)(a b:List Int)(h:(sp x a b).1):aH E f265 aE [(Ds gJ .u64).put x,(pI .u64).put a,(pI .u64).put b]=some (sp x a b).2/\∃rs mZ,(sp x a b).2=rs ++ [.io gJ .u64 mZ 0 0]/\mZ.length=x.1.length:=by
 obtain⟨xl,xo,xn⟩:=x;obtain⟨hd,ho,hn,ha,hb,hl,hN,hv,h0,h2,hc⟩:=h;simp only at hd ho hn hl hN hv;subst ho;subst hn;refine⟨(start xl 0 xl.length a b).trans ?_,[],_,rfl,M6.iH ?_⟩
 ·exact bLO hN ha hb hl h0 h2 hc a.length 0 xl (by omega) (by omega) rfl hd (by simp[hv,M6.val])
 ·show _<18446744073709551616^xl.length;rw[hl,cAQ];exact cDP (M6.dT ha.kW) (M6.dT hb.kW)
def aJ:dK:=orc3 (Ds gJ .u64) (pI .u64) (pI .u64) sp
theorem fnok:mA prog E 265 f265 aE:=vU rI mixed (lZ _ _ rfl rfl (mH pM.ok xN) (aA Aj.ok (aA nF.aCE aD)) (nT)) func265 rfl rfl rfl rfl rfl
theorem ok:pW prog base.glob 265 aJ:=fnok.yK rfl spec
end Hd
namespace aXW
def E:=mE [(261,Aj.aJ)] 29 [16,21] [] []
def aE:=bd f268
theorem aX:Nk E aE:=nk
theorem start a b:aH E f268 aE [D.s (ints u64 a),D.s (sc (int i64 b))]=letI C:=cEQ 0 (cER b.toNat a);letI A:=(a.length:Int);letI F:=cER A.toNat a;letI B:=cEQ 0 F;aB (decide (A<=b)) (if(0:Int)<=(0:Int)/\0<=A/\A<=A/\A<=A then aO (M6.cY B/\B.length<=1099511627776) (some [D.s (ints u64 (M6.dg (M6.val B))),D.s (sc (slice none 0 0))])else none) (if(0:Int)<=(0:Int)/\0<=b/\b<=b/\b<=A then aO (M6.cY C/\C.length<=1099511627776) (if 0<=b/\b<=A/\A<=A/\A<=A then some [D.s (ints u64 (M6.dg (M6.val C))),D.s (ints u64 (cEQ b.toNat F))]else none)else none):=eJ aX
def sp(a:List Int)(k:Int):Prop×List D:=(M6.cR a/\a.length<=1099511627776/\0<=k,[.s (.ints .u64 (M6.dg (M6.val a%18446744073709551616^k.toNat))),.s (.ints .u64 (M6.dg (M6.val a/18446744073709551616^k.toNat)))])
theorem spec:Mt E f268 aE (pI .u64) (pN .i64) sp:=by
 rintro a k ⟨ha,hl,h0⟩;obtain⟨k,rfl⟩:=cAS h0;simp only[sp,bZL];have aCV:=start a (k:Int)
 by_cases hk:a.length<=k
 ·rw[aP,aU,bZL,cCD,cCE,gP ⟨ha.kW,hl⟩]at aCV;refine⟨_,aCV,?_⟩;have h1:M6.val a<18446744073709551616^k:=bWL (M6.dT ha.kW) (M6.qB hk);rw[Nat.mod_eq_of_lt h1,cBI h1,M6.cK];exact .cons (.refl _) (.cons (.nil _) .nil)
 ·rw[aL,aU,bZL,bZL,cCE,gP ⟨ha.kW.take _,by rw[bYE];omega⟩,aU,cCD,M6.tL ha.kW]at aCV;refine⟨_,aCV,?_⟩;have h2:a.drop k=M6.dg (M6.val a/18446744073709551616^k):=by
   rw[<-M6.nH ha.kW];exact M6.Ve ha k
  rw[h2];exact .refl _
def aJ:dK:=orc2 (pI .u64) (pN .i64) sp
theorem ok:OK 268 aJ:=(eZ E aE (aA Aj.ok aD) func268).aHQ rfl spec
end aXW
namespace PSum
def E:Env:={ ({ base with C:=rA [(267,pM.aJ)] (callsOf [(261,Aj.aJ)]),ioF:=Nv [(267,pM.aJ)] })with nt:=25,own:=[24],keep:=fun k=>(tlook [] k).getD [],cut:=tlook [(3,[0,1])] }
def aE:=bd f269
theorem aX:Nk E aE:=nk
def J3 a b:=mD E f269 aE 3 [iM a,iM b]
theorem start a b:aH E f269 aE [D.s (ints u64 a),D.s (ints u64 b)]=aB (decide ((a.length:Int)<(b.length:Int))) (PSum.J3 b a) (PSum.J3 a b):=eJ aX
theorem gU a b:J3 a b=letI F:=(a.length:Int);letI G:=F+(1:Int);letI B:=i64.wrap G;letI A:=cER B.toNat a ++ cEQ (min a.length B.toNat) (bXR B.toNat (0:Int));letI C:=M6.pT A.length (M6.val A+M6.val b*1);if 0<=i64.wrap G/\i64.wrap G<=i64.wrap G/\i64.wrap G<=8796093022208 then aO (M6.cY A/\(0:Nat)=(0:Nat)/\B.toNat=A.length/\M6.cY b/\(0:Int)<=(0:Int)/\(0:Nat)+b.length<=A.length/\A.length<=1099511627776/\M6.val A+M6.val b*1<(18446744073709551616:Nat)^A.length) (aO (M6.cY C/\C.length<=1099511627776) (some [D.s (ints u64 (M6.dg (M6.val C)))]))else none:=cJ aX
def sp(a b:List Int):Prop×List D:=(M6.cR a/\M6.cR b/\a.length<=549755813888/\b.length<=549755813888,[.s (.ints .u64 (M6.dg (M6.val a+M6.val b)))])
theorem aRQ{a:List Int}{n:Nat}:cER (a.length+n) a ++ cEQ (min a.length (a.length+n)) (bXR (a.length+n) (0:Int))=a ++ bXR n 0:=by
 rw[cBH (by omega),cJB];congr 2;omega
theorem J{a b:List Int}(ha:M6.cR a)(hb:M6.cR b)(hl:a.length<=549755813888)(aTR:b.length<=a.length):J3 a b=some [.s (.ints .u64 (M6.dg (M6.val a+M6.val b)))]:=by
 have w:i64.wrap ((a.length:Int)+1)=((a.length+1:Nat):Int):=by rw[wrap_i64];omega
 have h1:=M6.dT ha.kW;have h2:=M6.dT hb.kW;have h3:=M6.qB aTR;have aQG:M6.val a+M6.val b<18446744073709551616^(a.length+1):=by rw[cAN];omega
 have hv:M6.val (a ++ bXR 1 0)=M6.val a:=by rw[M6.jI,M6.jU];omega
 rw[gU,w,bZL,aRQ,aU,hv,bVY,List.length_append,cIW,
  gP ⟨M6.qL.2 ⟨ha.kW,M6.kZ _⟩,rfl,rfl,hb.kW,by omega,by omega,by omega,aQG⟩,gP ⟨M6.lW,by rw[M6.iH aQG];omega⟩,M6.lV]
theorem spec:gT E f269 aE (pI .u64) (pI .u64) sp:=by
 rintro a b ⟨ha,hb,h1,h2⟩;refine(start a b).trans ?_
 by_cases hl:a.length<b.length
 ·rw[aP,J hb ha h2 (by omega),cBR];rfl
 ·rw[aL,J ha hb h1 (by omega)];rfl
def aJ:dK:=orc2 (pI .u64) (pI .u64) sp
theorem fnok:tB prog E 269 f269 aE:=aFO rI mixed (lZ _ _ rfl rfl (mH pM.ok xN) (aA Aj.ok aD) (nT)) func269 rfl rfl rfl
theorem ok:kY prog base.glob 269 aJ:=fnok.mT rfl spec
end PSum
namespace Hq
def E:Env:={ ({ base with n0:=1,io:=[0] })with nt:=47,own:=[],keep:=fun k=>(tlook [(7,[0,4,6]),(2,[0,1,4,8,9])] k).getD [],cut:=tlook [] }
def aE:=bd f270
theorem aX:Nk E aE:=nk
def L2(a:List Int)(b:Nat)(c:Nat) d f g h:=qV E f270 aE 2 [(A.any,some { e:=(22:Nat),cont:=wX.ints u64 a }),(A.v (V.one (L.view 0 b c)),none),iM d,dC f,bP g,bP h]
def L7(a:List Int)(b:Nat)(c:Nat) d f:=qV E f270 aE 7 [(A.any,some { e:=(22:Nat),cont:=wX.ints u64 a }),(A.v (V.one (L.view 0 b c)),none),dC d,bP f]
theorem start al ao an b:aH E f270 aE [D.io gJ u64 al ao an,D.s (ints u64 b)]=Hq.L2 al ao an b 0 (b.length:Int) 0:=eJ aX
theorem lN a b c d e f g:L2 a b c d e f g=letI A:=b+g.toNat;aB (decide (g<f)) (if 0<=g/\g<(c:Int)then if 0<=g/\g<(d.length:Int)then aO (0<=a.getD A 0/\0<=d.getD g.toNat 0/\d.getD g.toNat 0<(18446744073709551616:Int)/\0<=e/\e<=1) (if 0<=g/\g<(c:Int)then Hq.L2 (a.set A ((a.getD A 0-d.getD g.toNat 0-e)%18446744073709551616)) b c d (if a.getD A 0<d.getD g.toNat 0+e then(1:Int)else(0:Int)) f (i64.wrap (g+1))else none)else none else none) (Hq.L7 a b c e (d.length:Int)):=lJ aX
theorem wW a b c d e:L7 a b c d e=letI A:=b+e.toNat;aB (decide (0<d)) (if 0<=e/\e<(c:Int)then aO (0<=a.getD A 0/\(0:Int)<=(0:Int)/\(0:Int)<(18446744073709551616:Int)/\0<=d/\d<=1) (if 0<=e/\e<(c:Int)then Hq.L7 (a.set A ((a.getD A 0-(0:Int)-d)%18446744073709551616)) b c (if a.getD A 0<(0:Int)+d then(1:Int)else(0:Int)) (i64.wrap (e+1))else none)else none) (some [D.io 22 u64 a 0 0]):=lJ aX
def sp(x:List Int×Nat×Nat)(b:List Int):Prop×List D:=(M6.cY x.1/\x.2.1=0/\x.2.2=x.1.length/\M6.cY b/\b.length<=x.1.length/\x.1.length<=1099511627776/\M6.val b<=M6.val x.1,
 [.io gJ .u64 (M6.pT x.1.length (M6.val x.1-M6.val b)) 0 0])
theorem bLL{V W N:Nat}(hN:N<=1099511627776)(hT:W<=V):∀(r j:Nat) (z:List Int) (c:Int),j+r=N+1->z.length=N->M6.cY z->0<=c->c<=1->M6.val z+W=V+18446744073709551616^j*c.toNat ->
  L7 z 0 N c j=some [.io gJ .u64 (M6.pT N (V-W)) 0 0]:=by
 intro r
 induction r with
 |zero =>
  intro j z c hj hz hd h0 h1 hv;have hc:c=0:=by
   have h2:=M6.qB (show N<=j by omega);have h3:=M6.dT hd;rw[hz]at h3;rcases Int.lt_or_le 0 c with h4 |h4
   ·have:c=1:=by omega
    subst this;simp at hv;omega
   ·omega
  subst hc;rw[wW,aL];simp at hv;rw[M6.oY hd hz (v:=V-W) (by omega)]
 |succ r ih =>
  intro j z c hj hz hd h0 h1 hv
  by_cases hc:c=0
  ·subst hc;rw[wW,aL];simp at hv;rw[M6.oY hd hz (v:=V-W) (by omega)]
  ·have aWM:c=1:=by omega
   subst aWM;have bSK:j<N:=by
    rcases Nat.lt_or_ge j N with h |h
    ·exact h
    ·have h2:=M6.qB h;have h3:=M6.dT hd;rw[hz]at h3;simp at hv;omega
   have g:=hd.get j;have w2:i64.wrap ((j:Int)+1)=((j+1:Nat):Int):=by rw[wrap_i64];omega
   rw[wW,aP,aU,bVQ,bZL,gP ⟨g.1,by omega,by omega,by omega,by omega⟩,aU,w2];refine ih (j+1) _ _ (by omega) (by simp[hz]) (M6.oF hd (by omega)) (by split <;> omega) (by split <;> omega) ?_;have hs:=M6.qR (a:=z) (j:=j) (by omega) ((z.getD j 0-0-1)%18446744073709551616);rw[cAN,cAR];generalize z.getD j 0=x at *;generalize M6.val (z.set j _)=U at *;generalize 18446744073709551616^j=B at *;have e:((x-0-1)%18446744073709551616).toNat+1=x.toNat+18446744073709551616*(if x<0+1 then(1:Int)else 0).toNat:=by split <;> omega
   have e2:B*((x-0-1)%18446744073709551616).toNat+B=B*x.toNat+B*(18446744073709551616*(if x<0+1 then(1:Int)else 0).toNat):=by
    rw[<-cAO,<-e,cAO,bVY]
   simp at hv;omega
theorem bLN{b:List Int}{V N:Nat}(hN:N<=1099511627776)(hb:M6.cY b)(hk:b.length<=N)(hT:M6.val b<=V):∀(r i:Nat) (z:List Int) (c:Int),i+r=b.length->z.length=N->M6.cY z->0<=c->c<=1 ->
  M6.val z+M6.val (b.take i)=V+18446744073709551616^i*c.toNat ->
  L2 z 0 N b c b.length i=some [.io gJ .u64 (M6.pT N (V-M6.val b)) 0 0]:=by
 intro r
 induction r with
 |zero =>
  intro i z c hi hz hd h0 h1 hv;rw[lN,aL];have aWB:i=b.length:=by omega
  subst aWB;rw[cCD]at hv;exact bLL hN hT (N+1-b.length) b.length z c (by omega) hz hd h0 h1 hv
 |succ r ih =>
  intro i z c hi hz hd h0 h1 hv;have g:=hd.get i;have g2:=hb.get i;have w2:i64.wrap ((i:Int)+1)=((i+1:Nat):Int):=by rw[wrap_i64];omega
  rw[lN,aP,aU,aU,bVQ,bZL,gP ⟨g.1,g2.1,g2.2,h0,h1⟩,aU,w2];refine ih (i+1) _ _ (by omega) (by simp[hz]) (M6.oF hd (by omega)) (by split <;> omega) (by split <;> omega) ?_;have hs:=M6.qR (a:=z) (j:=i) (by omega) ((z.getD i 0-b.getD i 0-c)%18446744073709551616);rw[M6.dR,cAN,cAR];generalize z.getD i 0=x at *;generalize b.getD i 0=y at *;generalize M6.val (z.set i _)=W at *;generalize 18446744073709551616^i=B at *;generalize M6.val (b.take i)=U at *;have e:((x-y-c)%18446744073709551616).toNat+y.toNat+c.toNat=x.toNat+18446744073709551616*(if x<y+c then(1:Int)else 0).toNat:=by split <;> omega
  have e2:B*((x-y-c)%18446744073709551616).toNat+B*y.toNat+B*c.toNat=B*x.toNat+B*(18446744073709551616*(if x<y+c then(1:Int)else 0).toNat):=by
   rw[<-cAO,<-cAO,e,cAO]
  omega
theorem spec(x:List Int×Nat×Nat)(b:List Int)(h:(sp x b).1):aH E f270 aE [(Ds gJ .u64).put x,(pI .u64).put b]=some (sp x b).2/\∃rs mZ,(sp x b).2=rs ++ [.io gJ .u64 mZ 0 0]/\mZ.length=x.1.length:=by
 obtain⟨xl,xo,xn⟩:=x;obtain⟨hd,ho,hn,hb,aHF,hl,hT⟩:=h;simp only at hd ho hn hb aHF hl hT;subst ho;subst hn;refine⟨(start xl 0 xl.length b).trans ?_,[],_,rfl,M6.iH (by have:=M6.dT hd;simp only;omega)⟩;have:=bLN hl hb aHF hT b.length 0 xl 0 (by omega) rfl hd (by omega) (by omega) (by simp[M6.val]);exact this
def aJ:dK:=orc2 (Ds gJ .u64) (pI .u64) sp
theorem fnok:mA prog E 270 f270 aE:=vU rI mixed (lY _ rfl aD (nT)) func270 rfl rfl rfl rfl rfl
theorem ok:pW prog base.glob 270 aJ:=fnok.mT rfl spec
end Hq
namespace Jj
def E:Env:={ ({ base with C:=rA [(267,pM.aJ),(270,Hq.aJ)] (callsOf [(261,Aj.aJ),(268,aXW.aJ),(269,PSum.aJ),(253,nF.prec)]),ioF:=Nv [(267,pM.aJ),(270,Hq.aJ)],n0:=1,io:=[0] })with nt:=62,own:=[42],keep:=fun k=>(tlook [] k).getD [],cut:=tlook [] }
def aE:=bd f266
theorem aX:Nk E aE:=nk
theorem start al ao an b c:aH E f266 aE [D.io gJ u64 al ao an,D.s (ints u64 b),D.s (ints u64 c)]=letI B:=i64.wrap ((b.length:Int)+(1:Int));letI H:=B.tdiv 2;letI F:=i64.wrap ((2:Int)*i64.wrap H);letI C:=i64.wrap H;aO (M6.cR b/\b.length<=1099511627776/\0<=i64.wrap H) (aC (M6.dg (M6.val b%(18446744073709551616:Nat)^C.toNat)) fun a=>aC (M6.dg (M6.val b/(18446744073709551616:Nat)^C.toNat)) fun d=>aO (M6.cR c/\c.length<=1099511627776/\0<=i64.wrap H) (aC (M6.dg (M6.val c%(18446744073709551616:Nat)^C.toNat)) fun e=>aC (M6.dg (M6.val c/(18446744073709551616:Nat)^C.toNat)) fun f=>aO (nF.can a e) (aC (M6.dg (M6.val a*M6.val e)) fun g=>letI A:=cER ao al ++ (cER an g ++ cEQ (ao+min g.length an) al);aO (nF.can d f) (aC (M6.dg (M6.val d*M6.val f)) fun h=>aO (M6.cR a/\M6.cR d/\a.length<=549755813888/\d.length<=549755813888) (aC (M6.dg (M6.val a+M6.val d)) fun i=>aO (M6.cR e/\M6.cR f/\e.length<=549755813888/\f.length<=549755813888) (aC (M6.dg (M6.val e+M6.val f)) fun j=>aO (nF.can i j) (aC (M6.dg (M6.val i*M6.val j)) fun k=>aO (M6.cY k/\(0:Nat)=(0:Nat)/\k.length=k.length/\M6.cY g/\g.length<=k.length/\k.length<=1099511627776/\M6.val g<=M6.val k) (aC (M6.pT k.length (M6.val k-M6.val g)) fun l=>aO (M6.cY l/\(0:Nat)=(0:Nat)/\k.length=l.length/\M6.cY h/\h.length<=l.length/\l.length<=1099511627776/\M6.val h<=M6.val l) (aC (M6.pT l.length (M6.val l-M6.val h)) fun m=>letI G:=M6.dg (M6.val m);if u64=u64/\ao+an<=al.length then aO (M6.cY m/\m.length<=1099511627776) (aO (M6.cY A/\ao=0/\an=A.length/\M6.cY G/\0<=i64.wrap H/\C.toNat+G.length<=A.length/\A.length<=1099511627776/\M6.val A+M6.val G*(18446744073709551616:Nat)^C.toNat<(18446744073709551616:Nat)^A.length) (aC (M6.pT A.length (M6.val A+M6.val G*(18446744073709551616:Nat)^C.toNat)) fun n=>aO (M6.cY n/\ao=0/\an=n.length/\M6.cY h/\0<=i64.wrap ((2:Int)*i64.wrap H)/\F.toNat+h.length<=n.length/\n.length<=1099511627776/\M6.val n+M6.val h*(18446744073709551616:Nat)^F.toNat<(18446744073709551616:Nat)^n.length) (aC (M6.pT n.length (M6.val n+M6.val h*(18446744073709551616:Nat)^F.toNat)) fun o=>some [D.io 22 u64 o 0 0])))else none))))))))):=eJ aX
def sp(x:List Int×Nat×Nat)(a b:List Int):Prop×List D:=(M6.cY x.1/\x.2.1=0/\x.2.2=x.1.length/\M6.cR a/\M6.cR b/\x.1.length=a.length+b.length/\x.1.length<=274877906944/\M6.val x.1=0/\4<=b.length/\b.length<=a.length/\nF.less (a.length+b.length),
 [.io gJ .u64 (M6.pT x.1.length (M6.val a*M6.val b)) 0 0])
theorem bHG(a0 a1 b0 b1 K:Nat):(a0+K*a1)*(b0+K*b1)=a0*b0+(a0*b1+a1*b0)*K+a1*b1*(K*K):=by grind
theorem bHF(a0 a1 b0 b1:Nat):(a0+a1)*(b0+b1)=a0*b0+a1*b1+(a0*b1+a1*b0):=by grind
theorem Ff{v n k:Nat}(h:v<18446744073709551616^n):v/18446744073709551616^k<18446744073709551616^(n-k):=by
 apply cBG;rw[<-cAQ];exact bWL h (M6.qB (by omega))
theorem aCG{v k N:Nat}(hk:k<=N)(h:v*18446744073709551616^k<18446744073709551616^N):v<18446744073709551616^(N-k):=by
 have e:18446744073709551616^N=18446744073709551616^(N-k)*18446744073709551616^k:=by rw[<-cAQ];congr 1;omega
 rw[e]at h;exact Nat.lt_of_mul_lt_mul_right h
theorem spec(x:List Int×Nat×Nat)(a b:List Int)(h:(sp x a b).1):aH E f266 aE [(Ds gJ .u64).put x,(pI .u64).put a,(pI .u64).put b]=some (sp x a b).2/\∃rs mZ,(sp x a b).2=rs ++ [.io gJ .u64 mZ 0 0]/\mZ.length=x.1.length:=by
 obtain⟨xl,xo,xn⟩:=x;obtain⟨hd,ho,hn,ha,hb,hl,hN,hv,h4,aTR,hc⟩:=h;simp only at hd ho hn hl hN hv;subst ho;subst hn;have aLM:=M6.dT ha.kW;have bFW:=M6.dT hb.kW;have bDH:M6.val a*M6.val b<18446744073709551616^xl.length:=by rw[hl,cAQ];exact cDP aLM bFW
 refine⟨(start xl 0 xl.length a b).trans ?_,[],_,rfl,M6.iH bDH⟩;obtain⟨k,hk⟩:∃k:Nat,k=(a.length+1)/2:=⟨_,rfl⟩;have w:i64.wrap ((i64.wrap ((a.length:Int)+1)).tdiv 2)=(k:Int):=by
  rw[wrap_i64 (n:=(a.length:Int)+1),Int.tdiv_eq_ediv_of_nonneg (by omega),wrap_i64];omega
 have w2:i64.wrap (2*(k:Int))=((2*k:Nat):Int):=by rw[wrap_i64];omega
 have aTF:xl=bXR xl.length 0:=by
  have:=M6.oY hd rfl hv;rw[M6.aLQ]at this;exact this
 rw[w,w2,gP ⟨ha,by omega,by omega⟩];simp only[aG,bZL];have a0l:=M6.eB (bXW (M6.val a) (bYO (n:=k) (by omega:0<18446744073709551616)));have b0l:=M6.eB (bXW (M6.val b) (bYO (n:=k) (by omega:0<18446744073709551616)));have a1l:=M6.eB (Ff (k:=k) aLM);have b1l:=M6.eB (Ff (k:=k) bFW);have hA:=cGA (M6.val a) (18446744073709551616^k);have hB:=cGA (M6.val b) (18446744073709551616^k);have ea0:M6.val a%18446744073709551616^k<18446744073709551616^k:=bXW _ (cX);have eb0:M6.val b%18446744073709551616^k<18446744073709551616^k:=bXW _ (cX);have ea1:M6.val a/18446744073709551616^k<18446744073709551616^k:=bWL (Ff aLM) (M6.qB (by omega));have eb1:M6.val b/18446744073709551616^k<18446744073709551616^k:=bWL (Ff bFW) (M6.qB (by omega));generalize M6.val a%18446744073709551616^k=a0 at *;generalize M6.val a/18446744073709551616^k=a1 at *;generalize M6.val b%18446744073709551616^k=b0 at *;generalize M6.val b/18446744073709551616^k=b1 at *;have s6:a0+a1<18446744073709551616^(k+1):=by rw[cAN];omega
 have s7:b0+b1<18446744073709551616^(k+1):=by rw[cAN];omega
 have s6l:=M6.eB s6;have s7l:=M6.eB s7;have aCX:=bHG a0 a1 b0 b1 (18446744073709551616^k);rw[hA,hB]at aCX;have hmid:=bHF a0 a1 b0 b1;have s8:(a0+a1)*(b0+b1)<18446744073709551616^(2*(k+1)):=by
  rw[Nat.two_mul,cAQ];exact cDP s6 s7
 have s8l:=M6.eB s8;have bUD:18446744073709551616^k*18446744073709551616^k=18446744073709551616^(2*k):=by rw[<-cAQ,Nat.two_mul]
 rw[bUD]at aCX;have low:a0*b0<=(a0+a1)*(b0+b1):=by omega
 have bIP:=M6.zN low;have bHC:a1*b1<=(a0+a1)*(b0+b1):=by omega
 have bIO:=M6.zN bHC;rw[gP ⟨hb,by omega,by omega⟩,gP (hc _ _ (M6.aY _) (M6.aY _) (by omega)),gP (hc _ _ (M6.aY _) (M6.aY _) (by omega)),gP ⟨M6.aY _,M6.aY _,by omega,by omega⟩,gP ⟨M6.aY _,M6.aY _,by omega,by omega⟩];simp only[M6.bQ];have f9:(a0+a1)*(b0+b1)-a0*b0<18446744073709551616^(M6.dg ((a0+a1)*(b0+b1))).length:=by
  have:=M6.wI (n:=(a0+a1)*(b0+b1));omega
 have bUP:=M6.iH f9;rw[gP (hc _ _ (M6.aY _) (M6.aY _) (by omega)),gP ⟨M6.lG _,by trivial,by trivial,M6.lG _,bIP,by omega,low⟩,bUP,M6.lV,
  gP ⟨M6.lW,by trivial,by trivial,M6.lG _,bIO,by omega,by omega⟩]
 have bUY:(a0+a1)*(b0+b1)-a0*b0-a1*b1=a0*b1+a1*b0:=by omega
 rw[bUY];have f10:a0*b1+a1*b0<18446744073709551616^(M6.dg ((a0+a1)*(b0+b1))).length:=by
  have:=M6.wI (n:=(a0+a1)*(b0+b1));omega
 have Zj:a0*b0<18446744073709551616^xl.length:=by omega
 have bNH:=M6.eB Zj;have bCO:cER 0 xl ++ (cER xl.length (M6.dg (a0*b0)) ++ cEQ (0+min (M6.dg (a0*b0)).length xl.length) xl)=M6.pT xl.length (a0*b0):=by
  rw[List.take_zero,bZR,cBH bNH,bVQ,cBU bNH]
  conv=>lhs;rw[aTF,cJB]
  rfl
 rw[bCO,if_pos ⟨by trivial,by omega⟩,gP ⟨M6.lW,by rw[M6.iH f10];omega⟩,M6.lV,M6.lV,M6.iH Zj];have bRX:(a0*b1+a1*b0)*18446744073709551616^k<18446744073709551616^xl.length:=by omega
 have bBV:=M6.eB (aCG (by omega) bRX);have bBG:a0*b0+(a0*b1+a1*b0)*18446744073709551616^k<18446744073709551616^xl.length:=by omega
 rw[gP ⟨M6.lW,by trivial,by trivial,M6.lG _,by omega,by omega,by omega,bBG⟩,M6.iH bBG,M6.lV];have bSQ:a1*b1*18446744073709551616^(2*k)<18446744073709551616^xl.length:=by omega
 have hhl:=M6.eB (aCG (by omega) bSQ);rw[gP ⟨M6.lW,by trivial,by trivial,M6.lG _,by omega,by omega,by omega,by rw[<-aCX];exact bDH⟩,<-aCX];rfl
def aJ:dK:=orc3 (Ds gJ .u64) (pI .u64) (pI .u64) sp
theorem fnok:mA prog E 266 f266 aE:=vU rI mixed (lZ _ _ rfl rfl (mH pM.ok (mH Hq.ok xN)) (aA Aj.ok (aA aXW.ok (aA PSum.ok (aA nF.aCE aD)))) (nT)) func266 rfl rfl rfl rfl rfl
theorem ok:pW prog base.glob 266 aJ:=fnok.yK rfl spec
end Jj
namespace Qh
def E:Env:={ ({ base with C:=rA [(264,Hr.aJ),(265,Hd.aJ),(266,Jj.aJ)] (callsOf []),ioF:=Nv [(264,Hr.aJ),(265,Hd.aJ),(266,Jj.aJ)],n0:=1,io:=[0] })with nt:=36,own:=[],keep:=fun k=>(tlook [] k).getD [],cut:=tlook [(3,[0,1,2])] }
def aE:=bd f260
theorem aX:Nk E aE:=nk
def J3(a:List Int)(b:Nat)(c:Nat) d f:=mD E f260 aE 3 [(A.any,some { e:=(22:Nat),cont:=wX.ints u64 a }),(A.v (V.one (L.view 0 b c)),none),iM d,iM f]
theorem start al ao an b c:aH E f260 aE [D.io gJ u64 al ao an,D.s (ints u64 b),D.s (ints u64 c)]=aB (decide ((b.length:Int)<(c.length:Int))) (Qh.J3 al ao an c b) (Qh.J3 al ao an b c):=eJ aX
theorem gU a b c d e:J3 a b c d e=letI B:=d.length+e.length;letI A:=some [D.io 22 u64 (M6.pT a.length (M6.val d*M6.val e)) 0 0];aB (decide ((e.length:Int)<(40:Int))) (aO (M6.cY a/\b=0/\c=a.length/\M6.cY d/\M6.cY e/\a.length=d.length+e.length/\a.length<=1099511627776/\M6.val a=0) A) (aB (decide (i64.wrap ((2:Int)*(e.length:Int))<=(d.length:Int))) (aO (M6.cY a/\b=0/\c=a.length/\M6.cR d/\M6.cR e/\a.length=d.length+e.length/\a.length<=549755813888/\M6.val a=0/\0<e.length/\(2:Nat)*e.length<=d.length/\nF.less B) A) (aO (M6.cY a/\b=0/\c=a.length/\M6.cR d/\M6.cR e/\a.length=d.length+e.length/\a.length<=274877906944/\M6.val a=0/\4<=e.length/\e.length<=d.length/\nF.less B) A)):=cJ aX
def sp(x:List Int×Nat×Nat)(a b:List Int):Prop×List D:=(M6.cY x.1/\x.2.1=0/\x.2.2=x.1.length/\M6.cR a/\M6.cR b/\x.1.length=a.length+b.length/\x.1.length<=274877906944/\M6.val x.1=0/\nF.less (a.length+b.length),
 [.io gJ .u64 (M6.pT x.1.length (M6.val a*M6.val b)) 0 0])
theorem J{z a b:List Int}(hd:M6.cY z)(ha:M6.cR a)(hb:M6.cR b)(hl:z.length=a.length+b.length)(hN:z.length<=274877906944)(hv:M6.val z=0)(hc:nF.less (a.length+b.length))(aTR:b.length<=a.length) :
  J3 z 0 z.length a b=some [.io gJ .u64 (M6.pT z.length (M6.val a*M6.val b)) 0 0]:=by
 have w:i64.wrap (2*(b.length:Int))=((2*b.length:Nat):Int):=by rw[wrap_i64];omega
 rw[gU,w]
 by_cases h1:b.length<40
 ·rw[aP,gP ⟨hd,rfl,rfl,ha.kW,hb.kW,hl,by omega,hv⟩]
 ·rw[aL]
  by_cases h2:2*b.length<=a.length
  ·rw[aP,gP ⟨hd,rfl,rfl,ha,hb,hl,by omega,hv,by omega,h2,hc⟩]
  ·rw[aL,gP ⟨hd,rfl,rfl,ha,hb,hl,by omega,hv,by omega,aTR,hc⟩]
theorem spec(x:List Int×Nat×Nat)(a b:List Int)(h:(sp x a b).1):aH E f260 aE [(Ds gJ .u64).put x,(pI .u64).put a,(pI .u64).put b]=some (sp x a b).2/\∃rs mZ,(sp x a b).2=rs ++ [.io gJ .u64 mZ 0 0]/\mZ.length=x.1.length:=by
 obtain⟨xl,xo,xn⟩:=x;obtain⟨hd,ho,hn,ha,hb,hl,hN,hv,hc⟩:=h;simp only at hd ho hn hl hN hv;subst ho;subst hn;refine⟨(start xl 0 xl.length a b).trans ?_,[],_,rfl,M6.iH ?_⟩
 ·by_cases jB:a.length<b.length
  ·rw[aP,J hd hb ha (by omega) hN hv (by rw[cBR];exact hc) (by omega),cAM];rfl
  ·rw[aL,J hd ha hb hl hN hv hc (by omega)];rfl
 ·show _<18446744073709551616^xl.length;rw[hl,cAQ];exact cDP (M6.dT ha.kW) (M6.dT hb.kW)
def aJ:dK:=orc3 (Ds gJ .u64) (pI .u64) (pI .u64) sp
theorem fnok:mA prog E 260 f260 aE:=vU rI mixed (lZ _ _ rfl rfl (mH Hr.ok (mH Hd.ok (mH Jj.ok xN))) aD (nT)) func260 rfl rfl rfl rfl rfl
theorem ok:pW prog base.glob 260 aJ:=fnok.yK rfl spec
end Qh
namespace Hc
def E:Env:={ ({ base with n0:=1,io:=[0] })with nt:=22,own:=[],keep:=fun k=>(tlook [(2,[0,3])] k).getD [],cut:=tlook [] }
def aE:=bd f261
theorem aX:Nk E aE:=nk
def L2(a:List Int)(b:Nat)(c:Nat) d:=qV E f261 aE 2 [(A.any,some { e:=(22:Nat),cont:=wX.ints u64 a }),(A.v (V.one (L.view 0 b c)),none),bP d]
theorem start al ao an:aH E f261 aE [D.io gJ u64 al ao an]=Hc.L2 al ao an (an:Int):=eJ aX
theorem lN a b c d:L2 a b c d=aB (decide (0<d)) (if 0<=i64.wrap (d-1)/\i64.wrap (d-1)<(c:Int)then aB (a.getD (b+(i64.wrap (d-1)).toNat) 0==(0:Int)) (Hc.L2 a b c (i64.wrap (d-1))) (if(0:Int)<=(0:Int)/\0<=d/\d<=d/\d<=(c:Int)then some [D.back 0 (b+0) (d.toNat-0),D.io 22 u64 a 0 0]else none)else none) (if(0:Int)<=(0:Int)/\0<=d/\d<=d/\d<=(c:Int)then some [D.back 0 (b+0) (d.toNat-0),D.io 22 u64 a 0 0]else none):=lJ aX
def sp(x:List Int×Nat×Nat):Prop×List D:=(M6.cY x.1/\x.2.1=0/\x.2.2=x.1.length/\x.1.length<=1099511627776,[.back 0 0 (M6.dg (M6.val x.1)).length,.io gJ .u64 x.1 0 0])
theorem L{xs:List Int}(hd:M6.cY xs)(hl:xs.length<=4398046511104):∀n:Nat,n<=xs.length->L2 xs 0 xs.length n=some [.back 0 0 (M6.dg (M6.val (xs.take n))).length,.io gJ .u64 xs 0 0]
 |0,h=>by
  rw[lN,aL,aU];simp[M6.val,M6.cK]
 |n+1,h=>by
  rw[lN];have e:i64.wrap (((n+1:Nat):Int)-1)=(n:Int):=by rw[wrap_i64];omega
  rw[e,aP,aU,bZL,bVQ]
  by_cases hz:xs.getD n 0=0
  ·rw[cO hz,L hd hl n (by omega),M6.mL (by omega),hz];simp
  ·rw[bN hz,aU,bZL];have:M6.cR (xs.take (n+1)):=M6.Fw (hd.take _) fun d hg=>by
    rw[M6.getLast_take (by omega)]at hg;cases hg;exact hz
   have hlen:(xs.take (n+1)).length=n+1:=by rw[bYE];omega
   rw[<-this,hlen];rfl
theorem spec(x:List Int×Nat×Nat)(h:(sp x).1):aH E f261 aE [(Ds gJ .u64).put x]=some (sp x).2/\∃rs mZ,(sp x).2=rs ++ [.io gJ .u64 mZ 0 0]/\mZ.length=x.1.length:=by
 obtain⟨xl,xo,xn⟩:=x;obtain⟨hd,ho,hn,hl⟩:=h;simp only at hd ho hn hl;subst ho;subst hn;refine⟨(start xl 0 xl.length).trans ?_,[_],xl,rfl,rfl⟩;rw[L hd (by omega) xl.length (bVO _),cCD];rfl
def aJ:dK:=orc1 (Ds gJ .u64) sp
theorem fnok:mA prog E 261 f261 aE:=vU rI mixed (lY _ rfl aD (nT)) func261 rfl rfl rfl rfl rfl
theorem ok:pW prog base.glob 261 aJ:=fnok.pU rfl spec
end Hc
namespace Mv
def E:Env:={ ({ base with C:=rA [(260,Qh.aJ),(261,Hc.aJ)] (callsOf []),ioF:=Nv [(260,Qh.aJ),(261,Hc.aJ)] })with nt:=18,own:=[17],keep:=fun k=>(tlook [] k).getD [],cut:=tlook [] }
def aE:=bd f253
theorem aX:Nk E aE:=nk
theorem start a b:aH E f253 aE [D.s (ints u64 a),D.s (ints u64 b)]=letI F:=(a.length:Int);letI G:=F+(b.length:Int);letI C:=i64.wrap G;letI A:=bXR C.toNat (0:Int);letI B:=M6.pT A.length (M6.val a*M6.val b);if 0<=i64.wrap G/\i64.wrap G<=i64.wrap G/\i64.wrap G<=8796093022208 then aO (M6.cY A/\(0:Nat)=(0:Nat)/\C.toNat=A.length/\M6.cR a/\M6.cR b/\A.length=a.length+b.length/\A.length<=274877906944/\M6.val A=0/\nF.less (a.length+b.length)) (aO (M6.cY B/\(0:Nat)=(0:Nat)/\C.toNat=B.length/\B.length<=1099511627776) (some [D.own 22 u64 (cER (M6.dg (M6.val B)).length B)]))else none:=eJ aX
theorem eval{a b:List Int}(ha:M6.cR a)(hb:M6.cR b)(hN:a.length+b.length<=274877906944)(hc:nF.less (a.length+b.length)):aH E f253 aE [(pI .u64).put a,(pI .u64).put b]=some [.own gJ .u64 (M6.dg (M6.val a*M6.val b))]:=by
 refine(start a b).trans ?_;have w:i64.wrap ((a.length:Int)+(b.length:Int))=((a.length+b.length:Nat):Int):=by rw[wrap_i64];omega
 have bDH:M6.val a*M6.val b<18446744073709551616^(a.length+b.length):=by rw[cAQ];exact cDP (M6.dT ha.kW) (M6.dT hb.kW)
 rw[w,aU];simp only[bZL,cIW];rw[gP ⟨M6.kZ _,by trivial,by trivial,ha,hb,by trivial,hN,M6.jU _,hc⟩,gP ⟨M6.lW,by trivial,(M6.iH bDH).symm,by rw[M6.iH bDH];omega⟩,M6.lV,M6.aLR]
theorem fnok:tB prog E 253 f253 aE:=aFO rI mixed (lZ _ _ rfl rfl (mH Qh.ok (mH Hc.ok xN)) aD (nT)) func253 rfl rfl rfl
theorem all(n:Nat)(hn:n<=274877906944):nF.less (n+1):=by
 induction n with
 |zero =>
  intro a b ha hb hl;refine fn_contract fnok.ty fnok.calls fnok.mix fnok.fnc fnok.body fnok.nt fnok.io (by exact bXM rfl) (eval ha hb (by omega) fun c d _ _ h=>by omega)
 |succ n ih =>
  intro a b ha hb hl;have ih:=ih (by omega);refine fn_contract fnok.ty fnok.calls fnok.mix fnok.fnc fnok.body fnok.nt fnok.io (by exact bXM rfl) (eval ha hb (by omega) fun c d hc hd h=>ih c d hc hd (by omega))
def sp(a b:List Int):Prop×List D:=(M6.cR a/\M6.cR b/\a.length+b.length<=274877906944,[.own gJ .u64 (M6.dg (M6.val a*M6.val b))])
theorem spec:gT E f253 aE (pI .u64) (pI .u64) sp:=by
 rintro a b ⟨ha,hb,hN⟩;exact eval ha hb hN fun c d hc hd h=>all (a.length+b.length) hN c d hc hd (by omega)
def aJ:dK:=orc2 (pI .u64) (pI .u64) sp
theorem ok:kY prog base.glob 253 aJ:=fnok.mT rfl spec
end Mv
namespace aNM
def E:=mE [(144,gN.aJ),(253,Mv.aJ),(252,nF.aJ)] 20 [17] [] []
def aE:=bd f233
theorem aX:Nk E aE:=nk
theorem start a b:aH E f233 aE [D.s (ints u64 a),D.s (ints u64 b)]=letI A:=some [D.s (sc (slice none 0 0)),D.s (sc (int i64 2))];aO (a.length<=1099511627776) (aB (!gN.oQ a) A (aO (b.length<=1099511627776) (aB (!gN.oQ b) A (aO (M6.cR a/\M6.cR b/\a.length+b.length<=274877906944) (aC (M6.dg (M6.val a*M6.val b)) fun c=>aO True (aC (bif nF.Jq c then c else []) fun d=>aC (bif nF.Jq c then(0:Int)else(5:Int)) fun e=>some [D.s (ints u64 d),D.s (sc (int i64 e))])))))):=eJ aX
def sp(a b:List Int):Prop×List D:=(M6.cR a/\M6.cR b/\a.length<=8192/\b.length<=8192,[.s (.ints .u64 (bif cP.mM (M6.val a*M6.val b)then M6.dg (M6.val a*M6.val b)else [])),.s (.sc (.int .i64 (bif cP.mM (M6.val a*M6.val b)then 0 else 5)))])
theorem spec:gT E f233 aE (pI .u64) (pI .u64) sp:=by
 rintro a b ⟨ha,hb,h1,h2⟩;refine(start a b).trans ?_;simp only[aG];rw[gP,gP,gN.nM ha h1,gN.nM hb h2,bXO,bF,bF,gP ⟨ha,hb,by omega⟩,gP trivial];rfl
def aJ:dK:=orc2 (pI .u64) (pI .u64) sp
theorem ok:OK 233 aJ:=(eZ E aE (aA gN.ok (aA Mv.ok (aA nF.ok aD))) func233).mT rfl spec
end aNM
namespace aGN
def E:=mE [(96,fH.aJ),(233,aNM.aJ),(99,An.aJ)] 35 [32] [(3,[2,3,4])] [3]
def aE:=bd f200
theorem aX:Nk E aE:=nk
def J3 a b c d e:=mD E f200 aE 3 [dM 0 27 [cU a,fU b],dM 1 27 [cU c,fU d],dM 2 27 [cU e,sc (slice none 0 0)]]
theorem start a b c d:aH E f200 aE [D.agg [sc (bool a),ints u64 b],D.agg [sc (bool c),ints u64 d]]=letI A:=some [D.agg [sc (bool false),sc (slice none 0 0)],D.s (sc (int i64 2))];aO (b.length<=1099511627776) (aB (!fH.nR (a,b)) A (aO (d.length<=1099511627776) (aB (!fH.nR (c,d)) A (aGN.J3 a b c d false)))):=eJ aX
theorem gU a b c d e:J3 a b c d e=letI F:=M6.val b*M6.val d;letI B:=bif cP.mM F then(0:Int)else(5:Int);letI A:=bif cP.mM F then M6.dg F else [];letI C:=bif B==0 then zs (a !=c) (M6.val A)else(0:Int);aO (M6.cR b/\M6.cR d/\b.length<=8192/\d.length<=8192) (aO (M6.cR A/\A.length<=1099511627776) (some [D.agg [sc (bool (isNeg C)),ints u64 (M6.dg C.natAbs)],D.s (sc (int i64 B))])):=cJ aX
def sp(x y:Bool×List Int):Prop×List D:=(gL x/\gL y,wE (fit (wv x*wv y).natAbs) (wv x*wv y))
theorem spec:gT E f200 aE oD oD sp:=by
 rintro x y ⟨hx,hy⟩;refine(start x.1 x.2 y.1 y.2).trans ?_;have l1:=hx.len;have l2:=hy.len;have f1:=fH.kU hx;have f2:=fH.kU hy;have hs:wv x*wv y=zs (x.1 !=y.1) (M6.val x.2*M6.val y.2):=by
  unfold wv zs;cases x.1 <;> cases y.1 <;> simp[cEW,Int.mul_neg]
 rw[gP,f1,bXO,bF,gP,f2,bXO,bF,gU,gP ⟨hx.1,hy.1,l1,l2⟩,gP (Ja (fun h=>by rw[show cP.mM _=_ from Bd]at h;exact xO h)),Ij,show cP.mM _=_ from Bd];unfold sp
 try dsimp only
 rw[hs,lP]
def aJ:dK:=orc2 oD oD sp
theorem ok:OK 200 aJ:=(eZ E aE (aA fH.ok (aA aNM.ok (aA An.ok aD))) func200).mT rfl spec
end aGN
namespace eI
def E:=mE [(45,lO.aJ),(200,aGN.aJ),(50,iY.aJ)] 38 [22,35] [(3,[2,3,4])] [3]
def aE:=bd f155
theorem aX:Nk E aE:=nk
def J3 a b c d e f g h:=mD E f155 aE 3 [dM 0 29 [cU a,fU b,cV c],dM 1 29 [cU d,fU e,cV f],dM 2 29 [cU g,sc (slice none 0 0),cV h]]
theorem start a b c d e f:aH E f155 aE [D.agg [sc (bool a),ints u64 b,sc (int i64 c)],D.agg [sc (bool d),ints u64 e,sc (int i64 f)]]=aO (aQ (a,b,c)) (aO (aQ (d,e,f)) (eI.J3 a b c d e f false 0)):=eJ aX
theorem gU a b c d e f g h:J3 a b c d e f g h=letI F:=wv (a,b)*wv (d,e);letI C:=i64.wrap (c+f);letI B:=bif fit F.natAbs then wv (a,b)*wv (d,e)else(0:Int);aO (gL (a,b)/\gL (d,e)) (aC (isNeg B) fun i=>aC (M6.dg B.natAbs) fun j=>letI A:=bif gY (wv (i,j)) C then aN (wv (i,j)) C else((0:Int),(0:Int));aC (bif fit F.natAbs then(0:Int)else(5:Int)) fun k=>aB (k !=0) (some [D.agg [sc (bool false),sc (slice none 0 0),sc (int i64 0)],D.s (sc (int i64 k))]) (aO (gL (i,j)/\(-9223372036854775808:Int)<=i64.wrap (c+f)/\i64.wrap (c+f)<9223372036854775808) (aC (isNeg A.fst) fun l=>aC (M6.dg A.fst.natAbs) fun m=>aC A.snd fun n=>aC (bif gY (wv (i,j)) C then(0:Int)else(5:Int)) fun o=>some [D.agg [sc (bool l),ints u64 m,sc (int i64 n)],D.s (sc (int i64 o))]))):=cJ aX
def lM(p q:Int×Int):Bool:=fit (p.1*q.1).natAbs&&gY (p.1*q.1) (p.2+q.2)
def gH(p q:Int×Int):Int×Int:=aN (p.1*q.1) (p.2+q.2)
def sp(x y:gE):Prop×List D:=(aQ x/\aQ y,dE (lM (dv x) (dv y)) (gH (dv x) (dv y)))
theorem spec:Mt E f155 aE iX iX sp:=by
 rintro x y ⟨hx,hy⟩;have ex:=hx.2.1;have ey:=hy.2.1;have s:=start x.1 x.2.1 x.2.2 y.1 y.2.1 y.2.2;have w:i64.wrap (x.2.2+y.2.2)=x.2.2+y.2.2:=wrap_i64;rw[gP hx,gP hy,gU]at s;simp only[aG]at s;have hz:wv (x.1,x.2.1)*wv (y.1,y.2.1)=(dv x).1*(dv y).1:=rfl;rw[gP ⟨hx.Dh,hy.Dh⟩,hz]at s;have h2:x.2.2+y.2.2=(dv x).2+(dv y).2:=rfl;unfold sp lM gH
 try dsimp only
 cases hf:fit ((dv x).1*(dv y).1).natAbs with
 |false =>
  rw[hf]at s;rw[cAV];refine⟨_,s,iY.sO _⟩
 |true =>
  rw[hf,cond_true,cond_true,gG rfl,w,gP ⟨fT (xO hf),by omega,by omega⟩,nA,h2]at s;rw[bYQ];exact⟨_,s,iD.refl _⟩
def aJ:dK:=orc2 iX iX sp
theorem ok:OK 155 aJ:=(eZ E aE (aA lO.ok (aA aGN.ok (aA iY.ok aD))) func155).aHQ rfl spec
end eI
namespace Au
def E:=mE [] 9 [] [] []
def aE:=bd f239
theorem aX:Nk E aE:=nk
theorem start a:aH E f239 aE [D.s (sc (int i64 a))]=aB (decide (1<=a)) (some [D.s (sc (bool (decide (a<=70000))))]) (some [D.s (sc (bool false))]):=eJ aX
def sp(p:Int):Prop×List D:=(True,[.s (.sc (.bool (decide (1<=p)&&decide (p<=70000))))])
theorem spec:jE E f239 aE (pN .i64) sp:=by
 intro p h;refine(start p).trans ?_;unfold sp aB;cases (decide ((1:Int)<=p)) <;> cases (decide (p<=(70000:Int))) <;> rfl
def aJ:dK:=orc1 (pN .i64) sp
theorem ok:OK 239 aJ:=(eZ E aE aD func239).pU rfl spec
end Au
namespace cC
def E:=mE [(239,Au.aJ),(45,lO.aJ),(46,mB.aJ),(106,rY.aJ),(98,kN.aJ),(151,Ai.aJ),(95,oA.aJ),(100,uF.aJ),(240,cE.aJ)] 122 [119] [(9,[2,3,4,5,8]),(15,[2,3,4,5,8,10,13]),(16,[2,3,4,5,8,10,16])] [9,15,16]
def aE:=bd f210
theorem aX:Nk E aE:=nk
def J9 a b c d e f g h i j:=mD E f210 aE 9 [bP a,Nq b,dM 2 29 [cU c,fU d,cV e],dM 3 29 [cU f,fU g,cV h],dM 4 29 [cU i,sc (slice none 0 0),cV j]]
def aHO a b c d e f g h i j k l:=mD E f210 aE 15 [bP a,Nq b,dM 2 29 [cU c,fU d,cV e],dM 3 29 [cU f,fU g,cV h],dM 4 29 [cU i,sc (slice none 0 0),cV j],bP k,iM l]
def aSD a b c d e f g h i j k l m:=mD E f210 aE 16 [bP a,Nq b,dM 2 29 [cU c,fU d,cV e],dM 3 29 [cU f,fU g,cV h],dM 4 29 [cU i,sc (slice none 0 0),cV j],bP k,dM 6 27 [cU l,fU m]]
theorem start a b e f g h c d:aH E f210 aE [D.agg [sc (bool a),ints u64 b,sc (int i64 e)],D.agg [sc (bool f),ints u64 g,sc (int i64 h)],D.s (sc (int i64 c)),D.s (sc (bool d))]=letI F:=int i64 0;letI C:=bool false;letI B:=slice none 0 0;letI A:=some [D.agg [sc C,sc B,sc F],D.s (sc (int i64 5))];aO True (aC (decide (1<=c)&&decide (c<=70000)) fun i=>aB (!i) (some [D.agg [sc C,sc B,sc F],D.s (sc (int i64 1))]) (aO (aQ (a,b,e)) (aO (aQ (f,g,h)) (aO True (aC ((g.length:Int)==(0:Int)) fun j=>aB j (some [D.agg [sc C,sc B,sc F],D.s (sc (int i64 4))]) (aB (decide (4096<(b.length:Int))) A (aB (decide (4096<(g.length:Int))) A (cC.J9 c d a b e f g h false 0)))))))):=eJ aX
theorem Xl a b c d e f g h i j:J9 a b c d e f g h i j=letI A:=i64.wrap (i64.wrap (a+2)+(↑(bl (M6.val g)):Int))-(↑(bl (M6.val d)):Int);aO (M6.cY g/\g.length<=1099511627776) (aO (M6.cY d/\d.length<=1099511627776) (aO (M6.cR d/\d.length<=8192/\(0<=if i64.wrap A>(0:Int)then i64.wrap A else(0:Int))/\(if i64.wrap A>(0:Int)then i64.wrap A else(0:Int))<4611686018427387904) (aC (bif kN.jL (M6.val d) (if i64.wrap A>(0:Int)then i64.wrap A else(0:Int)).toNat then M6.dg (M6.val d*(2:Nat)^(if i64.wrap A>(0:Int)then i64.wrap A else(0:Int)).toNat)else []) fun k=>aO (M6.cR k/\k.length<=8192/\M6.cR g/\1<=g.length/\g.length<=8192) (aC (M6.dg (M6.val k/M6.val g)) fun l=>aC (M6.dg (M6.val k%M6.val g)) fun m=>aO (M6.cR l/\l.length<=8192/\(0:Int)<=(1:Int)/\(1:Int)<(4611686018427387904:Int)) (aC (bif kN.jL (M6.val l) 1 then M6.dg (M6.val l*2)else []) fun n=>letI B:=M6.val n+M6.val (M6.dg 1);aB (decide (0<(m.length:Int))) (aO ((0:Int)<=(1:Int)/\(1:Int)<(18446744073709551616:Int)) (aO (M6.cR n/\M6.cR (M6.dg 1)/\n.length<=8192/\(M6.dg 1).length<=8192) (aC (bif cP.mM B then M6.dg B else []) fun o=>cC.aHO a b c d e f g h i j (if i64.wrap A>(0:Int)then i64.wrap A else(0:Int)) o))) (cC.aHO a b c d e f g h i j (if i64.wrap A>(0:Int)then i64.wrap A else(0:Int)) n)))))):=cJ aX
theorem Nc a b c d e f g h i j k l:aHO a b c d e f g h i j k l=aB (c !=f) (cC.aSD a b c d e f g h i j k (decide (0<(l.length:Int))) l) (cC.aSD a b c d e f g h i j k false l):=cJ aX
theorem aAS a b c d e f g h i j k l m:aSD a b c d e f g h i j k l m=letI C:=i64.wrap (i64.wrap (e-h)-k)-1;letI A:=cE.nQ b (wv (l,m)) (i64.wrap C) a;letI B:=bif gY A.fst A.snd then aN A.fst A.snd else((0:Int),(0:Int));aO (gL (l,m)/\((-4611686018427387904:Int)<=i64.wrap C/\i64.wrap C<4611686018427387904)/\1<=a/\a<=70000) (aC (isNeg B.fst) fun n=>aC (M6.dg B.fst.natAbs) fun o=>aC B.snd fun p=>aC (bif gY A.fst A.snd then(0:Int)else(5:Int)) fun q=>some [D.agg [sc (bool n),ints u64 o,sc (int i64 p)],D.s (sc (int i64 q))]):=cJ aX
def Bw(p:Int)(a b:Nat):Nat:=(p+2+(bl b:Nat)-(bl a:Nat)).toNat
def Us(a b s:Nat):Nat:=a*2^s/b*2+if a*2^s%b=0 then 0 else 1
def bAD(p:Int)(x y:Int×Int):Int×Int:=(zs (isNeg x.1 !=isNeg y.1) (Us x.1.natAbs y.1.natAbs (Bw p x.1.natAbs y.1.natAbs)),x.2-y.2-(Bw p x.1.natAbs y.1.natAbs:Nat)-1)
def uK(up:Bool)(p:Int)(x y:Int×Int):Int×Int:=cE.nQ up (bAD p x y).1 (bAD p x y).2 p
def sp(x y:gE)(p:Int)(up:Bool):Prop×List D:=(aQ x/\aQ y/\(dv y).1≠0/\x.2.1.length<=4096/\y.2.1.length<=4096/\1<=p/\p<=70000,dE (gY (uK up p (dv x) (dv y)).1 (uK up p (dv x) (dv y)).2) (aN (uK up p (dv x) (dv y)).1 (uK up p (dv x) (dv y)).2))
theorem aOO(n:Bool)(q:Nat):wv (n&&decide (0<((M6.dg q).length:Int)),M6.dg q)=zs n q/\(bl q<=524288->gL (n&&decide (0<((M6.dg q).length:Int)),M6.dg q)):=by
 have hz:=M6.iQ (n:=q)
 by_cases h:q=0
 ·rw[decide_eq_false (by have:=hz.2 h;omega),Bool.and_false,h];refine⟨?_,fun _=>⟨M6.aY _,fun hf=>absurd hf (by simp),by rw[M6.cK];simp⟩⟩;unfold wv zs;rw[M6.bQ];cases n <;> rfl
 ·rw[decide_eq_true (by have:=fun hl=>h (hz.1 hl);omega),Bool.and_true];refine⟨?_,fun hb=>⟨M6.aY _,fun _=>by rw[M6.bQ];exact h,fL (k:=8192) (by omega)⟩⟩;unfold wv;rw[M6.bQ]
theorem uR{a s n:Nat}(h:a≠0->bl a+s<=n):bl (a*2^s)<=n:=by
 by_cases h0:a=0
 ·subst h0;rw[Nat.zero_mul];exact bWK (by decide) (cBX n)
 ·rw[cAM,xW h0];have:=h h0;omega
theorem spec:Om E f210 aE iX iX (pN .i64) pB sp:=by
 rintro x y p up ⟨hx,hy,h0,bRZ,bIR,zS,vQ⟩;have ex:=hx.2.1;have ey:=hy.2.1;refine(start x.1 x.2.1 x.2.2 y.1 y.2.1 y.2.2 p up).trans ?_;have hv0:M6.val y.2.1≠0:=fun h=>h0 (Qm.2 h)
 have aYZ:y.2.1.length≠0:=fun h=>hv0 ((M6.dZ hy.Hv).1 h)
 have bx:=xX hx.Hv.kW bRZ;have bVE:=xX hy.Hv.kW bIR
 have ax:(dv x).1.natAbs=M6.val x.2.1:=iG (x.1,x.2.1);have ay:(dv y).1.natAbs=M6.val y.2.1:=iG (y.1,y.2.1);have sx:isNeg (dv x).1=x.1:=hx.Dh.cells.1;have sy:isNeg (dv y).1=y.1:=hy.Dh.cells.1;have w1:i64.wrap (i64.wrap (i64.wrap (p+2)+(bl (M6.val y.2.1):Int))-(bl (M6.val x.2.1):Int))=p+2+(bl (M6.val y.2.1):Int)-(bl (M6.val x.2.1):Int):=by
  rw[wrap_i64 (n:=p+2),wrap_i64 (n:=p+2+(bl (M6.val y.2.1):Int)) (by omega) (by omega),wrap_i64]
 simp only[aG];rw[gP trivial,decide_eq_true zS,decide_eq_true vQ,bYQ,bXO,bF,gP hx,gP hy,gP trivial,bN,aL,aL,Xl,w1];unfold sp uK bAD
 try dsimp only
 rw[ax,ay,sx,sy];have hs:(if p+2+(bl (M6.val y.2.1):Int)-(bl (M6.val x.2.1):Int)>0 then p+2+(bl (M6.val y.2.1):Int)-(bl (M6.val x.2.1):Int)else 0)=((Bw p (M6.val x.2.1) (M6.val y.2.1):Nat):Int):=by
  unfold Bw;split <;> omega
 rw[hs];have bRI:M6.val x.2.1≠0->bl (M6.val x.2.1)+Bw p (M6.val x.2.1) (M6.val y.2.1)<=332200:=fun _=>by unfold Bw;omega
 have bHZ:Bw p (M6.val x.2.1) (M6.val y.2.1)<=332200:=by unfold Bw;omega
 generalize Bw p (M6.val x.2.1) (M6.val y.2.1)=s at *;have tY:=uR bRI;have hX:kN.jL (M6.val x.2.1) s=true:=by rw[Ao.Im];exact decide_eq_true (by omega)
 have lX:=fL (n:=M6.val x.2.1*2^s) (k:=8192) (by omega);have Nm:bl (M6.val x.2.1*2^s/M6.val y.2.1)<=332200:=bWK (fY (cFV _ _)) tY;have lQ:=fL (n:=M6.val x.2.1*2^s/M6.val y.2.1) (k:=8192) (by omega);have hQ:∀q,bl q<=332200->kN.jL q 1=true:=fun q hq=>by rw[Ao.Im];exact decide_eq_true (by have:=uR (a:=q) (s:=1) (n:=332201) (fun _=>by omega);omega)
 rw[gP ⟨hy.Hv.kW,by omega⟩,gP ⟨hx.Hv.kW,by omega⟩,gP ⟨hx.Hv,hx.len,by omega,by omega⟩,bZL];simp only[aG];rw[hX,cond_true,gP ⟨M6.aY _,lX,hy.Hv,by omega,hy.len⟩,M6.bQ,gP ⟨M6.aY _,lQ,by omega,by omega⟩,M6.bQ];have bRJ:decide (0<(((M6.dg (M6.val x.2.1*2^s%M6.val y.2.1)).length:Nat):Int))=decide (M6.val x.2.1*2^s%M6.val y.2.1≠0):=by
  have:=M6.iQ (n:=M6.val x.2.1*2^s%M6.val y.2.1)
  by_cases h:M6.val x.2.1*2^s%M6.val y.2.1=0
  ·rw[decide_eq_false (by have:=this.2 h;omega),decide_eq_false (by omega)]
  ·rw[decide_eq_true (by have:=fun hl=>h (this.1 hl);omega),decide_eq_true h]
 rw[bRJ];have j16:∀(bGA:Bool) (q:Nat),bl q<=332202->wv (bGA,M6.dg q)=zs (x.1 !=y.1) q->gL (bGA,M6.dg q)->aSD p up x.1 x.2.1 x.2.2 y.1 y.2.1 y.2.2 false 0 s bGA (M6.dg q)=some (dE (gY (cE.nQ up (zs (x.1 !=y.1) q) (x.2.2-y.2.2-(s:Int)-1) p).1 (cE.nQ up (zs (x.1 !=y.1) q) (x.2.2-y.2.2-(s:Int)-1) p).2) (aN (cE.nQ up (zs (x.1 !=y.1) q) (x.2.2-y.2.2-(s:Int)-1) p).1 (cE.nQ up (zs (x.1 !=y.1) q) (x.2.2-y.2.2-(s:Int)-1) p).2)):=by
  intro bGA q hq hw Nn;have w2:i64.wrap (i64.wrap (i64.wrap (x.2.2-y.2.2)-(s:Int))-1)=x.2.2-y.2.2-(s:Int)-1:=by
   rw[wrap_i64 (n:=x.2.2-y.2.2),wrap_i64 (n:=x.2.2-y.2.2-(s:Int)),wrap_i64]
  rw[aAS,w2,gP ⟨Nn,⟨by omega,by omega⟩,zS,vQ⟩,hw];simp only[aG];rfl
 have j15:∀q,bl q<=332202->aHO p up x.1 x.2.1 x.2.2 y.1 y.2.1 y.2.2 false 0 s (M6.dg q)=some (dE (gY (cE.nQ up (zs (x.1 !=y.1) q) (x.2.2-y.2.2-(s:Int)-1) p).1 (cE.nQ up (zs (x.1 !=y.1) q) (x.2.2-y.2.2-(s:Int)-1) p).2) (aN (cE.nQ up (zs (x.1 !=y.1) q) (x.2.2-y.2.2-(s:Int)-1) p).1 (cE.nQ up (zs (x.1 !=y.1) q) (x.2.2-y.2.2-(s:Int)-1) p).2)):=by
  intro q hq;obtain⟨v1,v2⟩:=aOO (x.1 !=y.1) q;have v2:=v2 (by omega);rw[Nc];cases hn:x.1 !=y.1 with
  |true =>
   rw[hn]at v1 v2;rw[bT];have:=j16 _ q hq (by rw[hn];exact v1) v2;rw[hn]at this;exact this
  |false =>
   rw[hn]at v1 v2;rw[bF];have:=j16 _ q hq (by rw[hn];exact v1) v2;rw[hn]at this;exact this
 unfold Us;generalize M6.val x.2.1*2^s/M6.val y.2.1=Q at *;have bTZ:bl (Q*2)<=332201:=uR (s:=1) (fun _=>by omega);have bQH:=fL (n:=Q*2) (k:=8192) (by omega);have bTY:bl (Q*2+1)<=332202:=by
  rw[cZ]at bTZ ⊢;rw[cAN];have:=bYO (n:=332201) (show 0<2 by omega);omega
 have one:=fL (n:=1) (k:=1) (cZ.2 (by omega))
 by_cases hr:M6.val x.2.1*2^s%M6.val y.2.1=0
 ·rw[aL,if_pos hr,hQ _ Nm,cond_true,j15 _ (by omega)];rfl
 ·have bPY:cP.mM (Q*2+1)=true:=by rw[show cP.mM _=_ from Bd];exact decide_eq_true (by omega)
  rw[aP,if_neg hr,hQ _ Nm,cond_true,gP ⟨by omega,by omega⟩,gP ⟨M6.aY _,M6.aY _,bQH,by omega⟩,M6.bQ,M6.bQ,bPY,cond_true,j15 _ bTY];rfl
def aJ:dK:=orc4 iX iX (pN .i64) pB sp
theorem ok:OK 210 aJ:=(eZ E aE (aA Au.ok (aA lO.ok (aA mB.ok (aA rY.ok (aA kN.ok (aA Ai.ok (aA oA.ok (aA uF.ok (aA cE.ok aD))))))))) func210).aOE rfl spec
end cC
end W
namespace M
open Go AI W
def shD(up:Bool)(p:Int×Int)(n:Int):Int×Int:=aN (cE.nQ up p.1 p.2 n).1 (cE.nQ up p.1 p.2 n).2
def wZ(up:Bool)(p:Int×Int)(n:Int):Bool:=gY (cE.nQ up p.1 p.2 n).1 (cE.nQ up p.1 p.2 n).2
theorem Md{z:Int}{k:Nat}:((z/((2^k:Nat):Int):Int):Rat)*((2^k:Nat):Rat)<=(z:Rat)/\(z:Rat)<(((z/((2^k:Nat):Int):Int):Rat)+1)*((2^k:Nat):Rat):=by
 have hp:(0:Int)<((2^k:Nat):Int):=by have:=bYO (n:=k) (show 0<2 by omega);omega
 have h1:=Int.ediv_mul_le z (show((2^k:Nat):Int)≠0 by omega);have h2:=Int.lt_ediv_add_one_mul_self z hp;constructor
 ·have:(((z/((2^k:Nat):Int))*((2^k:Nat):Int):Int):Rat)<=(z:Rat):=Rat.intCast_le_intCast.2 h1;rwa [cGU,cGV]at this
 ·have:(z:Rat)<(((z/((2^k:Nat):Int)+1)*((2^k:Nat):Int):Int):Rat):=Rat.intCast_lt_intCast.2 h2;rwa [cGU,cGV,cIN]at this
theorem aDQ(up:Bool)(z:Int)(k:Nat):(up=false->(kD.pC up z k:Rat)*((2^k:Nat):Rat)<=(z:Rat)/\(z:Rat)<(kD.pC up z k:Rat)*((2^k:Nat):Rat)+((2^k:Nat):Rat))/\(up=true->(z:Rat)<=(kD.pC up z k:Rat)*((2^k:Nat):Rat)/\(kD.pC up z k:Rat)*((2^k:Nat):Rat)<(z:Rat)+((2^k:Nat):Rat)):=by
 constructor
 ·rintro rfl;obtain⟨h1,h2⟩:=Md (z:=z) (k:=k);unfold kD.pC;rw[cond_false];generalize ((z/((2^k:Nat):Int):Int):Rat)=q at *;constructor <;> grind
 ·rintro rfl;obtain⟨h1,h2⟩:=Md (z:=-z) (k:=k);unfold kD.pC;rw[cond_true,cIM];rw[cIM]at h1 h2;generalize ((-z/((2^k:Nat):Int):Int):Rat)=q at *;constructor <;> grind
theorem oH{p:Int×Int}(h:p.1≠0):R.pz (bA p)<=R.ab (R.qz p)/\R.ab (R.qz p)<R.pz (bA p+1):=by
 have hb:=pD (n:=p.1.natAbs) (by omega);have h1:2^(bl p.1.natAbs-1)<=p.1.natAbs:=qG.1 (by omega);have h2:=vG p.1.natAbs;have e:R.ab (R.qz p)=(p.1.natAbs:Rat)*R.pz p.2:=by
  unfold R.qz;rw[R.fI,R.bG (cFS (R.dJ p.2))];congr 1;unfold R.ab
  by_cases hz:0<=p.1
  ·rw[if_pos (by exact_mod_cast hz),<-cGV];congr 1;omega
  ·rw[if_neg (by intro hc;exact hz (by exact_mod_cast hc)),<-cGV,<-cIM];congr 1;omega
 have hp:=R.dJ p.2;rw[e];unfold bA;constructor
 ·rw[show p.2+(bl p.1.natAbs:Int)-1=p.2+((bl p.1.natAbs-1:Nat):Int) by omega,R.dY];have Xy:((2^(bl p.1.natAbs-1):Nat):Rat)<=(p.1.natAbs:Rat):=by exact_mod_cast h1
  have:=R.aF (cFS hp) (show 0<=(p.1.natAbs:Rat)-((2^(bl p.1.natAbs-1):Nat):Rat) by grind);grind
 ·rw[show p.2+(bl p.1.natAbs:Int)-1+1=p.2+(bl p.1.natAbs:Int) by omega,R.dY];have aQW:(p.1.natAbs:Rat)<((2^bl p.1.natAbs:Nat):Rat):=by exact_mod_cast h2
  have:=cFX hp (show 0<((2^bl p.1.natAbs:Nat):Rat)-(p.1.natAbs:Rat) by grind);grind
theorem Fk(up:Bool)(p:Int×Int){n:Int}(Zh:1<=n):(up=false->R.qz (shD up p n)<=R.qz p/\R.qz p<=R.qz (shD up p n)+R.pz (1-n)*R.ab (R.qz p))/\(up=true->R.qz p<=R.qz (shD up p n)/\R.qz (shD up p n)<=R.qz p+R.pz (1-n)*R.ab (R.qz p)):=by
 have h0:0<=R.pz (1-n)*R.ab (R.qz p):=R.aF (cFS (R.dJ _)) (R.aM _);unfold shD cE.nQ;split
 ·have e:R.qz (aN p.1 p.2)=R.qz p:=oI p.1 p.2;dsimp only;rw[e];constructor <;> (intro _;constructor <;> grind)
 ·rename_i hn;obtain⟨k,hk⟩:=cAS (show 0<=(bl p.1.natAbs:Int)-n by omega);have aKT:p.1≠0:=by
   intro hz;rw[hz]at hn;have hb:bl (0:Int).natAbs=0:=rfl;rw[hb]at hn;omega
  obtain⟨c1,c2⟩:=aDQ up p.1 k;dsimp only;rw[hk,bZL,oI,R.dY];have qI:=R.dJ p.2;have ht:=(oH aKT).1;have e2:R.pz p.2*((2^k:Nat):Rat)<=R.pz (1-n)*R.ab (R.qz p):=by
   have e3:R.pz p.2*((2^k:Nat):Rat)=R.pz (1-n)*R.pz (bA p):=by
    rw[<-R.dY,<-R.jJ];congr 1;unfold bA;omega
   rw[e3];have:=R.aF (cFS (R.dJ (1-n))) (show 0<=R.ab (R.qz p)-R.pz (bA p) by grind);grind
  have eq:R.qz p=(p.1:Rat)*R.pz p.2:=rfl;generalize R.pz (1-n)*R.ab (R.qz p)=X at *;rw[eq];generalize (kD.pC up p.1 k:Rat)=c at *;generalize ((2^k:Nat):Rat)=K at *;constructor
  ·intro hu;obtain⟨d1,d2⟩:=c1 hu;have m1:=R.aF (cFS qI) (show 0<=(p.1:Rat)-c*K by grind);have m2:=R.aF (cFS qI) (show 0<=c*K+K-(p.1:Rat) by grind);constructor <;> grind
  ·intro hu;obtain⟨d1,d2⟩:=c2 hu;have m1:=R.aF (cFS qI) (show 0<=c*K-(p.1:Rat) by grind);have m2:=R.aF (cFS qI) (show 0<=(p.1:Rat)+K-c*K by grind);constructor <;> grind
theorem aNB(n:Nat):bl (2^n)=n+1:=by
 have h1:=cZ (n:=2^n) (k:=n+1);have h2:=qG (n:=2^n) (k:=n);have:2^n<2^(n+1):=cCW (by omega) (by omega);have:=h1.2 this;have:=h2.2 (bVO _);omega
theorem vE(z e:Int):bl (aN z e).1.natAbs<=bl z.natAbs:=fY (Kq z e)
theorem Zx(up:Bool)(z:Int)(k n:Nat)(h:bl z.natAbs<=n+k):bl (kD.pC up z k).natAbs<=n+1:=by
 have hz:=cZ.1 h;rw[cAQ]at hz;have hp:=bYO (n:=k) (show 0<2 by omega);have hn:=bYO (n:=n) (show 0<2 by omega);refine cZ.2 ?_;rw[cAN];have fl:∀w:Int,w.natAbs<2^n*2^k->(w/((2^k:Nat):Int)).natAbs<=2^n:=by
  intro w hw;have h1:=Int.mul_ediv_add_emod w ((2^k:Nat):Int);have h2:=Int.emod_nonneg w (show((2^k:Nat):Int)≠0 by omega);have h3:=Int.emod_lt_of_pos w (show(0:Int)<((2^k:Nat):Int) by omega);have aTH:(w.natAbs:Int)<((2^n:Nat):Int)*((2^k:Nat):Int):=by exact_mod_cast hw
  generalize w/((2^k:Nat):Int)=q at *;generalize ((2^k:Nat):Int)=K at *;generalize hN:2^n=N at *
  by_cases hq:0<=q
  ·have:q<(N:Int):=by
    refine Int.not_le.1 fun hc=>?_
    have:=cJV hc (show 0<=K by omega);rw[Int.mul_comm K (N:Int)]at this;omega
   omega
  ·have:-(N:Int)<=q:=by
    refine Int.not_lt.1 fun hc=>?_
    have:=cJV (show q<=-(N:Int)-1 by omega) (show 0<=K by omega);rw[Int.mul_sub,Int.mul_neg,Int.mul_one,Int.mul_comm K (N:Int)]at this;omega
   omega
 unfold kD.pC;cases up with
 |false =>
  rw[cond_false];have:=fl z hz;omega
 |true =>
  rw[cond_true,cCC];have:=fl (-z) (by rw[cCC];exact hz);omega
def bGC(p:Int×Int):Prop:=jK p/\p.2+(bl p.1.natAbs:Nat)<=1048000
theorem Oy{up:Bool}{p:Int×Int}{n:Int}(hp:bGC p)(hn:1<=n):wZ up p n=true/\jK (shD up p n):=by
 obtain⟨⟨h1,h2,h3,h4⟩,h5⟩:=hp;unfold wZ shD cE.nQ;split
 ·dsimp only;have hi:gY p.1 p.2=true:=by
   unfold gY
   by_cases hz:p.1=0
   ·rw[decide_eq_true hz,cAW]
   ·have ht:=yW (n:=p.1.natAbs) (by have:=h4 hz;omega);rw[ht,decide_eq_false hz,bXP,decide_eq_true (show -1048576<=p.2+((0:Nat):Int) by omega),decide_eq_true (show p.2+((0:Nat):Int)<=1048576 by omega)];rfl
  exact⟨hi,gM hi h1⟩
 ·rename_i hk;dsimp only;have hc:=kD.aDR up p.1 ((bl p.1.natAbs:Int)-n).toNat;have bNR:=Zx up p.1 ((bl p.1.natAbs:Int)-n).toNat n.toNat (by omega);generalize kD.pC up p.1 ((bl p.1.natAbs:Int)-n).toNat=c at *;have bTH:bl c.natAbs<=bl p.1.natAbs:=fY hc;have bJO:c≠0->tz c.natAbs<bl c.natAbs:=fun h=>Dj (by omega)
  have hi:gY c (p.2+((bl p.1.natAbs:Int)-n))=true:=by
   unfold gY
   by_cases hz:c=0
   ·rw[decide_eq_true hz,cAW]
   ·have:=bJO hz;rw[decide_eq_false hz,bXP,decide_eq_true (show -1048576<=p.2+((bl p.1.natAbs:Int)-n)+(tz c.natAbs:Int) by omega),decide_eq_true (show p.2+((bl p.1.natAbs:Int)-n)+(tz c.natAbs:Int)<=1048576 by omega)];rfl
  exact⟨hi,gM hi (bWK bTH h1)⟩
end M
namespace M
open Go AI W
theorem Rf{p q:Int×Int}(hp:jK p)(hq:jK q)(h:bI.jW p q=true):jK (bI.nD p q):=by
 unfold bI.nD;split
 ·exact hq
 ·split
  ·exact hp
  ·rename_i h1 h2;unfold bI.jW at h;rw[decide_eq_false h1,decide_eq_false h2,bXP,bXP,bVU,bVU,bVU]at h;exact gM h.2.2.2 (of_decide_eq_true h.2.2.1)
theorem jK.top{p:Int×Int}(h:jK p):-1048577<=bA p/\bA p<=1572864:=by
 obtain⟨h1,h2,_⟩:=h;unfold bA;omega
def aGT(p:Int×Int):Int×Int:=((p.1.natAbs:Nat),1-(bl p.1.natAbs:Nat))
theorem aJH{p:Int×Int}(h:jK p)(h0:p.1≠0):jK (aGT p):=by
 obtain⟨h1,h2,h3,h4⟩:=h;have:=h4 h0;unfold aGT;refine⟨by dsimp only;rw[cBF];exact h1,by dsimp only;omega,fun h=>by dsimp only at h;omega,fun _=>by dsimp only;omega⟩
theorem Eh{p q:Int×Int}:eF p q=0↔R.qz p=R.qz q:=by
 obtain⟨h1,h2⟩:=Ji p q;have a:=R.Ur (p:=p) (q:=q) h1 h2;have b:=R.Ur (p:=q) (q:=p) h2 h1;unfold eF;rw[aRS];constructor
 ·intro h;exact cJW (a.2 (Int.le_of_eq h)) (b.2 (Int.le_of_eq h.symm))
 ·intro h;exact Int.le_antisymm (a.1 (by rw[h];exact cGB)) (b.1 (by rw[h];exact cGB))
theorem Bj{p q:Int×Int}:eF p q<0↔R.qz p<R.qz q:=by
 have h1:=kX (p:=p) (q:=q);have h3:=Eh (p:=p) (q:=q);constructor
 ·intro h;have:=h1.1 (by omega);refine Rat.not_le.1 fun hn=>?_
  have:=h3.2 (cJW this hn);omega
 ·intro h;have a:=h1.2 (cFS h);have b:eF p q≠0:=fun hn=>Rat.lt_irrefl ((h3.1 hn)▸h)
  omega
theorem aIR{p q:Int×Int}(h:eF p q≠0):(bI.nD q (-p.1,p.2)).1≠0:=by
 intro h0;have h1:=Re q (-p.1,p.2);rw[oW,R.oC h0]at h1;exact h (Eh.2 (by grind))
theorem Aw{p:Int×Int}(h:p.1=0):eF p (0,0)=0:=by
 rw[Eh,R.oC h,R.oC rfl]
theorem jK.Fy{p:Int×Int}(h:jK p):jK (-p.1,p.2):=by
 obtain⟨x1,x2,x3,x4⟩:=h;exact⟨by dsimp only;rw[cCC];exact x1,x2,fun h=>x3 (by dsimp only at h;omega),fun h=>by dsimp only at h ⊢;have:=x4 (by omega);omega⟩
theorem aQ.Gc{x:gE}(h:aQ x)(hb:bl (dv x).1.natAbs<=262144):x.2.1.length<=4096:=by
 have e:M6.dg (dv x).1.natAbs=x.2.1:=h.Dh.cells.2;rw[<-e];exact fL (k:=4096) (by omega)
def Kt(p q:Int×Int):Int×Int:=bif decide (eF q p<0)then q else p
def Lq(p q:Int×Int):Int×Int:=bif decide (0<eF q p)then q else p
theorem aVE(p q:Int×Int):Kt p q=p\/Kt p q=q:=by unfold Kt;cases decide (eF q p<0);exact Or.inl rfl;exact Or.inr rfl
theorem aWV(p q:Int×Int):Lq p q=p\/Lq p q=q:=by unfold Lq;cases decide (0<eF q p);exact Or.inl rfl;exact Or.inr rfl
theorem Zb(p q:Int×Int):R.qz (Kt p q)<=R.qz p/\R.qz (Kt p q)<=R.qz q:=by
 unfold Kt
 by_cases h:eF q p<0
 ·rw[decide_eq_true h,cond_true];exact⟨cFS (Bj.1 h),cGB⟩
 ·rw[decide_eq_false h,cond_false];exact⟨cGB,Rat.not_lt.1 fun hn=>h (Bj.2 hn)⟩
theorem Zq(p q:Int×Int):R.qz p<=R.qz (Lq p q)/\R.qz q<=R.qz (Lq p q):=by
 unfold Lq
 by_cases h:0<eF q p
 ·rw[decide_eq_true h,cond_true];exact⟨cFS (xS.1 h),cGB⟩
 ·rw[decide_eq_false h,cond_false];exact⟨cGB,Rat.not_lt.1 fun hn=>h (xS.2 hn)⟩
end M
namespace W
open Go AI M
namespace Hb
def E:=mE [(158,Ih.aJ)] 14 [10] [] []
def aE:=bd f120
theorem aX:Nk E aE:=nk
theorem start a b c d e f:aH E f120 aE [D.agg [sc (bool a),ints u64 b,sc (int i64 c)],D.agg [sc (bool d),ints u64 e,sc (int i64 f)]]=aO (aQ (a,b,c)/\aQ (d,e,f)) (some [D.s (sc (int i64 (lH (bI.mY (dv (a,b,c)) (dv (d,e,f))) (bI.mW (dv (a,b,c)) (dv (d,e,f))))))]):=eJ aX
def sp(x y:gE):Prop×List D:=(aQ x/\aQ y,[.s (.sc (.int .i64 (eF (dv x) (dv y))))])
theorem spec:gT E f120 aE iX iX sp:=by
 intro x y h;exact(start x.1 x.2.1 x.2.2 y.1 y.2.1 y.2.2).trans (gP h)
def aJ:dK:=orc2 iX iX sp
theorem ok:OK 120 aJ:=(eZ E aE (aA Ih.ok aD) func120).mT rfl spec
end Hb
namespace uU
def E:=mE [(45,lO.aJ),(120,Hb.aJ)] 19 [] [] []
def aE:=bd f67
theorem aX:Nk E aE:=nk
theorem start a b c d e f:aH E f67 aE [D.agg [sc (bool a),ints u64 b,sc (int i64 c),sc (bool d),ints u64 e,sc (int i64 f)]]=aO (aQ (a,b,c)) (aO (aQ (d,e,f)) (aO (aQ (a,b,c)/\aQ (d,e,f)) (some [D.s (sc (bool (decide (eF (dv (a,b,c)) (dv (d,e,f))<=0))))]))):=eJ aX
def sp(s:wV):Prop×List D:=(eQ s,[.s (.sc (.bool true))])
theorem spec:jE E f67 aE yJ sp:=by
 rintro s ⟨h1,h2,h3⟩;refine(start s.1 s.2.1 s.2.2.1 s.2.2.2.1 s.2.2.2.2.1 s.2.2.2.2.2).trans ((gP h1).trans ((gP h2).trans ((gP ⟨h1,h2⟩).trans ?_)));show some [D.s (.sc (.bool (decide (eF (dv (gZ s)) (dv (hI s))<=0))))]=_;rw[decide_eq_true h3];rfl
def aJ:dK:=orc1 yJ sp
theorem ok:OK 67 aJ:=(eZ E aE (aA lO.ok (aA Hb.ok aD)) func67).pU rfl spec
end uU
namespace aNJ
def E:=mE [(97,Clone.aJ)] 10 [] [] []
def aE:=bd f171
theorem aX:Nk E aE:=nk
theorem start a b c:aH E f171 aE [D.agg [sc (bool a),ints u64 b,sc (int i64 c)]]=aO (b.length<=1099511627776) (some [D.agg [sc (bool a),ints u64 b,sc (int i64 c)]]):=eJ aX
def sp(x:gE):Prop×List D:=(x.2.1.length<=1099511627776,[.agg [.sc (.bool x.1),.ints .u64 x.2.1,.sc (.int .i64 x.2.2)]])
theorem spec:jE E f171 aE iX sp:=by
 intro x h;exact(start x.1 x.2.1 x.2.2).trans (gP h)
def aJ:dK:=orc1 iX sp
theorem ok:OK 171 aJ:=(eZ E aE (aA Clone.ok aD) func171).pU rfl spec
end aNJ
namespace aAR
def E:=mE [(171,aNJ.aJ)] 10 [] [] []
def aE:=bd f123
theorem aX:Nk E aE:=nk
theorem start a b c d e f:aH E f123 aE [D.agg [sc (bool a),ints u64 b,sc (int i64 c),sc (bool d),ints u64 e,sc (int i64 f)]]=aO (b.length<=1099511627776) (aO (e.length<=1099511627776) (some [D.agg [sc (bool a),ints u64 b,sc (int i64 c),sc (bool d),ints u64 e,sc (int i64 f)]])):=eJ aX
def sp(s:wV):Prop×List D:=(s.2.1.length<=1099511627776/\s.2.2.2.2.1.length<=1099511627776,[.agg [.sc (.bool s.1),.ints .u64 s.2.1,.sc (.int .i64 s.2.2.1),.sc (.bool s.2.2.2.1),.ints .u64 s.2.2.2.2.1,.sc (.int .i64 s.2.2.2.2.2)]])
theorem spec:jE E f123 aE yJ sp:=by
 intro s h;exact(start s.1 s.2.1 s.2.2.1 s.2.2.2.1 s.2.2.2.2.1 s.2.2.2.2.2).trans ((gP h.1).trans (gP h.2))
def aJ:dK:=orc1 yJ sp
theorem ok:OK 123 aJ:=(eZ E aE (aA aNJ.ok aD) func123).pU rfl spec
end aAR
namespace aNL
def E:=mE [(67,uU.aJ),(123,aAR.aJ)] 16 [] [] []
def aE:=bd f154
theorem aX:Nk E aE:=nk
theorem start a b c d e f:aH E f154 aE [D.agg [sc (bool a),ints u64 b,sc (int i64 c)],D.agg [sc (bool d),ints u64 e,sc (int i64 f)]]=aO (eQ (a,b,c,d,e,f)) (aO (b.length<=1099511627776/\e.length<=1099511627776) (some [D.agg [sc (bool a),ints u64 b,sc (int i64 c),sc (bool d),ints u64 e,sc (int i64 f)],D.s (sc (int i64 0))])):=eJ aX
def sp(x y:gE):Prop×List D:=(aQ x/\aQ y/\eF (dv x) (dv y)<=0,[.agg [.sc (.bool x.1),.ints .u64 x.2.1,.sc (.int .i64 x.2.2),.sc (.bool y.1),.ints .u64 y.2.1,.sc (.int .i64 y.2.2)],.s (.sc (.int .i64 0))])
theorem spec:gT E f154 aE iX iX sp:=by
 rintro x y ⟨h1,h2,h3⟩;have l1:=h1.len;have l2:=h2.len;exact(start x.1 x.2.1 x.2.2 y.1 y.2.1 y.2.2).trans ((gP ⟨h1,h2,h3⟩).trans (gP ⟨by omega,by omega⟩))
def aJ:dK:=orc2 iX iX sp
theorem ok:OK 154 aJ:=(eZ E aE (aA uU.ok (aA aAR.ok aD)) func154).mT rfl spec
end aNL
namespace Cz
def E:=mE [(154,aNL.aJ)] 9 [6] [] []
def aE:=bd f113
theorem aX:Nk E aE:=nk
theorem start a b c:aH E f113 aE [D.agg [sc (bool a),ints u64 b,sc (int i64 c)]]=aO (aQ (a,b,c)/\aQ (a,b,c)/\eF (dv (a,b,c)) (dv (a,b,c))<=0) (some [D.agg [sc (bool a),ints u64 b,sc (int i64 c),sc (bool a),ints u64 b,sc (int i64 c)],D.s (sc (int i64 0))]):=eJ aX
def sp(x:gE):Prop×List D:=(aQ x,[.agg [.sc (.bool x.1),.ints .u64 x.2.1,.sc (.int .i64 x.2.2),.sc (.bool x.1),.ints .u64 x.2.1,.sc (.int .i64 x.2.2)],.s (.sc (.int .i64 0))])
theorem spec:jE E f113 aE iX sp:=by
 intro x h;exact(start x.1 x.2.1 x.2.2).trans (gP ⟨h,h,Py _⟩)
def aJ:dK:=orc1 iX sp
theorem ok:OK 113 aJ:=(eZ E aE (aA aNL.ok aD) func113).pU rfl spec
end Cz
namespace aNY
def E:=mE [(51,aGM.aJ),(50,iY.aJ)] 12 [] [] []
def aE:=bd f14
theorem aX:Nk E aE:=nk
theorem start a:aH E f14 aE [D.s (sc (int i64 a))]=letI B:=(isNeg a,M6.dg a.natAbs);letI A:=bif gY (wv B) 0 then aN (wv B) 0 else((0:Int),(0:Int));aO ((-9223372036854775808:Int)<=a/\a<9223372036854775808) (aO (gL B/\(-9223372036854775808:Int)<=(0:Int)/\(0:Int)<(9223372036854775808:Int)) (some [D.agg [sc (bool (isNeg A.fst)),ints u64 (M6.dg A.fst.natAbs),sc (int i64 A.snd)]])):=eJ aX
def sp(n:Int):Prop×List D:=(-9223372036854775808<=n/\n<9223372036854775808,[dD (aN n 0)])
theorem aQD{n:Int}(h:bl n.natAbs<=524288):gY n 0=true:=by
 unfold gY
 by_cases hz:n=0
 ·rw[decide_eq_true hz,cAW]
 ·have:=Dj (n:=n.natAbs) (by omega);rw[decide_eq_true (show(-1048576<=0+(tz n.natAbs:Int)) by omega),decide_eq_true (show(0+(tz n.natAbs:Int)<=1048576) by omega),bYQ,cBQ]
theorem spec:jE E f14 aE (pN .i64) sp:=by
 rintro n ⟨h1,h2⟩;have hb:bl n.natAbs<=64:=cZ.2 (by omega);refine(start n).trans ?_;rw[gP ⟨h1,h2⟩,gP ⟨fT (by omega),by omega,by omega⟩,nA,aQD (by omega)];rfl
def aJ:dK:=orc1 (pN .i64) sp
theorem ok:OK 14 aJ:=(eZ E aE (aA aGM.ok (aA iY.ok aD)) func14).pU rfl spec
end aNY
namespace Mq
def E:=mE [(113,Cz.aJ),(14,aNY.aJ)] 12 [] [] []
def aE:=bd f202
theorem aX:Nk E aE:=nk
theorem start a:aH E f202 aE [D.s (sc (int i64 a))]=letI A:=aN a 0;letI C:=M6.dg A.fst.natAbs;letI B:=bool (isNeg A.fst);aO ((-9223372036854775808:Int)<=a/\a<9223372036854775808) (aO (aQ (isNeg A.fst,M6.dg A.fst.natAbs,A.snd)) (some [D.agg [sc B,ints u64 C,sc (int i64 A.snd),sc B,ints u64 C,sc (int i64 A.snd)]])):=eJ aX
def sp(n:Int):Prop×List D:=(-1000000<=n/\n<=1000000,[uX (aN n 0) (aN n 0)])
theorem spec:jE E f202 aE (pN .i64) sp:=by
 rintro n ⟨h1,h2⟩;have hb:bl n.natAbs<=20:=cZ.2 (by have:(2:Nat)^20=1048576:=rfl;omega);exact(start n).trans ((gP ⟨by omega,by omega⟩).trans (gP (dG (gM (gQ (by decide) (by omega)) (by omega)))))
def aJ:dK:=orc1 (pN .i64) sp
theorem ok:OK 202 aJ:=(eZ E aE (aA Cz.ok (aA aNY.ok aD)) func202).pU rfl spec
end Mq
namespace Ar
def E:=mE [(45,lO.aJ),(46,mB.aJ),(234,aNW.aJ)] 13 [12] [] []
def aE:=bd f203
theorem aX:Nk E aE:=nk
theorem start a b c:aH E f203 aE [D.agg [sc (bool a),ints u64 b,sc (int i64 c)]]=aO (aQ (a,b,c)) (aO True (aB ((b.length:Int)==(0:Int)) (some [D.s (sc (int i64 0)),D.s (sc (int i64 4))]) (aO (aQ (a,b,c)) (some [D.s (sc (int i64 (c+(↑(bl (M6.val b)):Int)-(1:Int)))),D.s (sc (int i64 0))])))):=eJ aX
def sp(x:gE):Prop×List D:=(aQ x,[.s (.sc (.int .i64 (if(dv x).1=0 then 0 else x.2.2+(bl (M6.val x.2.1):Nat)-1))),.s (.sc (.int .i64 (if(dv x).1=0 then 4 else 0)))])
theorem spec:jE E f203 aE iX sp:=by
 intro x h;have h:aQ x:=h;refine(start x.1 x.2.1 x.2.2).trans ?_;have hz:=M6.dZ h.Hv;have ha:=iG (x.1,x.2.1)
 try dsimp only at ha
 have hd:(dv x).1=wv (x.1,x.2.1):=rfl;unfold sp
 try dsimp only
 rw[gP h,gP trivial]
 by_cases h0:x.2.1.length=0
 ·have:(dv x).1=0:=by rw[hd];have:=hz.1 h0;omega
  rw[cO,if_pos this,if_pos this]
 ·have:(dv x).1≠0:=by rw[hd];have:=fun hv=>h0 (hz.2 hv);omega
  rw[bN,if_neg this,if_neg this,gP h]
def aJ:dK:=orc1 iX sp
theorem ok:OK 203 aJ:=(eZ E aE (aA lO.ok (aA mB.ok (aA aNW.ok aD))) func203).pU rfl spec
end Ar
end W
namespace W.Arctan
def rounds(k:Nat):Nat->Nat->Nat->Nat->Nat->Nat->Nat×Nat
 |0,_,p,m,_,n=>(p-m,n)
 |f+1,t,p,m,i,n=>if t=0 then(p-m,n)else if i%4=1 then rounds k f (t/k/k) (p+t/i) m (i+2) (n+1)else rounds k f (t/k/k) p (m+t/i) (i+2) (n+1)
theorem aEO{k Q:Nat}:∀(f t p m i n:Nat),t<2^Q->p<2^(Q+n+1)->(rounds k f t p m i n).1<2^(Q+n+f+1)/\(rounds k f t p m i n).2<=n+f:=by
 intro f
 induction f with
 |zero =>
  intro t p m i n ht hp;exact⟨cBY (cCH _ _) hp,by simp[rounds]⟩
 |succ f ih =>
  intro t p m i n ht hp;have aKS:2^(Q+n+1)<=2^(Q+n+(f+1)+1):=gO;have bBI:2^(Q+(n+1)+1)=2*2^(Q+n+1):=by rw[show Q+(n+1)+1=(Q+n+1)+1 from by omega,cAN];omega
  have hd:t/i<2^(Q+n+1):=cBY (cFV _ _) (bWL ht (gO));have hk:t/k/k<2^Q:=cBY (cFV _ _) (cBY (cFV _ _) ht);unfold rounds;split
  ·refine⟨bWL (cBY (cCH _ _) hp) aKS,by simp⟩
  ·split
   ·have:=ih (t/k/k) (p+t/i) m (i+2) (n+1) hk (by rw[bBI];omega);rw[show Q+(n+1)+f+1=Q+n+(f+1)+1 from by omega]at this;exact⟨this.1,by omega⟩
   ·have:=ih (t/k/k) p (m+t/i) (i+2) (n+1) hk (by rw[bBI];omega);rw[show Q+(n+1)+f+1=Q+n+(f+1)+1 from by omega]at this;exact⟨this.1,by omega⟩
def atan(k q:Nat):Nat×Nat:=rounds k (q+2) (2^q/k) 0 0 1 0
theorem En(k q:Nat):(atan k q).1<2^(2*q+4)/\(atan k q).2<=q+2:=by
 have hb:2^q/k<2^(q+1):=cBY (cFV _ _) (cCW (by omega) (by omega));have:=aEO (k:=k) (Q:=q+1) (q+2) (2^q/k) 0 0 1 0 hb (cX);rw[show q+1+0+(q+2)+1=2*q+4 from by omega]at this;exact⟨this.1,by have:=this.2;unfold atan;omega⟩
end W.Arctan
namespace W
open Go AI M
namespace aNV
def E:=mE [(194,nG.aJ)] 32 [12,20,27] [] []
def aE:=bd f251
theorem aX:Nk E aE:=nk
theorem start a b:aH E f251 aE [D.s (ints u64 a),D.s (sc (int u64 b))]=letI A:=M6.dg (M6.val a/b.toNat);aB (decide (b<4294967296)) (aO (M6.cR a/\a.length<=8192/\0<u64.wrap (b*b)/\u64.wrap (b*b)<18446744073709551616) (some [D.s (ints u64 (M6.dg (M6.val a/(u64.wrap (b*b)).toNat)))])) (aO (M6.cR a/\a.length<=8192/\0<b/\b<18446744073709551616) (aO (M6.cR A/\A.length<=8192/\0<b/\b<18446744073709551616) (some [D.s (ints u64 (M6.dg (M6.val A/b.toNat)))]))):=eJ aX
def sp(a:List Int)(b:Int):Prop×List D:=(M6.cR a/\a.length<=8192/\2<=b/\b<4294967296,[.s (.ints .u64 (M6.dg (M6.val a/b.toNat/b.toNat)))])
theorem spec:gT E f251 aE (pI .u64) (pN .u64) sp:=by
 rintro a b ⟨hn,hl,h0,h1⟩;obtain⟨k,rfl⟩:=cAS (show 0<=b by omega);have hk:k*k<4294967296*4294967296:=Nat.mul_lt_mul_of_lt_of_le (by omega) (by omega) (by omega);have bSG:0<k*k:=Nat.mul_pos (by omega) (by omega);have e:u64.wrap ((k:Int)*(k:Int))=((k*k:Nat):Int):=by
  rw[<-cBP];exact wrap_u64
 refine(start a k).trans ?_;rw[aP h1,e,bZL,gP ⟨hn,hl,by omega,by omega⟩];unfold sp;rw[bZL,cCA]
def aJ:dK:=orc2 (pI .u64) (pN .u64) sp
theorem ok:OK 251 aJ:=(eZ E aE (aA nG.ok aD) func251).mT rfl spec
end aNV
namespace dW
def E:=mE [(98,kN.aJ),(95,oA.aJ),(194,nG.aJ),(100,uF.aJ),(102,uE.aJ),(251,aNV.aJ)] 72 [67] [(6,[0,6,8,9,10,11])] []
def aE:=bd f230
theorem aX:Nk E aE:=nk
def L6 a b (c:Nat) (d:List Int) (e:Nat) (f:List Int) g h:=qV E f230 aE 6 [dC a,iM b,Ck 2 c 22 d,Ck 3 e 22 f,dC g,dC h]
def bLM a b c (d:Nat) (e:List Int) f g:=qV E f230 aE 6 [dC a,iM b,iM c,Ck 3 d 22 e,dC f,dC g]
def bVK a b (c:Nat) (d:List Int) e f g:=qV E f230 aE 6 [dC a,iM b,Ck 2 c 22 d,iM e,dC f,dC g]
def bEG a b c d e f:=qV E f230 aE 6 [dC a,iM b,iM c,iM d,dC e,dC f]
theorem start a b:aH E f230 aE [D.s (sc (int u64 a)),D.s (sc (int i64 b))]=letI B:=M6.dg 1;letI A:=bif kN.jL (M6.val B) b.toNat then M6.dg (M6.val B*(2:Nat)^b.toNat)else [];aO ((0:Int)<=(1:Int)/\(1:Int)<(18446744073709551616:Int)) (aO (M6.cR B/\B.length<=8192/\0<=b/\b<4611686018427387904) (aO (M6.cR A/\A.length<=8192/\0<a/\a<18446744073709551616) (dW.L6 a (M6.dg (M6.val A/a.toNat)) 0 [] 0 [] 2 1))):=eJ aX
theorem aEG a b c d e f g h:L6 a b c d e f g h=letI C:=M6.dg (M6.val b/a.toNat/a.toNat);letI B:=M6.cR b/\b.length<=8192/\2<=a/\a<4294967296;letI A:=M6.dg (M6.val b/h.toNat);letI G:=M6.val f+M6.val A;letI F:=M6.val d+M6.val A;aB (decide (0<(b.length:Int))) (aO (M6.cR b/\b.length<=8192/\0<h/\h<18446744073709551616) (aB (h.tmod 4==(1:Int)) (aO (M6.cR d/\M6.cR A/\d.length<=8192/\A.length<=8192) (aO B (dW.bLM a C (bif cP.mM F then M6.dg F else []) e f (u64.wrap (g+3)) (u64.wrap (h+2))))) (aO (M6.cR f/\M6.cR A/\f.length<=8192/\A.length<=8192) (aO B (dW.bVK a C c d (bif cP.mM G then M6.dg G else []) (u64.wrap (g+3)) (u64.wrap (h+2))))))) (aO (M6.cR d/\M6.cR f/\d.length<=8192/\f.length<=8192) (some [D.s (ints u64 (M6.dg (M6.val d-M6.val f))),D.s (sc (int u64 g))])):=lJ aX
theorem aXX a b c d e f g:bLM a b c d e f g=letI C:=M6.dg (M6.val b/a.toNat/a.toNat);letI B:=M6.cR b/\b.length<=8192/\2<=a/\a<4294967296;letI A:=M6.dg (M6.val b/g.toNat);letI G:=M6.val e+M6.val A;letI F:=M6.val c+M6.val A;aB (decide (0<(b.length:Int))) (aO (M6.cR b/\b.length<=8192/\0<g/\g<18446744073709551616) (aB (g.tmod 4==(1:Int)) (aO (M6.cR c/\M6.cR A/\c.length<=8192/\A.length<=8192) (aO B (dW.bLM a C (bif cP.mM F then M6.dg F else []) d e (u64.wrap (f+3)) (u64.wrap (g+2))))) (aO (M6.cR e/\M6.cR A/\e.length<=8192/\A.length<=8192) (aO B (dW.bEG a C c (bif cP.mM G then M6.dg G else []) (u64.wrap (f+3)) (u64.wrap (g+2))))))) (aO (M6.cR c/\M6.cR e/\c.length<=8192/\e.length<=8192) (some [D.s (ints u64 (M6.dg (M6.val c-M6.val e))),D.s (sc (int u64 f))])):=lJ aX
theorem aNR a b c d e f:bEG a b c d e f=letI C:=M6.dg (M6.val b/a.toNat/a.toNat);letI B:=M6.cR b/\b.length<=8192/\2<=a/\a<4294967296;letI A:=M6.dg (M6.val b/f.toNat);letI G:=M6.val d+M6.val A;letI F:=M6.val c+M6.val A;aB (decide (0<(b.length:Int))) (aO (M6.cR b/\b.length<=8192/\0<f/\f<18446744073709551616) (aB (f.tmod 4==(1:Int)) (aO (M6.cR c/\M6.cR A/\c.length<=8192/\A.length<=8192) (aO B (dW.bEG a C (bif cP.mM F then M6.dg F else []) d (u64.wrap (e+3)) (u64.wrap (f+2))))) (aO (M6.cR d/\M6.cR A/\d.length<=8192/\A.length<=8192) (aO B (dW.bEG a C c (bif cP.mM G then M6.dg G else []) (u64.wrap (e+3)) (u64.wrap (f+2))))))) (aO (M6.cR c/\M6.cR d/\c.length<=8192/\d.length<=8192) (some [D.s (ints u64 (M6.dg (M6.val c-M6.val d))),D.s (sc (int u64 e))])):=lJ aX
open Arctan in
theorem lF {n k:Nat} (h:n<2^k) (hk:k<=524288):(M6.dg n).length<=8192:=fL (k:=8192) (bWK (cZ.2 h) (by omega))
theorem aSX{n k:Nat}(h:n<2^k)(hk:k<=524288):cP.mM n=true:=decide_eq_true (lF h hk)
theorem Ld{k Q:Nat}(hk:2<=k)(Xw:k<4294967296)(hQ:Q<=200000):∀(f t p m n:Nat),t<2^Q->t<4^f->f+n<=250000->p<2^(Q+n+1)->m<2^(Q+n+1) ->
  bEG k (M6.dg t) (M6.dg p) (M6.dg m) ((2+3*n:Nat):Int) ((2*n+1:Nat):Int)=some [D.s (.ints .u64 (M6.dg (Arctan.rounds k f t p m (2*n+1) n).1)),D.s (.sc (.int .u64 ((2+3*(Arctan.rounds k f t p m (2*n+1) n).2:Nat):Int)))]:=by
 intro f
 induction f with
 |zero =>
  intro t p m n bFU ht hf hp hm;have:t=0:=by simpa using ht
  subst this;rw[aNR,M6.cK,aL (by simp),gP ⟨M6.aY _,M6.aY _,lF hp (by omega),lF hm (by omega)⟩,M6.bQ,M6.bQ];rfl
 |succ f ih =>
  intro t p m n bFU ht hf hp hm;rw[aNR];unfold Arctan.rounds
  by_cases hz:t=0
  ·subst hz;rw[M6.cK,aL (by simp),gP ⟨M6.aY _,M6.aY _,lF hp (by omega),lF hm (by omega)⟩,M6.bQ,M6.bQ,if_pos rfl]
  ·have aYZ:(M6.dg t).length≠0:=fun h=>hz (M6.iQ.1 h)
   have et:(((2*n+1:Nat):Int)).toNat=2*n+1:=bZL _;have ek:((k:Int)).toNat=k:=bZL _;have em:(((2*n+1:Nat):Int)).tmod 4=(((2*n+1)%4:Nat):Int):=by rw[cEA (by omega)];omega
   have w1:u64.wrap (((2+3*n:Nat):Int)+3)=((2+3*(n+1):Nat):Int):=by rw[wrap_u64];omega
   have w2:u64.wrap (((2*n+1:Nat):Int)+2)=((2*(n+1)+1:Nat):Int):=by rw[wrap_u64];omega
   have bEZ:t/k/k<2^Q:=cBY (cFV _ _) (cBY (cFV _ _) bFU);have bMU:t/k/k<4^f:=by
    rw[cCA];apply cBG;have:4<=k*k:=cFZ hk hk;rw[cAN 4 f,cAM (4^f)]at ht;exact bWL ht (bXD _ this)
   have aKS:2^(Q+(n+1)+1)=2*2^(Q+n+1):=by rw[show Q+(n+1)+1=(Q+n+1)+1 from by omega,cAN];omega
   have hd:t/(2*n+1)<2^(Q+n+1):=cBY (cFV _ _) (bWL bFU (gO));have lt:=lF bFU (by omega);have ld:=lF hd (by omega);rw[aP];simp only[et,ek,em,M6.bQ,w1,w2];rw[gP ⟨M6.aY _,lt,by omega,by omega⟩,if_neg hz,show 2*n+1+2=2*(n+1)+1 by omega]
   by_cases hc:(2*n+1)%4=1
   ·have hs:p+t/(2*n+1)<2^(Q+(n+1)+1):=by rw[aKS];omega
    rw[cO,gP ⟨M6.aY _,M6.aY _,lF hp (by omega),ld⟩,gP ⟨M6.aY _,lt,by omega,by omega⟩,if_pos hc,aSX hs (by omega),cond_true];exact ih _ _ _ (n+1) bEZ bMU (by omega) hs (by rw[aKS];omega)
   ·have hs:m+t/(2*n+1)<2^(Q+(n+1)+1):=by rw[aKS];omega
    rw[bN,gP ⟨M6.aY _,M6.aY _,lF hm (by omega),ld⟩,gP ⟨M6.aY _,lt,by omega,by omega⟩,if_neg hc,aSX hs (by omega),cond_true];exact ih _ _ _ (n+1) bEZ bMU (by omega) (by rw[aKS];omega) hs
def sp(k q:Int):Prop×List D:=((2<=k/\k<4294967296)/\0<=q/\q<=150000,[.s (.ints .u64 (M6.dg (Arctan.atan k.toNat q.toNat).1)),.s (.sc (.int .u64 ((2+3*(Arctan.atan k.toNat q.toNat).2:Nat):Int)))])
theorem spec:gT E f230 aE (pN .u64) (pN .i64) sp:=by
 rintro k q ⟨⟨h1,h2⟩,h3,h4⟩;refine(start k q).trans ?_;unfold sp;obtain⟨k,rfl⟩:=cAS (show 0<=k by omega);obtain⟨q,rfl⟩:=cAS h3;have Nm:2^q<2^(q+1):=cCW (by omega) (by omega);have hb:2^q/k<2^(q+1):=cBY (cFV _ _) Nm;have so:kN.jL 1 q=true:=by
  unfold kN.jL;rw[show bl 1=1 from rfl,decide_eq_true (show 1+q<=524288 by omega),cBQ]
 have l1:(M6.dg 1).length<=8192:=lF (k:=1) (by decide) (by decide);have nn:M6.cR ([]:List Int):=by rw[<-M6.cK];exact M6.aY 0
 have v0:M6.val ([]:List Int)=0:=rfl;simp only[M6.bQ,bZL,so,cond_true,bZS];rw[gP ⟨by decide,by decide⟩,gP ⟨M6.aY _,l1,by omega,by omega⟩,gP ⟨M6.aY _,lF Nm (by omega),by omega,by omega⟩];unfold Arctan.atan;have bSX:2^q/k<4^(q+2):=bWL hb (by rw[show(4:Nat)=2^2 from rfl,<-Nat.pow_mul];exact gO);generalize 2^q/k=t at *;have e4:4^(q+2)=16*4^q:=by rw[cAQ];omega
 rw[e4]at bSX;have kk:4<=k*k:=cFZ (show 2<=k by omega) (show 2<=k by omega);have step:∀a X:Nat,a<4*X->a/k/k<X:=fun a X ha=>by
  rw[cCA];exact cBG (bWL ha (bXD _ kk))
 have aMI:∀a:Nat,a/k/k<=a:=fun a=>bWK (cFV _ _) (cFV _ _)
 have ht:=lF hb (by omega);rw[aEG,show q+2=(q+1)+1 by omega];unfold Arctan.rounds
 by_cases z:t=0
 ·subst z;rw[M6.cK,aL (by simp),gP ⟨nn,nn,by decide,by decide⟩,if_pos rfl,v0];rfl
 ·have aYZ:(M6.dg t).length≠0:=fun h=>z (M6.iQ.1 h)
  rw[aP,if_neg z,if_pos (by decide)];simp only[M6.bQ,v0,bVQ,Int.toNat_one,Nat.div_one,bZL];have tY:=cBY (aMI t) hb;have bNM:=step t (4*4^q) (by omega);have l2:=lF tY (by omega);rw[gP ⟨M6.aY _,ht,by decide,by decide⟩,cO (by decide),gP ⟨nn,M6.aY _,by decide,ht⟩,gP ⟨M6.aY _,ht,by omega,by omega⟩,aSX hb (by omega),cond_true,aXX,show u64.wrap (2+3)=5 from wrap_u64 (by decide) (by decide),show u64.wrap (1+2)=3 from wrap_u64 (by decide) (by decide)];unfold Arctan.rounds;generalize t/k/k=u at *
  by_cases z1:u=0
  ·subst z1;rw[M6.cK,aL (by simp),gP ⟨M6.aY _,nn,ht,by decide⟩,if_pos rfl,v0,M6.bQ];rfl
  ·have Hl:(M6.dg u).length≠0:=fun h=>z1 (M6.iQ.1 h)
   have bMS:u/3<2^(q+1):=cBY (cFV _ _) tY;rw[aP,if_neg z1,if_neg (by decide)];simp only[M6.bQ,v0,bVQ,bZL,show((3:Int)).toNat=3 from rfl];rw[gP ⟨M6.aY _,l2,by decide,by decide⟩,bN (by decide),gP ⟨nn,M6.aY _,by decide,lF bMS (by omega)⟩,gP ⟨M6.aY _,l2,by omega,by omega⟩,aSX bMS (by omega),cond_true,show u64.wrap (5+3)=8 from wrap_u64 (by decide) (by decide),show u64.wrap (3+2)=5 from wrap_u64 (by decide) (by decide)];have up:2^(q+1)<=2^(q+1+2+1):=gO;exact Ld (k:=k) (Q:=q+1) (by omega) (by omega) (by omega) q (u/k/k) t (u/3) 2 (cBY (aMI u) tY) (step u (4^q) bNM) (by omega) (by omega) (by omega)
def aJ:dK:=orc2 (pN .u64) (pN .i64) sp
theorem ok:OK 230 aJ:=(eZ E aE (aA kN.ok (aA oA.ok (aA nG.ok (aA uF.ok (aA uE.ok (aA aNV.ok aD)))))) func230).mT rfl spec
end dW
namespace THalvings
def E:=mE [] 13 [] [(2,[0,3])] []
def aE:=bd f235
theorem aX:Nk E aE:=nk
def L2 a b:=qV E f235 aE 2 [bP a,bP b]
theorem start a:aH E f235 aE [D.s (sc (int i64 a))]=THalvings.L2 a 4:=eJ aX
theorem lN a b:L2 a b=aB (decide (i64.wrap (i64.wrap ((4:Int)*b)*b)<a)) (THalvings.L2 a (i64.wrap (b+1))) (some [D.s (sc (int i64 b))]):=lJ aX
def hlv(w:Int):Nat->Nat->Nat
 |0,h=>h
 |f+1,h=>if 4*(h:Int)*h<w then hlv w f (h+1)else h
def sp(w:Int):Prop×List D:=(w<=150000,[.s (.sc (.int .i64 (hlv w 200 4:Nat)))])
theorem L{w:Int}(hw:w<=150000):∀f h:Nat,h+f=204->L2 w h=some [.s (.sc (.int .i64 (hlv w f h:Nat)))]:=by
 intro f
 induction f with
 |zero =>
  intro h hh;obtain rfl:h=204:=by omega
  have e:i64.wrap (i64.wrap (4*((204:Nat):Int))*((204:Nat):Int))=166464:=by decide +kernel
  rw[lN,e,aL];rfl
 |succ f ih =>
  intro h hh;have hb:(h:Int)*h<=41616:=Int.ofNat_le.2 (cFZ (show h<=204 by omega) (show h<=204 by omega));have hb0:(0:Int)<=(h:Int)*h:=cHN (by omega) (by omega);have ea:4*(h:Int)*h=4*((h:Int)*h):=Int.mul_assoc _ _ _;have e:i64.wrap (i64.wrap (4*(h:Int))*(h:Int))=4*(h:Int)*h:=by rw[wrap_i64 (n:=4*(h:Int)),wrap_i64]
  have e2:i64.wrap ((h:Int)+1)=((h+1:Nat):Int):=by rw[wrap_i64];omega
  rw[lN,e,e2];unfold hlv
  by_cases c:4*(h:Int)*h<w
  ·rw[aP c,if_pos c];exact ih (h+1) (by omega)
  ·rw[aL c,if_neg c]
theorem spec:jE E f235 aE (pN .i64) sp:=fun w h=>(start w).trans (L h 200 4 rfl)
def aJ:dK:=orc1 (pN .i64) sp
theorem ok:OK 235 aJ:=(eZ E aE aD func235).pU rfl spec
end THalvings
namespace uT
def E:=mE [(48,Ao.aJ),(192,iW.aJ)] 36 [] [] []
def aE:=bd f236
theorem aX:Nk E aE:=nk
theorem start a c d b:aH E f236 aE [D.agg [sc (bool a),ints u64 c,sc (int i64 d)],D.s (sc (int i64 b))]=letI A:=(false,c);aB (decide (0<=i64.wrap (d+b))) (aO (gL A/\0<=i64.wrap (d+b)/\i64.wrap (d+b)<4611686018427387904) (some [D.s (ints u64 (M6.dg (bif fit (M6.val c*(2:Nat)^(i64.wrap (d+b)).toNat)then wv A*(↑((2:Nat)^(i64.wrap (d+b)).toNat):Int)else(0:Int)).natAbs))])) (aO (gL A/\0<=i64.wrap ((0:Int)-i64.wrap (d+b))/\i64.wrap ((0:Int)-i64.wrap (d+b))<4611686018427387904) (some [D.s (ints u64 (M6.dg (wv A/(↑((2:Nat)^(i64.wrap ((0:Int)-i64.wrap (d+b))).toNat):Int)).natAbs))])):=eJ aX
def aOK(p:Int×Int)(n:Int):Nat:=if 0<=p.2+n then p.1.natAbs*2^(p.2+n).toNat else p.1.natAbs/2^(-(p.2+n)).toNat
def sp(x:gE)(n:Int):Prop×List D:=(aQ x/\-1099511627776<=n/\n<=1099511627776/\(0<=x.2.2+n->fit ((dv x).1.natAbs*2^(x.2.2+n).toNat)=true),[.s (.ints .u64 (M6.dg (aOK (dv x) n)))])
theorem spec:gT E f236 aE iX (pN .i64) sp:=by
 rintro x n ⟨hx,h1,h2,hf⟩;have he:=hx.2.1;refine(start x.1 x.2.1 x.2.2 n).trans ?_;have w1:i64.wrap (x.2.2+n)=x.2.2+n:=wrap_i64;have ha:(dv x).1.natAbs=M6.val x.2.1:=iG (x.1,x.2.1);have ok:gL (false,x.2.1):=⟨hx.1.1,fun hf=>(by cases hf),hx.1.len⟩;have vx:wv (false,x.2.1)=(M6.val x.2.1:Int):=rfl;rw[w1,vx];unfold sp aOK;dsimp only
 by_cases c:0<=x.2.2+n
 ·have aTN:=hf c;rw[ha]at aTN ⊢;rw[aP c,gP ⟨ok,c,by omega⟩,aTN,cond_true,if_pos (show 0<=(dv x).2+n from c),<-cBP,cBF];rfl
 ·have w2:i64.wrap (0-(x.2.2+n))=-(x.2.2+n):=by rw[wrap_i64];omega
  rw[ha,w2,aL c,gP ⟨ok,by omega,by omega⟩,if_neg (show ¬0<=(dv x).2+n from c),<-Int.natCast_ediv,cBF];rfl
def aJ:dK:=orc2 iX (pN .i64) sp
theorem ok:OK 236 aJ:=(eZ E aE (aA Ao.ok (aA iW.ok aD)) func236).mT rfl spec
end uT
namespace Mp
def E:=mE [(233,aNM.aJ),(104,Ez.aJ)] 22 [12,18] [] []
def aE:=bd f238
theorem aX:Nk E aE:=nk
theorem start a b c:aH E f238 aE [D.s (ints u64 a),D.s (ints u64 b),D.s (sc (int i64 c))]=letI B:=M6.val a*M6.val b;letI A:=bif cP.mM B then M6.dg B else [];aO (M6.cR a/\M6.cR b/\a.length<=8192/\b.length<=8192) (aO (M6.cR A/\A.length<=8192/\0<=c/\c<4611686018427387904) (some [D.s (ints u64 (M6.dg (M6.val A/(2:Nat)^c.toNat)))])):=eJ aX
def sp(a b:List Int)(n:Int):Prop×List D:=(M6.cR a/\M6.cR b/\a.length<=4096/\b.length<=4096/\0<=n/\n<4611686018427387904,[.s (.ints .u64 (M6.dg (M6.val a*M6.val b/2^n.toNat)))])
theorem spec:oK E f238 aE (pI .u64) (pI .u64) (pN .i64) sp:=by
 rintro a b n ⟨h1,h2,l1,l2,n1,n2⟩;have hl:(M6.dg (M6.val a*M6.val b)).length<=8192:=by
  refine M6.eB (k:=8192) ?_;have va:=bWL (M6.dT h1.kW) (bYP (by decide) l1);have vb:=bWL (M6.dT h2.kW) (bYP (by decide) l2);rw[show(8192:Nat)=4096+4096 from rfl,cAQ];generalize 18446744073709551616^4096=Q at *;exact cDP va vb
 have ok:cP.mM (M6.val a*M6.val b)=true:=decide_eq_true hl;refine(start a b n).trans ?_;rw[gP ⟨h1,h2,by omega,by omega⟩,ok];simp only[cond_true,M6.bQ];exact gP ⟨M6.aY _,hl,n1,n2⟩
def aJ:dK:=orc3 (pI .u64) (pI .u64) (pN .i64) sp
theorem ok:OK 238 aJ:=(eZ E aE (aA aNM.ok (aA Ez.ok aD)) func238).yK rfl spec
end Mp
namespace TSums
def E:Env:={ ({ base with C:=callsOf [(98,kN.aJ),(95,oA.aJ),(100,uF.aJ),(238,Mp.aJ),(194,nG.aJ),(102,uE.aJ)],wide:=some .u64 })with nt:=63,own:=[50,58],keep:=fun k=>(tlook [(4,[0,1,6,7,9])] k).getD [],cut:=tlook [] }
def aE:=bd f237
theorem aX:Nk E aE:=nk
def L4 a b c d e f g h:=qV E f237 aE 4 [iM a,bP b,dM 2 298 [fU c,fU d,fU e,fU f],iM g,dC h]
theorem start a b:aH E f237 aE [D.s (ints u64 a),D.s (sc (int i64 b))]=letI A:=M6.dg 1;aO ((0:Int)<=(1:Int)/\(1:Int)<(18446744073709551616:Int)) (aO (M6.cR A/\A.length<=8192/\0<=b/\b<4611686018427387904) (aC (bif kN.jL (M6.val A) b.toNat then M6.dg (M6.val A*(2:Nat)^b.toNat)else []) fun c=>TSums.L4 a b [] [] [] [] c 0)):=eJ aX
theorem rZ a b c d e f g h:L4 a b c d e f g h=letI P:=M6.val f+M6.val g;letI O:=M6.val e+M6.val g;letI N:=M6.val d+M6.val g;letI K:=M6.val c+M6.val g;letI I:=decide (h.tmod 4=(3:Int));letI H:=decide (h.tmod 4=(2:Int));letI G:=decide (h.tmod 4=(1:Int));letI F:=decide (h.tmod 4=(0:Int));letI C:=u64.wrap (h+1);letI B:=M6.dg (M6.val g*M6.val a/(2:Nat)^b.toNat);letI A:=M6.cR g/\M6.cR a/\g.length<=4096/\a.length<=4096/\0<=b/\b<4611686018427387904;aB (decide (0<(g.length:Int))) (aB F (aO (M6.cR c/\M6.cR g/\c.length<=8192/\g.length<=8192) (aC (bif cP.mM K then M6.dg K else []) fun i=>aB F (aO A (aC B fun j=>aO (M6.cR j/\j.length<=8192/\0<u64.wrap (h+1)/\u64.wrap (h+1)<18446744073709551616) (aC (M6.dg (M6.val j/C.toNat)) fun k=>TSums.L4 a b i d e f k C))) (aB G (aO A (aC B fun l=>aO (M6.cR l/\l.length<=8192/\0<u64.wrap (h+1)/\u64.wrap (h+1)<18446744073709551616) (aC (M6.dg (M6.val l/C.toNat)) fun m=>TSums.L4 a b c i e f m C))) (aB H (aO A (aC B fun n=>aO (M6.cR n/\n.length<=8192/\0<u64.wrap (h+1)/\u64.wrap (h+1)<18446744073709551616) (aC (M6.dg (M6.val n/C.toNat)) fun o=>TSums.L4 a b c d i f o C))) (aB I (aO A (aC B fun p=>aO (M6.cR p/\p.length<=8192/\0<u64.wrap (h+1)/\u64.wrap (h+1)<18446744073709551616) (aC (M6.dg (M6.val p/C.toNat)) fun q=>TSums.L4 a b c d e i q C))) none))))) (aB G (aO (M6.cR d/\M6.cR g/\d.length<=8192/\g.length<=8192) (aC (bif cP.mM N then M6.dg N else []) fun r=>aB F (aO A (aC B fun s=>aO (M6.cR s/\s.length<=8192/\0<u64.wrap (h+1)/\u64.wrap (h+1)<18446744073709551616) (aC (M6.dg (M6.val s/C.toNat)) fun t=>TSums.L4 a b r d e f t C))) (aB G (aO A (aC B fun u=>aO (M6.cR u/\u.length<=8192/\0<u64.wrap (h+1)/\u64.wrap (h+1)<18446744073709551616) (aC (M6.dg (M6.val u/C.toNat)) fun v=>TSums.L4 a b c r e f v C))) (aB H (aO A (aC B fun w=>aO (M6.cR w/\w.length<=8192/\0<u64.wrap (h+1)/\u64.wrap (h+1)<18446744073709551616) (aC (M6.dg (M6.val w/C.toNat)) fun x=>TSums.L4 a b c d r f x C))) (aB I (aO A (aC B fun y=>aO (M6.cR y/\y.length<=8192/\0<u64.wrap (h+1)/\u64.wrap (h+1)<18446744073709551616) (aC (M6.dg (M6.val y/C.toNat)) fun z=>TSums.L4 a b c d e r z C))) none))))) (aB H (aO (M6.cR e/\M6.cR g/\e.length<=8192/\g.length<=8192) (aC (bif cP.mM O then M6.dg O else []) fun aa=>aB F (aO A (aC B fun ab=>aO (M6.cR ab/\ab.length<=8192/\0<u64.wrap (h+1)/\u64.wrap (h+1)<18446744073709551616) (aC (M6.dg (M6.val ab/C.toNat)) fun ac=>TSums.L4 a b aa d e f ac C))) (aB G (aO A (aC B fun ad=>aO (M6.cR ad/\ad.length<=8192/\0<u64.wrap (h+1)/\u64.wrap (h+1)<18446744073709551616) (aC (M6.dg (M6.val ad/C.toNat)) fun ae=>TSums.L4 a b c aa e f ae C))) (aB H (aO A (aC B fun af=>aO (M6.cR af/\af.length<=8192/\0<u64.wrap (h+1)/\u64.wrap (h+1)<18446744073709551616) (aC (M6.dg (M6.val af/C.toNat)) fun ag=>TSums.L4 a b c d aa f ag C))) (aB I (aO A (aC B fun ah=>aO (M6.cR ah/\ah.length<=8192/\0<u64.wrap (h+1)/\u64.wrap (h+1)<18446744073709551616) (aC (M6.dg (M6.val ah/C.toNat)) fun ai=>TSums.L4 a b c d e aa ai C))) none))))) (aB I (aO (M6.cR f/\M6.cR g/\f.length<=8192/\g.length<=8192) (aC (bif cP.mM P then M6.dg P else []) fun aj=>aB F (aO A (aC B fun ak=>aO (M6.cR ak/\ak.length<=8192/\0<u64.wrap (h+1)/\u64.wrap (h+1)<18446744073709551616) (aC (M6.dg (M6.val ak/C.toNat)) fun al=>TSums.L4 a b aj d e f al C))) (aB G (aO A (aC B fun am=>aO (M6.cR am/\am.length<=8192/\0<u64.wrap (h+1)/\u64.wrap (h+1)<18446744073709551616) (aC (M6.dg (M6.val am/C.toNat)) fun an=>TSums.L4 a b c aj e f an C))) (aB H (aO A (aC B fun ao=>aO (M6.cR ao/\ao.length<=8192/\0<u64.wrap (h+1)/\u64.wrap (h+1)<18446744073709551616) (aC (M6.dg (M6.val ao/C.toNat)) fun ap=>TSums.L4 a b c d aj f ap C))) (aB I (aO A (aC B fun aq=>aO (M6.cR aq/\aq.length<=8192/\0<u64.wrap (h+1)/\u64.wrap (h+1)<18446744073709551616) (aC (M6.dg (M6.val aq/C.toNat)) fun ar=>TSums.L4 a b c d e aj ar C))) none))))) none)))) (aO (M6.cR c/\M6.cR e/\c.length<=8192/\e.length<=8192) (aC (M6.dg (M6.val c-M6.val e)) fun au=>aO (M6.cR d/\M6.cR f/\d.length<=8192/\f.length<=8192) (aC (M6.dg (M6.val d-M6.val f)) fun av=>some [D.s (ints u64 av),D.s (ints u64 au)]))):=lJ aX
def tay(u W:Nat):Nat->Nat->Nat->Nat->Nat->Nat->Nat×Nat×Nat×Nat
 |0,_,a,b,c,d=>(a,b,c,d)
 |f+1,k,a,b,c,d=>if R.sq u W k=0 then(a,b,c,d)else
  if k%4=0 then tay u W f (k+1) (a+R.sq u W k) b c d else if k%4=1 then tay u W f (k+1) a (b+R.sq u W k) c d
  else if k%4=2 then tay u W f (k+1) a b (c+R.sq u W k) d else tay u W f (k+1) a b c (d+R.sq u W k)
theorem Jv{u W:Nat}(h:u<=W):∀k,R.sq u W k<=W
 |0=>bVO _
 |k+1=>bWK (R.Ju h k) (Jv h k)
theorem L{w:Nat}{a0:List Int}(hn:M6.cR a0)(hl:a0.length<=4096)(hu:M6.val a0<=2^w)(hw:w<=150000):∀(f k a b c d:Nat),k+f<=200000->R.sq (M6.val a0) (2^w) (k+f)=0 ->
  a<=k*2^w->b<=k*2^w->c<=k*2^w->d<=k*2^w ->
  L4 a0 w (M6.dg a) (M6.dg b) (M6.dg c) (M6.dg d) (M6.dg (R.sq (M6.val a0) (2^w) k)) k=some [.s (.ints .u64 (M6.dg ((tay (M6.val a0) (2^w) f k a b c d).2.1-(tay (M6.val a0) (2^w) f k a b c d).2.2.2))),.s (.ints .u64 (M6.dg ((tay (M6.val a0) (2^w) f k a b c d).1-(tay (M6.val a0) (2^w) f k a b c d).2.2.1)))]:=by
 intro f
 induction f with
 |zero =>
  intro k a b c d hk h0 ha hb hc hd;have pw:k*2^w<2^(w+18):=by
   rw[cAQ,cAM];exact cJQ (by omega) (bYO (by decide))
  rw[bWM]at h0;rw[rZ,h0,M6.cK,aL (by simp)];simp only[aG];rw[gP ⟨M6.aY _,M6.aY _,dW.lF (cBY ha pw) (by omega),dW.lF (cBY hc pw) (by omega)⟩,gP ⟨M6.aY _,M6.aY _,dW.lF (cBY hb pw) (by omega),dW.lF (cBY hd pw) (by omega)⟩];simp only[M6.bQ];rfl
 |succ f ih =>
  intro k a b c d hk h0 ha hb hc hd;have pw:∀j,j<=200000->j*2^w<2^(w+18):=fun j hj=>by
   rw[cAQ,cAM];exact cJQ (by omega) (bYO (by decide))
  have hs:(k+1)*2^w=k*2^w+2^w:=by rw[bWI,bZS]
  have ht:=Jv hu k;have lt:(M6.dg (R.sq (M6.val a0) (2^w) k)).length<=4096:=fL (k:=4096) (bWK (cZ.2 (cBY ht (cCW (by decide) (cJO w)))) (by omega));rw[rZ];unfold tay
  by_cases hz:R.sq (M6.val a0) (2^w) k=0
  ·rw[hz,M6.cK,aL (by simp),if_pos rfl];simp only[aG];rw[gP ⟨M6.aY _,M6.aY _,dW.lF (cBY ha (pw k (by omega))) (by omega),dW.lF (cBY hc (pw k (by omega))) (by omega)⟩,gP ⟨M6.aY _,M6.aY _,dW.lF (cBY hb (pw k (by omega))) (by omega),dW.lF (cBY hd (pw k (by omega))) (by omega)⟩];simp only[M6.bQ]
  ·have aYZ:(M6.dg (R.sq (M6.val a0) (2^w) k)).length≠0:=fun h=>hz (M6.iQ.1 h)
   have em:(k:Int).tmod 4=((k%4:Nat):Int):=by rw[cEA (by omega)];omega
   have w1:u64.wrap ((k:Int)+1)=((k+1:Nat):Int):=by rw[wrap_u64];omega
   have ew:(w:Int).toNat=w:=bZL _;have ek:(((k+1:Nat)):Int).toNat=k+1:=bZL _;have es:R.sq (M6.val a0) (2^w) k*M6.val a0/2^w/(k+1)=R.sq (M6.val a0) (2^w) (k+1):=rfl;have bQE:(M6.dg (R.sq (M6.val a0) (2^w) k*M6.val a0/2^w)).length<=8192:=by
    have:R.sq (M6.val a0) (2^w) k*M6.val a0/2^w<=R.sq (M6.val a0) (2^w) k:=Nat.div_le_of_le_mul (by rw[cAM (2^w)];exact bYC _ hu);exact dW.lF (cBY (bWK this ht) (cCW (by decide) (cJO w))) (by omega)
   rw[aP];simp only[aG,em,w1,ew,ek,M6.bQ,es];rw[if_neg hz];have aOF:k+1+f=k+(f+1):=by omega
   have Qy:∀x,x<=k*2^w->x+R.sq (M6.val a0) (2^w) k<=(k+1)*2^w/\cP.mM (x+R.sq (M6.val a0) (2^w) k)=true/\(M6.dg x).length<=8192:=fun x hx=>by
    have h1:x+R.sq (M6.val a0) (2^w) k<=(k+1)*2^w:=by omega
    exact⟨h1,dW.aSX (cBY h1 (pw (k+1) (by omega))) (by omega),dW.lF (cBY hx (pw k (by omega))) (by omega)⟩
   have up:∀x,x<=k*2^w->x<=(k+1)*2^w:=fun x hx=>by omega
   have g1:M6.cR (M6.dg (R.sq (M6.val a0) (2^w) k))/\M6.cR a0/\(M6.dg (R.sq (M6.val a0) (2^w) k)).length<=4096/\a0.length<=4096/\(0:Int)<=w/\(w:Int)<4611686018427387904:=⟨M6.aY _,hn,lt,hl,by omega,by omega⟩;have g2:M6.cR (M6.dg (R.sq (M6.val a0) (2^w) k*M6.val a0/2^w))/\(M6.dg (R.sq (M6.val a0) (2^w) k*M6.val a0/2^w)).length<=8192/\(0:Int)<((k+1:Nat):Int)/\((k+1:Nat):Int)<18446744073709551616:=⟨M6.aY _,bQE,by omega,by omega⟩;have h4:k%4<4:=bXW _ (by decide)
   by_cases c0:k%4=0
   ·obtain⟨x1,x2,x3⟩:=Qy a ha;rw[aP,gP ⟨M6.aY _,M6.aY _,x3,by omega⟩,aP,x2,cond_true,gP g1,gP g2,if_pos c0];exact ih (k+1) _ _ _ _ (by omega) (by rw[aOF];exact h0) x1 (up b hb) (up c hc) (up d hd)
   ·rw[aL,if_neg c0]
    by_cases c1:k%4=1
    ·obtain⟨x1,x2,x3⟩:=Qy b hb;rw[aP,gP ⟨M6.aY _,M6.aY _,x3,by omega⟩,aL,aP,x2,cond_true,gP g1,gP g2,if_pos c1];exact ih (k+1) _ _ _ _ (by omega) (by rw[aOF];exact h0) (up a ha) x1 (up c hc) (up d hd)
    ·rw[aL,if_neg c1]
     by_cases c2:k%4=2
     ·obtain⟨x1,x2,x3⟩:=Qy c hc;rw[aP,gP ⟨M6.aY _,M6.aY _,x3,by omega⟩,aL,aL,aP,x2,cond_true,gP g1,gP g2,if_pos c2];exact ih (k+1) _ _ _ _ (by omega) (by rw[aOF];exact h0) (up a ha) (up b hb) x1 (up d hd)
     ·obtain⟨x1,x2,x3⟩:=Qy d hd;rw[aL,aP,gP ⟨M6.aY _,M6.aY _,x3,by omega⟩,aL,aL,aL,aP,x2,cond_true,gP g1,gP g2,if_neg c2];exact ih (k+1) _ _ _ _ (by omega) (by rw[aOF];exact h0) (up a ha) (up b hb) (up c hc) x1
def aEL(u w:Nat):Nat:=(tay u (2^w) (w+1) 0 0 0 0 0).2.1-(tay u (2^w) (w+1) 0 0 0 0 0).2.2.2
def aEM(u w:Nat):Nat:=(tay u (2^w) (w+1) 0 0 0 0 0).1-(tay u (2^w) (w+1) 0 0 0 0 0).2.2.1
def sp(a:List Int)(w:Int):Prop×List D:=(M6.cR a/\0<=w/\w<=150000/\2*M6.val a<=2^w.toNat,[.s (.ints .u64 (M6.dg (aEL (M6.val a) w.toNat))),.s (.ints .u64 (M6.dg (aEM (M6.val a) w.toNat)))])
theorem spec:gT E f237 aE (pI .u64) (pN .i64) sp:=by
 rintro a w ⟨hn,w0,w1,hu⟩;refine(start a w).trans ?_;obtain⟨w,rfl⟩:=cAS w0;rw[bZL]at hu;have hl:a.length<=4096:=by
  have e:M6.dg (M6.val a)=a:=by first |exact hn |exact Eq.symm hn
  rw[<-e];exact fL (k:=4096) (bWK (cZ.2 (show M6.val a<2^(w+1) by rw[cAN];have:0<2^w:=bYO (by decide);omega)) (by omega))
 have so:kN.jL 1 w=true:=by
  unfold kN.jL;rw[show bl 1=1 from rfl,decide_eq_true (show 1+w<=524288 by omega),cBQ]
 have l1:(M6.dg 1).length<=8192:=dW.lF (k:=1) (by decide) (by decide);unfold sp;simp only[M6.bQ,bZL,so,cond_true,bZS,aG];rw[gP ⟨by decide,by decide⟩,gP ⟨M6.aY _,l1,by omega,by omega⟩,<-M6.cK];exact L hn hl (by omega) (by omega) (w+1) 0 0 0 0 0 (by omega) (by rw[bVQ];exact R.aBJ hu) (by omega) (by omega) (by omega) (by omega)
def aJ:dK:=orc2 (pI .u64) (pN .i64) sp
theorem ok:OK 237 aJ:=(eZ E aE (aA kN.ok (aA oA.ok (aA uF.ok (aA Mp.ok (aA nG.ok (aA uE.ok aD)))))) func237).mT rfl spec
end TSums
namespace aR
def E:=mE [(203,Ar.aJ),(235,THalvings.aJ),(236,uT.aJ),(237,TSums.aJ),(98,kN.aJ),(95,oA.aJ),(238,Mp.aJ),(102,uE.aJ)] 91 [41,56,59,74,84] [(10,[4,5,7,10,12,50,51])] []
def aE:=bd f205
theorem aX:Nk E aE:=nk
def He a b c d e f g:=qV E f205 aE 10 [iM a,iM b,bP c,bP d,iM e,bP f,bP g]
theorem start a c d b:aH E f205 aE [D.agg [sc (bool a),ints u64 c,sc (int i64 d)],D.s (sc (int i64 b))]=letI H:=dv (a,c,d);letI G:=M6.dg 1;aO (aQ (a,c,d)) (aC (if H.fst=0 then(0:Int)else d+(↑(bl (M6.val c)):Int)-(1:Int)) fun e=>aO (i64.wrap (i64.wrap (b+80)-if 0<e then(0:Int)else e)<=150000) (aC (↑(THalvings.hlv (i64.wrap (i64.wrap (b+80)-if 0<e then(0:Int)else e)) 200 4):Int) fun f=>letI B:=i64.wrap (i64.wrap (b+80)-match BinOp.lss with |BinOp.gtr=>if(0:Int)>e then(0:Int)else e |x=>if 0<e then(0:Int)else e)+i64.wrap ((2:Int)*f);letI A:=i64.wrap (i64.wrap (b+80)-if 0<e then(0:Int)else e)+i64.wrap ((2:Int)*f);letI F:=i64.wrap A+f;letI C:=i64.wrap F;aO (aQ (a,c,d)/\(-1099511627776:Int)<=i64.wrap A/\i64.wrap A<=1099511627776/\(0<=(a,c,d).snd.snd+i64.wrap B->fit (H.fst.natAbs*(2:Nat)^((a,c,d).snd.snd+i64.wrap B).toNat)=true)) (aC (M6.dg (uT.aOK H (i64.wrap A))) fun g=>aO (M6.cR g/\0<=i64.wrap F/\i64.wrap F<=150000/\(2:Nat)*M6.val g<=(2:Nat)^C.toNat) (aC (M6.dg (TSums.aEL (M6.val g) C.toNat)) fun h=>aC (M6.dg (TSums.aEM (M6.val g) C.toNat)) fun i=>aO ((0:Int)<=(1:Int)/\(1:Int)<(18446744073709551616:Int)) (aO (M6.cR G/\G.length<=8192/\0<=i64.wrap F/\i64.wrap F<4611686018427387904) (aC (bif kN.jL (M6.val G) C.toNat then M6.dg (M6.val G*(2:Nat)^C.toNat)else []) fun j=>aR.He h i C f j f 0)))))):=eJ aX
theorem qQ a b c d e f g:He a b c d e f g=letI B:=M6.dg 1;letI A:=i64.wrap ((2:Int)*d)+22;aB (decide (g<f)) (aO (M6.cR a/\M6.cR b/\a.length<=4096/\b.length<=4096/\0<=c/\c<4611686018427387904) (aC (M6.dg (M6.val a*M6.val b/(2:Nat)^c.toNat)) fun h=>aO (M6.cR h/\h.length<=8192/\(0:Int)<=(1:Int)/\(1:Int)<(4611686018427387904:Int)) (aC (bif kN.jL (M6.val h) 1 then M6.dg (M6.val h*2)else []) fun i=>aO (M6.cR a/\M6.cR a/\a.length<=4096/\a.length<=4096/\0<=c/\c<4611686018427387904) (aC (M6.dg (M6.val a*M6.val a/(2:Nat)^c.toNat)) fun j=>aO (M6.cR j/\j.length<=8192/\(0:Int)<=(1:Int)/\(1:Int)<(4611686018427387904:Int)) (aC (bif kN.jL (M6.val j) 1 then M6.dg (M6.val j*2)else []) fun k=>aO (M6.cR e/\M6.cR k/\e.length<=8192/\k.length<=8192) (aC (M6.dg (M6.val e-M6.val k)) fun l=>aR.He i l c d e f (i64.wrap (g+1)))))))) (aO ((0:Int)<=(1:Int)/\(1:Int)<(18446744073709551616:Int)) (aO (M6.cR B/\B.length<=8192/\0<=i64.wrap A/\i64.wrap A<4611686018427387904) (aC (bif kN.jL (M6.val B) (i64.wrap A).toNat then M6.dg (M6.val B*(2:Nat)^(i64.wrap A).toNat)else []) fun m=>some [D.s (ints u64 a),D.s (ints u64 b),D.s (ints u64 m),D.s (sc (int i64 c))]))):=lJ aX
def iR(x:Int×Int):Int:=if x.1=0 then 0 else x.2+(bl x.1.natAbs:Nat)-1
def w0(x:Int×Int)(p:Int):Int:=p+80-if 0<iR x then 0 else iR x
def hv(x:Int×Int)(p:Int):Nat:=THalvings.hlv (w0 x p) 200 4
def w1(x:Int×Int)(p:Int):Int:=w0 x p+2*(hv x p:Nat)
def w2(x:Int×Int)(p:Int):Int:=w1 x p+(hv x p:Nat)
def bU(x:Int×Int)(p:Int):Nat:=uT.aOK x (w1 x p)
def Cb(x:Int×Int)(p:Int):Nat×Nat:=R.Gk (2^(w2 x p).toNat) (hv x p) (TSums.aEL (bU x p) (w2 x p).toNat) (TSums.aEM (bU x p) (w2 x p).toNat)
def sp(x:gE)(p:Int):Prop×List D:=(aQ x/\(1<=p/\p<=70000)/\(-70000<=iR (dv x)/\iR (dv x)<=100)/\bU (dv x) p<=2^(w1 (dv x) p).toNat,
 [.s (.ints .u64 (M6.dg (Cb (dv x) p).1)),.s (.ints .u64 (M6.dg (Cb (dv x) p).2)),.s (.ints .u64 (M6.dg (2^(2*hv (dv x) p+22)))),.s (.sc (.int .i64 (w2 (dv x) p)))])
theorem Zi(w:Int):∀f h,THalvings.hlv w f h<=h+f/\h<=THalvings.hlv w f h
 |0,h=>⟨bVO _,bVO _⟩
 |f+1,h=>by
  unfold THalvings.hlv;have:=Zi w f (h+1);split <;> omega
theorem aIL{u W:Nat}(hu:u<=W):∀f k a b c d,a<=k*W->b<=k*W->c<=k*W->d<=k*W ->
  (TSums.tay u W f k a b c d).1<=(k+f)*W/\(TSums.tay u W f k a b c d).2.1<=(k+f)*W
 |0,k,a,b,c,d,ha,hb,_,_=>⟨ha,hb⟩
 |f+1,k,a,b,c,d,ha,hb,hc,hd=>by
  have hs:=TSums.Jv hu k;have e:(k+1)*W=k*W+W:=by rw[bWI,bZS]
  have e2:k*W<=(k+(f+1))*W:=bXD _ (by omega);have e3:k+1+f=k+(f+1):=by omega
  have r:=fun a b c d h1 h2 h3 h4=>e3▸aIL hu f (k+1) a b c d h1 h2 h3 h4
  unfold TSums.tay;split
  ·exact⟨bWK ha e2,bWK hb e2⟩
  ·split
   ·exact r _ _ _ _ (by omega) (by omega) (by omega) (by omega)
   ·split
    ·exact r _ _ _ _ (by omega) (by omega) (by omega) (by omega)
    ·split
     ·exact r _ _ _ _ (by omega) (by omega) (by omega) (by omega)
     ·exact r _ _ _ _ (by omega) (by omega) (by omega) (by omega)
theorem L{w:Nat}(hw:w<=150000)(x3:Nat)(h3:x3<=1000):∀(d k s c:Nat),k+d=x3->s<2^(w+20*(k+1))->c<2^(w+18)->k+d<=210 ->
  He (M6.dg s) (M6.dg c) w x3 (M6.dg (2^w)) x3 k=some [.s (.ints .u64 (M6.dg (R.Gk (2^w) d s c).1)),.s (.ints .u64 (M6.dg (R.Gk (2^w) d s c).2)),.s (.ints .u64 (M6.dg (2^(2*x3+22)))),.s (.sc (.int .i64 w))]
 |0,k,s,c,hk,hs,hc,hb=>by
  have e1:i64.wrap (2*(x3:Int))=2*(x3:Int):=wrap_i64;have e2:i64.wrap (2*(x3:Int)+22)=((2*x3+22:Nat):Int):=by rw[wrap_i64];omega
  have so:kN.jL 1 (2*x3+22)=true:=by
   unfold kN.jL;rw[show bl 1=1 from rfl,decide_eq_true (show 1+(2*x3+22)<=524288 by omega),cBQ]
  have l1:(M6.dg 1).length<=8192:=dW.lF (k:=1) (by decide) (by decide);rw[qQ,aL,e1,e2];simp only[aG,M6.bQ,bZL,so,cond_true,bZS];rw[gP ⟨by decide,by decide⟩,gP ⟨M6.aY _,l1,by omega,by omega⟩];rfl
 |d+1,k,s,c,hk,hs,hc,hb=>by
  have e:i64.wrap ((k:Int)+1)=((k+1:Nat):Int):=by rw[wrap_i64];omega
  have ls:(M6.dg s).length<=4096:=fL (k:=4096) (bWK (cZ.2 hs) (by omega));have lc:(M6.dg c).length<=4096:=fL (k:=4096) (bWK (cZ.2 hc) (by omega));have W0:0<2^w:=bYO (by decide);have b1:s*c/2^w<2^(w+20*(k+1)+18):=by
   apply cBG;have:2^w*2^(w+20*(k+1)+18)=2^(w+20*(k+1))*2^(w+18):=by rw[<-cAQ,<-cAQ];congr 1;omega
   rw[this];exact cDP hs hc
  have b2:s*s/2^w<2^(w+40*(k+1)):=by
   apply cBG;have:2^w*2^(w+40*(k+1))=2^(w+20*(k+1))*2^(w+20*(k+1)):=by rw[<-cAQ,<-cAQ];congr 1;omega
   rw[this];exact cDP hs hs
  have so:∀n,bl n<=500000->kN.jL n 1=true:=fun n hn=>by
   unfold kN.jL;rw[decide_eq_true (show bl n+1<=524288 by omega),cBQ]
  have f1:=so _ (bWK (cZ.2 b1) (by omega));have f2:=so _ (bWK (cZ.2 b2) (by omega));have b3:s*s/2^w*2<2^(w+40*(k+1)+1):=by rw[cAN];omega
  have b4:s*c/2^w*2<2^(w+20*(k+1+1)):=by
   have:2^(w+20*(k+1)+18)*2<=2^(w+20*(k+1+1)):=by rw[<-cAN];exact bYP (by decide) (by omega)
   omega
  have b5:2^w-s*s/2^w*2<2^(w+18):=cBY (cCH _ _) (cCW (by decide) (by omega));rw[qQ,aP];simp only[aG,M6.bQ,bZL,f1,f2,cond_true,e];rw[gP ⟨M6.aY _,M6.aY _,ls,lc,by omega,by omega⟩,gP ⟨M6.aY _,dW.lF b1 (by omega),by decide,by decide⟩,gP ⟨M6.aY _,M6.aY _,ls,ls,by omega,by omega⟩,gP ⟨M6.aY _,dW.lF b2 (by omega),by decide,by decide⟩,
   gP ⟨M6.aY _,M6.aY _,dW.lF (cCW (by decide) (cJO w)) (by omega),dW.lF b3 (by omega)⟩]
  have r:=L hw x3 h3 d (k+1) (s*c/2^w*2) (2^w-s*s/2^w*2) (by omega) b4 b5 (by omega);rw[R.Pu,cAM 2 (s*c/2^w),cAM 2 (s*s/2^w)];exact r
theorem spec:gT E f205 aE iX (pN .i64) sp:=by
 rintro x p ⟨hx,⟨p0,p1⟩,⟨t0,t1⟩,hu⟩;refine(start x.1 x.2.1 x.2.2 p).trans ?_;have he:=hx.2.1;have ha:(dv x).1.natAbs=M6.val x.2.1:=iG (x.1,x.2.1);have hT:(if(dv (x.1,x.2.1,x.2.2)).1=0 then 0 else x.2.2+(bl (M6.val x.2.1):Int)-1)=iR (dv x):=by rw[<-ha];rfl
 have aZJ:w0 (dv x) p=p+80-if 0<iR (dv x)then 0 else iR (dv x):=rfl
 have r0:1<=w0 (dv x) p/\w0 (dv x) p<=140080:=by rw[aZJ];split <;> omega
 have e1:i64.wrap (p+80)=p+80:=wrap_i64;have e2:i64.wrap (p+80-if 0<iR (dv x)then 0 else iR (dv x))=w0 (dv x) p:=by rw[<-aZJ];exact wrap_i64
 have hh:=Zi (w0 (dv x) p) 200 4;have hv0:THalvings.hlv (w0 (dv x) p) 200 4=hv (dv x) p:=rfl;rw[hv0]at hh;have bDC:w1 (dv x) p=w0 (dv x) p+2*((hv (dv x) p:Nat):Int):=rfl;have bFR:w2 (dv x) p=w1 (dv x) p+((hv (dv x) p:Nat):Int):=rfl;have e3:i64.wrap (2*((hv (dv x) p:Nat):Int))=2*((hv (dv x) p:Nat):Int):=wrap_i64;have e4:i64.wrap (w0 (dv x) p+2*((hv (dv x) p:Nat):Int))=w1 (dv x) p:=by rw[bDC];exact wrap_i64
 have e5:i64.wrap (w1 (dv x) p+((hv (dv x) p:Nat):Int))=w2 (dv x) p:=by rw[bFR];exact wrap_i64
 have hU:uT.aOK (dv x) (w1 (dv x) p)=bU (dv x) p:=rfl;have aVM:(x.1,x.2.1,x.2.2)=x:=rfl;simp only[hT,aG,e1,e2,hv0,e3,e4,e5,aVM,M6.bQ,hU];obtain⟨w,hw⟩:=cAS (show 0<=w2 (dv x) p by omega);have bTT:2*bU (dv x) p<=2^w:=by
  have:2^(w1 (dv x) p).toNat*2<=2^w:=by rw[<-cAN];exact bYP (by decide) (by omega)
  omega
 have so:kN.jL 1 w=true:=by
  unfold kN.jL;rw[show bl 1=1 from rfl,decide_eq_true (show 1+w<=524288 by omega),cBQ]
 have l1:(M6.dg 1).length<=8192:=dW.lF (k:=1) (by decide) (by decide);have aLB:0<=x.2.2+w1 (dv x) p->fit ((dv x).1.natAbs*2^(x.2.2+w1 (dv x) p).toNat)=true:=fun hc=>by
  have:bU (dv x) p=(dv x).1.natAbs*2^(x.2.2+w1 (dv x) p).toNat:=by
   rw[<-hU];unfold uT.aOK;exact if_pos hc
  rw[<-this];exact decide_eq_true (bWK (cZ.2 (cBY hu (cCW (by decide) (cJO _)))) (by omega))
 unfold sp Cb;dsimp only;have hwb:w<=141000:=by omega
 rw[hw];rw[bZL,so,cond_true,bZS];rw[gP hx,gP,gP ⟨hx,by omega,by omega,aLB⟩,gP ⟨M6.aY _,by omega,by omega,bTT⟩,gP ⟨by decide,by decide⟩,gP ⟨M6.aY _,l1,by omega,by omega⟩];obtain⟨g1,g2⟩:=aIL (u:=bU (dv x) p) (W:=2^w) (by omega) (w+1) 0 0 0 0 0 (by omega) (by omega) (by omega) (by omega);have pw:(0+(w+1))*2^w<2^(w+18):=by
  rw[cAQ,cAM];exact cJQ (by omega) (bYO (by decide))
 have hs:TSums.aEL (bU (dv x) p) w<2^(w+18):=cBY (bWK (cCH _ _) g2) pw;have hc:TSums.aEM (bU (dv x) p) w<2^(w+18):=cBY (bWK (cCH _ _) g1) pw;exact L (by omega) (hv (dv x) p) (by omega) (hv (dv x) p) 0 _ _ (by omega) (bWL hs (bYP (by decide) (by omega))) hc (by omega)
def aJ:dK:=orc2 iX (pN .i64) sp
theorem ok:OK 205 aJ:=(eZ E aE (aA Ar.ok (aA THalvings.ok (aA uT.ok (aA TSums.ok (aA kN.ok (aA oA.ok (aA Mp.ok (aA uE.ok aD)))))))) func205).mT rfl spec
end aR
namespace Xn
def E:=mE [(239,Au.aJ),(45,lO.aJ),(240,cE.aJ)] 25 [22] [] []
def aE:=bd f209
theorem aX:Nk E aE:=nk
theorem start a d e b c:aH E f209 aE [D.agg [sc (bool a),ints u64 d,sc (int i64 e)],D.s (sc (int i64 b)),D.s (sc (bool c))]=letI A:=cE.nQ c (wv (a,d)) e b;letI B:=bif gY A.fst A.snd then aN A.fst A.snd else((0:Int),(0:Int));aO True (aC (decide (1<=b)&&decide (b<=70000)) fun f=>aB (!f) (some [D.agg [sc (bool false),sc (slice none 0 0),sc (int i64 0)],D.s (sc (int i64 1))]) (aO (aQ (a,d,e)) (aO (gL (a,d)/\((-4611686018427387904:Int)<=e/\e<4611686018427387904)/\1<=b/\b<=70000) (aC (isNeg B.fst) fun g=>aC (M6.dg B.fst.natAbs) fun h=>aC B.snd fun i=>aC (bif gY A.fst A.snd then(0:Int)else(5:Int)) fun j=>some [D.agg [sc (bool g),ints u64 h,sc (int i64 i)],D.s (sc (int i64 j))])))):=eJ aX
def sp(x:gE)(p:Int)(up:Bool):Prop×List D:=(aQ x/\1<=p/\p<=70000,dE (gY (cE.nQ up (dv x).1 (dv x).2 p).1 (cE.nQ up (dv x).1 (dv x).2 p).2) (aN (cE.nQ up (dv x).1 (dv x).2 p).1 (cE.nQ up (dv x).1 (dv x).2 p).2))
theorem spec:oK E f209 aE iX (pN .i64) pB sp:=by
 rintro x p up ⟨hx,h1,h2⟩;have he:=hx.2.1;refine(start x.1 x.2.1 x.2.2 p up).trans ?_;simp only[aG];rw[gP trivial,decide_eq_true h1,decide_eq_true h2,bYQ,bXO,bF,gP hx,gP ⟨hx.Dh,⟨by omega,by omega⟩,h1,h2⟩];rfl
def aJ:dK:=orc3 iX (pN .i64) pB sp
theorem ok:OK 209 aJ:=(eZ E aE (aA Au.ok (aA lO.ok (aA cE.ok aD))) func209).yK rfl spec
end Xn
namespace Nf
def E:=mE [(209,Xn.aJ)] 11 [8] [] []
def aE:=bd f162
theorem aX:Nk E aE:=nk
theorem start a c d b:aH E f162 aE [D.agg [sc (bool a),ints u64 c,sc (int i64 d)],D.s (sc (int i64 b))]=letI A:=cE.nQ false (dv (a,c,d)).fst (dv (a,c,d)).snd b;letI B:=bif gY A.fst A.snd then aN A.fst A.snd else((0:Int),(0:Int));aO (aQ (a,c,d)/\1<=b/\b<=70000) (some [D.agg [sc (bool (isNeg B.fst)),ints u64 (M6.dg B.fst.natAbs),sc (int i64 B.snd)],D.s (sc (int i64 (bif gY A.fst A.snd then(0:Int)else(5:Int))))]):=eJ aX
def sp(x:gE)(p:Int):Prop×List D:=(aQ x/\1<=p/\p<=70000,dE (gY (cE.nQ false (dv x).1 (dv x).2 p).1 (cE.nQ false (dv x).1 (dv x).2 p).2) (aN (cE.nQ false (dv x).1 (dv x).2 p).1 (cE.nQ false (dv x).1 (dv x).2 p).2))
theorem spec:gT E f162 aE iX (pN .i64) sp:=by
 intro x p h;refine(start x.1 x.2.1 x.2.2 p).trans ((gP h).trans ?_);rfl
def aJ:dK:=orc2 iX (pN .i64) sp
theorem ok:OK 162 aJ:=(eZ E aE (aA Xn.ok aD) func162).mT rfl spec
end Nf
namespace aYN
def E:=mE [(209,Xn.aJ)] 11 [8] [] []
def aE:=bd f163
theorem aX:Nk E aE:=nk
theorem start a c d b:aH E f163 aE [D.agg [sc (bool a),ints u64 c,sc (int i64 d)],D.s (sc (int i64 b))]=letI A:=cE.nQ true (dv (a,c,d)).fst (dv (a,c,d)).snd b;letI B:=bif gY A.fst A.snd then aN A.fst A.snd else((0:Int),(0:Int));aO (aQ (a,c,d)/\1<=b/\b<=70000) (some [D.agg [sc (bool (isNeg B.fst)),ints u64 (M6.dg B.fst.natAbs),sc (int i64 B.snd)],D.s (sc (int i64 (bif gY A.fst A.snd then(0:Int)else(5:Int))))]):=eJ aX
def sp(x:gE)(p:Int):Prop×List D:=(aQ x/\1<=p/\p<=70000,dE (gY (cE.nQ true (dv x).1 (dv x).2 p).1 (cE.nQ true (dv x).1 (dv x).2 p).2) (aN (cE.nQ true (dv x).1 (dv x).2 p).1 (cE.nQ true (dv x).1 (dv x).2 p).2))
theorem spec:gT E f163 aE iX (pN .i64) sp:=by
 intro x p h;refine(start x.1 x.2.1 x.2.2 p).trans ((gP h).trans ?_);rfl
def aJ:dK:=orc2 iX (pN .i64) sp
theorem ok:OK 163 aJ:=(eZ E aE (aA Xn.ok aD) func163).mT rfl spec
end aYN
namespace bD
def E:=mE [(102,uE.aJ),(100,uF.aJ),(50,iY.aJ),(162,Nf.aJ),(163,aYN.aJ),(158,Ih.aJ),(14,aNY.aJ)] 71 [] [] []
def aE:=bd f206
theorem aX:Nk E aE:=nk
theorem start a b c d:aH E f206 aE [D.s (ints u64 a),D.s (ints u64 b),D.s (sc (int i64 c)),D.s (sc (int i64 d))]=letI P:=M6.val a+M6.val b;letI N:=aN 1 0;letI O:=M6.dg N.fst.natAbs;letI K:=M6.cR a/\M6.cR b/\a.length<=8192/\b.length<=8192;letI I:=i64.wrap ((0:Int)-c);aO K (aC (M6.dg (M6.val a-M6.val b)) fun e=>letI C:=bif gY (wv (false,e)) I then aN (wv (false,e)) I else((0:Int),(0:Int));aO K (aC (bif cP.mM P then M6.dg P else []) fun f=>letI F:=bif gY (wv (false,f)) I then aN (wv (false,f)) I else((0:Int),(0:Int));aO (gL (false,e)/\(-9223372036854775808:Int)<=i64.wrap ((0:Int)-c)/\i64.wrap ((0:Int)-c)<9223372036854775808) (aC (isNeg C.fst) fun g=>aC (M6.dg C.fst.natAbs) fun h=>aC C.snd fun i=>letI A:=cE.nQ false (dv (g,h,i)).fst (dv (g,h,i)).snd d;letI G:=bif gY A.fst A.snd then aN A.fst A.snd else((0:Int),(0:Int));aO (gL (false,f)/\(-9223372036854775808:Int)<=i64.wrap ((0:Int)-c)/\i64.wrap ((0:Int)-c)<9223372036854775808) (aC (isNeg F.fst) fun j=>aC (M6.dg F.fst.natAbs) fun k=>aC F.snd fun l=>letI B:=cE.nQ true (dv (j,k,l)).fst (dv (j,k,l)).snd d;letI H:=bif gY B.fst B.snd then aN B.fst B.snd else((0:Int),(0:Int));aO (aQ (g,h,i)/\1<=d/\d<=70000) (aC (isNeg G.fst) fun m=>aC (M6.dg G.fst.natAbs) fun n=>aC G.snd fun o=>aO (aQ (j,k,l)/\1<=d/\d<=70000) (aC (isNeg H.fst) fun p=>aC (M6.dg H.fst.natAbs) fun q=>aC H.snd fun r=>aO ((-9223372036854775808:Int)<=(1:Int)/\(1:Int)<(9223372036854775808:Int)) (aC (isNeg N.fst) fun s=>aC O fun t=>aC N.snd fun u=>aO (aQ (p,q,r)/\aQ (s,t,u)) (aC (lH (bI.mY (dv (p,q,r)) (dv (s,t,u))) (bI.mW (dv (p,q,r)) (dv (s,t,u)))) fun v=>aB (decide (0<v)) (aO ((-9223372036854775808:Int)<=(1:Int)/\(1:Int)<(9223372036854775808:Int)) (aC (isNeg N.fst) fun w=>aC O fun x=>aC N.snd fun y=>some [D.agg [sc (bool m),ints u64 n,sc (int i64 o),sc (bool w),ints u64 x,sc (int i64 y)]])) (some [D.agg [sc (bool m),ints u64 n,sc (int i64 o),sc (bool p),ints u64 q,sc (int i64 r)]]))))))))):=eJ aX
def Ic(a f:Nat)(w:Int):Int×Int:=aN ((a-f:Nat):Int) (-w)
def Ch(a f:Nat)(w:Int):Int×Int:=aN ((a+f:Nat):Int) (-w)
def xU(p:Int×Int):Int×Int:=bif decide (0<eF p (1,0))then(1,0)else p
def sp(a f:List Int)(w q:Int):Prop×List D:=(M6.cR a/\M6.cR f/\bl (M6.val a)<=500000/\bl (M6.val f)<=500000/\(0<=w/\w<=500000)/\(1<=q/\q<=70000)/\wZ false (Ic (M6.val a) (M6.val f) w) q=true/\wZ true (Ch (M6.val a) (M6.val f) w) q=true/\jK (shD true (Ch (M6.val a) (M6.val f) w) q),
 [uX (shD false (Ic (M6.val a) (M6.val f) w) q) (xU (shD true (Ch (M6.val a) (M6.val f) w) q))])
theorem spec:Om E f206 aE (pI .u64) (pI .u64) (pN .i64) (pN .i64) sp:=by
 rintro a f w q ⟨ha,hf,ba,bf,⟨w0,w1⟩,⟨q0,q1⟩,i1,i2,pu⟩;refine(start a f w q).trans ?_;have la:a.length<=8192:=by
  have e:M6.dg (M6.val a)=a:=by first |exact ha |exact Eq.symm ha
  rw[<-e];exact fL (k:=8192) (by omega)
 have lf:f.length<=8192:=by
  have e:M6.dg (M6.val f)=f:=by first |exact hf |exact Eq.symm hf
  rw[<-e];exact fL (k:=8192) (by omega)
 have vN:∀n:Nat,wv (false,M6.dg n)=(n:Int):=fun n=>by show(M6.val (M6.dg n):Int)=n;rw[M6.bQ]
 have wN:∀n:Nat,bl n<=524288->gL (false,M6.dg n):=fun n hn=>by
  have:=fT (z:=(n:Int)) (by rw[cBF];exact hn);rw[iO.2 (by omega),cBF]at this;exact this
 have bs:bl (M6.val a-M6.val f)<=500000:=bWK (fY (cCH _ _)) ba;have bt:bl (M6.val a+M6.val f)<=500001:=by
  have h1:=cZ.1 ba;have h2:=cZ.1 bf;refine cZ.2 ?_;rw[cAN 2 500000];generalize 2^500000=Q at *;omega
 have ok:cP.mM (M6.val a+M6.val f)=true:=decide_eq_true (fL (k:=8192) (by omega));have ew:i64.wrap (0-w)=-w:=by rw[wrap_i64];omega
 have j1:gY ((M6.val a-M6.val f:Nat):Int) (-w)=true:=gQ (by omega) (by rw[cBF];omega);have j2:gY ((M6.val a+M6.val f:Nat):Int) (-w)=true:=gQ (by omega) (by rw[cBF];omega);have p1:jK (Ic (M6.val a) (M6.val f) w):=gM j1 (by rw[cBF];omega);have p2:jK (Ch (M6.val a) (M6.val f) w):=gM j2 (by rw[cBF];omega);have c1:=dU (Ic (M6.val a) (M6.val f) w);have c2:=dU (Ch (M6.val a) (M6.val f) w);have n1:aN 1 0=(1,0):=by decide +kernel
 have pn:jK (1,0):=⟨by decide +kernel,⟨by decide,by decide⟩,fun h=>absurd h (by decide),fun _=>by decide⟩;have d1:=dG pn;have v1:=dU ((1,0):Int×Int);rw[gP ⟨ha,hf,la,lf⟩,aG,gP ⟨ha,hf,la,lf⟩];simp only[aG,ok,cond_true,vN,ew,j1,j2,n1];rw[gP ⟨wN _ (by omega),by omega,by omega⟩,gP ⟨wN _ (by omega),by omega,by omega⟩];have eL:aN ((M6.val a-M6.val f:Nat):Int) (-w)=Ic (M6.val a) (M6.val f) w:=rfl;have eH:aN ((M6.val a+M6.val f:Nat):Int) (-w)=Ch (M6.val a) (M6.val f) w:=rfl;unfold sp xU;dsimp only;rw[eL,eH];generalize Ic (M6.val a) (M6.val f) w=L at *;generalize Ch (M6.val a) (M6.val f) w=H at *;have bHK:gY (cE.nQ false L.1 L.2 q).1 (cE.nQ false L.1 L.2 q).2=true:=i1;have bHJ:gY (cE.nQ true H.1 H.2 q).1 (cE.nQ true H.1 H.2 q).2=true:=i2;have cu:=dU (shD true H q);have du:=dG pu;have eU:aN (cE.nQ true H.1 H.2 q).1 (cE.nQ true H.1 H.2 q).2=shD true H q:=rfl;have eD:aN (cE.nQ false L.1 L.2 q).1 (cE.nQ false L.1 L.2 q).2=shD false L q:=rfl;simp only[c1,c2,bHK,bHJ,cond_true,eU,eD,cu,v1];rw[gP ⟨dG p1,q0,q1⟩,gP ⟨dG p2,q0,q1⟩,gP ⟨by decide,by decide⟩,gP ⟨du,d1⟩];show aB (decide (0<eF (shD true H q) (1,0))) _ _=_
 by_cases g:0<eF (shD true H q) (1,0)
 ·rw[aP g,decide_eq_true g,cond_true,gP ⟨by decide,by decide⟩];rfl
 ·rw[aL g,decide_eq_false g,cond_false];rfl
def aJ:dK:=orc4 (pI .u64) (pI .u64) (pN .i64) (pN .i64) sp
theorem ok:OK 206 aJ:=(eZ E aE (aA uE.ok (aA uF.ok (aA iY.ok (aA Nf.ok (aA aYN.ok (aA Ih.ok (aA aNY.ok aD))))))) func206).aOE rfl spec
end bD
namespace bC
def E:=mE [(202,Mq.aJ),(203,Ar.aJ),(50,iY.aJ),(51,aGM.aJ),(59,Tq.aJ),(14,aNY.aJ),(205,aR.aJ),(206,bD.aJ)] 63 [] [] []
def aE:=bd f160
theorem aX:Nk E aE:=nk
theorem start a c d b:aH E f160 aE [D.agg [sc (bool a),ints u64 c,sc (int i64 d)],D.s (sc (int i64 b))]=letI Q:=wv (isNeg 1,M6.dg (cFK 1));letI N:=i64.wrap (b+32);letI I:=i64.wrap ((0:Int)-b)-3;letI H:=dv (a,c,d);letI G:=aN 1 0;letI T:=isNeg G.fst;letI K:=M6.dg G.fst.natAbs;letI A:=bif gY Q (i64.wrap I)then aN Q (i64.wrap I)else((0:Int),(0:Int));aB ((c.length:Int)==(0:Int)) (aO ((-1000000:Int)<=(1:Int)/\(1:Int)<=(1000000:Int)) (aC T fun e=>aC K fun f=>aC G.snd fun g=>aC T fun h=>aC K fun i=>aC G.snd fun j=>some [D.agg [sc (bool e),ints u64 f,sc (int i64 g),sc (bool h),ints u64 i,sc (int i64 j)]])) (aO (aQ (a,c,d)) (aC (if H.fst=0 then(0:Int)else d+(↑(bl (M6.val c)):Int)-(1:Int)) fun k=>aB (decide (i64.wrap (i64.wrap ((2:Int)*k)+8)<i64.wrap ((0:Int)-b))) (aO ((-9223372036854775808:Int)<=(1:Int)/\(1:Int)<(9223372036854775808:Int)) (aO (gL (isNeg 1,M6.dg 1)/\(-9223372036854775808:Int)<=i64.wrap I/\i64.wrap I<9223372036854775808) (aC (isNeg A.fst) fun l=>aC (M6.dg A.fst.natAbs) fun m=>aC A.snd fun n=>letI U:=dv (l,m,n);aO ((-9223372036854775808:Int)<=(1:Int)/\(1:Int)<(9223372036854775808:Int)) (aC T fun o=>aC K fun p=>aC G.snd fun q=>letI B:=bif bI.jW (dv (o,p,q)) (-U.fst,U.snd)then bI.nD (dv (o,p,q)) (-U.fst,U.snd)else((0:Int),(0:Int));aO (aQ (o,p,q)/\aQ (l,m,n)) (aC (isNeg B.fst) fun r=>aC (M6.dg B.fst.natAbs) fun s=>aC B.snd fun t=>aO ((-9223372036854775808:Int)<=(1:Int)/\(1:Int)<(9223372036854775808:Int)) (aC T fun u=>aC K fun v=>aC G.snd fun w=>some [D.agg [sc (bool r),ints u64 s,sc (int i64 t),sc (bool u),ints u64 v,sc (int i64 w)]])))))) (aO (aQ (a,c,d)/\(1<=b/\b<=70000)/\((-70000:Int)<=aR.iR H/\aR.iR H<=100)/\aR.bU H b<=(2:Nat)^(aR.w1 H b).toNat) (aC (M6.dg (aR.Cb H b).snd) fun x=>aC (M6.dg ((2:Nat)^((2:Nat)*aR.hv H b+22))) fun y=>aC (aR.w2 H b) fun z=>letI P:=bD.Ch (M6.val x) (M6.val y) z;letI O:=bD.Ic (M6.val x) (M6.val y) z;letI F:=M.shD false O N;letI C:=M.shD true P N;letI W:=bD.xU C;aO (M6.cR x/\M6.cR y/\bl (M6.val x)<=500000/\bl (M6.val y)<=500000/\(0<=z/\z<=500000)/\(1<=i64.wrap (b+32)/\i64.wrap (b+32)<=70000)/\wZ false O N=true/\wZ true P N=true/\jK C) (aC (isNeg F.fst) fun aa=>aC (M6.dg F.fst.natAbs) fun ab=>aC F.snd fun ac=>aC (isNeg W.fst) fun ad=>aC (M6.dg W.fst.natAbs) fun ae=>aC W.snd fun af=>some [D.agg [sc (bool aa),ints u64 ab,sc (int i64 ac),sc (bool ad),ints u64 ae,sc (int i64 af)]]))))):=eJ aX
def rT(x:Int×Int)(p:Int):Int×Int:=if x.1=0 then(1,0)else if 2*aR.iR x+8 < -p then bI.nD (1,0) (-1,-p-3)else shD false (bD.Ic (aR.Cb x p).2 (2^(2*aR.hv x p+22)) (aR.w2 x p)) (p+32)
def qN(x:Int×Int)(p:Int):Int×Int:=if x.1=0 then(1,0)else if 2*aR.iR x+8 < -p then(1,0)else bD.xU (shD true (bD.Ch (aR.Cb x p).2 (2^(2*aR.hv x p+22)) (aR.w2 x p)) (p+32))
def Su(x:Int×Int)(p:Int):Prop:=(-70000<=aR.iR x/\aR.iR x<=100)/\aR.bU x p<=2^(aR.w1 x p).toNat
def aNF(a f:Nat)(w q:Int):Prop:=bl a<=500000/\bl f<=500000/\(0<=w/\w<=500000)/\wZ false (bD.Ic a f w) q=true/\wZ true (bD.Ch a f w) q=true/\jK (shD true (bD.Ch a f w) q)
def aGA(x:gE)(p:Int):Prop:=aQ x/\(1<=p/\p<=67100)/\((dv x).1≠0->-600000<=aR.iR (dv x)/\(2*aR.iR (dv x)+8 < -p->bI.jW (1,0) (-1,-p-3)=true) /\
 (¬2*aR.iR (dv x)+8 < -p->Su (dv x) p/\aNF (aR.Cb (dv x) p).2 (2^(2*aR.hv (dv x) p+22)) (aR.w2 (dv x) p) (p+32)))
def sp(x:gE)(p:Int):Prop×List D:=(aGA x p,
 [uX (rT (dv x) p) (qN (dv x) p)])
theorem spec:gT E f160 aE iX (pN .i64) sp:=by
 rintro x p ⟨hx,⟨p0,p1⟩,h⟩;refine(start x.1 x.2.1 x.2.2 p).trans ?_;have hz:=M6.dZ hx.Hv;have hl:=hx.len;have he:=hx.2.1;have ha:(dv x).1.natAbs=M6.val x.2.1:=iG (x.1,x.2.1);have aVM:(x.1,x.2.1,x.2.2)=x:=rfl;have n1:aN 1 0=(1,0):=by decide +kernel
 have v1:wv (isNeg 1,M6.dg (cFK 1))=1:=nA 1;have hT:(if(dv x).1=0 then 0 else x.2.2+(bl (M6.val x.2.1):Int)-1)=aR.iR (dv x):=by rw[<-ha];rfl
 have k1:gL (isNeg 1,M6.dg 1):=fT (z:=1) (by decide +kernel);have pn:jK (1,0):=⟨by decide +kernel,⟨by decide,by decide⟩,fun h=>absurd h (by decide),fun _=>by decide⟩;unfold sp rT qN;dsimp only
 by_cases c0:(dv x).1=0
 ·rw[cO (by have:=hz.2 (by omega);omega),gP ⟨by decide,by decide⟩,if_pos c0,if_pos c0];simp only[aG,n1];rfl
 ·obtain⟨t0,hA,hB⟩:=h c0;have tt:=hx.vD.top;have l0:x.2.1.length≠0:=fun hc=>c0 (by have:=hz.1 hc;omega)
  simp only[aVM,hT,aG,n1,v1];rw[bN,if_neg c0,if_neg c0];have tU:aR.iR (dv x)<=1572864:=by unfold aR.iR;rw[if_neg c0];exact tt.2
  have w1:i64.wrap (i64.wrap (2*aR.iR (dv x))+8)=2*aR.iR (dv x)+8:=by rw[wrap_i64 (n:=2*aR.iR (dv x)),wrap_i64]
  have w2:i64.wrap (0-p)=-p:=by rw[wrap_i64];omega
  have w3:i64.wrap (-p-3)=-p-3:=wrap_i64;have w4:i64.wrap (p+32)=p+32:=wrap_i64;simp only[w1,w2,w3,w4];rw[gP hx]
  by_cases c1:2*aR.iR (dv x)+8 < -p
  ·have b1:bl (cFK 1)=1:=rfl;have i1:gY 1 (-p-3)=true:=gQ (by omega) (by rw[b1];omega);have m1:aN 1 (-p-3)=(1,-p-3):=by
    unfold aN;rw[if_neg (by decide),show tz (cFK 1)=0 from by decide +kernel];simp
   have pg:jK (1,-p-3):=m1▸gM i1 (by decide +kernel);have d1:=dG pn;have d2:=dG pg;have e1:=dU ((1,0):Int×Int);have e2:=dU ((1,-p-3):Int×Int);rw[aP c1,if_pos c1,if_pos c1];simp only[i1,m1,cond_true,e1,e2,hA c1];rw[gP ⟨by decide,by decide⟩,gP ⟨k1,by omega,by omega⟩,gP ⟨by decide,by decide⟩,gP ⟨d1,d2⟩,gP ⟨by decide,by decide⟩];rfl
  ·obtain⟨⟨b1,b2⟩,a1,a2,a3,a4,a5,a6⟩:=hB c1;rw[aL c1,if_neg c1,if_neg c1];simp only[M6.bQ];rw[gP ⟨hx,⟨by omega,by omega⟩,b1,b2⟩,gP ⟨M6.aY _,M6.aY _,a1,a2,a3,⟨by omega,by omega⟩,a4,a5,a6⟩];rfl
def aJ:dK:=orc2 iX (pN .i64) sp
theorem ok:OK 160 aJ:=(eZ E aE (aA Mq.ok (aA Ar.ok (aA iY.ok (aA aGM.ok (aA Tq.ok (aA aNY.ok (aA aR.ok (aA bD.ok aD)))))))) func160).mT rfl spec
end bC
namespace jY
def E:=mE [(67,uU.aJ),(68,aNZ.aJ)] 27 [] [] []
def aE:=bd f20
theorem aX:Nk E aE:=nk
theorem start a b c d e f:aH E f20 aE [D.agg [sc (bool a),ints u64 b,sc (int i64 c),sc (bool d),ints u64 e,sc (int i64 f)]]=letI B:=dv (a,b,c);letI A:=dv (d,e,f);aO (eQ (a,b,c,d,e,f)) (aO (aQ (d,e,f)) (aC (isNeg (-A.fst)) fun g=>aC (M6.dg (-A.fst).natAbs) fun h=>aC A.snd fun i=>aO (aQ (a,b,c)) (aC (isNeg (-B.fst)) fun j=>aC (M6.dg (-B.fst).natAbs) fun k=>aC B.snd fun l=>some [D.agg [sc (bool g),ints u64 h,sc (int i64 i),sc (bool j),ints u64 k,sc (int i64 l)],D.s (sc (int i64 0))]))):=eJ aX
def wH(p:Int×Int):Int×Int:=(-p.1,p.2)
def sp(s:wV):Prop×List D:=(eQ s,[uX (wH (dv (hI s))) (wH (dv (gZ s))),.s (.sc (.int .i64 0))])
theorem spec:jE E f20 aE yJ sp:=by
 intro s h;have h:eQ s:=h;have hL:aQ (s.1,s.2.1,s.2.2.1):=h.1;have hH:aQ (s.2.2.2.1,s.2.2.2.2.1,s.2.2.2.2.2):=h.2.1;refine(start s.1 s.2.1 s.2.2.1 s.2.2.2.1 s.2.2.2.2.1 s.2.2.2.2.2).trans ?_;simp only[aG];rw[gP h,gP hH]
 (try simp only[aG])
 rw[gP hL];rfl
def aJ:dK:=orc1 yJ sp
theorem ok:OK 20 aJ:=(eZ E aE (aA uU.ok (aA aNZ.ok aD)) func20).pU rfl spec
end jY
namespace Ha
def E:=mE [(20,jY.aJ)] 12 [] [] []
def aE:=bd f204
theorem aX:Nk E aE:=nk
theorem start a c d e f g b:aH E f204 aE [D.agg [sc (bool a),ints u64 c,sc (int i64 d),sc (bool e),ints u64 f,sc (int i64 g)],D.s (sc (bool b))]=letI A:=(a,c,d,e,f,g);letI C:=dv (gZ A);letI B:=dv (hI A);aB b (aO (eQ A) (some [D.agg [sc (bool (isNeg (-B.fst))),ints u64 (M6.dg (-B.fst).natAbs),sc (int i64 B.snd),sc (bool (isNeg (-C.fst))),ints u64 (M6.dg (-C.fst).natAbs),sc (int i64 C.snd)]])) (some [D.agg [sc (bool a),ints u64 c,sc (int i64 d),sc (bool e),ints u64 f,sc (int i64 g)]]):=eJ aX
def sp(s:wV)(b:Bool):Prop×List D:=(eQ s,[uX (bif b then jY.wH (dv (hI s))else dv (gZ s)) (bif b then jY.wH (dv (gZ s))else dv (hI s))])
theorem spec:gT E f204 aE yJ pB sp:=by
 intro s b h;have h:eQ s:=id h;refine(start s.1 s.2.1 s.2.2.1 s.2.2.2.1 s.2.2.2.2.1 s.2.2.2.2.2 b).trans ?_;unfold sp;cases b with
 |true =>
  show aO _ _=_;have h':eQ (s.1,s.2.1,s.2.2.1,s.2.2.2.1,s.2.2.2.2.1,s.2.2.2.2.2):=h;rw[gP h'];rfl
 |false =>
  dsimp only[cond_false];rw[h.uX]
def aJ:dK:=orc2 yJ pB sp
theorem ok:OK 204 aJ:=(eZ E aE (aA jY.ok aD) func204).mT rfl spec
end Ha
namespace fG
def E:=mE [(202,Mq.aJ),(203,Ar.aJ),(163,aYN.aJ),(162,Nf.aJ),(50,iY.aJ),(51,aGM.aJ),(59,Tq.aJ),(204,Ha.aJ),(205,aR.aJ),(206,bD.aJ)] 92 [] [] []
def aE:=bd f157
theorem aX:Nk E aE:=nk
theorem start a c d b:aH E f157 aE [D.agg [sc (bool a),ints u64 c,sc (int i64 d)],D.s (sc (int i64 b))]=letI F1:=wv (isNeg 1,M6.dg (cFK 1));letI B1:=aN 0 0;letI I1:=M6.dg B1.fst.natAbs;letI A1:=dv (false,c,d);letI X:=aQ (false,c,d)/\1<=i64.wrap (b+32)/\i64.wrap (b+32)<=70000;letI W:=dv (a,c,d);letI U:=i64.wrap (b+32);letI B:=cE.nQ true A1.fst A1.snd U;letI O:=bif gY B.fst B.snd then aN B.fst B.snd else((0:Int),(0:Int));letI A:=cE.nQ false A1.fst A1.snd U;letI P:=bif gY A.fst A.snd then aN A.fst A.snd else((0:Int),(0:Int));aB ((c.length:Int)==(0:Int)) (aO ((-1000000:Int)<=(0:Int)/\(0:Int)<=(1000000:Int)) (aC (isNeg B1.fst) fun e=>aC I1 fun f=>aC B1.snd fun g=>aC (isNeg B1.fst) fun h=>aC I1 fun i=>aC B1.snd fun j=>some [D.agg [sc (bool e),ints u64 f,sc (int i64 g),sc (bool h),ints u64 i,sc (int i64 j)]])) (aO (aQ (a,c,d)) (aC (if W.fst=0 then(0:Int)else d+(↑(bl (M6.val c)):Int)-(1:Int)) fun k=>letI Y:=i64.wrap (k-b)-3;letI C:=bif gY F1 (i64.wrap Y)then aN F1 (i64.wrap Y)else((0:Int),(0:Int));aB (decide (i64.wrap (i64.wrap ((2:Int)*k)+8)<i64.wrap ((0:Int)-b))) (aO X (aC (isNeg O.fst) fun l=>aC (M6.dg O.fst.natAbs) fun m=>aC O.snd fun n=>aO X (aC (isNeg P.fst) fun o=>aC (M6.dg P.fst.natAbs) fun p=>aC P.snd fun q=>aO ((-9223372036854775808:Int)<=(1:Int)/\(1:Int)<(9223372036854775808:Int)) (aO (gL (isNeg 1,M6.dg 1)/\(-9223372036854775808:Int)<=i64.wrap Y/\i64.wrap Y<9223372036854775808) (aC (isNeg C.fst) fun r=>aC (M6.dg C.fst.natAbs) fun s=>aC C.snd fun t=>letI G1:=dv (r,s,t);letI F:=bif bI.jW (dv (o,p,q)) (-G1.fst,G1.snd)then bI.nD (dv (o,p,q)) (-G1.fst,G1.snd)else((0:Int),(0:Int));aO (aQ (o,p,q)/\aQ (r,s,t)) (aC (isNeg F.fst) fun u=>aC (M6.dg F.fst.natAbs) fun v=>aC F.snd fun w=>letI Z:=(u,v,w,l,m,n);letI K:=bif a then jY.wH (dv (gZ Z))else dv (hI Z);letI I:=bif a then jY.wH (dv (hI Z))else dv (gZ Z);aO (eQ Z) (aC (isNeg I.fst) fun x=>aC (M6.dg I.fst.natAbs) fun y=>aC I.snd fun z=>aC (isNeg K.fst) fun aa=>aC (M6.dg K.fst.natAbs) fun ab=>aC K.snd fun ac=>some [D.agg [sc (bool x),ints u64 y,sc (int i64 z),sc (bool aa),ints u64 ab,sc (int i64 ac)]]))))))) (aO (aQ (a,c,d)/\(1<=b/\b<=70000)/\((-70000:Int)<=aR.iR W/\aR.iR W<=100)/\aR.bU W b<=(2:Nat)^(aR.w1 W b).toNat) (aC (M6.dg (aR.Cb W b).fst) fun ad=>letI K1:=M6.val ad;aC (M6.dg ((2:Nat)^((2:Nat)*aR.hv W b+22))) fun ae=>letI N1:=M6.val ae;aC (aR.w2 W b) fun af=>letI D1:=bD.Ch K1 N1 af;letI C1:=bD.Ic K1 N1 af;letI N:=M.shD false C1 U;letI G:=M.shD true D1 U;letI H1:=bD.xU G;aO (M6.cR ad/\M6.cR ae/\bl K1<=500000/\bl N1<=500000/\(0<=af/\af<=500000)/\(1<=i64.wrap (b+32)/\i64.wrap (b+32)<=70000)/\wZ false C1 U=true/\wZ true D1 U=true/\jK G) (aC (isNeg N.fst) fun ag=>aC (M6.dg N.fst.natAbs) fun ah=>aC N.snd fun ai=>aC (isNeg H1.fst) fun aj=>aC (M6.dg H1.fst.natAbs) fun ak=>aC H1.snd fun al=>letI H:=(ag,ah,ai,aj,ak,al);letI T:=bif a then jY.wH (dv (gZ H))else dv (hI H);letI Q:=bif a then jY.wH (dv (hI H))else dv (gZ H);aO (eQ H) (aC (isNeg Q.fst) fun am=>aC (M6.dg Q.fst.natAbs) fun an=>aC Q.snd fun ao=>aC (isNeg T.fst) fun ap=>aC (M6.dg T.fst.natAbs) fun aq=>aC T.snd fun ar=>some [D.agg [sc (bool am),ints u64 an,sc (int i64 ao),sc (bool ap),ints u64 aq,sc (int i64 ar)]])))))):=eJ aX
def tQ(x:Int×Int)(p:Int):Int×Int:=if 2*aR.iR x+8 < -p then bI.nD (shD false ((x.1.natAbs:Int),x.2) (p+32)) (-1,aR.iR x-p-3)else shD false (bD.Ic (aR.Cb x p).1 (2^(2*aR.hv x p+22)) (aR.w2 x p)) (p+32)
def sH(x:Int×Int)(p:Int):Int×Int:=if 2*aR.iR x+8 < -p then shD true ((x.1.natAbs:Int),x.2) (p+32)else bD.xU (shD true (bD.Ch (aR.Cb x p).1 (2^(2*aR.hv x p+22)) (aR.w2 x p)) (p+32))
def Jz(x:Int×Int)(p:Int):Int×Int:=if x.1=0 then(0,0)else bif isNeg x.1 then jY.wH (sH x p)else tQ x p
def Ka(x:Int×Int)(p:Int):Int×Int:=if x.1=0 then(0,0)else bif isNeg x.1 then jY.wH (tQ x p)else sH x p
def aPA(x:gE)(p:Int):Prop:=aQ x/\(1<=p/\p<=67100)/\((dv x).1≠0->-600000<=aR.iR (dv x)/\jK (tQ (dv x) p)/\jK (sH (dv x) p)/\eF (tQ (dv x) p) (sH (dv x) p)<=0 /\
 (2*aR.iR (dv x)+8 < -p->wZ true ((((dv x).1.natAbs:Nat):Int),(dv x).2) (p+32)=true/\wZ false ((((dv x).1.natAbs:Nat):Int),(dv x).2) (p+32)=true/\jK (shD false ((((dv x).1.natAbs:Nat):Int),(dv x).2) (p+32))/\bI.jW (shD false ((((dv x).1.natAbs:Nat):Int),(dv x).2) (p+32)) (-1,aR.iR (dv x)-p-3)=true) /\
 (¬2*aR.iR (dv x)+8 < -p->bC.Su (dv x) p/\bC.aNF (aR.Cb (dv x) p).1 (2^(2*aR.hv (dv x) p+22)) (aR.w2 (dv x) p) (p+32)))
def sp(x:gE)(p:Int):Prop×List D:=(aPA x p,
 [uX (Jz (dv x) p) (Ka (dv x) p)])
theorem spec:gT E f157 aE iX (pN .i64) sp:=by
 rintro x p ⟨hx,⟨p0,p1⟩,h⟩;refine(start x.1 x.2.1 x.2.2 p).trans ?_;have hz:=M6.dZ hx.Hv;have he:=hx.2.1;have ha:(dv x).1.natAbs=M6.val x.2.1:=iG (x.1,x.2.1);have aVM:(x.1,x.2.1,x.2.2)=x:=rfl;have n0:aN 0 0=(0,0):=fC 0;have hT:(if(dv x).1=0 then 0 else x.2.2+(bl (M6.val x.2.1):Int)-1)=aR.iR (dv x):=by rw[<-ha];rfl
 have hN:isNeg (dv x).1=x.1:=hx.Dh.cells.1;have v1:wv (isNeg 1,M6.dg (cFK 1))=1:=nA 1;have k1:gL (isNeg 1,M6.dg 1):=fT (z:=1) (by decide +kernel);unfold sp Jz Ka;dsimp only
 by_cases c0:(dv x).1=0
 ·rw[cO (by have:=hz.2 (by omega);omega),gP ⟨by decide,by decide⟩,if_pos c0,if_pos c0];simp only[aG,n0];rfl
 ·obtain⟨t0,q1,q2,q3,hA,hB⟩:=h c0;have tt:=hx.vD.top;have l0:x.2.1.length≠0:=fun hc=>c0 (by have:=hz.1 hc;omega)
  have tU:aR.iR (dv x)<=1572864:=by unfold aR.iR;rw[if_neg c0];exact tt.2
  simp only[aVM,hT,aG,v1];rw[bN,if_neg c0,if_neg c0];have w1:i64.wrap (i64.wrap (2*aR.iR (dv x))+8)=2*aR.iR (dv x)+8:=by rw[wrap_i64 (n:=2*aR.iR (dv x)),wrap_i64]
  have w2:i64.wrap (0-p)=-p:=by rw[wrap_i64];omega
  have w3:i64.wrap (i64.wrap (aR.iR (dv x)-p)-3)=aR.iR (dv x)-p-3:=by rw[wrap_i64 (n:=aR.iR (dv x)-p),wrap_i64]
  have w4:i64.wrap (p+32)=p+32:=wrap_i64;simp only[w1,w2,w3,w4];rw[gP hx];have sk:eQ (mN (tQ (dv x) p) (sH (dv x) p)):=xF q1 q2 q3;have eL:=oN (tQ (dv x) p) (sH (dv x) p);have eH:=oO (tQ (dv x) p) (sH (dv x) p);rw[hN];unfold mN at sk eL eH
  by_cases c1:2*aR.iR (dv x)+8 < -p
  ·obtain⟨s1,s2,s3,s4⟩:=hA c1;have ok:aQ (false,x.2.1,x.2.2):=⟨⟨hx.1.1,fun hf=>(by cases hf),hx.1.len⟩,hx.2⟩;have vx:dv (false,x.2.1,x.2.2)=((((dv x).1.natAbs:Nat):Int),(dv x).2):=by rw[ha];rfl
   have b1:bl (cFK 1)=1:=rfl;have i1:gY 1 (aR.iR (dv x)-p-3)=true:=gQ (by omega) (by rw[b1];omega);have m1:aN 1 (aR.iR (dv x)-p-3)=(1,aR.iR (dv x)-p-3):=by
    unfold aN;rw[if_neg (by decide),show tz (cFK 1)=0 from by decide +kernel];simp
   have pg:jK (1,aR.iR (dv x)-p-3):=m1▸gM i1 (by decide +kernel);have e2:=dU ((1,aR.iR (dv x)-p-3):Int×Int);have d2:=dG pg;have d3:=dG s3;have e3:=dU (shD false ((((dv x).1.natAbs:Nat):Int),(dv x).2) (p+32));have bPP:gY (cE.nQ true (((dv x).1.natAbs:Nat):Int) (dv x).2 (p+32)).1 (cE.nQ true (((dv x).1.natAbs:Nat):Int) (dv x).2 (p+32)).2=true:=s1;have bPO:gY (cE.nQ false (((dv x).1.natAbs:Nat):Int) (dv x).2 (p+32)).1 (cE.nQ false (((dv x).1.natAbs:Nat):Int) (dv x).2 (p+32)).2=true:=s2;have u1:aN (cE.nQ true (((dv x).1.natAbs:Nat):Int) (dv x).2 (p+32)).1 (cE.nQ true (((dv x).1.natAbs:Nat):Int) (dv x).2 (p+32)).2=shD true ((((dv x).1.natAbs:Nat):Int),(dv x).2) (p+32):=rfl;have u2:aN (cE.nQ false (((dv x).1.natAbs:Nat):Int) (dv x).2 (p+32)).1 (cE.nQ false (((dv x).1.natAbs:Nat):Int) (dv x).2 (p+32)).2=shD false ((((dv x).1.natAbs:Nat):Int),(dv x).2) (p+32):=rfl;have dL:tQ (dv x) p=bI.nD (shD false ((((dv x).1.natAbs:Nat):Int),(dv x).2) (p+32)) (-1,aR.iR (dv x)-p-3):=if_pos c1;have dH:sH (dv x) p=shD true ((((dv x).1.natAbs:Nat):Int),(dv x).2) (p+32):=if_pos c1;rw[aP c1];simp only[vx,bPP,bPO,u1,u2,i1,m1,cond_true,e2,e3,s4];rw[gP ⟨ok,by omega,by omega⟩,gP ⟨ok,by omega,by omega⟩,gP ⟨by decide,by decide⟩,gP ⟨k1,by omega,by omega⟩,gP ⟨d3,d2⟩,<-dL,<-dH,gP sk,eL,eH];rfl
  ·obtain⟨⟨b1,b2⟩,a1,a2,a3,a4,a5,a6⟩:=hB c1;have dL:tQ (dv x) p=shD false (bD.Ic (aR.Cb (dv x) p).1 (2^(2*aR.hv (dv x) p+22)) (aR.w2 (dv x) p)) (p+32):=if_neg c1;have dH:sH (dv x) p=bD.xU (shD true (bD.Ch (aR.Cb (dv x) p).1 (2^(2*aR.hv (dv x) p+22)) (aR.w2 (dv x) p)) (p+32)):=if_neg c1;rw[aL c1];simp only[M6.bQ];rw[gP ⟨hx,⟨by omega,by omega⟩,b1,b2⟩,gP ⟨M6.aY _,M6.aY _,a1,a2,a3,⟨by omega,by omega⟩,a4,a5,a6⟩,<-dL,<-dH,gP sk,eL,eH];rfl
def aJ:dK:=orc2 iX (pN .i64) sp
theorem ok:OK 157 aJ:=(eZ E aE (aA Mq.ok (aA Ar.ok (aA aYN.ok (aA Nf.ok (aA iY.ok (aA aGM.ok (aA Tq.ok (aA Ha.ok (aA aR.ok (aA bD.ok aD)))))))))) func157).mT rfl spec
end fG
end W
namespace R
def Po(F D X p q p' q':Nat):Bool :=
 bVR 9007199254740992 q'&&((bVP (p*q') (p'*q+1)||bVP (p'*q) (p*q'+1)) &&
 ((bVR (p*(F+1)+D) (q*X)&&bVR (q'*X) (p'*F))||(bVR (q*X+D) (p*F)&&bVR (p'*(F+1)) (q'*X))))
def aZM(F D X:Nat)(f:Nat):Nat->Nat->Nat->Nat->Nat->Nat->Bool:=Nat.rec (motive:=fun _=>Nat->Nat->Nat->Nat->Nat->Nat->Bool) (fun _ _ _ _ _ _=>false)
 (fun _ ih a b p q p' q'=>cond (bVR 9007199254740992 q') (Po F D X p q p' q') (gI (a/b) fun t=>gI (a-t*b) fun r=>gI (t*p'+p) fun p2=>gI (t*q'+q) fun q2=>ih b r p' q' p2 q2)) f
def aRF(F D:Nat)(n:Nat):Nat->Bool:=Nat.rec (motive:=fun _=>Nat->Bool) (fun _=>true) (fun _ ih X=>aZM F D X 80 X F 0 1 1 0&&gI (2*X) fun X'=>ih X') n
def bDW(w n:Nat):Bool :=
 Prod.rec (motive:=fun _=>Bool) (fun t5 s5=>Prod.rec (motive:=fun _=>Bool) (fun t239 lS =>
  bVR (4*lS) (16*s5)&&(bVP t5 0&&(bVP t239 0 &&
  gI ((16*s5-4*lS)/2^64) fun F=>gI (2^(w-64-62)) fun D=>gI (2^(w-64-53)) fun X =>
  bVP (((16*s5-4*lS)+2^40)/2^64) F&&(bVP (((16*s5-4*lS)-2^40)/2^64) F&&aRF F D n X))))
  (Yc 239 w 10 10)) (Yc 5 w 20 20)
theorem bQG{L L' s m k p q p' q' P X:Rat}(hL:L=q*X-p*P)(bFV:L'=q'*X-p'*P)(hs:s*s=1)(aLE:p*q'-p'*q=s):m*X-k*P=s*(k*q'-m*p')*L+s*(m*p-k*q)*L':=by
 subst hL;subst bFV;have e1:s*(k*q'-m*p')*(q*X-p*P)+s*(m*p-k*q)*(q'*X-p'*P)=s*(p*q'-p'*q)*(m*X-k*P):=by grind
 rw[e1,aLE,hs];grind
theorem Ux{a b:Bool}(h:(a||b)=true):a=true\/b=true:=by simpa using h
theorem uN{a:Int}(h:0<a):(1:Rat)<=(a:Rat):=by exact_mod_cast h
theorem aQX {F D X p q p' q' : Nat} (h : Po F D X p q p' q' = true) {P : Rat} (h1 : (F : Rat) ≤ P) (h2 : P ≤ (F : Rat) + 1) {m k : Int} (hm : 0 < m) (aTK : m < 9007199254740992) : (D : Rat) ≤ ab ((m : Rat) * (X : Rat) - (k : Rat) * P) := by
  unfold Po at h
  obtain ⟨c1, h⟩ := fD h
  obtain ⟨c2, c3⟩ := fD h
  have c1 := bXM c1
  obtain ⟨s, hs, aLE⟩ : ∃ s : Int, s * s = 1 ∧ (p : Int) * q' - p' * q = s := by
    rcases Ux c2 with h | h
    · have := bWD h
      exact ⟨1, rfl, by have : (p : Int) * q' = p' * q + 1 := by exact_mod_cast this
                        omega⟩
    · have := bWD h
      exact ⟨-1, rfl, by have : (p' : Int) * q = p * q' + 1 := by exact_mod_cast this
                         omega⟩
  obtain ⟨a, ha⟩ : ∃ a : Int, a = s * (k * q' - m * p') := ⟨_, rfl⟩
  obtain ⟨b, hb⟩ : ∃ b : Int, b = s * (m * p - k * q) := ⟨_, rfl⟩
  have hmab : m = a * q + b * q' := by
    have : a * q + b * q' = s * (p * q' - p' * q) * m := by rw [ha, hb]; grind
    rw [this, aLE, hs]; omega
  obtain ⟨L, hL⟩ : ∃ L : Rat, L = (q : Rat) * X - (p : Rat) * P := ⟨_, rfl⟩
  obtain ⟨L', bFV⟩ : ∃ L' : Rat, L' = (q' : Rat) * X - (p' : Rat) * P := ⟨_, rfl⟩
  have bMW : (s : Rat) * (s : Rat) = 1 := by exact_mod_cast hs
  have aFK : (p : Rat) * q' - p' * q = (s : Rat) := by
    have := congrArg (Int.cast : Int → Rat) aLE
    rw [cJM, cGU, cGU, cGV, cGV, cGV, cGV] at this
    exact this
  have aVY := bQG (m := (m : Rat)) (k := (k : Rat)) hL bFV bMW aFK
  have bOM : (s : Rat) * ((k : Rat) * q' - m * p') = (a : Rat) := by
    rw [ha]; push_cast; rfl
  have bOL : (s : Rat) * ((m : Rat) * p - k * q) = (b : Rat) := by
    rw [hb]; push_cast; rfl
  rw [bOM, bOL] at aVY
  rw [aVY]
  have aYW : (0 : Int) ≤ q := by omega
  have hq'0 : (9007199254740992 : Int) ≤ q' := by omega
  have aKT : (0 : Rat) ≤ (p : Rat) := by exact_mod_cast cBX p
  have bBN : (0 : Rat) ≤ (p' : Rat) := by exact_mod_cast cBX p'
  have aYV : ((D : Rat) ≤ L ∧ L' ≤ 0) ∨ ((D : Rat) ≤ -L ∧ 0 ≤ L') := by
    rcases Ux c3 with h | h
    · obtain ⟨d1, d2⟩ := fD h
      have d1 : ((p * (F + 1) + D : Nat) : Rat) ≤ ((q * X : Nat) : Rat) := by exact_mod_cast bXM d1
      have d2 : ((q' * X : Nat) : Rat) ≤ ((p' * F : Nat) : Rat) := by exact_mod_cast bXM d2
      push_cast at d1 d2
      have := aF aKT (show 0 ≤ (F : Rat) + 1 - P by grind)
      have := aF bBN (show 0 ≤ P - (F : Rat) by grind)
      left
      constructor <;> grind
    · obtain ⟨d1, d2⟩ := fD h
      have d1 : ((q * X + D : Nat) : Rat) ≤ ((p * F : Nat) : Rat) := by exact_mod_cast bXM d1
      have d2 : ((p' * (F + 1) : Nat) : Rat) ≤ ((q' * X : Nat) : Rat) := by exact_mod_cast bXM d2
      push_cast at d1 d2
      have := aF aKT (show 0 ≤ P - (F : Rat) by grind)
      have := aF bBN (show 0 ≤ (F : Rat) + 1 - P by grind)
      right
      constructor <;> grind
  have hD0 : (0 : Rat) ≤ (D : Rat) := by exact_mod_cast cBX D
  clear aVY bOM bOL aFK bMW hL bFV ha hb aLE hs c2 c3
  rcases cJT b 0 with hb | hb | hb
  · have aQU : 0 < a := by
      refine Int.not_le.1 fun hn => ?_
      have := cHN (show 0 ≤ -a by omega) aYW
      have := cHN (show 0 ≤ -b by omega) (show (0 : Int) ≤ q' by omega)
      rw [cEW] at *
      omega
    have r1 := uN aQU
    have r2 := uN (show 0 < -b by omega)
    have r2 : (1 : Rat) ≤ -(b : Rat) := by rw [← cIM]; exact r2
    rcases aYV with ⟨g1, g2⟩ | ⟨g1, g2⟩
    · have := aF (show 0 ≤ (a : Rat) - 1 by grind) (show 0 ≤ L by grind)
      have := aF (show 0 ≤ -(b : Rat) by grind) (show 0 ≤ -L' by grind)
      have := By ((a : Rat) * L + (b : Rat) * L')
      grind
    · have := aF (show 0 ≤ (a : Rat) - 1 by grind) (show 0 ≤ -L by grind)
      have := aF (show 0 ≤ -(b : Rat) by grind) (show 0 ≤ L' by grind)
      have := nJ ((a : Rat) * L + (b : Rat) * L')
      grind
  · subst hb
    have aQU : 0 < a := by
      refine Int.not_le.1 fun hn => ?_
      have := cHN (show 0 ≤ -a by omega) aYW
      rw [cEW] at *
      omega
    have r1 := uN aQU
    have z : ((0 : Int) : Rat) = 0 := by norm_cast
    rw [z]
    rcases aYV with ⟨g1, g2⟩ | ⟨g1, g2⟩
    · have := aF (show 0 ≤ (a : Rat) - 1 by grind) (show 0 ≤ L by grind)
      have := By ((a : Rat) * L + 0 * L')
      grind
    · have := aF (show 0 ≤ (a : Rat) - 1 by grind) (show 0 ≤ -L by grind)
      have := nJ ((a : Rat) * L + 0 * L')
      grind
  · have aQU : a < 0 := by
      refine Int.not_le.1 fun hn => ?_
      have := cHN hn aYW
      have := bXY (show 1 ≤ b by omega) (show (0 : Int) ≤ q' by omega)
      omega
    have r1 := uN (show 0 < -a by omega)
    have r1 : (1 : Rat) ≤ -(a : Rat) := by rw [← cIM]; exact r1
    have r2 := uN hb
    rcases aYV with ⟨g1, g2⟩ | ⟨g1, g2⟩
    · have := aF (show 0 ≤ -(a : Rat) - 1 by grind) (show 0 ≤ L by grind)
      have := aF (show 0 ≤ (b : Rat) by grind) (show 0 ≤ -L' by grind)
      have := nJ ((a : Rat) * L + (b : Rat) * L')
      grind
    · have := aF (show 0 ≤ -(a : Rat) - 1 by grind) (show 0 ≤ -L by grind)
      have := aF (show 0 ≤ (b : Rat) by grind) (show 0 ≤ L' by grind)
      have := By ((a : Rat) * L + (b : Rat) * L')
      grind
theorem aXB{F D X:Nat}:∀(f a b p q p' q':Nat),aZM F D X f a b p q p' q'=true->∃p q p' q',Po F D X p q p' q'=true:=by
 intro f
 induction f with
 |zero=>intro a b p q p' q' h;exact absurd h (by simp[aZM])
 |succ f ih =>
  intro a b p q p' q' h;have e:aZM F D X (f+1) a b p q p' q'=cond (bVR 9007199254740992 q') (Po F D X p q p' q') (gI (a/b) fun t=>gI (a-t*b) fun r=>gI (t*p'+p) fun p2=>gI (t*q'+q) fun q2=>aZM F D X f b r p' q' p2 q2):=rfl;rw[e]at h;cases hc:bVR 9007199254740992 q' with
  |true=>rw[hc]at h;exact⟨_,_,_,_,h⟩
  |false =>
   rw[hc,cond_false,eR,eR,eR,eR]at h;exact ih _ _ _ _ _ _ h
theorem aRE{F D:Nat}:∀(n X:Nat),aRF F D n X=true->∀i,i<n->∃p q p' q',Po F D (2^i*X) p q p' q'=true:=by
 intro n
 induction n with
 |zero=>intro X _ i hi;omega
 |succ n ih =>
  intro X h i hi;have e:aRF F D (n+1) X=(aZM F D X 80 X F 0 1 1 0&&gI (2*X) fun X'=>aRF F D n X'):=rfl;rw[e,eR]at h;obtain⟨h1,h2⟩:=fD h;cases i with
  |zero =>
   rw[Nat.pow_zero,bZS];exact aXB _ _ _ _ _ _ _ h1
  |succ i =>
   have:=ih _ h2 i (by omega);rw[cAN,cAR];exact this
theorem bLC:bDW 1464 1030=true:=by kernel_rfl
theorem aPZ{s5 lS:Nat}{W a b:Rat}(hle:4*lS<=16*s5)(h5:ab ((s5:Rat)-W*Wy 5)<=a)(Sb:ab ((lS:Rat)-W*Wy 239)<=b):ab (((16*s5-4*lS:Nat):Rat)-W*pi)<=16*a+4*b:=by
 have hc:((16*s5-4*lS:Nat):Rat)+4*(lS:Rat)=16*(s5:Rat):=by exact_mod_cast(show 16*s5-4*lS+4*lS=16*s5 by omega)
 unfold pi;rw[bW]at *;grind
theorem Yz{m k:Int}{i:Nat}(hi:i<1030)(hm:0<m)(aTK:m<9007199254740992):1/4611686018427387904<=ab ((m:Rat)*((2^i:Nat):Rat)/9007199254740992-(k:Rat)*pi):=by
 have h:=bLC;unfold bDW at h;have h5:=Gw (n:=5) (by omega) 1464 20 20 (by omega);have Sb:=Gw (n:=239) (by omega) 1464 10 10 (by omega);generalize hw:(1464:Nat)=w at *;generalize Yc 5 w 20 20=A at *;generalize Yc 239 w 10 10=B at *;obtain⟨t5,s5⟩:=A;obtain⟨t239,lS⟩:=B;dsimp only at *;obtain⟨bPA,h⟩:=fD h;obtain⟨z5,h⟩:=fD h;obtain⟨aUB,h⟩:=fD h;rw[eR,eR,eR]at h;obtain⟨q1,h⟩:=fD h;obtain⟨q2,h⟩:=fD h;have q1:=bWD q1;have q2:=bWD q2;have h5:=h5 (bWD z5);have Sb:=Sb (bWD aUB);obtain⟨p,q,p',q',hg⟩:=aRE _ _ h i hi;have aLK:ab (((16*s5-4*lS:Nat):Rat)-((2^w:Nat):Rat)*pi)<=524288:=by
  have:=aPZ (bXM bPA) h5 Sb;refine cFT this ?_;have n1:((2*(20*20):Nat):Rat)=800:=by norm_cast
  have n2:((2*(10*10):Nat):Rat)=200:=by norm_cast
  rw[n1,n2];grind
 generalize 16*s5-4*lS=P at *;have aMH:=tG w (by omega);have lo:((P/2^64:Nat):Rat)<=((2^(w-64):Nat):Rat)*pi:=by
  have:2^64*(P/2^64)<=P-2^40:=by
   have:=Nat.mul_div_le (P-2^40) (2^64);rwa [q2]at this
  have hz:P/2^64=0\/2^64*(P/2^64)+2^40<=P:=by omega
  rcases hz with hz |h2
  ·rw[hz];have h3:(0:Rat)<=((2^(w-64):Nat):Rat):=by exact_mod_cast cBX _
   have:=aF h3 (cFS (show 0<pi from by have:=gX.1;grind));have z:((0:Nat):Rat)=0:=by norm_cast
   rw[z];exact this
  ·have h3:((2^64:Nat):Rat)*((P/2^64:Nat):Rat)+((2^40:Nat):Rat)<=(P:Rat):=by exact_mod_cast h2
   rw[aMH,cFU,bW]at aLK;have n1:((2^64:Nat):Rat)=18446744073709551616:=by norm_cast
   have n2:((2^40:Nat):Rat)=1099511627776:=by norm_cast
   rw[n1]at aLK h3;rw[n2]at h3;refine bV (q:=18446744073709551616) (by grind) ?_;generalize ((2^(w-64):Nat):Rat)=W at *;grind
 have aCZ:((2^(w-64):Nat):Rat)*pi<=((P/2^64:Nat):Rat)+1:=by
  have:P+2^40<2^64*(P/2^64+1):=by
   have:=Nat.lt_mul_div_succ (P+2^40) (show 0<2^64 by omega);rwa [q1]at this
  have h3:(P:Rat)+((2^40:Nat):Rat)<((2^64:Nat):Rat)*(((P/2^64:Nat):Rat)+1):=by exact_mod_cast this
  rw[aMH,cFU,bW]at aLK;have n1:((2^64:Nat):Rat)=18446744073709551616:=by norm_cast
  have n2:((2^40:Nat):Rat)=1099511627776:=by norm_cast
  rw[n1]at aLK h3;rw[n2]at h3;refine bV (q:=18446744073709551616) (by grind) ?_;generalize ((2^(w-64):Nat):Rat)=W at *;grind
 have bNL:=aQX hg lo aCZ (k:=k) hm aTK;have eD:((2^(w-64):Nat):Rat)=((2^(w-64-62):Nat):Rat)*4611686018427387904:=by
  have:2^(w-64)=2^(w-64-62)*2^62:=by rw[<-cAQ];congr 1;omega
  rw[this,cFU];congr 1
 have eX:((2^(w-64):Nat):Rat)=((2^(w-64-53):Nat):Rat)*9007199254740992:=by
  have:2^(w-64)=2^(w-64-53)*2^53:=by rw[<-cAQ];congr 1;omega
  rw[this,cFU];congr 1
 have aLI:(0:Rat)<((2^(w-64):Nat):Rat):=by exact_mod_cast cX
 have hWp2:(0:Rat)<((2^(w-64-62):Nat):Rat):=by exact_mod_cast cX
 have e:(m:Rat)*((2^i*2^(w-64-53):Nat):Rat)-(k:Rat)*(((2^(w-64):Nat):Rat)*pi)=((2^(w-64):Nat):Rat)*((m:Rat)*((2^i:Nat):Rat)/9007199254740992-(k:Rat)*pi):=by
  rw[cFU,eX];grind
 rw[e,fI,bG (cFS aLI)]at bNL;refine bV aLI ?_;rw[eD]at bNL ⊢;grind
end R
namespace R
def bEF(x:Rat):Prop:=∃m e:Int,0<m/\m<9007199254740992/\-53<=e/\e<=971/\(x=(m:Rat)*pz e\/x=-((m:Rat)*pz e))
theorem Vf{x:Rat}(h:bEF x){j:Nat}(hj:j=1\/j=2)(k:Int):1/4611686018427387904<=ab (((2^j:Nat):Rat)*x-(k:Rat)*pi):=by
 obtain⟨m,e,m0,m1,e0,e1,hx⟩:=h;obtain⟨i,hi⟩:=cAS (show 0<=e+53+(j:Int) by omega);have ep:((2^j:Nat):Rat)*((m:Rat)*pz e)=(m:Rat)*((2^i:Nat):Rat)/9007199254740992:=by
  have h1:pz (e+53+(j:Int))=((2^i:Nat):Rat):=by rw[hi,lT]
  rw[dY,jJ]at h1;have h2:pz 53=9007199254740992:=by rw[show(53:Int)=((53:Nat):Int)from rfl,lT];norm_cast
  rw[h2]at h1;rw[<-h1];grind
 rcases hx with rfl |rfl
 ·have:=Yz (i:=i) (k:=k) (by omega) m0 m1;rw[ep];exact this
 ·have:=Yz (i:=i) (k:=-k) (by omega) m0 m1;rw[<-ep,cIM]at this;have e2:ab (((2^j:Nat):Rat)*-((m:Rat)*pz e)-(k:Rat)*pi)=ab (((2^j:Nat):Rat)*((m:Rat)*pz e) - -(k:Rat)*pi):=by rw[<-iJ];congr 1;grind
  rw[e2];exact this
def rW(x:Rat)(k:Int):Prop:=ab (x-(k:Rat)*(pi/2))<=pi/4+1/36893488147419103232
def Fit(x:Rat):Prop:=bEF x\/ab x<=3/4
theorem aBQ{x:Rat}(h:ab x<=3/4){k:Int}(hk:rW x k):k=0:=by
 obtain⟨p1,p2⟩:=gX;unfold rW at hk;rw[bW]at hk h;refine Classical.byContradiction fun yT=>?_
 by_cases c:1<=k
 ·have c1:(1:Rat)<=(k:Rat):=by exact_mod_cast c
  have:=aF (show 0<=(k:Rat)-1 by grind) (show 0<=pi by grind);grind
 ·have c1:(k:Rat)<=-1:=by
   have:(k:Rat)<=((-1:Int):Rat):=Rat.intCast_le_intCast.2 (by omega);rwa [show((-1:Int):Rat)=-1 by norm_cast]at this
  have:=aF (show 0<=-1-(k:Rat) by grind) (show 0<=pi by grind);grind
theorem aAZ{x:Rat}(h:Fit x){k l:Int}(hk:rW x k)(hl:rW x l):¬k<l:=by
 intro jB;rcases h with h |h
 ·obtain⟨p1,p2⟩:=gX;unfold rW at hk hl;rw[bW]at hk hl
  by_cases e:l=k+1
  ·subst e;have c1:((k+1:Int):Rat)=(k:Rat)+1:=by norm_cast
   rw[c1]at hl;have n:=Vf h (j:=2) (Or.inr rfl) (2*k+1);have c2:((2*k+1:Int):Rat)=2*(k:Rat)+1:=by norm_cast
   have c3:((2^2:Nat):Rat)=4:=by norm_cast
   rw[c2,c3]at n;have:ab (4*x-(2*(k:Rat)+1)*pi)<=1/9223372036854775808:=by rw[bW];constructor <;> grind
   grind
  ·have c1:(k:Rat)+2<=(l:Rat):=by
    have:((k+2:Int):Rat)<=(l:Rat):=by exact_mod_cast(show k+2<=l by omega)
    rwa [show((k+2:Int):Rat)=(k:Rat)+2 by norm_cast]at this
   have:=aF (show 0<=(l:Rat)-(k:Rat)-2 by grind) (show 0<=pi by grind);grind
 ·have:=aBQ h hk;have:=aBQ h hl;omega
theorem aUD{x:Rat}(h:Fit x){k l:Int}(hk:rW x k)(hl:rW x l):k=l:=by
 have:=aAZ h hk hl;have:=aAZ h hl hk;omega
theorem aUQ{x:Rat}(h:bEF x)(k:Int):1/9223372036854775808<=ab (x-(k:Rat)*(pi/2)):=by
 have n:=Vf h (j:=1) (Or.inl rfl) k;have c3:((2^1:Nat):Rat)=2:=by norm_cast
 have e:((2^1:Nat):Rat)*x-(k:Rat)*pi=2*(x-(k:Rat)*(pi/2)):=by rw[c3];grind
 rw[e,fI,bG (show(0:Rat)<=2 by grind)]at n;grind
theorem qU{x:Rat}{k:Int}(h:rW x k):ab (x-(k:Rat)*(pi/2))<=79/100:=by
 obtain⟨p1,p2⟩:=gX;unfold rW at h;grind
theorem aMQ(r:Rat):cs (ab r)=cs r:=by
 unfold ab;split
 ·rfl
 ·rw[Zz]
theorem aIX{r:Rat}(h:ab r<=1):sn (ab r)=ab (sn r):=by
 by_cases h0:0<=r
 ·rw[bG h0]at *;rw[bG (Jy h0 h)]
 ·have e:ab r=-r:=by unfold ab;rw[if_neg h0]
  rw[e]at h;rw[e,<-iJ (sn r),<-Fi,bG (Jy (by grind) h)]
theorem Wn{r:Rat}(h:ab r<=4/5):17/25<=cs r/\cs r<=1:=by
 have h0:=aM r;obtain⟨c1,c2⟩:=Lz h0 (by grind);have m:=bZ h0 h h0 h;have m2:=aF h0 h0;have m3:=aF m2 (show 0<=6-ab r*ab r by grind);rw[aMQ]at c1 c2;generalize ab r=a at *;constructor <;> grind
theorem aBO{r:Rat}(h0:0<=r)(h:r<=4/5):4/5*r<=sn r/\sn r<=r:=by
 have h1:r<=1:=by grind
 refine⟨?_,aBN h0 h1⟩;have c1:=(zC h0 h1).1;have m:=bZ h0 h h0 h;have m3:=aF h0 (show 0<=16/25-r*r by grind);grind
theorem aST{a b:Int}(h:a<b):pz a<pz b:=by
 have h1:=cG (show a+1<=b by omega);have h2:=dJ a;rw[kF]at h1;grind
theorem aER{a b:Int}:pz a<=pz b↔a<=b:=by
 constructor
 ·intro h;refine Int.not_lt.1 fun hn=>?_
  have:=aST hn;grind
 ·exact cG
theorem wF{a b:Int}:pz a<pz b↔a<b:=by
 constructor
 ·intro h;refine Int.not_le.1 fun hn=>?_
  have:=cG hn;grind
 ·exact aST
theorem aJG:pz 1=2:=by rw[show(1:Int)=0+1 by rfl,kF,fV];grind
theorem qA(a:Int):pz (a-1)*2=pz a:=by
 have:=kF (a-1);rw[show a-1+1=a by omega]at this;grind
theorem fS(a:Int){n:Nat}{c:Rat}(hc:((2^n:Nat):Rat)=c):pz (a-(n:Int))*c=pz a:=by
 have:=dY (a-(n:Int)) n;rw[show a-(n:Int)+(n:Int)=a by omega,hc]at this;exact this.symm
end R
namespace R
open W.TSums
theorem Jt{f:Nat->Rat}:∀{n:Nat},(∀k,k<n->f k=0)->sum f n=0
 |0,_=>rfl
 |n+1,h=>by rw[dO,Jt fun k hk=>h k (by omega),h n (by omega)];grind
theorem Ov(g:Nat->Rat)(k f:Nat):sum (fun i=>g (k+i)) (f+1)=g k+sum (fun i=>g (k+1+i)) f:=by
 rw[cBR f 1,kO];have e:(fun i=>g (k+(1+i)))=fun i=>g (k+1+i):=funext fun i=>by rw[Nat.add_assoc]
 rw[e,dO];have z:sum (fun i=>g (k+i)) 0=0:=rfl;rw[z,bWM];grind
def gC(u W i:Nat):Rat:=cc i*(sq u W i:Rat)
def gS(u W i:Nat):Rat:=ss i*(sq u W i:Rat)
theorem Dm{u W:Nat}(hu:u<=W):∀f k a b c d,c<=a->d<=b->(k%4=1\/k%4=2->c+sq u W k<=a)->(k%4=2\/k%4=3->d+sq u W k<=b) ->
  (tay u W f k a b c d).2.2.1<=(tay u W f k a b c d).1/\(tay u W f k a b c d).2.2.2<=(tay u W f k a b c d).2.1 /\
  ((tay u W f k a b c d).1:Rat)-((tay u W f k a b c d).2.2.1:Rat)=(a:Rat)-(c:Rat)+sum (fun i=>gC u W (k+i)) f /\
  ((tay u W f k a b c d).2.1:Rat)-((tay u W f k a b c d).2.2.2:Rat)=(b:Rat)-(d:Rat)+sum (fun i=>gS u W (k+i)) f
 |0,k,a,b,c,d,h1,h2,_,_=>by
  have z1:sum (fun i=>gC u W (k+i)) 0=0:=rfl;have z2:sum (fun i=>gS u W (k+i)) 0=0:=rfl;refine⟨h1,h2,?_,?_⟩
  ·show(a:Rat)-(c:Rat)=_;rw[z1];grind
  ·show(b:Rat)-(d:Rat)=_;rw[z2];grind
 |f+1,k,a,b,c,d,h1,h2,h3,h4=>by
  have hs:=Ju hu k;have hm:k%4<4:=bXW _ (by decide);unfold tay
  by_cases hz:sq u W k=0
  ·have za:=Ug hz;rw[if_pos hz];have z1:sum (fun i=>gC u W (k+i)) (f+1)=0:=Jt fun i _=>by unfold gC;rw[za];simp
   have z2:sum (fun i=>gS u W (k+i)) (f+1)=0:=Jt fun i _=>by unfold gS;rw[za];simp
   rw[z1,z2];refine⟨h1,h2,?_,?_⟩
   ·show(a:Rat)-(c:Rat)=_;grind
   ·show(b:Rat)-(d:Rat)=_;grind
  ·rw[if_neg hz,Ov (gC u W) k f,Ov (gS u W) k f];have e4:(k+1)%4=(k%4+1)%4:=by omega
   by_cases c0:k%4=0
   ·rw[if_pos c0];obtain⟨r1,r2,r3,r4⟩:=Dm hu f (k+1) (a+sq u W k) b c d (by omega) h2 (fun _=>by omega) (fun h=>by omega);refine⟨r1,r2,?_,?_⟩
    ·rw[r3,cHZ];have:gC u W k=(sq u W k:Rat):=by unfold gC cc;rw[if_pos c0];grind
     rw[this];grind
    ·rw[r4];have:gS u W k=0:=by unfold gS ss;rw[aW,aW];grind
     rw[this];grind
   ·rw[if_neg c0]
    by_cases c1:k%4=1
    ·rw[if_pos c1];obtain⟨r1,r2,r3,r4⟩:=Dm hu f (k+1) a (b+sq u W k) c d h1 (by omega) (fun _=>by have:=h3 (Or.inl c1);omega) (fun _=>by omega);refine⟨r1,r2,?_,?_⟩
     ·rw[r3];have:gC u W k=0:=by unfold gC cc;rw[if_neg c0,aW];grind
      rw[this];grind
     ·rw[r4,cHZ];have:gS u W k=(sq u W k:Rat):=by unfold gS ss;rw[if_pos c1];grind
      rw[this];grind
    ·rw[if_neg c1]
     by_cases c2:k%4=2
     ·rw[if_pos c2];have g1:=h3 (Or.inr c2);have g2:=h4 (Or.inl c2);obtain⟨r1,r2,r3,r4⟩:=Dm hu f (k+1) a b (c+sq u W k) d (by omega) h2 (fun h=>by omega) (fun _=>by omega);refine⟨r1,r2,?_,?_⟩
      ·rw[r3,cHZ];have:gC u W k=-(sq u W k:Rat):=by unfold gC cc;rw[if_neg c0,if_pos c2];grind
       rw[this];grind
      ·rw[r4];have:gS u W k=0:=by unfold gS ss;rw[if_neg c1,aW];grind
       rw[this];grind
     ·rw[if_neg c2];have g2:=h4 (Or.inr (by omega));obtain⟨r1,r2,r3,r4⟩:=Dm hu f (k+1) a b c (d+sq u W k) h1 (by omega) (fun h=>by omega) (fun h=>by omega);refine⟨r1,r2,?_,?_⟩
      ·rw[r3];have:gC u W k=0:=by unfold gC cc;rw[if_neg c0,if_neg c2];grind
       rw[this];grind
      ·rw[r4,cHZ];have:gS u W k=-(sq u W k:Rat):=by unfold gS ss;rw[if_neg c1,aU];grind
       rw[this];grind
theorem Gm{x y:Nat}(h:y<=x):((x-y:Nat):Rat)=(x:Rat)-(y:Rat):=by
 have:((x-y:Nat):Rat)+(y:Rat)=(x:Rat):=by exact_mod_cast(show x-y+y=x by omega)
 grind
theorem aIQ{u w:Nat}(hu:u<=2^w):(aEL u w:Rat)=sum (fun k=>ss k*(sq u (2^w) k:Rat)) (w+1)/\(aEM u w:Rat)=sum (fun k=>cc k*(sq u (2^w) k:Rat)) (w+1):=by
 obtain⟨r1,r2,r3,r4⟩:=Dm hu (w+1) 0 0 0 0 0 (bVO _) (bVO _) (fun h=>by omega) (fun h=>by omega);unfold aEL aEM;rw[Gm r1,Gm r2,r3,r4];have z:((0:Nat):Rat)=0:=by norm_cast
 have e1:sum (fun i=>gC u (2^w) (0+i)) (w+1)=sum (fun k=>cc k*(sq u (2^w) k:Rat)) (w+1):=jX fun k _=>by rw[bVQ];rfl
 have e2:sum (fun i=>gS u (2^w) (0+i)) (w+1)=sum (fun k=>ss k*(sq u (2^w) k:Rat)) (w+1):=jX fun k _=>by rw[bVQ];rfl
 rw[e1,e2,z];constructor <;> grind
end R
namespace M
open Go AI W
theorem Qf(p:Int×Int):R.ab (R.qz p)=(p.1.natAbs:Rat)*R.pz p.2:=by
 unfold R.qz;rw[R.fI,R.bG (cFS (R.dJ p.2))];congr 1;unfold R.ab
 by_cases hz:0<=p.1
 ·rw[if_pos (by exact_mod_cast hz),<-cGV];congr 1;omega
 ·rw[if_neg (by intro hc;exact hz (by exact_mod_cast hc)),<-cGV,<-cIM];congr 1;omega
theorem Vq(w:Int)(hw:65<=w):∀f h:Nat,4<=h->(h=4\/16*(h:Int)-16<w)->THalvings.hlv w f h=4\/16*(THalvings.hlv w f h:Int)-16<w
 |0,h,_,hh=>hh
 |f+1,h,h4,hh=>by
  unfold THalvings.hlv;split
  ·rename_i hc;refine Vq w hw f (h+1) (by omega) (Or.inr ?_);have:4*(h:Int)*h>=4*4*h:=by
    have:=bXY (show(4*4:Int)<=4*h by omega) (show(0:Int)<=h by omega);omega
   omega
  ·exact hh
theorem Em{x:Int×Int}{p:Int}(h0:x.1≠0)(h1:bA x<=0)(ht:-1200<=bA x)(hp:1<=p/\p<=67100) :
  aR.iR x=bA x/\aR.w0 x p=p+80-bA x/\4<=aR.hv x p/\aR.hv x p<=204/\(aR.hv x p:Int)+50<=p+80-bA x/\aR.w1 x p=p+80-bA x+2*(aR.hv x p:Nat)/\aR.w2 x p=p+80-bA x+3*(aR.hv x p:Nat):=by
 have e1:aR.iR x=bA x:=by unfold aR.iR bA;rw[if_neg h0]
 have e2:aR.w0 x p=p+80-bA x:=by
  unfold aR.w0;rw[e1];split <;> omega
 obtain⟨h3,h4⟩:=aR.Zi (aR.w0 x p) 200 4;have h5:=Vq (aR.w0 x p) (by omega) 200 4 (by omega) (Or.inl rfl);have eh:THalvings.hlv (aR.w0 x p) 200 4=aR.hv x p:=rfl;rw[eh]at h3 h4 h5;refine⟨e1,e2,h4,h3,?_,?_,?_⟩
 ·omega
 ·unfold aR.w1;omega
 ·unfold aR.w2 aR.w1;omega
theorem aRB(x:Int×Int)(n:Int):(uT.aOK x n:Rat)<=R.pz n*R.ab (R.qz x)/\R.pz n*R.ab (R.qz x)<(uT.aOK x n:Rat)+1:=by
 rw[Qf];have e:R.pz n*((x.1.natAbs:Rat)*R.pz x.2)=(x.1.natAbs:Rat)*R.pz (x.2+n):=by rw[R.jJ];grind
 rw[e];unfold uT.aOK;split
 ·rename_i h;obtain⟨k,hk⟩:=cAS h;rw[hk,R.lT,bZL,cFU];constructor <;> grind
 ·rename_i h;obtain⟨k,hk⟩:=cAS (show 0<=-(x.2+n) by omega);have hp:0<2^k:=bYO (by decide);obtain⟨d1,d2⟩:=R.xK x.1.natAbs hp;rw[hk,bZL,show x.2+n=-(k:Int) by omega,R.xG];have h2:=R.Rx k;have h3:=R.vR k;have m1:=R.aF (cFS h3) (show 0<=(x.1.natAbs:Rat)-((2^k:Nat):Rat)*((x.1.natAbs/2^k:Nat):Rat) by grind);have m2:=cFX h3 (show 0<((2^k:Nat):Rat)*((x.1.natAbs/2^k:Nat):Rat)+((2^k:Nat):Rat)-(x.1.natAbs:Rat) by grind);generalize ((x.1.natAbs/2^k:Nat):Rat)=q at *;generalize ((2^k:Nat):Rat)=K at *;generalize (x.1.natAbs:Rat)=m at *;generalize R.hf k=g at *;have e1:g*(K*q)=q:=by rw[<-cGT,h2];grind
  constructor <;> grind
theorem Wv{x:Int×Int}{p:Int}(h0:x.1≠0)(hT:R.ab (R.qz x)<=1)(h1:bA x<=0)(ht:-1200<=bA x)(hp:1<=p/\p<=67100) :
  aR.bU x p<=2^(aR.w1 x p).toNat /\
  R.ab (((aR.Cb x p).1:Rat)-R.pz (aR.w2 x p)*R.sn (R.ab (R.qz x)))<=R.pz (2*(aR.hv x p:Nat)+18) /\
  R.ab (((aR.Cb x p).2:Rat)-R.pz (aR.w2 x p)*R.cs (R.ab (R.qz x)))<=R.pz (2*(aR.hv x p:Nat)+18):=by
 obtain⟨e1,e2,h4,h5,h6,bKV,bKU⟩:=Em h0 h1 ht hp;obtain⟨u1,u2⟩:=aRB x (aR.w1 x p);have hT0:=R.aM (R.qz x);unfold aR.Cb;have eU:uT.aOK x (aR.w1 x p)=aR.bU x p:=rfl;rw[eU]at u1 u2;generalize aR.bU x p=u at *;generalize aR.hv x p=h at *;generalize R.ab (R.qz x)=T at *;obtain⟨n,hn⟩:=cAS (show 0<=aR.w1 x p by omega);have aQJ:aR.w2 x p=((n+h:Nat):Int):=by omega
 rw[hn,R.lT]at u1 u2;rw[hn,aQJ,R.lT,bZL,bZL];have hu:u<=2^n:=by
  have hW:(0:Rat)<=((2^n:Nat):Rat):=by exact_mod_cast cBX _
  have:=R.aF hW (show 0<=1-T by grind);have:(u:Rat)<=((2^n:Nat):Rat):=by grind
  exact_mod_cast this
 have Vm:u<=2^(n+h):=bWK hu (bYP (by decide) (by omega));obtain⟨s1,s2⟩:=R.aIQ Vm;have r:=R.aEB hT0 hT u1 u2 (h:=h) (by omega) (by omega) (by omega) s1 s2;have b:((4^h*(2*(n+h)+10):Nat):Rat)<=R.pz (2*(h:Nat)+18):=by
  rw[show 2*(h:Int)+18=((2*h+18:Nat):Int) by omega,R.lT];have:4^h*(2*(n+h)+10)<=2^(2*h+18):=by
   rw[cAQ,<-R.Lt];exact bYC _ (by have:(2:Nat)^18=262144:=rfl;omega)
  exact_mod_cast this
 exact⟨hu,cFT r.1 b,cFT r.2 b⟩
end M
namespace M
open Go AI W
theorem zF(up:Bool)(p:Int×Int)(n:Nat):bl (shD up p n).1.natAbs<=n+1:=by
 unfold shD cE.nQ;refine bWK (vE _ _) ?_;split
 ·dsimp only;omega
 ·rename_i h;dsimp only;exact Zx up p.1 _ n (by omega)
theorem Ff{p:Int×Int}{E:Int}(h0:p.1≠0)(h:R.ab (R.qz p)<R.pz E):bA p<E:=by
 have:=(oH h0).1;refine R.wF.1 ?_;grind
theorem Cl{p:Int×Int}{E:Int}(h0:p.1≠0)(h:R.pz E<=R.ab (R.qz p)):E<=bA p:=by
 have:=(oH h0).2;have:R.pz E<R.pz (bA p+1):=by grind
 have:=R.wF.1 this;omega
theorem Dl{p:Int×Int}{E:Int}(h0:p.1≠0)(h:R.ab (R.qz p)<=R.pz E):bA p<=E:=by
 have:=(oH h0).1;refine R.aER.1 ?_;grind
theorem aSR{p:Int×Int}(h:p.1≠0):R.qz p≠0:=by
 intro hz;have h1:=(oH h).1;have h2:=R.dJ (bA p);rw[hz,R.bG (by grind)]at h1;grind
theorem Hj{p:Int×Int}(h:R.qz p≠0):p.1≠0:=fun hz=>h (R.oC hz)
theorem kA{p:Int×Int}:0<R.qz p↔0<p.1:=by
 have h:=R.dJ p.2;unfold R.qz;constructor
 ·intro hp;refine Int.not_le.1 fun hn=>?_
  have c:(p.1:Rat)<=0:=by exact_mod_cast hn
  have:=R.aF (show 0<=-(p.1:Rat) by grind) (cFS h);grind
 ·intro hp;have c:(0:Rat)<(p.1:Rat):=by exact_mod_cast hp
  exact cFX c h
theorem Kh{p:Int×Int}:R.qz p<0↔p.1<0:=by
 have h:=kA (p:=(-p.1,p.2));rw[oW]at h;constructor
 ·intro hp;have:=h.1 (by grind);dsimp only at this;omega
 ·intro hp;have:=h.2 (by dsimp only;omega);grind
theorem aAL{p q:Int×Int}{E:Int}{n:Nat}(hp:jK p)(hq:jK q)(h1:E<=p.2)(h2:E<=q.2)(v1:R.ab (R.qz p)<=R.pz (E+n))(v2:R.ab (R.qz q)<=R.pz (E+n))(hn:n<=500000)(hE:-1048576<=E)(hE2:E+n<=1048000):bI.jW p q=true:=by
 unfold bI.jW
 by_cases z1:p.1=0
 ·rw[decide_eq_true z1,cAW]
 by_cases z2:q.1=0
 ·rw[decide_eq_true z2,cAW,cBQ]
 rw[decide_eq_false z1,decide_eq_false z2,bXP,bXP];obtain⟨m1,m2⟩:=Ji p q;have hm:E<=bI.gR p q:=by unfold bI.gR;split <;> omega
 have aTK:bI.gR p q<=1048576/\-1048576<=bI.gR p q:=by have:=hp.2.1;have:=hq.2.1;unfold bI.gR;split <;> omega
 have qX:R.qz (bI.mY p q,bI.gR p q)=R.qz p:=by
  unfold bI.mY R.qz;dsimp only;have e1:R.pz p.2=R.pz (bI.gR p q)*((2^(p.2-bI.gR p q).toNat:Nat):Rat):=by rw[<-R.dY];congr 1;omega
  rw[e1,cGU,cGV];grind
 have qY:R.qz (bI.mW p q,bI.gR p q)=R.qz q:=by
  unfold bI.mW R.qz;dsimp only;have e1:R.pz q.2=R.pz (bI.gR p q)*((2^(q.2-bI.gR p q).toNat:Nat):Rat):=by rw[<-R.dY];congr 1;omega
  rw[e1,cGU,cGV];grind
 have qS:R.qz (bI.mY p q+bI.mW p q,bI.gR p q)=R.qz p+R.qz q:=by
  rw[<-qX,<-qY];unfold R.qz;dsimp only;rw[cIN];grind
 have vS:R.ab (R.qz (bI.mY p q+bI.mW p q,bI.gR p q))<=R.pz (E+n+1):=by
  rw[qS,R.kF];have:=R.Td (R.qz p) (R.qz q);grind
 rw[<-qX]at v1;rw[<-qY]at v2;generalize bI.mY p q=X at *;generalize bI.mW p q=Y at *;generalize bI.gR p q=m at *;have bits:∀(z:Int) (F:Int),R.ab (R.qz (z,m))<=R.pz F->bl z.natAbs=0\/m+(bl z.natAbs:Nat)<=F+1:=by
  intro z F hv
  by_cases hz:z=0
  ·left;rw[hz];rfl
  ·right;have:=Dl (p:=(z,m)) hz hv;unfold bA at this;dsimp only at this;omega
 have b1:=bits X _ v1;have b2:=bits Y _ v2;have b3:=bits (X+Y) _ vS;have f:∀z:Int,bl z.natAbs<=524288->fit z.natAbs=true:=fun z h=>decide_eq_true h
 rw[f X (by omega),f Y (by omega),f (X+Y) (by omega),gQ (by omega) (by omega)];rfl
theorem xI{p:Int×Int}(h:jK p):jK ((p.1.natAbs:Int),p.2):=by
 obtain⟨h1,h2,h3,h4⟩:=h;exact⟨by dsimp only;rw[cBF];exact h1,h2,fun hz=>h3 (by dsimp only at hz;omega),fun hz=>by dsimp only at hz ⊢;have:=h4 (by omega);omega⟩
theorem Co(p:Int×Int):R.qz ((p.1.natAbs:Int),p.2)=R.ab (R.qz p):=by
 rw[Qf];unfold R.qz;dsimp only;rw[cGV]
theorem aOT(p:Int×Int):bA ((p.1.natAbs:Int),p.2)=bA p:=by
 unfold bA;dsimp only;rw[cBF]
theorem oV:R.qz (1,0)=1:=by
 unfold R.qz;dsimp only;rw[R.fV];have:((1:Int):Rat)=1:=by norm_cast
 rw[this];grind
theorem Ba:jK (1,0):=⟨by decide +kernel,⟨by decide,by decide⟩,fun h=>absurd h (by decide),fun _=>by decide⟩
theorem aLZ{a f:Nat}{w q:Int}{V E:Rat}(hq:1<=q)(hE:R.ab ((a:Rat)-R.pz w*V)<=E)(hf:E<=(f:Rat))(hfa:(f:Rat)+E<=R.pz w*V)(hV:0<=V) :
  f<=a/\R.qz (shD false (bD.Ic a f w) q)<=V-R.pz (-w)*f+R.pz (-w)*E/\V-R.pz (-w)*f-R.pz (-w)*E-R.pz (1-q)*V<=R.qz (shD false (bD.Ic a f w) q) /\
  V+R.pz (-w)*f-R.pz (-w)*E<=R.qz (shD true (bD.Ch a f w) q)/\R.qz (shD true (bD.Ch a f w) q)<=V+R.pz (-w)*f+R.pz (-w)*E+R.pz (1-q)*(2*V):=by
 rw[R.bW]at hE;have bCL:f<=a:=by
  have:(f:Rat)<=(a:Rat):=by grind
  exact_mod_cast this
 refine⟨bCL,?_⟩;have g:=R.dJ (-w);have gi:=R.Yu w;have n1:=(Fk false (bD.Ic a f w) hq).1 rfl;have n2:=(Fk true (bD.Ch a f w) hq).2 rfl;have q1:R.qz (bD.Ic a f w)=((a:Rat)-(f:Rat))*R.pz (-w):=by
  unfold bD.Ic;rw[oI,cGV,R.Gm bCL]
 have q2:R.qz (bD.Ch a f w)=((a:Rat)+(f:Rat))*R.pz (-w):=by
  unfold bD.Ch;rw[oI,cGV,cHZ]
 rw[q1]at n1;rw[q2]at n2;have a0:(0:Rat)<=(a:Rat)-(f:Rat):=by grind
 have f0:(0:Rat)<=(f:Rat):=by exact_mod_cast cBX f
 rw[R.bG (R.aF a0 (cFS g))]at n1;rw[R.bG (R.aF (show(0:Rat)<=(a:Rat)+(f:Rat) by grind) (cFS g))]at n2;have eV:R.pz (-w)*(R.pz w*V)=V:=by rw[<-cGT,cIJ (R.pz (-w)),gi];grind
 have m1:=R.aF (cFS g) (show 0<=E-((a:Rat)-R.pz w*V) by grind);have m2:=R.aF (cFS g) (show 0<=E+((a:Rat)-R.pz w*V) by grind);have m3:=R.aF (cFS g) (show 0<=R.pz w*V-((f:Rat)+E) by grind);have m4:=R.aF (cFS g) (show 0<=(f:Rat)-E by grind);have e0:R.pz w*V=R.pz w*V:=rfl;generalize R.pz w*V=U at *;generalize R.pz (-w)=G at *;have h0:=R.dJ (1-q);generalize R.pz (1-q)=H at *;have k1:=R.aF (cFS h0) (show 0<=V-((a:Rat)-(f:Rat))*G by grind);have k2:=R.aF (cFS h0) (show 0<=2*V-((a:Rat)+(f:Rat))*G by grind);refine⟨?_,?_,?_,?_⟩ <;> grind
theorem aDZ(p:Int×Int):R.qz (bD.xU p)<=1/\R.qz (bD.xU p)<=R.qz p/\(R.qz (bD.xU p)=R.qz p\/R.qz (bD.xU p)=1)/\(∀v,v<=R.qz p->v<=1->v<=R.qz (bD.xU p)):=by
 unfold bD.xU
 by_cases h:0<eF p (1,0)
 ·rw[decide_eq_true h,cond_true,oV];have:=xS.1 h;rw[oV]at this;exact⟨cGB,cFS this,Or.inr rfl,fun v _ h=>h⟩
 ·rw[decide_eq_false h,cond_false];have:R.qz p<=1:=by rw[<-oV];exact Rat.not_lt.1 fun hn=>h (xS.2 hn)
  exact⟨this,cGB,Or.inl rfl,fun v h _=>h⟩
theorem aCF{p:Int×Int}(h:jK p):jK (bD.xU p):=by
 unfold bD.xU;cases decide (0<eF p (1,0))
 ·exact h
 ·exact Ba
theorem aMZ{p:Int×Int}{n:Nat}(hn:1<=n)(h:bl p.1.natAbs<=n):bl (bD.xU p).1.natAbs<=n:=by
 unfold bD.xU;cases decide (0<eF p (1,0))
 ·exact h
 ·exact hn
theorem bEA{x:Int×Int}{p:Int}{V:Rat}{a:Nat}(h0:x.1≠0)(h1:bA x<=0)(ht:-1200<=bA x)(hp:1<=p/\p<=67100)(hV:R.pz (bA x-1)<=V)(bNX:V<=1)
  (ha:R.ab ((a:Rat)-R.pz (aR.w2 x p)*V)<=R.pz (2*(aR.hv x p:Nat)+18)) :
  bC.aNF a (2^(2*aR.hv x p+22)) (aR.w2 x p) (p+32) /\
  jK (shD false (bD.Ic a (2^(2*aR.hv x p+22)) (aR.w2 x p)) (p+32)) /\
  R.qz (shD false (bD.Ic a (2^(2*aR.hv x p+22)) (aR.w2 x p)) (p+32))<=V-R.pz (bA x-p-270) /\
  V-R.pz (bA x-p-61)-R.pz (-p-31)*V<=R.qz (shD false (bD.Ic a (2^(2*aR.hv x p+22)) (aR.w2 x p)) (p+32)) /\
  V+R.pz (bA x-p-270)<=R.qz (shD true (bD.Ch a (2^(2*aR.hv x p+22)) (aR.w2 x p)) (p+32)) /\
  R.qz (shD true (bD.Ch a (2^(2*aR.hv x p+22)) (aR.w2 x p)) (p+32))<=V+R.pz (bA x-p-61)+R.pz (-p-31)*(2*V):=by
 obtain⟨e1,e2,h4,h5,h6,bKV,bKU⟩:=Em h0 h1 ht hp;generalize aR.hv x p=h at *;generalize aR.w2 x p=w at *;have tp:=R.dJ (bA x-1);have V0:0<=V:=by grind
 have fE:((2^(2*h+22):Nat):Rat)=R.pz (2*(h:Nat)+22):=by rw[show 2*(h:Int)+22=((2*h+22:Nat):Int) by omega,R.lT]
 have l1:R.pz (2*(h:Nat)+18)<=R.pz (2*(h:Nat)+22):=R.cG (by omega);have l2:R.pz (2*(h:Nat)+22)+R.pz (2*(h:Nat)+18)<=R.pz w*V:=by
  have b1:R.pz (2*(h:Nat)+23)<=R.pz w*R.pz (bA x-1):=by rw[<-R.jJ];exact R.cG (by omega)
  have b2:R.pz (2*(h:Nat)+23)=2*R.pz (2*(h:Nat)+22):=by rw[<-R.kF];congr 1
  have b3:=R.aF (cFS (R.dJ w)) (show 0<=V-R.pz (bA x-1) by grind);grind
 have r:=aLZ (a:=a) (f:=2^(2*h+22)) (w:=w) (q:=p+32) (V:=V) (E:=R.pz (2*(h:Nat)+18)) (by omega) ha (by rw[fE];exact l1) (by rw[fE];exact l2) V0;obtain⟨r0,r1,r2,r3,r4⟩:=r;rw[fE,<-R.jJ,<-R.jJ]at r1 r2 r3 r4;rw[show(1:Int)-(p+32)=-p-31 by omega]at r2 r4;have d1:R.pz (-w+(2*(h:Nat)+18))=R.pz (-w+(2*(h:Nat)+22))/16:=by
  have:=R.fS (-w+(2*(h:Nat)+22)) (n:=4) (c:=16) (by norm_cast);rw[show -w+(2*(h:Int)+22)-((4:Nat):Int)=-w+(2*(h:Nat)+18) by omega]at this;grind
 have d2:R.pz (bA x-p-270)<=R.pz (-w+(2*(h:Nat)+22))/16:=by rw[<-d1];exact R.cG (by omega)
 have d3:R.pz (-w+(2*(h:Nat)+22))*2<=R.pz (bA x-p-61):=by
  rw[cIJ,<-R.kF];exact R.cG (by omega)
 rw[d1]at r1 r2 r3 r4;have dp:=R.dJ (-w+(2*(h:Nat)+22));have ba:bl a<=70000:=by
  have:(a:Rat)<=R.pz (w+1):=by
   rw[R.bW]at ha;rw[R.kF];have b3:=R.aF (cFS (R.dJ w)) (show 0<=1-V by grind);have:R.pz (2*(h:Nat)+18)<=R.pz w:=R.cG (by omega);grind
  obtain⟨n,hn⟩:=cAS (show 0<=w+1 by omega);rw[hn,R.lT]at this;have:a<=2^n:=by exact_mod_cast this
  refine bWK (fY this) ?_;rw[aNB];omega
 have bf:bl (2^(2*h+22))<=500:=by rw[aNB];omega
 have bs:bl (a-2^(2*h+22))<=70000:=bWK (fY (cCH _ _)) ba;have bt:bl (a+2^(2*h+22))<=70001:=bWK (Bk _ _) (by omega);have j1:gY ((a-2^(2*h+22):Nat):Int) (-w)=true:=gQ (by omega) (by rw[cBF];omega);have j2:gY ((a+2^(2*h+22):Nat):Int) (-w)=true:=gQ (by omega) (by rw[cBF];omega);have p1:jK (bD.Ic a (2^(2*h+22)) w):=gM j1 (by rw[cBF];omega);have p2:jK (bD.Ch a (2^(2*h+22)) w):=gM j2 (by rw[cBF];omega);have aSZ:∀{z:Nat},bl z<=70001->jK (aN (z:Int) (-w))->bGC (aN (z:Int) (-w)):=by
  intro z hz hP;refine⟨hP,?_⟩;have hb:=vE (z:Int) (-w);rw[cBF]at hb
  by_cases z0:(z:Int)=0
  ·rw[z0,fC];show(0:Int)+((bl (0:Int).natAbs:Nat):Int)<=1048000;decide +kernel
  ·have h2:=(lE (e:=-w) z0).2;have h3:=Dj (n:=z) (by omega);rw[cBF]at h2;omega
 obtain⟨s1,s2⟩:=Oy (up:=false) (n:=p+32) (aSZ (by omega) p1) (by omega);obtain⟨s3,s4⟩:=Oy (up:=true) (n:=p+32) (aSZ bt p2) (by omega);refine⟨⟨by omega,by omega,⟨by omega,by omega⟩,s1,s3,s4⟩,s2,?_,?_,?_,?_⟩ <;> grind
end M
namespace M
open Go AI W
theorem aUL(up:Bool)(p:Int×Int){n:Int}(hn:bA p+1-n<=0):bA p+1-n<=(shD up p n).2:=by
 have key:∀z e:Int,bA p+1-n<=e->bA p+1-n<=(aN z e).2:=by
  intro z e he
  by_cases hz:z=0
  ·rw[hz,fC];exact hn
  ·have:=qT (e:=e) hz;omega
 unfold shD cE.nQ;unfold bA at *;split
 ·exact key _ _ (by omega)
 ·exact key _ _ (by omega)
theorem Ip{up:Bool}{p:Int×Int}{n:Int}(h:(shD up p n).1≠0):bA p+1-n<=(shD up p n).2:=by
 have key:∀z e:Int,(aN z e).1≠0->bA p+1-n<=e->bA p+1-n<=(aN z e).2:=by
  intro z e h0 he;have:=qT (e:=e) (fun hz=>h0 (dX.2 hz));omega
 unfold shD at *;refine key _ _ h ?_;unfold cE.nQ bA at *;split <;> (dsimp only;omega)
theorem aEE{p q:Int×Int}{E:Int}(h1:E<=p.2)(h2:E<=q.2)(h0:E<=0):E<=(bI.nD p q).2:=by
 have hm:E<=bI.gR p q:=by unfold bI.gR;split <;> omega
 unfold bI.nD;split
 ·exact h2
 ·split
  ·exact h1
  ·by_cases hz:bI.mY p q+bI.mW p q=0
   ·rw[hz,fC];exact h0
   ·have:=qT (e:=bI.gR p q) hz;omega
theorem aND{p:Int×Int}{E F:Int}(h1:E<=p.2)(h2:R.ab (R.qz p)<=R.pz F):(bl p.1.natAbs:Int)<=F+1-E\/bl p.1.natAbs=0:=by
 by_cases h0:p.1=0
 ·right;rw[h0];rfl
 ·left;have:=Dl h0 h2;unfold bA at this;omega
theorem Is(k:Int):R.qz (-1,k)=-R.pz k:=by
 unfold R.qz;dsimp only;have:((-1:Int):Rat)=-1:=by norm_cast
 rw[this];grind
theorem Ut{k:Int}(h:-1048576<=k/\k<=1048576):jK (-1,k):=⟨by show bl (-1:Int).natAbs<=524288;decide +kernel,h,fun h=>absurd (show(-1:Int)=0 from h) (by decide),fun _=>by show(-1:Int)%2=1;decide⟩
theorem aBB{x:Int×Int}(h0:x.1≠0)(hT:R.ab (R.qz x)<=4/5):bA x<=-1:=by
 have:R.ab (R.qz x)<R.pz 0:=by rw[R.fV];grind
 have:=Ff h0 this;omega
structure aZN(x:Int×Int)(p:Int):Prop where
 pl:jK (fG.tQ x p)
 ph:jK (fG.sH x p)
 bl:bl (fG.tQ x p).1.natAbs<=80000
 bh:M.bl (fG.sH x p).1.natAbs<=80000
 lo:R.qz (fG.tQ x p)<=R.sn (R.ab (R.qz x))-R.pz (bA x-p-270)
 hi:R.sn (R.ab (R.qz x))<=R.qz (fG.sH x p)
 wd:R.qz (fG.sH x p)-R.qz (fG.tQ x p)<=R.pz (-p-1)*R.ab (R.qz x)
 one:R.qz (fG.sH x p)<=1
 mh:¬2*bA x+8 < -p->R.sn (R.ab (R.qz x))+R.pz (bA x-p-270)<=R.qz (fG.sH x p)
 pos:0<R.qz (fG.tQ x p)
 bGV:2*bA x+8 < -p->wZ true ((x.1.natAbs:Int),x.2) (p+32)=true/\wZ false ((x.1.natAbs:Int),x.2) (p+32)=true/\jK (shD false ((x.1.natAbs:Int),x.2) (p+32))/\bI.jW (shD false ((x.1.natAbs:Int),x.2) (p+32)) (-1,bA x-p-3)=true
 okB:¬2*bA x+8 < -p->bC.Su x p/\bC.aNF (aR.Cb x p).1 (2^(2*aR.hv x p+22)) (aR.w2 x p) (p+32)
theorem aSS{p:Int}(hp:1<=p):R.pz (-p-1)<=1/4:=by
 have h:=R.cG (show -p-1<=-2 by omega);have h2:=R.xG 2;rw[show -((2:Nat):Int)=-2 by rfl]at h2;rw[h2]at h;have h3:R.hf 2=1/4:=by simp[R.hf];grind
 grind
theorem Ul{x:Int×Int}{p:Int}(hx:jK x)(h0:x.1≠0)(hT:R.ab (R.qz x)<=4/5)(ht:-1200<=bA x)(hp:1<=p/\p<=67100):aZN x p:=by
 have h1:=aBB h0 hT;obtain⟨e1,e2,h4,h5,h6,bKV,bKU⟩:=Em h0 (by omega) ht hp;obtain⟨t1,t2⟩:=oH h0;have tp:=R.dJ (bA x);have T0:0<R.ab (R.qz x):=by grind
 obtain⟨v1,v2⟩:=R.aBO (cFS T0) hT;obtain⟨z,hz⟩:∃z,z=R.pz (-p-31):=⟨_,rfl⟩;have z0:=R.dJ (-p-31);have q1:R.pz (-p-1)=1073741824*z:=by
  have:=R.fS (-p-1) (n:=30) (c:=1073741824) (by norm_cast);rw[show -p-1-((30:Nat):Int)=-p-31 by omega,<-hz]at this;grind
 have q2:R.pz (bA x-p-61)=z*R.pz (bA x)/1073741824:=by
  have:=R.fS (-p-31+bA x) (n:=30) (c:=1073741824) (by norm_cast);rw[show -p-31+bA x-((30:Nat):Int)=bA x-p-61 by omega,R.jJ,<-hz]at this;grind
 have q3:R.pz (bA x-p-3)=268435456*(z*R.pz (bA x)):=by
  have:=R.fS (bA x-p-3) (n:=28) (c:=268435456) (by norm_cast);rw[show bA x-p-3-((28:Nat):Int)=-p-31+bA x by omega,R.jJ,<-hz]at this;grind
 have sm:=aSS hp.1;rw[q1]at sm;rw[<-hz]at z0;have zt:=R.aF (cFS z0) (show 0<=R.ab (R.qz x)-R.pz (bA x) by grind);have zT:=R.aF (cFS T0) (show 0<=1/4-1073741824*z by grind);have aQA:R.pz (bA x-p-270)<=R.pz (bA x-p-61):=R.cG (by omega);have p270:=R.dJ (bA x-p-270)
 by_cases c:2*bA x+8 < -p
 ·have dL:fG.tQ x p=bI.nD (shD false ((x.1.natAbs:Int),x.2) (p+32)) (-1,bA x-p-3):=by unfold fG.tQ;rw[e1,if_pos c]
  have dH:fG.sH x p=shD true ((x.1.natAbs:Int),x.2) (p+32):=by unfold fG.sH;rw[e1,if_pos c]
  have pX:=xI hx;have vX:=Co x;have tX:=aOT x;have n1:=(Fk false ((x.1.natAbs:Int),x.2) (n:=p+32) (by omega)).1 rfl;have n2:=(Fk true ((x.1.natAbs:Int),x.2) (n:=p+32) (by omega)).2 rfl;rw[vX,show(1:Int)-(p+32)=-p-31 by omega,<-hz,R.bG (cFS T0)]at n1 n2;have aSZ:bGC ((x.1.natAbs:Int),x.2):=⟨pX,by unfold bA at tX h1;dsimp only at *;omega⟩;obtain⟨s1,s2⟩:=Oy (up:=false) (n:=p+32) aSZ (by omega);obtain⟨s3,s4⟩:=Oy (up:=true) (n:=p+32) aSZ (by omega);have x1:=aUL false ((x.1.natAbs:Int),x.2) (n:=p+32) (by rw[tX];omega);have x2:=zF true ((x.1.natAbs:Int),x.2) (p+32).toNat;rw[tX]at x1;rw[show(((p+32).toNat:Nat):Int)=p+32 by omega]at x2;have pm:=Ut (k:=bA x-p-3) (by omega);have T1:R.ab (R.qz x)<=R.pz (bA x+1):=cFS t2;have L0:0<=R.qz (shD false ((x.1.natAbs:Int),x.2) (p+32)):=by grind
  have bEB:bI.jW (shD false ((x.1.natAbs:Int),x.2) (p+32)) (-1,bA x-p-3)=true:=by
   refine aAL (E:=bA x-p-40) (n:=(p+41).toNat) s2 pm (by omega) (by dsimp only;omega) ?_ ?_ (by omega) (by omega) (by omega)
   ·rw[show bA x-p-40+(((p+41).toNat:Nat):Int)=bA x+1 by omega,R.bG L0];grind
   ·rw[Is,R.iJ,R.bG (cFS (R.dJ _))];exact R.cG (by omega)
  have pl:=Rf s2 pm bEB;have xl:=aEE (p:=shD false ((x.1.natAbs:Int),x.2) (p+32)) (q:=(-1,bA x-p-3)) (E:=bA x-p-40) (by omega) (by dsimp only;omega) (by omega);have ql:=Re (shD false ((x.1.natAbs:Int),x.2) (p+32)) (-1,bA x-p-3);rw[Is,q3]at ql;rw[<-dL]at pl xl ql;rw[<-dH]at s4 x2 n2;have cube:R.ab (R.qz x)-z*R.pz (bA x)*268435456/16<=R.sn (R.ab (R.qz x)):=by
   have s:=(R.zC (cFS T0) (show R.ab (R.qz x)<=1 by grind)).1;have a1:R.ab (R.qz x)*R.ab (R.qz x)<=R.pz (bA x+1)*R.pz (bA x+1):=R.bZ (cFS T0) T1 (cFS T0) T1;rw[<-R.jJ]at a1;have a2:R.pz (bA x+1+(bA x+1))<=R.pz (-p-7):=R.cG (by omega);have a3:R.pz (-p-7)=16777216*z:=by
    have:=R.fS (-p-7) (n:=24) (c:=16777216) (by norm_cast);rw[show -p-7-((24:Nat):Int)=-p-31 by omega,<-hz]at this;grind
   have a4:=R.aF (show 0<=16777216*z-R.ab (R.qz x)*R.ab (R.qz x) by grind) (cFS T0);rw[R.kF]at T1;have a5:=R.aF (cFS z0) (show 0<=2*R.pz (bA x)-R.ab (R.qz x) by grind);generalize R.ab (R.qz x)=T at *;grind
  have bOZ:=cFX z0 tp;refine⟨pl,s4,?_,by omega,?_,?_,?_,?_,fun h=>absurd c h,?_,fun _=>⟨s3,s1,s2,bEB⟩,fun h=>absurd c h⟩
  ·have v:R.ab (R.qz (fG.tQ x p))<=R.pz (bA x+1):=by
    rw[R.bG (by grind)];grind
   have:=aND xl v;omega
  ·rw[q2]at aQA;grind
  ·grind
  ·rw[q1];grind
  ·grind
  ·grind
 ·have dL:fG.tQ x p=shD false (bD.Ic (aR.Cb x p).1 (2^(2*aR.hv x p+22)) (aR.w2 x p)) (p+32):=by unfold fG.tQ;rw[e1,if_neg c]
  have dH:fG.sH x p=bD.xU (shD true (bD.Ch (aR.Cb x p).1 (2^(2*aR.hv x p+22)) (aR.w2 x p)) (p+32)):=by unfold fG.sH;rw[e1,if_neg c]
  obtain⟨b1,b2,b3⟩:=Wv h0 (by grind) (by omega) ht hp;have hV:R.pz (bA x-1)<=R.sn (R.ab (R.qz x)):=by
   have:=R.qA (bA x);grind
  obtain⟨a1,a2,a3,a4,a5,a6⟩:=bEA h0 (by omega) ht hp hV (by grind) b2;have a7:=a1.2.2.2.2.2;have c1:=zF false (bD.Ic (aR.Cb x p).1 (2^(2*aR.hv x p+22)) (aR.w2 x p)) (p+32).toNat;have c2:=zF true (bD.Ch (aR.Cb x p).1 (2^(2*aR.hv x p+22)) (aR.w2 x p)) (p+32).toNat;rw[show(((p+32).toNat:Nat):Int)=p+32 by omega]at c1 c2;obtain⟨k1,k2,k3,k4⟩:=aDZ (shD true (bD.Ch (aR.Cb x p).1 (2^(2*aR.hv x p+22)) (aR.w2 x p)) (p+32));have c3:=aMZ (n:=80000) (by omega) (show bl (shD true (bD.Ch (aR.Cb x p).1 (2^(2*aR.hv x p+22)) (aR.w2 x p)) (p+32)).1.natAbs<=80000 by omega);have c4:=aCF a7;rw[<-dL]at a2 a3 a4 c1;rw[<-dH]at k1 k2 k3 k4 c3 c4;generalize shD true (bD.Ch (aR.Cb x p).1 (2^(2*aR.hv x p+22)) (aR.w2 x p)) (p+32)=hi at *;rw[<-hz]at a4 a6;have zV:=R.aF (cFS z0) (show 0<=R.ab (R.qz x)-R.sn (R.ab (R.qz x)) by grind);have hm:R.sn (R.ab (R.qz x))+R.pz (bA x-p-270)<=R.qz (fG.sH x p):=by
   refine k4 _ a5 ?_;rw[q2]at aQA;grind
  refine⟨a2,c4,by omega,c3,a3,by grind,?_,k1,fun _=>hm,?_,fun h=>absurd h c,fun _=>⟨⟨⟨by omega,by omega⟩,b1⟩,a1⟩⟩
  ·rw[q1];rw[q2]at a4 a6;grind
  ·rw[q2]at a4;grind
structure bGG(x:Int×Int)(p:Int):Prop where
 pl:jK (bC.rT x p)
 ph:jK (bC.qN x p)
 bl:bl (bC.rT x p).1.natAbs<=80000
 bh:M.bl (bC.qN x p).1.natAbs<=80000
 lo:R.qz (bC.rT x p)<=R.cs (R.ab (R.qz x))
 hi:R.cs (R.ab (R.qz x))<=R.qz (bC.qN x p)
 wd:R.qz (bC.qN x p)-R.qz (bC.rT x p)<=R.pz (-p-1)
 one:R.qz (bC.qN x p)<=1
 ml:x.1≠0->R.qz (bC.rT x p)<=R.cs (R.ab (R.qz x))-R.pz (bA x-p-270)
 mh:x.1≠0->¬2*bA x+8 < -p->R.cs (R.ab (R.qz x))+R.pz (bA x-p-270)<=R.qz (bC.qN x p)
 bGV:x.1≠0->2*bA x+8 < -p->bI.jW (1,0) (-1,-p-3)=true
 okB:x.1≠0->¬2*bA x+8 < -p->bC.Su x p/\bC.aNF (aR.Cb x p).2 (2^(2*aR.hv x p+22)) (aR.w2 x p) (p+32)
theorem Mb{x:Int×Int}{p:Int}(hT:R.ab (R.qz x)<=4/5)(ht:x.1≠0->-1200<=bA x)(hp:1<=p/\p<=67100):bGG x p:=by
 obtain⟨z,hz⟩:∃z,z=R.pz (-p-31):=⟨_,rfl⟩;have z0:=R.dJ (-p-31);have q1:R.pz (-p-1)=1073741824*z:=by
  have:=R.fS (-p-1) (n:=30) (c:=1073741824) (by norm_cast);rw[show -p-1-((30:Nat):Int)=-p-31 by omega,<-hz]at this;grind
 have sm:=aSS hp.1;rw[q1]at sm;rw[<-hz]at z0
 by_cases h0:x.1=0
 ·have dL:bC.rT x p=(1,0):=by unfold bC.rT;rw[if_pos h0]
  have dH:bC.qN x p=(1,0):=by unfold bC.qN;rw[if_pos h0]
  have c1:R.cs (R.ab (R.qz x))=1:=by rw[R.oC h0,R.bG (cGB),R.aDT]
  refine⟨by rw[dL];exact Ba,by rw[dH];exact Ba,by rw[dL];decide +kernel,by rw[dH];decide +kernel,by rw[dL,oV,c1];exact cGB,by rw[dH,oV,c1];exact cGB,?_,by rw[dH,oV];exact cGB,fun h=>absurd h0 h,fun h=>absurd h0 h,fun h=>absurd h0 h,fun h=>absurd h0 h⟩;rw[dL,dH,q1];grind
 ·have ht:=ht h0;have h1:=aBB h0 hT;obtain⟨e1,e2,h4,h5,h6,bKV,bKU⟩:=Em h0 (by omega) ht hp;obtain⟨t1,t2⟩:=oH h0;have tp:=R.dJ (bA x);have T0:0<R.ab (R.qz x):=by grind
  obtain⟨v1,v2⟩:=R.Wn (r:=R.ab (R.qz x)) (by rw[R.bG (cFS T0)];exact hT);have T1:R.ab (R.qz x)<=R.pz (bA x+1):=cFS t2;have pt:R.pz (bA x)<=1/2:=by
   have:=R.cG (show bA x+1<=0 by omega);rw[R.kF,R.fV]at this;grind
  have q2:R.pz (bA x-p-61)=z*R.pz (bA x)/1073741824:=by
   have:=R.fS (-p-31+bA x) (n:=30) (c:=1073741824) (by norm_cast);rw[show -p-31+bA x-((30:Nat):Int)=bA x-p-61 by omega,R.jJ,<-hz]at this;grind
  have zt:=R.aF (cFS z0) (show 0<=1/2-R.pz (bA x) by grind);have bOZ:=cFX z0 tp;have aQA:R.pz (bA x-p-270)<=R.pz (bA x-p-61):=R.cG (by omega);rw[q2]at aQA;have cs2:=R.Lz (cFS T0) (show R.ab (R.qz x)<=1 by grind)
  by_cases c:2*bA x+8 < -p
  ·have dL:bC.rT x p=bI.nD (1,0) (-1,-p-3):=by unfold bC.rT;rw[e1,if_neg h0,if_pos c]
   have dH:bC.qN x p=(1,0):=by unfold bC.qN;rw[e1,if_neg h0,if_pos c]
   have pm:=Ut (k:=-p-3) (by omega);have o1:R.ab (R.qz (1,0))<=R.pz 0:=by rw[oV,R.fV,R.bG (by grind)];exact cGB
   have bEB:bI.jW (1,0) (-1,-p-3)=true:=by
    refine aAL (E:=-p-3) (n:=(p+3).toNat) Ba pm (by dsimp only;omega) (by dsimp only;omega) ?_ ?_ (by omega) (by omega) (by omega)
    ·rw[show -p-3+(((p+3).toNat:Nat):Int)=0 by omega];exact o1
    ·rw[Is,R.iJ,R.bG (cFS (R.dJ _))];exact R.cG (by omega)
   have pl:=Rf Ba pm bEB;have xl:=aEE (p:=(1,0)) (q:=(-1,-p-3)) (E:=-p-3) (by dsimp only;omega) (by dsimp only;omega) (by omega);have ql:=Re (1,0) (-1,-p-3);have q3:R.pz (-p-3)=268435456*z:=by
    have:=R.fS (-p-3) (n:=28) (c:=268435456) (by norm_cast);rw[show -p-3-((28:Nat):Int)=-p-31 by omega,<-hz]at this;grind
   rw[Is,oV,q3]at ql;rw[<-dL]at pl xl ql;have lo:R.qz (bC.rT x p)<=R.cs (R.ab (R.qz x))-R.pz (bA x-p-270):=by
    have a1:R.ab (R.qz x)*R.ab (R.qz x)<=R.pz (bA x+1)*R.pz (bA x+1):=R.bZ (cFS T0) T1 (cFS T0) T1;rw[<-R.jJ]at a1;have a2:R.pz (bA x+1+(bA x+1))<=R.pz (-p-7):=R.cG (by omega);have a3:R.pz (-p-7)=16777216*z:=by
     have:=R.fS (-p-7) (n:=24) (c:=16777216) (by norm_cast);rw[show -p-7-((24:Nat):Int)=-p-31 by omega,<-hz]at this;grind
    grind
   refine⟨pl,by rw[dH];exact Ba,?_,by rw[dH];decide +kernel,?_,by rw[dH,oV];exact v2,?_,by rw[dH,oV];exact cGB,fun _=>lo,fun _ h=>absurd c h,fun _ _=>bEB,fun _ h=>absurd c h⟩
   ·have v:R.ab (R.qz (bC.rT x p))<=R.pz 0:=by
     rw[R.fV,R.bG (by grind)];grind
    have:=aND xl v;omega
   ·have:=R.dJ (bA x-p-270);grind
   ·rw[dH,oV,q1];grind
  ·have dL:bC.rT x p=shD false (bD.Ic (aR.Cb x p).2 (2^(2*aR.hv x p+22)) (aR.w2 x p)) (p+32):=by unfold bC.rT;rw[e1,if_neg h0,if_neg c]
   have dH:bC.qN x p=bD.xU (shD true (bD.Ch (aR.Cb x p).2 (2^(2*aR.hv x p+22)) (aR.w2 x p)) (p+32)):=by unfold bC.qN;rw[e1,if_neg h0,if_neg c]
   obtain⟨b1,b2,b3⟩:=Wv h0 (by grind) (by omega) ht hp;have hV:R.pz (bA x-1)<=R.cs (R.ab (R.qz x)):=by
    have:=R.qA (bA x);grind
   obtain⟨a1,a2,a3,a4,a5,a6⟩:=bEA h0 (by omega) ht hp hV v2 b3;have a7:=a1.2.2.2.2.2;have c1:=zF false (bD.Ic (aR.Cb x p).2 (2^(2*aR.hv x p+22)) (aR.w2 x p)) (p+32).toNat;have c2:=zF true (bD.Ch (aR.Cb x p).2 (2^(2*aR.hv x p+22)) (aR.w2 x p)) (p+32).toNat;rw[show(((p+32).toNat:Nat):Int)=p+32 by omega]at c1 c2;obtain⟨k1,k2,k3,k4⟩:=aDZ (shD true (bD.Ch (aR.Cb x p).2 (2^(2*aR.hv x p+22)) (aR.w2 x p)) (p+32));have c3:=aMZ (n:=80000) (by omega) (show bl (shD true (bD.Ch (aR.Cb x p).2 (2^(2*aR.hv x p+22)) (aR.w2 x p)) (p+32)).1.natAbs<=80000 by omega);have c4:=aCF a7;rw[<-dL]at a2 a3 a4 c1;rw[<-dH]at k1 k2 k3 k4 c3 c4;generalize shD true (bD.Ch (aR.Cb x p).2 (2^(2*aR.hv x p+22)) (aR.w2 x p)) (p+32)=hi at *;rw[<-hz]at a4 a6;have zV:=R.aF (cFS z0) (show 0<=1-R.cs (R.ab (R.qz x)) by grind);have m9:=R.dJ (bA x-p-270);have room:R.cs (R.ab (R.qz x))+R.pz (bA x-p-270)<=1:=by
    have a1:R.pz (bA x)*R.pz (bA x)<=R.ab (R.qz x)*R.ab (R.qz x):=R.bZ (cFS tp) t1 (cFS tp) t1;rw[<-R.jJ]at a1;have a2:R.pz (-p-9)<=R.pz (bA x+bA x):=R.cG (by omega);have a3:R.pz (-p-9)=4194304*z:=by
     have:=R.fS (-p-9) (n:=22) (c:=4194304) (by norm_cast);rw[show -p-9-((22:Nat):Int)=-p-31 by omega,<-hz]at this;grind
    have a5:=R.bZ (cFS T0) hT (cFS T0) hT;have a6:=R.aF (show 0<=R.ab (R.qz x)*R.ab (R.qz x) by grind) (show 0<=16/25-R.ab (R.qz x)*R.ab (R.qz x) by grind);generalize R.ab (R.qz x)=T at *;grind
   have hm:R.cs (R.ab (R.qz x))+R.pz (bA x-p-270)<=R.qz (bC.qN x p):=k4 _ a5 room;rw[q2]at a4 a6;refine⟨a2,c4,by omega,c3,by grind,by grind,?_,k1,fun _=>a3,fun _ _=>hm,fun _ h=>absurd h c,fun _ _=>⟨⟨⟨by omega,by omega⟩,b1⟩,a1⟩⟩;rw[q1];grind
end M
namespace W
open Go AI M
namespace Tt
def E:=mE [(12,bR.aJ)] 8 [5] [] []
def aE:=bd f241
theorem aX:Nk E aE:=nk
theorem start a:aH E f241 aE [D.s (sc (int u64 a))]=letI A:=bif cS.fN 64 a&&cB.jD 64 a then aN (bR.nB 64 a) (bR.nI 64 a)else((0:Int),(0:Int));aO (((64:Int)=(32:Int)\/(64:Int)=(64:Int))/\0<=a/\a<18446744073709551616) (some [D.agg [sc (bool (isNeg A.fst)),ints u64 (M6.dg A.fst.natAbs),sc (int i64 A.snd)],D.s (sc (int i64 (bif cS.fN 64 a then bif cB.jD 64 a then(0:Int)else(6:Int)else(2:Int))))]):=eJ aX
def sp(b:Int):Prop×List D:=(0<=b/\b<18446744073709551616,[dD (bif cS.fN 64 b&&cB.jD 64 b then aN (bR.nB 64 b) (bR.nI 64 b)else(0,0)),.s (.sc (.int .i64 (bif cS.fN 64 b then(bif cB.jD 64 b then 0 else 6)else 2)))])
theorem spec:jE E f241 aE (pN .u64) sp:=fun b h=>(start b).trans (gP ⟨Or.inr rfl,h.1,h.2⟩)
def aJ:dK:=orc1 (pN .u64) sp
theorem ok:OK 241 aJ:=(eZ E aE (aA bR.ok aD) func241).pU rfl spec
end Tt
namespace Df
def E:=mE [(51,aGM.aJ)] 5 [] [] []
def aE:=bd f244
theorem aX:Nk E aE:=nk
theorem start a:aH E f244 aE [D.s (sc (int i64 a))]=aO ((-9223372036854775808:Int)<=a/\a<9223372036854775808) (some [D.agg [sc (bool (isNeg a)),ints u64 (M6.dg a.natAbs)]]):=eJ aX
def sp(a:Int):Prop×List D:=(-9223372036854775808<=a/\a<9223372036854775808,[wD a])
theorem spec:jE E f244 aE (pN .i64) sp:=fun a h=>(start a).trans (gP h)
def aJ:dK:=orc1 (pN .i64) sp
theorem ok:OK 244 aJ:=(eZ E aE (aA aGM.ok aD) func244).pU rfl spec
end Df
namespace tD
def E:=mE [(244,Df.aJ),(50,iY.aJ),(158,Ih.aJ)] 22 [] [] []
def aE:=bd f242
theorem aX:Nk E aE:=nk
theorem start a b c:aH E f242 aE [D.agg [sc (bool a),ints u64 b,sc (int i64 c)]]=letI F:=(false,b,c);letI C:=wv (isNeg 3,M6.dg (cFK 3));letI A:=bif gY C (-2:Int)then aN C (-2:Int)else((0:Int),(0:Int));letI B:=(isNeg A.fst,M6.dg A.fst.natAbs,A.snd);aO ((-9223372036854775808:Int)<=(3:Int)/\(3:Int)<(9223372036854775808:Int)) (aO (gL (isNeg 3,M6.dg 3)/\(-9223372036854775808:Int)<=(-2:Int)/\(-2:Int)<(9223372036854775808:Int)) (aO (aQ F/\aQ B) (some [D.s (sc (bool (decide (lH (bI.mY (dv F) (dv B)) (bI.mW (dv F) (dv B))<=0))))]))):=eJ aX
def aOB(p:Int×Int):Bool:=decide (eF ((p.1.natAbs:Int),p.2) (3,-2)<=0)
def sp(x:gE):Prop×List D:=(aQ x,[.s (.sc (.bool (aOB (dv x))))])
theorem spec:jE E f242 aE iX sp:=by
 intro x h;have hx:aQ x:=h;refine(start x.1 x.2.1 x.2.2).trans ?_;have e3:wv (isNeg 3,M6.dg (cFK 3))=3:=nA 3;have i3:gY 3 (-2)=true:=by decide +kernel
 have n3:aN 3 (-2)=(3,-2):=by decide +kernel
 have p3:jK (3,-2):=by
  have:=gM (z:=3) (e:=-2) i3 (by decide +kernel);rw[n3]at this;exact this
 have d3:=dG p3;have v3:=dU (3,-2);dsimp only at d3 v3;have ok:aQ (false,x.2.1,x.2.2):=⟨⟨hx.1.1,fun hf=>(by cases hf),hx.1.len⟩,hx.2⟩;have vx:dv (false,x.2.1,x.2.2)=((((dv x).1.natAbs:Nat):Int),(dv x).2):=by
  rw[show(dv x).1.natAbs=M6.val x.2.1 from iG (x.1,x.2.1)];rfl
 rw[gP ⟨by decide,by decide⟩,gP ⟨fT (z:=3) (by decide +kernel),by decide,by decide⟩];simp only[e3,i3,n3,cond_true];rw[gP ⟨ok,d3⟩,v3,vx];rfl
def aJ:dK:=orc1 iX sp
theorem ok:OK 242 aJ:=(eZ E aE (aA Df.ok (aA iY.ok (aA Ih.ok aD))) func242).pU rfl spec
end tD
end W
namespace R
open W.Arctan
theorem Cn{k w:Nat}(hk:2<=k):∀f j p m,2^w/k^(2*j+1)<4^f->m<=p->(j%2=1->m+iE k w j<=p) ->
  ∃N J,rounds k f (2^w/k^(2*j+1)) p m (2*j+1) j=(N,J)/\J<=j+f/\(N:Rat)=(p:Rat)-(m:Rat)+(sum (fun i=>sg i*(iE k w i:Rat)) J-sum (fun i=>sg i*(iE k w i:Rat)) j)/\iE k w J=0
 |0,j,p,m,h,hm,_=>by
  have h0:2^w/k^(2*j+1)=0:=by simpa using h
  refine⟨p-m,j,rfl,bVO _,?_,by unfold iE;rw[h0,cFC]⟩;have:((p-m:Nat):Rat)=(p:Rat)-(m:Rat):=by
   have e:p-m+m=p:=by omega
   have e2:((p-m:Nat):Rat)+(m:Rat)=(p:Rat):=by exact_mod_cast e
   grind
  rw[this];grind
 |f+1,j,p,m,h,hm,ho=>by
  by_cases h0:2^w/k^(2*j+1)=0
  ·refine⟨p-m,j,by unfold rounds;rw[if_pos h0],by omega,?_,by unfold iE;rw[h0,cFC]⟩;have:((p-m:Nat):Rat)=(p:Rat)-(m:Rat):=by
    have e:p-m+m=p:=by omega
    have e2:((p-m:Nat):Rat)+(m:Rat)=(p:Rat):=by exact_mod_cast e
    grind
   rw[this];grind
  ·have e1:2^w/k^(2*j+1)/k/k=2^w/k^(2*(j+1)+1):=by
    rw[cCA,cCA,show 2*(j+1)+1=2*j+1+1+1 by omega,cAN k (2*j+1+1),cAN k (2*j+1),cAR]
   have e2:2^w/k^(2*(j+1)+1)<4^f:=by
    rw[<-e1,cCA];apply cBG;have:4<=k*k:=cFZ hk hk;rw[cAN 4 f,cAM (4^f)]at h;exact bWL h (bXD _ this)
   have e3:iE k w (j+1)<=iE k w j:=by
    unfold iE;rw[<-e1];refine bWK (Nat.div_le_div_left (by omega) (by omega)) (Nat.div_le_div_right ?_);exact bWK (cFV _ _) (cFV _ _)
   have es:sum (fun i=>sg i*(iE k w i:Rat)) (j+1)=sum (fun i=>sg i*(iE k w i:Rat)) j+sg j*(iE k w j:Rat):=dO _ _;have ea:2^w/k^(2*j+1)/(2*j+1)=iE k w j:=rfl;unfold rounds;rw[if_neg h0,e1,ea,show 2*j+1+2=2*(j+1)+1 by omega]
   by_cases hc:(2*j+1)%4=1
   ·rw[if_pos hc];obtain⟨N,J,r1,r2,r3,r4⟩:=Cn hk f (j+1) (p+iE k w j) m e2 (by omega) (fun _=>by omega);refine⟨N,J,r1,by omega,?_,r4⟩;have:sg j=1:=by unfold sg;rw[aU]
    rw[es,this]at r3;rw[cHZ]at r3;grind
   ·rw[if_neg hc];have hj:=ho (by omega);obtain⟨N,J,r1,r2,r3,r4⟩:=Cn hk f (j+1) p (m+iE k w j) e2 (by omega) (fun h=>by omega);refine⟨N,J,r1,by omega,?_,r4⟩;have:sg j=-1:=by unfold sg;rw[aW]
    rw[es,this]at r3;rw[cHZ]at r3;grind
theorem Wz{k:Nat}(hk:2<=k){w:Nat}(hw:w<=1000000):(atan k w).2<=w+2/\ab (((atan k w).1:Rat)-((2^w:Nat):Rat)*Wy k)<=((atan k w).2:Rat)+2:=by
 have h:2^w/k^(2*0+1)<4^(w+2):=by
  rw[Lt];exact cBY (cFV _ _) (cCW (by omega) (by omega))
 obtain⟨N,J,r1,r2,r3,r4⟩:=Cn (w:=w) hk (w+2) 0 0 0 h (bVO _) (fun h=>by omega);have e:atan k w=(N,J):=by
  unfold atan;rw[<-r1];simp
 rw[e];have hJ:J<=1048576:=by omega
 have:=aED hk w hJ r4;refine⟨by dsimp only;omega,?_⟩;dsimp only;have e0:sum (fun i=>sg i*(iE k w i:Rat)) 0=0:=rfl;rw[e0]at r3;have e1:(N:Rat)=sum (fun i=>sg i*(iE k w i:Rat)) J:=by
  have z:((0:Nat):Rat)=0:=by norm_cast
  rw[z]at r3;grind
 rw[e1];exact this
end R
namespace W
open Go AI M
namespace Al
def E:=mE [(144,gN.aJ),(145,cP.aJ),(250,Mw.aJ)] 55 [52] [(6,[0,1,6,7,20,21])] []
def aE:=bd f231
theorem aX:Nk E aE:=nk
def L6 a b (c:Nat) (d:List Int) e f g:=qV E f231 aE 6 [iM a,dC b,Ck 2 c 22 d,dC e,bP f,bP g]
theorem start a b:aH E f231 aE [D.s (ints u64 a),D.s (sc (int u64 b))]=letI A:=(a.length:Int);letI B:=A+(1:Int);aO (a.length<=1099511627776) (aB (!gN.oQ a) (some [D.s (sc (slice none 0 0)),D.s (sc (int i64 2))]) (if 0<=i64.wrap B/\i64.wrap B<=i64.wrap B/\i64.wrap B<=8796093022208 then Al.L6 a b (i64.wrap B).toNat (bXR (i64.wrap B).toNat (0:Int)) 0 A 0 else none)):=eJ aX
theorem aEG a b c d e f g:L6 a b c d e f g=letI C:=a.getD g.toNat 0*b%18446744073709551616+e+0;letI B:=(a.length:Int);letI A:=d.set B.toNat e;aB (decide (g<f)) (if 0<=g/\g<B then aO (0<=a.getD g.toNat 0/\a.getD g.toNat 0<(18446744073709551616:Int)/\0<=b/\b<18446744073709551616) (aO (0<=a.getD g.toNat 0*b%18446744073709551616/\0<=e/\(0:Int)<=(0:Int)/\(0:Int)<=(1:Int)) (if 0<=g/\g<(c:Int)then Al.L6 a b c (d.set g.toNat (C%18446744073709551616)) (u64.wrap (a.getD g.toNat 0*b/18446744073709551616+C/18446744073709551616)) f (i64.wrap (g+1))else none))else none) (if 0<=B/\B<(c:Int)then aO (M6.cY A/\A.length<=1099511627776) (some [D.s (ints u64 (bif cP.mM (M6.val A)then M6.dg (M6.val A)else [])),D.s (sc (int i64 (bif cP.mM (M6.val A)then(0:Int)else(5:Int))))])else none):=lJ aX
theorem L{a:List Int}{b:Nat}(ha:M6.cY a)(hl:a.length<=8192)(hb:b<18446744073709551616):∀(k i:Nat) (pre:List Int) (c:Nat),i+k=a.length->pre.length=i->M6.cY pre->c<18446744073709551616 ->
  M6.val pre+18446744073709551616^i*c=M6.val (a.take i)*b ->
  L6 a b (a.length+1) (pre ++ bXR (k+1) 0) c a.length i=some [D.s (.ints .u64 (bif cP.mM (M6.val a*b)then M6.dg (M6.val a*b)else [])),D.s (.sc (.int .i64 (bif cP.mM (M6.val a*b)then 0 else 5)))]:=by
 intro k
 induction k with
 |zero =>
  intro i pre c hi hp hd hc hv;rw[M6.dS (by omega)]at hv;have hs:(pre ++ bXR (0+1) 0).set a.length (c:Int)=pre ++ [(c:Int)]:=by
   have:=zG (pre:=pre) (i:=a.length) (k:=0) (by omega) (c:Int);simpa using this
  have hval:M6.val (pre ++ [(c:Int)])=M6.val a*b:=by
   rw[M6.nV,hp,bZL];exact hv
  have bJK:M6.cY (pre ++ [(c:Int)]):=M6.nZ hd ⟨cFA _,by omega⟩;rw[aEG,aL,if_pos ⟨by omega,by omega⟩,bZL,hs,gP ⟨bJK,by simp;omega⟩,hval]
 |succ k ih =>
  intro i pre c hi hp hd hc hv;have g:=ha.get i;obtain⟨x,hx⟩:=cAS g.1;have aTF:x<18446744073709551616:=by omega
  have bMK:x*b<=18446744073709551615*18446744073709551615:=cFZ (by omega) (by omega);have e1:((x:Int)*(b:Int))=((x*b:Nat):Int):=by rw[cBP]
  have sT:M6.val (pre ++ [(((x*b%18446744073709551616+c)%18446744073709551616:Nat):Int)])+18446744073709551616^(i+1)*(x*b/18446744073709551616+(x*b%18446744073709551616+c)/18446744073709551616)=M6.val (a.take (i+1))*b:=by
   rw[M6.nV,hp,M6.dR,hx,bZL,bZL,bWI,<-hv,cAN,cAR (18446744073709551616^i) x b,cAR (18446744073709551616^i) 18446744073709551616];have e:(x*b%18446744073709551616+c)%18446744073709551616+18446744073709551616*(x*b/18446744073709551616+(x*b%18446744073709551616+c)/18446744073709551616)=x*b+c:=by omega
   have e2:=congrArg (18446744073709551616^i*·) e;simp only[cAO]at e2 ⊢;omega
  have bNR:x*b/18446744073709551616+(x*b%18446744073709551616+c)/18446744073709551616<18446744073709551616:=by omega
  have w1:u64.wrap ((x:Int)*(b:Int)/18446744073709551616+((x:Int)*(b:Int)%18446744073709551616+(c:Int)+0)/18446744073709551616)=((x*b/18446744073709551616+(x*b%18446744073709551616+c)/18446744073709551616:Nat):Int):=by
   rw[e1,wrap_u64];omega
  have w2:((x:Int)*(b:Int)%18446744073709551616+(c:Int)+0)%18446744073709551616=(((x*b%18446744073709551616+c)%18446744073709551616:Nat):Int):=by rw[e1];omega
  rw[aEG,aP,if_pos ⟨by omega,by omega⟩,bZL,hx,gP ⟨by omega,by omega,by omega,by omega⟩,gP ⟨by rw[e1];omega,by omega,by omega,by omega⟩,if_pos ⟨by omega,by omega⟩,zG hp,w1,w2,wrap_i64 (n:=(i:Int)+1),show(i:Int)+1=((i+1:Nat):Int)from rfl];exact ih (i+1) _ _ (by omega) (by simp[hp]) (M6.nZ hd ⟨cFA _,by omega⟩) bNR sT
def sp(a:List Int)(b:Int):Prop×List D:=(M6.cR a/\a.length<=8192/\0<=b/\b<18446744073709551616,[.s (.ints .u64 (bif cP.mM (M6.val a*b.toNat)then M6.dg (M6.val a*b.toNat)else [])),.s (.sc (.int .i64 (bif cP.mM (M6.val a*b.toNat)then 0 else 5)))])
theorem spec:gT E f231 aE (pI .u64) (pN .u64) sp:=by
 rintro a b ⟨ha,hl,h0,h1⟩;obtain⟨n,rfl⟩:=cAS h0;refine(start a n).trans ?_;have w:i64.wrap ((a.length:Int)+1)=((a.length+1:Nat):Int):=by rw[wrap_i64];rfl
 have:=L (b:=n) ha.kW hl (by omega) a.length 0 [] 0 (by omega) rfl M6.oZ (by omega) (by simp[M6.val]);rw[gP,gN.nM ha hl,bXO,bF,w,if_pos ⟨by omega,by omega,by omega⟩,bZL];rw[bZR]at this;exact this
def aJ:dK:=orc2 (pI .u64) (pN .u64) sp
theorem ok:OK 231 aJ:=(eZ E aE (aA gN.ok (aA cP.ok (aA Mw.ok aD))) func231).mT rfl spec
end Al
namespace To
def E:=mE [(102,uE.aJ),(100,uF.aJ),(95,oA.aJ)] 26 [14,21] [] []
def aE:=bd f232
theorem aX:Nk E aE:=nk
theorem start a b:aH E f232 aE [D.s (ints u64 a),D.s (sc (int u64 b))]=letI B:=M6.dg b.toNat;letI C:=M6.val a+M6.val B;letI A:=M6.cR a/\M6.cR B/\a.length<=8192/\B.length<=8192;aO (0<=b/\b<18446744073709551616) (aO A (aO (0<=b/\b<18446744073709551616) (aO A (some [D.s (ints u64 (M6.dg (M6.val a-M6.val B))),D.s (ints u64 (bif cP.mM C then M6.dg C else []))])))):=eJ aX
theorem aUY{v n:Nat}(hv:v<18446744073709551616^8000)(hn:n<18446744073709551616):cP.mM (v+n)=true:=by
 unfold cP.mM;refine decide_eq_true (bWK (M6.eB (k:=8001) ?_) (by decide));rw[cAN];have h1:1<=18446744073709551616^8000:=bYO (by decide);generalize 18446744073709551616^8000=X at *;omega
def sp(a:List Int)(b:Int):Prop×List D:=(M6.cR a/\a.length<=8000/\0<=b/\b<18446744073709551616,[.s (.ints .u64 (M6.dg (M6.val a-b.toNat))),.s (.ints .u64 (M6.dg (M6.val a+b.toNat)))])
theorem spec:gT E f232 aE (pI .u64) (pN .u64) sp:=by
 rintro a b ⟨hn,hl,h0,h1⟩;have hb:b.toNat<18446744073709551616:=by omega
 have lb:(M6.dg b.toNat).length<=1:=M6.eB (k:=1) (by rw[Nat.pow_one];exact hb);refine(start a b).trans ?_;have lv:=M6.dT hn.kW;have ok:cP.mM (M6.val a+b.toNat)=true:=aUY (bWL lv (bYP (by decide) hl)) hb;rw[gP ⟨h0,h1⟩,gP ⟨hn,M6.aY _,by omega,by omega⟩,gP ⟨h0,h1⟩,gP ⟨hn,M6.aY _,by omega,by omega⟩,M6.bQ,ok];rfl
def aJ:dK:=orc2 (pI .u64) (pN .u64) sp
theorem ok:OK 232 aJ:=(eZ E aE (aA uE.ok (aA uF.ok (aA oA.ok aD))) func232).mT rfl spec
end To
namespace lD
def E:=mE [(230,dW.aJ),(231,Al.aJ),(102,uE.aJ),(232,To.aJ)] 45 [42] [] []
def aE:=bd f198
theorem aX:Nk E aE:=nk
theorem start a:aH E f198 aE [D.s (sc (int i64 a))]=letI K:=Arctan.atan (cJN 5) a.toNat;letI I:=Arctan.atan (cJN 239) a.toNat;letI F:=M6.dg K.fst;letI G:=bif cP.mM (M6.val F*16)then M6.dg (M6.val F*16)else [];letI C:=M6.dg I.fst;letI H:=bif cP.mM (M6.val C*4)then M6.dg (M6.val C*4)else [];letI B:=u64.wrap ((16:Int)*(↑((2:Nat)+(3:Nat)*K.snd):Int))+u64.wrap ((4:Int)*(↑((2:Nat)+(3:Nat)*I.snd):Int));letI A:=M6.dg (M6.val G-M6.val H);aO (((2:Int)<=(5:Int)/\(5:Int)<(4294967296:Int))/\0<=a/\a<=150000) (aO (((2:Int)<=(239:Int)/\(239:Int)<(4294967296:Int))/\0<=a/\a<=150000) (aO (M6.cR F/\F.length<=8192/\(0:Int)<=(16:Int)/\(16:Int)<(18446744073709551616:Int)) (aO (M6.cR C/\C.length<=8192/\(0:Int)<=(4:Int)/\(4:Int)<(18446744073709551616:Int)) (aO (M6.cR G/\M6.cR H/\G.length<=8192/\H.length<=8192) (aO (M6.cR A/\A.length<=8000/\0<=u64.wrap B/\u64.wrap B<18446744073709551616) (some [D.s (ints u64 (M6.dg (M6.val A-(u64.wrap B).toNat))),D.s (ints u64 (M6.dg (M6.val A+(u64.wrap B).toNat)))])))))):=eJ aX
def mX(w:Nat):Nat:=(Arctan.atan 5 w).1*16-(Arctan.atan 239 w).1*4
def mO(w:Nat):Nat:=16*(2+3*(Arctan.atan 5 w).2)+4*(2+3*(Arctan.atan 239 w).2)
theorem aTC(w:Nat):mO w<=60*w+160:=by
 have h1:=(Arctan.En 5 w).2;have h2:=(Arctan.En 239 w).2;unfold mO;omega
def sp(w:Int):Prop×List D:=(0<=w/\w<=150000,[.s (.ints .u64 (M6.dg (mX w.toNat-mO w.toNat))),.s (.ints .u64 (M6.dg (mX w.toNat+mO w.toNat)))])
theorem spec:jE E f198 aE (pN .i64) sp:=by
 rintro w ⟨h0,h1⟩;refine(start w).trans ?_;obtain⟨q,rfl⟩:=cAS h0;have a1:=Arctan.En 5 q;have a2:=Arctan.En 239 q;have hO:=aTC q;unfold sp;have k1:cJN 5=5:=rfl;have k2:cJN 239=239:=rfl;simp only[bZL,k1,k2,M6.bQ];have eO:u64.wrap (u64.wrap (16*((2+3*(Arctan.atan 5 q).2:Nat):Int))+u64.wrap (4*((2+3*(Arctan.atan 239 q).2:Nat):Int)))=((mO q:Nat):Int):=by
  rw[wrap_u64 (n:=16*_),wrap_u64 (n:=4*_),wrap_u64];unfold mO;omega
 rw[eO];have hX:mX q<=(Arctan.atan 5 q).1*16:=cCH _ _;unfold mX at hX ⊢;generalize (Arctan.atan 5 q).1=a at *;generalize (Arctan.atan 239 q).1=b at *;have hp:2^(2*q+4+4)=16*2^(2*q+4):=by rw[cAQ];omega
 have b1:a*16<2^(2*q+4+4):=by rw[hp];omega
 have b2:b*4<2^(2*q+4+4):=by rw[hp];omega
 have b3:a*16-b*4<2^(2*q+4+4):=by omega
 have l3:(M6.dg (a*16-b*4)).length<=8000:=fL (k:=8000) (bWK (cZ.2 b3) (by omega));rw[gP ⟨⟨by decide,by decide⟩,by omega,by omega⟩,gP ⟨⟨by decide,by decide⟩,by omega,by omega⟩,gP ⟨M6.aY _,dW.lF a1.1 (by omega),by decide,by decide⟩,gP ⟨M6.aY _,dW.lF a2.1 (by omega),by decide,by decide⟩,
  dW.aSX b1 (by omega),dW.aSX b2 (by omega),cond_true,cond_true]
 simp only[M6.bQ,bZL];rw[gP ⟨M6.aY _,M6.aY _,dW.lF b1 (by omega),dW.lF b2 (by omega)⟩,gP ⟨M6.aY _,l3,by omega,by omega⟩]
open R in
theorem num {w:Nat} (bOI:40<=w) (hw:w<=1000000):R.ab ((mX w:Rat)-((2^w:Nat):Rat)*R.pi)<=(mO w:Rat):=by
 obtain⟨j1,e1⟩:=R.Wz (k:=5) (by decide) hw;obtain⟨j2,e2⟩:=R.Wz (k:=239) (by decide) hw;have hp:=R.gX.1;have hW:(1099511627776:Rat)<=((2^w:Nat):Rat):=by
  have:2^40<=2^w:=bYP (by decide) bOI;exact_mod_cast this
 have hO:(mO w:Rat)=16*(2+3*((Arctan.atan 5 w).2:Rat))+4*(2+3*((Arctan.atan 239 w).2:Rat)):=by
  unfold mO
  push_cast
  rfl
 have hJ1:((Arctan.atan 5 w).2:Rat)<=1000002:=by exact_mod_cast bWK j1 (by omega)
 have hJ2:((Arctan.atan 239 w).2:Rat)<=1000002:=by exact_mod_cast bWK j2 (by omega)
 have Zh:(0:Rat)<=((Arctan.atan 5 w).2:Rat):=by exact_mod_cast cBX _
 have aQJ:(0:Rat)<=((Arctan.atan 239 w).2:Rat):=by exact_mod_cast cBX _
 rw[hO];clear hO;have h3:0<=R.pi-3:=by grind
 have hm:=R.aF (cFT (by decide:(0:Rat)<=1099511627776) hW) h3;have bBL:((2^w:Nat):Rat)*R.pi=16*(((2^w:Nat):Rat)*R.Wy 5)-4*(((2^w:Nat):Rat)*R.Wy 239):=by
  rw[show R.pi=16*R.Wy 5-4*R.Wy 239 from rfl];grind
 have bNE:3*((2^w:Nat):Rat)<=((2^w:Nat):Rat)*R.pi:=by grind
 rw[R.bW]at e1 e2 ⊢;have bTO:(mX w:Rat)=((mX w:Nat):Rat):=rfl;unfold mX;generalize ((2^w:Nat):Rat)*R.pi=WP at *;generalize ((2^w:Nat):Rat)*R.Wy 5=W5 at *;generalize ((2^w:Nat):Rat)*R.Wy 239=W2 at *;generalize ((2^w:Nat):Rat)=W at *;clear hm h3 hp bTO;generalize ((Arctan.atan 5 w).2:Rat)=J1 at *;generalize ((Arctan.atan 239 w).2:Rat)=J2 at *;generalize (Arctan.atan 5 w).1=a at *;generalize (Arctan.atan 239 w).1=b at *;have hle:b*4<=a*16:=by
  have:(b:Rat)*4<=(a:Rat)*16:=by
   obtain⟨e3,e4⟩:=e1;obtain⟨e5,e6⟩:=e2;grind
  exact_mod_cast this
 have hX:((a*16-b*4:Nat):Rat)=(a:Rat)*16-(b:Rat)*4:=by
  have e:(a*16-b*4)+b*4=a*16:=by omega
  have e':((a*16-b*4:Nat):Rat)+(b:Rat)*4=(a:Rat)*16:=by exact_mod_cast e
  grind
 rw[hX];obtain⟨e3,e4⟩:=e1;obtain⟨e5,e6⟩:=e2;constructor <;> grind
def aJ:dK:=orc1 (pN .i64) sp
theorem ok:OK 198 aJ:=(eZ E aE (aA dW.ok (aA Al.ok (aA uE.ok (aA To.ok aD)))) func198).pU rfl spec
end lD
namespace sA
def E:=mE [(198,lD.aJ),(104,Ez.aJ),(101,Am.aJ)] 39 [19,25] [(5,[0,4]),(3,[0])] [3]
def aE:=bd f152
theorem aX:Nk E aE:=nk
def J3 a:=mD E f152 aE 3 [bP a]
def L5 a b:=qV E f152 aE 5 [bP a,bP b]
theorem start a:aH E f152 aE [D.s (sc (int i64 a))]=letI A:=some [D.s (sc (slice none 0 0)),D.s (sc (int i64 1))];aB (decide (a<1)) A (aB (decide (70000<a)) A (sA.J3 a)):=eJ aX
theorem gU a:J3 a=sA.L5 a 48:=cJ aX
theorem Qj a b:L5 a b=letI G:=i64.wrap (a+b);letI B:=M6.dg (lD.mX G.toNat+lD.mO G.toNat);letI F:=M6.dg (M6.val B/(2:Nat)^b.toNat);letI A:=M6.dg (lD.mX G.toNat-lD.mO G.toNat);letI C:=M6.dg (M6.val A/(2:Nat)^b.toNat);aO (0<=i64.wrap (a+b)/\i64.wrap (a+b)<=150000) (aO (M6.cR A/\A.length<=8192/\0<=b/\b<4611686018427387904) (aO (M6.cR B/\B.length<=8192/\0<=b/\b<4611686018427387904) (aO (M6.cY C/\M6.cY F/\C.length<=1099511627776/\F.length<=1099511627776) (aB (lB (M6.val C) (M6.val F)==0) (some [D.s (ints u64 C),D.s (sc (int i64 0))]) (sA.L5 a (i64.wrap (b*2))))))):=lJ aX
def sp(p:Int):Prop×List D:=(1<=p/\p<=70000,[.s (.ints .u64 (M6.dg (R.pF p.toNat))),.s (.sc (.int .i64 0))])
theorem bAQ(w:Nat):lD.mX w<2^(2*w+8):=by
 have a1:=Arctan.En 5 w;have hp:2^(2*w+8)=16*2^(2*w+4):=by rw[show 2*w+8=2*w+4+4 by omega,cAQ];omega
 have:lD.mX w<=(Arctan.atan 5 w).1*16:=cCH _ _;omega
theorem spec:jE E f152 aE (pN .i64) sp:=by
 rintro p ⟨h0,h1⟩;refine(start p).trans ?_;obtain⟨q,rfl⟩:=cAS (show 0<=p by omega);have hX:=lD.num (w:=q+48) (by omega) (by omega);have hO:=lD.aTC (q+48);have lX:=bAQ (q+48);have bUH:2*lD.mO (q+48)<=2^(48-24):=by
  have:2^(48-24)=16777216:=by decide
  omega
 obtain⟨o1,o2,o3⟩:=R.bAH (q:=q) (g:=48) (by omega) (by omega) bUH hX;have ew:i64.wrap ((q:Int)+48)=((q+48:Nat):Int):=by rw[wrap_i64];omega
 unfold sp;rw[aL,aL,gU,Qj,ew,bZL,bZL];have hp:2^(2*(q+48)+9)=2*2^(2*(q+48)+8):=by rw[cAN];omega
 have bOI:2^40<=2^(2*(q+48)+8):=gO;have l1:=dW.lF (n:=lD.mX (q+48)-lD.mO (q+48)) (k:=2*(q+48)+8) (by omega) (by omega);have l2:=dW.lF (n:=lD.mX (q+48)+lD.mO (q+48)) (k:=2*(q+48)+9) (by omega) (by omega);rw[gP ⟨by omega,by omega⟩,gP ⟨M6.aY _,l1,by decide,by decide⟩,gP ⟨M6.aY _,l2,by decide,by decide⟩];simp only[M6.bQ,show cJN 48=48 from rfl,o2,o3];have l3:(M6.dg (R.pF q)).length<=8192:=by
  rw[<-o2];exact dW.lF (k:=2*(q+48)+8) (cBY (cFV _ _) (by omega)) (by omega)
 rw[gP ⟨M6.lG _,M6.lG _,by omega,by omega⟩,cO (by unfold lB;simp)]
def aJ:dK:=orc1 (pN .i64) sp
theorem ok:OK 152 aJ:=(eZ E aE (aA lD.ok (aA Ez.ok (aA Am.ok aD))) func152).pU rfl spec
end sA
namespace tF
def E:=mE [(48,Ao.aJ),(192,iW.aJ)] 37 [] [] []
def aE:=bd f254
theorem aX:Nk E aE:=nk
theorem start a c d b:aH E f254 aE [D.agg [sc (bool a),ints u64 c,sc (int i64 d)],D.s (sc (int i64 b))]=letI C:=i64.wrap ((0:Int)-d)-b;letI B:=wv (a,c)/(↑((2:Nat)^(i64.wrap C).toNat):Int);letI A:=bif fit (M6.val c*(2:Nat)^(i64.wrap (d+b)).toNat)then wv (a,c)*(↑((2:Nat)^(i64.wrap (d+b)).toNat):Int)else(0:Int);aB (decide (0<=i64.wrap (d+b))) (aO (gL (a,c)/\0<=i64.wrap (d+b)/\i64.wrap (d+b)<4611686018427387904) (some [D.agg [sc (bool (isNeg A)),ints u64 (M6.dg A.natAbs)]])) (aO (gL (a,c)/\0<=i64.wrap C/\i64.wrap C<4611686018427387904) (some [D.agg [sc (bool (isNeg B)),ints u64 (M6.dg B.natAbs)]])):=eJ aX
def aLN(p:Int×Int)(n:Int):Int:=if 0<=p.2+n then p.1*((2^(p.2+n).toNat:Nat):Int)else p.1/((2^(-p.2-n).toNat:Nat):Int)
def sp(x:gE)(n:Int):Prop×List D:=(aQ x/\-1099511627776<=n/\n<=1099511627776/\(0<=x.2.2+n->fit ((dv x).1.natAbs*2^(x.2.2+n).toNat)=true),[wD (aLN (dv x) n)])
theorem spec:gT E f254 aE iX (pN .i64) sp:=by
 rintro x n ⟨hx,h1,h2,hf⟩;have he:=hx.2.1;refine(start x.1 x.2.1 x.2.2 n).trans ?_;have w1:i64.wrap (x.2.2+n)=x.2.2+n:=wrap_i64;have w2:i64.wrap (i64.wrap (0-x.2.2)-n)=-x.2.2-n:=by rw[wrap_i64 (n:=0-x.2.2),wrap_i64];omega
 have ha:(dv x).1.natAbs=M6.val x.2.1:=iG (x.1,x.2.1);unfold sp aLN
 by_cases c:0<=x.2.2+n
 ·have aTN:=hf c;rw[ha]at aTN;rw[w1,aP c,gP ⟨hx.Dh,c,by omega⟩,aTN,cond_true];dsimp only;rw[if_pos (show 0<=(dv x).2+n from c)];rfl
 ·rw[w1,w2,aL c,gP ⟨hx.Dh,by omega,by omega⟩];dsimp only;rw[if_neg (show ¬0<=(dv x).2+n from c)];rfl
def aJ:dK:=orc2 iX (pN .i64) sp
theorem ok:OK 254 aJ:=(eZ E aE (aA Ao.ok (aA iW.ok aD)) func254).mT rfl spec
end tF
namespace sZ
def E:=mE [(96,fH.aJ),(151,Ai.aJ),(102,uE.aJ),(101,Am.aJ),(190,Xk.aJ)] 66 [31,43,63] [(3,[0,4,5,6])] [3]
def aE:=bd f262
theorem aX:Nk E aE:=nk
def J3 a b c d e f:=mD E f262 aE 3 [bP a,dM 1 27 [cU b,fU c],dM 2 27 [cU d,fU e],dM 3 27 [cU f,sc (slice none 0 0)]]
theorem start a b c d e:aH E f262 aE [D.s (sc (int i64 a)),D.agg [sc (bool b),ints u64 c],D.agg [sc (bool d),ints u64 e]]=letI A:=some [D.agg [sc (bool false),sc (slice none 0 0)],D.s (sc (int i64 2))];aO (c.length<=1099511627776) (aC (fH.nR (b,c)) fun f=>aB (!f) A (aO (e.length<=1099511627776) (aC (fH.nR (d,e)) fun g=>aB (!g) A (sZ.J3 a b c d e false)))):=eJ aX
theorem gU a b c d e f:J3 a b c d e f=aB ((e.length:Int)==(0:Int)) (some [D.agg [sc (bool false),sc (slice none 0 0)],D.s (sc (int i64 4))]) (aO (M6.cR c/\c.length<=8192/\M6.cR e/\1<=e.length/\e.length<=8192) (aC (M6.dg (M6.val c/M6.val e)) fun g=>aC (M6.dg (M6.val c%M6.val e)) fun h=>aO (M6.cR e/\M6.cR h/\e.length<=8192/\h.length<=8192) (aC (M6.dg (M6.val e-M6.val h)) fun i=>letI A:=M6.val g+bif mV.mU a (b !=d) (decide (M6.val g%2=(1:Nat))) (decide (0<(h.length:Int))) (lB (M6.val h) (M6.val i))then(1:Nat)else(0:Nat);letI B:=bif fit A then zs (b !=d) A else(0:Int);aC (if M6.val e<M6.val h then(3:Int)else(0:Int)) fun j=>aB (j !=0) (some [D.agg [sc (bool false),sc (slice none 0 0)],D.s (sc (int i64 j))]) (aO (M6.cY h/\M6.cY i/\h.length<=1099511627776/\i.length<=1099511627776) (aO (M6.cR g/\g.length<=8192) (aC (isNeg B) fun k=>aC (M6.dg B.natAbs) fun l=>aC (bif fit A then(0:Int)else(5:Int)) fun m=>some [D.agg [sc (bool k),ints u64 l],D.s (sc (int i64 m))])))))):=cJ aX
def uQ(w:Int)(neg:Bool)(u v:Nat):Nat:=u/v+bif mV.mU w neg (decide (u/v%2=1)) (decide (u%v≠0)) (lB (u%v) (v-u%v))then 1 else 0
def sp(w:Int)(x y:Bool×List Int):Prop×List D:=(gL x/\gL y/\wv y≠0,wE (fit (uQ w (x.1 !=y.1) (M6.val x.2) (M6.val y.2))) (zs (x.1 !=y.1) (uQ w (x.1 !=y.1) (M6.val x.2) (M6.val y.2))))
theorem spec:oK E f262 aE (pN .i64) oD oD sp:=by
 rintro w x y ⟨hx,hy,h0⟩;refine(start w x.1 x.2 y.1 y.2).trans ?_;have l1:=hx.len;have l2:=hy.len;have f1:=fH.kU hx;have f2:=fH.kU hy;have hv0:M6.val y.2≠0:=fun h=>h0 (Qm.2 h)
 have aYZ:y.2.length≠0:=fun h=>hv0 ((M6.dZ hy.1).1 h)
 have hm:=bXW (M6.val x.2) (show 0<M6.val y.2 by omega);have b1:=hx.bl;have b2:=hy.bl;have q1:=fL (n:=M6.val x.2/M6.val y.2) (k:=8192) (bWK (fY (cFV _ _)) b1);have q2:=fL (n:=M6.val x.2%M6.val y.2) (k:=8192) (bWK (fY (Nat.le_of_lt hm)) b2);have q3:=fL (n:=M6.val y.2-M6.val x.2%M6.val y.2) (k:=8192) (bWK (fY (cCH _ _)) b2);have hd:decide (0<(((M6.dg (M6.val x.2%M6.val y.2)).length:Nat):Int))=decide (M6.val x.2%M6.val y.2≠0):=by
  have:=M6.iQ (n:=M6.val x.2%M6.val y.2)
  by_cases h:M6.val x.2%M6.val y.2=0
  ·rw[decide_eq_false (by have:=this.2 h;omega),decide_eq_false (by omega)]
  ·rw[decide_eq_true (by have:=fun hl=>h (this.1 hl);omega),decide_eq_true h]
 simp only[aG];rw[gP,f1,bXO,bF,gP,f2,bXO,bF,gU];simp only[aG];rw[bN,gP ⟨hx.1,l1,hy.1,by omega,l2⟩,gP ⟨hy.1,M6.aY _,l2,by omega⟩,M6.bQ,aW,gG rfl,gP ⟨M6.lG _,M6.lG _,by omega,by omega⟩,gP ⟨M6.aY _,by omega⟩,hd];simp only[M6.bQ];rfl
def aJ:dK:=orc3 (pN .i64) oD oD sp
theorem ok:OK 262 aJ:=(eZ E aE (aA fH.ok (aA Ai.ok (aA uE.ok (aA Am.ok (aA Xk.ok aD))))) func262).yK rfl spec
end sZ
namespace Mx
def E:=mE [(262,sZ.aJ)] 11 [8] [] []
def aE:=bd f255
theorem aX:Nk E aE:=nk
theorem start a b c d:aH E f255 aE [D.agg [sc (bool a),ints u64 b],D.agg [sc (bool c),ints u64 d]]=letI A:=sZ.uQ 2 (a !=c) (M6.val b) (M6.val d);letI B:=bif fit A then zs (a !=c) A else(0:Int);aO (gL (a,b)/\gL (c,d)/\wv (c,d)≠0) (some [D.agg [sc (bool (isNeg B)),ints u64 (M6.dg B.natAbs)],D.s (sc (int i64 (bif fit A then(0:Int)else(5:Int))))]):=eJ aX
def sp(x y:Bool×List Int):Prop×List D:=(gL x/\gL y/\wv y≠0/\fit (sZ.uQ 2 false (M6.val x.2) (M6.val y.2))=true,[wD (zs (x.1 !=y.1) (sZ.uQ 2 false (M6.val x.2) (M6.val y.2))),.s (.sc (.int .i64 0))])
theorem spec:gT E f255 aE oD oD sp:=by
 rintro x y ⟨hx,hy,h0,hf⟩;refine(start x.1 x.2 y.1 y.2).trans ((gP ⟨hx,hy,h0⟩).trans ?_);have e:sZ.uQ 2 (x.1 !=y.1) (M6.val x.2) (M6.val y.2)=sZ.uQ 2 false (M6.val x.2) (M6.val y.2):=rfl;unfold sp
 try dsimp only
 rw[e,hf];rfl
def aJ:dK:=orc2 oD oD sp
theorem ok:OK 255 aJ:=(eZ E aE (aA sZ.ok aD) func255).mT rfl spec
end Mx
namespace aGL
def E:=mE [(96,fH.aJ),(105,De.aJ),(49,Fa.aJ)] 25 [22] [(3,[2,3,4])] [3]
def aE:=bd f256
theorem aX:Nk E aE:=nk
def J3 a b c d e:=mD E f256 aE 3 [dM 0 27 [cU a,fU b],dM 1 27 [cU c,fU d],dM 2 27 [cU e,sc (slice none 0 0)]]
theorem start a b c d:aH E f256 aE [D.agg [sc (bool a),ints u64 b],D.agg [sc (bool c),ints u64 d]]=letI A:=some [D.agg [sc (bool false),sc (slice none 0 0)],D.s (sc (int i64 2))];aO (b.length<=1099511627776) (aB (!fH.nR (a,b)) A (aO (d.length<=1099511627776) (aB (!fH.nR (c,d)) A (aGL.J3 a b c d false)))):=eJ aX
theorem gU a b c d e:J3 a b c d e=letI C:=zs (!c) (M6.val d);letI A:=(isNeg C,M6.dg C.natAbs);letI B:=bif fit (wv (a,b)+wv A).natAbs then wv (a,b)+wv A else(0:Int);aO (M6.cR d/\d.length<=1099511627776) (aO (gL (a,b)/\gL A) (some [D.agg [sc (bool (isNeg B)),ints u64 (M6.dg B.natAbs)],D.s (sc (int i64 (bif fit (wv (a,b)+wv A).natAbs then(0:Int)else(5:Int))))])):=cJ aX
def sp(x y:Bool×List Int):Prop×List D:=(gL x/\gL y,wE (fit (wv x-wv y).natAbs) (wv x-wv y))
theorem spec:gT E f256 aE oD oD sp:=by
 rintro x y ⟨hx,hy⟩;refine(start x.1 x.2 y.1 y.2).trans ?_;have l1:=hx.len;have l2:=hy.len;have f1:=fH.kU hx;have f2:=fH.kU hy;have e1:zs (!y.1) (M6.val y.2)=-(wv y):=by unfold wv zs;cases y.1 <;> simp
 have b2:bl (-(wv y)).natAbs<=524288:=by rw[cCC,iG];exact hy.bl
 rw[gP,f1,bXO,bF,gP,f2,bXO,bF,gU,gP ⟨hy.1,by omega⟩,e1,gP ⟨hx,fT b2⟩,nA];rfl
def aJ:dK:=orc2 oD oD sp
theorem ok:OK 256 aJ:=(eZ E aE (aA fH.ok (aA De.ok (aA Fa.ok aD))) func256).mT rfl spec
end aGL
namespace aAW
def E:=mE [(256,aGL.aJ),(192,iW.aJ)] 22 [] [] []
def aE:=bd f257
theorem aX:Nk E aE:=nk
theorem start a b d e c:aH E f257 aE [D.agg [sc (bool a),ints u64 b],D.agg [sc (bool d),ints u64 e],D.s (sc (int i64 c))]=letI A:=bif fit (wv (a,b)-wv (d,e)).natAbs then wv (a,b)-wv (d,e)else(0:Int);letI C:=(isNeg A,M6.dg A.natAbs);letI B:=wv C/(↑((2:Nat)^c.toNat):Int);aO (gL (a,b)/\gL (d,e)) (aO (gL C/\0<=c/\c<4611686018427387904) (some [D.agg [sc (bool (isNeg B)),ints u64 (M6.dg B.natAbs)]])):=eJ aX
def sp(x y:Bool×List Int)(n:Int):Prop×List D:=(gL x/\gL y/\fit (wv x-wv y).natAbs=true/\0<=n/\n<4611686018427387904,[wD ((wv x-wv y)/((2^n.toNat:Nat):Int))])
theorem spec:oK E f257 aE oD oD (pN .i64) sp:=by
 rintro x y n ⟨h1,h2,h3,h4,h5⟩;have bKP:fit (wv (x.1,x.2)-wv (y.1,y.2)).natAbs=true:=h3;refine(start x.1 x.2 y.1 y.2 n).trans ?_;rw[gP ⟨h1,h2⟩];simp only[bKP,cond_true,nA];exact gP ⟨fT (xO h3),h4,h5⟩
def aJ:dK:=orc3 oD oD (pN .i64) sp
theorem ok:OK 257 aJ:=(eZ E aE (aA aGL.ok (aA iW.ok aD)) func257).yK rfl spec
end aAW
namespace aGP
def E:=mE [(96,fH.aJ),(101,Am.aJ)] 43 [37,42] [(3,[2,3])] [3]
def aE:=bd f263
theorem aX:Nk E aE:=nk
def J3 a b c d:=mD E f263 aE 3 [dM 0 27 [cU a,fU b],dM 1 27 [cU c,fU d]]
theorem start a b c d:aH E f263 aE [D.agg [sc (bool a),ints u64 b],D.agg [sc (bool c),ints u64 d]]=letI A:=some [D.s (sc (int i64 0)),D.s (sc (int i64 2))];aO (b.length<=1099511627776) (aB (!fH.nR (a,b)) A (aO (d.length<=1099511627776) (aB (!fH.nR (c,d)) A (aGP.J3 a b c d)))):=eJ aX
theorem gU a b c d:J3 a b c d=letI C:=sc (int i64 0);letI A:=aB a (aO (M6.cY d/\M6.cY b/\d.length<=1099511627776/\b.length<=1099511627776) (some [D.s (sc (int i64 (lB (M6.val d) (M6.val b)))),D.s C])) (aO (M6.cY b/\M6.cY d/\b.length<=1099511627776/\d.length<=1099511627776) (some [D.s (sc (int i64 (lB (M6.val b) (M6.val d)))),D.s C]));letI B:=aB (!a) (aB c (some [D.s (sc (int i64 1)),D.s C]) A) A;aB a (aB (!c) (some [D.s (sc (int i64 (-1:Int))),D.s C]) B) B:=cJ aX
def lH(a b:Int):Int:=if a<b then -1 else if b<a then 1 else 0
def sp(x y:Bool×List Int):Prop×List D:=(gL x/\gL y,[.s (.sc (.int .i64 (lH (wv x) (wv y)))),.s (.sc (.int .i64 0))])
theorem spec:gT E f263 aE oD oD sp:=by
 rintro x y ⟨hx,hy⟩;refine(start x.1 x.2 y.1 y.2).trans ?_;have l1:=hx.len;have l2:=hy.len;have f1:=fH.kU hx;have f2:=fH.kU hy;have d1:=hx.1.kW;have d2:=hy.1.kW;have z1:=hx.2.1;have z2:=hy.2.1;rw[gP,f1,bXO,bF,gP,f2,bXO,bF,gU];unfold sp lH wv zs;obtain⟨p,a⟩:=x;obtain⟨q,b⟩:=y
 try dsimp only at *
 have g1:M6.cY b/\M6.cY a/\b.length<=1099511627776/\a.length<=1099511627776:=⟨d2,d1,by omega,by omega⟩;have g2:M6.cY a/\M6.cY b/\a.length<=1099511627776/\b.length<=1099511627776:=⟨d1,d2,by omega,by omega⟩;simp only[gP g1,gP g2];cases p with
 |true =>
  have:=z1 rfl;cases q with
  |true =>
   simp only[aB,bXO,cond_true,cond_false];have e:∀z:Int,z=(if -(M6.val a:Int) < -(M6.val b:Int)then -1 else if -(M6.val b:Int) < -(M6.val a:Int)then 1 else 0)->some [D.s (.sc (.int .i64 z)),D.s (.sc (.int .i64 0))]=some [D.s (.sc (.int .i64 (if -(M6.val a:Int) < -(M6.val b:Int)then -1 else if -(M6.val b:Int) < -(M6.val a:Int)then 1 else 0))),D.s (.sc (.int .i64 0))]:=fun z h=>by rw[h]
   refine e _ ?_;unfold lB
   (repeat' split) <;> omega
  |false =>
   simp only[aB,cGW,cond_true,cond_false];rw[aU]
 |false =>
  cases q with
  |true =>
   have:=z2 rfl;simp only[aB,cGW,cond_true,cond_false];rw[aW,aU]
  |false =>
   simp only[aB,cGW,cond_true,cond_false];have e:∀z:Int,z=(if(M6.val a:Int)<(M6.val b:Int)then -1 else if(M6.val b:Int)<(M6.val a:Int)then 1 else 0)->some [D.s (.sc (.int .i64 z)),D.s (.sc (.int .i64 0))]=some [D.s (.sc (.int .i64 (if(M6.val a:Int)<(M6.val b:Int)then -1 else if(M6.val b:Int)<(M6.val a:Int)then 1 else 0))),D.s (.sc (.int .i64 0))]:=fun z h=>by rw[h]
   refine e _ ?_;unfold lB
   (repeat' split) <;> omega
def aJ:dK:=orc2 oD oD sp
theorem ok:OK 263 aJ:=(eZ E aE (aA fH.ok (aA Am.ok aD)) func263).mT rfl spec
end aGP
namespace pP
def E:=mE [(48,Ao.aJ),(49,Fa.aJ),(263,aGP.aJ)] 39 [] [] []
def aE:=bd f258
theorem aX:Nk E aE:=nk
theorem start a b c d e f:aH E f258 aE [D.agg [sc (bool a),ints u64 b],D.agg [sc (bool c),ints u64 d],D.agg [sc (bool e),ints u64 f]]=letI B:=bif fit (M6.val d*4)then wv (c,d)*4 else(0:Int);aO (gL (c,d)/\(0:Int)<=(2:Int)/\(2:Int)<(4611686018427387904:Int)) (aC (isNeg B) fun g=>aC (M6.dg B.natAbs) fun h=>letI A:=bif fit (wv (false,b)+wv (g,h)).natAbs then wv (false,b)+wv (g,h)else(0:Int);aO (gL (false,b)/\gL (g,h)) (aC (isNeg A) fun i=>aC (M6.dg A.natAbs) fun j=>letI C:=bif fit (M6.val j*2)then wv (i,j)*2 else(0:Int);aO (gL (i,j)/\(0:Int)<=(1:Int)/\(1:Int)<(4611686018427387904:Int)) (aC (isNeg C) fun k=>aC (M6.dg C.natAbs) fun l=>aO (gL (k,l)/\gL (e,f)) (aC (aGP.lH (wv (k,l)) (wv (e,f))) fun m=>some [D.s (sc (bool (decide (m<0))))])))):=eJ aX
theorem aRW{n k:Nat}(h:bl n<=k):bl (n*4)<=k+2:=cZ.2 (by rw[cAQ];exact cHV (cZ.1 h) (by decide))
theorem Jh{n k:Nat}(h:bl n<=k):bl (n*2)<=k+1:=cZ.2 (by rw[cAN];exact cHV (cZ.1 h) (by decide))
theorem Gt{a b:Int}{n k:Nat}(ha:bl a.natAbs<=k)(hb:bl b.natAbs<=k)(hn:n=(a+b).natAbs):bl n<=k+1:=cZ.2 (by
 have h1:=cZ.1 ha;have h2:=cZ.1 hb;rw[cAN];generalize 2^k=Q at *;omega)
def aMX(r off pi:Int):Bool:=decide (aGP.lH (((r.natAbs:Int)+off*4)*2) pi<0)
def sp(x y z:Bool×List Int):Prop×List D:=(gL x/\gL y/\gL z/\0<=wv y/\bl (wv x).natAbs<=524000/\bl (wv y).natAbs<=524000,[.s (.sc (.bool (aMX (wv x) (wv y) (wv z))))])
theorem spec:oK E f258 aE oD oD oD sp:=by
 rintro x y z ⟨h1,h2,h3,h0,b1,b2⟩;refine(start x.1 x.2 y.1 y.2 z.1 z.2).trans ?_;have ex:(x.1,x.2)=x:=rfl;have ey:(y.1,y.2)=y:=rfl;have ez:(z.1,z.2)=z:=rfl;have vy:(wv y).natAbs=M6.val y.2:=iG y;have vx:(wv x).natAbs=M6.val x.2:=iG x;have wx:wv (false,x.2)=(((wv x).natAbs:Nat):Int):=by rw[vx];rfl
 have bPX:gL (false,x.2):=⟨h1.1,fun hf=>(by cases hf),h1.len⟩;have c1:bl (wv y*4).natAbs<=524002:=by
  rw[cBB];exact aRW b2
 have f1:fit (M6.val y.2*4)=true:=decide_eq_true (by
  rw[cBB,vy]at c1;exact bWK c1 (by decide))
 rw[gP ⟨h2,by decide,by decide⟩];simp only[aG,ex,ey,ez,f1,cond_true];have pU:gL (isNeg (wv y*4),M6.dg (wv y*4).natAbs):=fT (bWK c1 (by decide));have c2:bl ((((wv x).natAbs:Nat):Int)+wv y*4).natAbs<=524003:=Gt (k:=524002) (by rw[cBF];exact bWK b1 (by decide)) c1 rfl;have f2:fit ((((wv x).natAbs:Nat):Int)+wv y*4).natAbs=true:=decide_eq_true (bWK c2 (by decide));rw[gP ⟨bPX,pU⟩];simp only[wx,nA,f2,cond_true,M6.bQ];have mT:gL (isNeg ((((wv x).natAbs:Nat):Int)+wv y*4),M6.dg ((((wv x).natAbs:Nat):Int)+wv y*4).natAbs):=fT (bWK c2 (by decide));have c3:bl (((((wv x).natAbs:Nat):Int)+wv y*4).natAbs*2)<=524004:=Jh c2;have f3:fit (((((wv x).natAbs:Nat):Int)+wv y*4).natAbs*2)=true:=decide_eq_true (bWK c3 (by decide));rw[gP ⟨mT,by decide,by decide⟩,f3,cond_true,gP ⟨fT (by rw[cBB];exact bWK c3 (by decide)),h3⟩];rfl
def aJ:dK:=orc3 oD oD oD sp
theorem ok:OK 258 aJ:=(eZ E aE (aA Ao.ok (aA Fa.ok (aA aGP.ok aD))) func258).yK rfl spec
end pP
namespace bS
def E:=mE [(106,rY.aJ),(152,sA.aJ),(254,tF.aJ),(48,Ao.aJ),(255,Mx.aJ),(200,aGN.aJ),(256,aGL.aJ),(49,Fa.aJ),(244,Df.aJ),(257,aAW.aJ),(258,pP.aJ)] 90 [89] [] []
def aE:=bd f243
theorem aX:Nk E aE:=nk
theorem start a c d b:aH E f243 aE [D.agg [sc (bool a),ints u64 c,sc (int i64 d)],D.s (sc (int i64 b))]=letI U:=(isNeg 3,M6.dg 3);letI C:=d+(↑(bl (M6.val c)):Int);letI B:=i64.wrap (b+match BinOp.gtr with |BinOp.gtr=>if(0:Int)>i64.wrap C then(0:Int)else i64.wrap C |x=>if 0<i64.wrap C then(0:Int)else i64.wrap C)+8;letI A:=i64.wrap (b+if(0:Int)>i64.wrap C then(0:Int)else i64.wrap C)+8;letI P:=tF.aLN (dv (a,c,d)) (i64.wrap A);letI I:=i64.wrap (i64.wrap A-b)+1;letI Q:=(↑((2:Nat)^(i64.wrap I).toNat):Int);aO (M6.cY c/\c.length<=1099511627776) (aO (1<=i64.wrap A/\i64.wrap A<=70000) (aC (M6.dg (R.pF (i64.wrap A).toNat)) fun e=>letI O:=(false,e);aO (aQ (a,c,d)/\(-1099511627776:Int)<=i64.wrap A/\i64.wrap A<=1099511627776/\(0<=(a,c,d).snd.snd+i64.wrap B->fit ((dv (a,c,d)).fst.natAbs*(2:Nat)^((a,c,d).snd.snd+i64.wrap B).toNat)=true)) (aC (isNeg P) fun f=>aC (M6.dg P.natAbs) fun g=>letI N:=bif fit (M6.val g*2)then wv (f,g)*2 else(0:Int);aO (gL (f,g)/\(0:Int)<=(1:Int)/\(1:Int)<(4611686018427387904:Int)) (aC (isNeg N) fun h=>aC (M6.dg N.natAbs) fun i=>letI G:=sZ.uQ 2 false (M6.val i) (M6.val e);aO (gL (h,i)/\gL O/\wv O≠0/\fit G=true) (aC (isNeg (zs (h !=false) G)) fun j=>aC (M6.dg (zs (h !=false) G).natAbs) fun k=>letI H:=bif fit (wv (j,k)*wv O).natAbs then wv (j,k)*wv O else(0:Int);letI F:=bif fit (wv (false,k)+wv U).natAbs then wv (false,k)+wv U else(0:Int);aO (gL (j,k)/\gL O) (aC (isNeg H) fun l=>aC (M6.dg H.natAbs) fun m=>letI K:=bif fit (wv (h,i)-wv (l,m)).natAbs then wv (h,i)-wv (l,m)else(0:Int);aO (gL (h,i)/\gL (l,m)) (aC (isNeg K) fun n=>aC (M6.dg K.natAbs) fun o=>aO ((-9223372036854775808:Int)<=(3:Int)/\(3:Int)<(9223372036854775808:Int)) (aO (gL (false,k)/\gL U) (aC (isNeg F) fun p=>aC (M6.dg F.natAbs) fun q=>letI T:=wv (n,o)-wv (p,q);aO (gL (n,o)/\gL (p,q)/\fit T.natAbs=true/\0<=i64.wrap I/\i64.wrap I<4611686018427387904) (aC (isNeg (T/Q)) fun r=>aC (M6.dg (T/Q).natAbs) fun s=>aO (gL (n,o)/\gL (p,q)/\gL O/\0<=wv (p,q)/\bl (wv (n,o)).natAbs<=524000/\bl (wv (p,q)).natAbs<=524000) (aC (pP.aMX (wv (n,o)) (wv (p,q)) (wv O)) fun t=>some [D.agg [sc (bool j),ints u64 k],D.agg [sc (bool r),ints u64 s],D.s (sc (bool t))]))))))))))):=eJ aX
def oU(p:Int×Int):Int:=if 0>p.2+(bl p.1.natAbs:Nat)then 0 else p.2+(bl p.1.natAbs:Nat)
def rG(p:Int×Int)(w:Int):Int:=w+oU p+8
def rF(p:Int×Int)(w:Int):Nat:=R.pF (rG p w).toNat
def rX(p:Int×Int)(w:Int):Int:=tF.aLN p (rG p w)*2
def nK(X:Int)(f:Nat):Int:=zs (isNeg X) (sZ.uQ 2 false X.natAbs f)
def rK(p:Int×Int)(w:Int):Int:=nK (rX p w) (rF p w)
def rR(p:Int×Int)(w:Int):Int:=rX p w-rK p w*(rF p w:Nat)
def rO(p:Int×Int)(w:Int):Int:=((rK p w).natAbs:Nat)+3
def rM(p:Int×Int)(w:Int):Int:=(rR p w-rO p w)/((2^(rG p w-w+1).toNat:Nat):Int)
def sp(x:gE)(w:Int):Prop×List D:=(aQ x/\bl (dv x).1.natAbs<=64/\(-1200<=(dv x).2/\(dv x).2<=1200)/\1<=w/\w<=66600,[wD (rK (dv x) w),wD (rM (dv x) w),.s (.sc (.bool (pP.aMX (rR (dv x) w) (rO (dv x) w) (rF (dv x) w:Nat))))])
theorem Jg{n k m:Nat}(h:bl n<=m):bl (n*2^k)<=m+k:=cZ.2 (by rw[cAQ];exact cHV (cZ.1 h) (bYO (by decide)))
theorem aRL(X f:Nat):sZ.uQ 2 false X f<=X/f+1:=by
 unfold sZ.uQ;cases mV.mU 2 false (decide (X/f%2=1)) (decide (X%f≠0)) (lB (X%f) (f-X%f)) <;> simp
theorem aSN{X:Int}{f B:Nat}(hX:bl X.natAbs<=B)(hf:bl f<=B)(hB:2<=B) :
  bl (sZ.uQ 2 false X.natAbs f)<=B+1/\bl (nK X f*(f:Int)).natAbs<=B+1/\bl (X-nK X f*(f:Int)).natAbs<=B+2/\bl (((nK X f).natAbs:Int)+3).natAbs<=B+2/\bl (X-nK X f*(f:Int)-(((nK X f).natAbs:Int)+3)).natAbs<=B+3:=by
 have h1:=cZ.1 hX;have h2:=cZ.1 hf;have h3:=aRL X.natAbs f;have h4:X.natAbs/f*f<=X.natAbs:=Nat.div_mul_le_self _ _;have h5:X.natAbs/f<=X.natAbs:=cFV _ _;have h6:sZ.uQ 2 false X.natAbs f*f<=X.natAbs+f:=bWK (bXD f h3) (by rw[bWI,bZS];omega);have ek:(nK X f).natAbs=sZ.uQ 2 false X.natAbs f:=lP _ _;have h7:(nK X f*(f:Int)).natAbs<=X.natAbs+f:=by rw[cBB,ek,cBF];exact h6
 have e4:4<=2^B:=bWK (show 4<=2^2 by decide) (bYP (by decide) hB);have p1:2^(B+1)=2*2^B:=by rw[cAN];omega
 have p2:2^(B+2)=4*2^B:=by rw[cAQ];omega
 have p3:2^(B+3)=8*2^B:=by rw[cAQ];omega
 generalize nK X f*(f:Int)=kf at *;rw[ek];generalize sZ.uQ 2 false X.natAbs f=d at *;generalize 2^B=Q at *;refine⟨cZ.2 ?_,cZ.2 ?_,cZ.2 ?_,cZ.2 ?_,cZ.2 ?_⟩
 ·rw[p1];omega
 ·rw[p1];omega
 ·rw[p2];omega
 ·rw[p2];omega
 ·rw[p3];omega
theorem Rg{g:Nat}(hg:g<=136000):bl (R.pF g)<=g+2/\R.pF g≠0:=by
 obtain⟨h1,h2⟩:=R.zH hg;obtain⟨q1,q2⟩:=R.gX;have hW:(1:Rat)<=((2^g:Nat):Rat):=by exact_mod_cast bYO (by decide)
 constructor
 ·refine cZ.2 ?_;rw[cAQ];have:(R.pF g:Rat)<((2^g:Nat):Rat)*4:=by
   have:=R.aF (cFT (by decide:(0:Rat)<=1) hW) (show 0<=3142/1000-R.pi by grind);generalize ((2^g:Nat):Rat)=W at *;grind
  exact_mod_cast this
 ·intro h0;rw[h0]at h2;have z:((0:Nat):Rat)=0:=by norm_cast
  rw[z]at h2;have:=R.aF (cFT (by decide:(0:Rat)<=1) hW) (show 0<=R.pi-3 by grind);generalize ((2^g:Nat):Rat)=W at *;grind
theorem aCB{p:Int×Int}{w:Int}(hz:bl p.1.natAbs<=64)(e1:-1200<=p.2)(e2:p.2<=1200)(w1:1<=w)(w2:w<=66600):bl (rM p w).natAbs<=80004/\bl (rK p w).natAbs<=80002:=by
 have t0:0<=oU p/\oU p<=1264:=by unfold oU;split <;> omega
 have g1:1<=rG p w/\rG p w<=70000:=by unfold rG;omega
 have bDL:bl (tF.aLN p (rG p w)).natAbs<=80000:=by
  unfold tF.aLN;split
  ·rw[cBB,cBF];exact bWK (Jg hz) (by omega)
  ·exact bWK (fY (uB (bYO (by decide)))) (by omega)
 have Xs:bl (rX p w).natAbs<=80001:=by
  unfold rX;rw[cBB];exact pP.Jh bDL
 obtain⟨Fs,F0⟩:=Rg (g:=(rG p w).toNat) (by omega);have hF:R.pF (rG p w).toNat=rF p w:=rfl;rw[hF]at Fs F0;obtain⟨s1,s2,s3,s4,s5⟩:=aSN (X:=rX p w) (f:=rF p w) (B:=80001) Xs (by omega) (by decide);refine⟨bWK (fY (uB (bYO (by decide)))) s5,?_⟩;show bl (zs _ _).natAbs<=_;rw[lP];exact s1
theorem spec:gT E f243 aE iX (pN .i64) sp:=by
 rintro x w ⟨hx,hz,⟨e1,e2⟩,w1,w2⟩;refine(start x.1 x.2.1 x.2.2 w).trans ?_;have ha:(dv x).1.natAbs=M6.val x.2.1:=iG (x.1,x.2.1);have aGZ:x.2.2=(dv x).2:=rfl;have aVM:(x.1,x.2.1,x.2.2)=x:=rfl;have len:=hx.len;unfold sp;dsimp only;simp only[aVM,aGZ,<-ha];have hT:oU (dv x)=if 0>(dv x).2+(bl (dv x).1.natAbs:Nat)then 0 else(dv x).2+(bl (dv x).1.natAbs:Nat):=rfl
 have wt:i64.wrap ((dv x).2+((bl (dv x).1.natAbs:Nat):Int))=(dv x).2+((bl (dv x).1.natAbs:Nat):Int):=wrap_i64;have t0:0<=oU (dv x)/\oU (dv x)<=1264:=by rw[hT];split <;> omega
 have t1:(dv x).2+(bl (dv x).1.natAbs:Nat)<=oU (dv x):=by rw[hT];split <;> omega
 have hG:rG (dv x) w=w+oU (dv x)+8:=rfl;have wg:i64.wrap (i64.wrap (w+oU (dv x))+8)=rG (dv x) w:=by rw[wrap_i64 (n:=w+oU (dv x)),wrap_i64,hG]
 have wl:i64.wrap (i64.wrap (rG (dv x) w-w)+1)=rG (dv x) w-w+1:=by rw[wrap_i64 (n:=rG (dv x) w-w),wrap_i64]
 simp only[wt,<-hT,wg,wl,aG];have g1:1<=rG (dv x) w/\rG (dv x) w<=70000:=by omega
 have bDL:bl (tF.aLN (dv x) (rG (dv x) w)).natAbs<=80000:=by
  unfold tF.aLN;split
  ·rw[cBB,cBF];exact bWK (Jg hz) (by omega)
  ·exact bWK (fY (uB (bYO (by decide)))) (by omega)
 have Xs:bl (rX (dv x) w).natAbs<=80001:=by
  unfold rX;rw[cBB];exact pP.Jh bDL
 obtain⟨Fs,F0⟩:=Rg (g:=(rG (dv x) w).toNat) (by omega);have hF:R.pF (rG (dv x) w).toNat=rF (dv x) w:=rfl;rw[hF]at Fs F0;obtain⟨s1,s2,s3,s4,s5⟩:=aSN (X:=rX (dv x) w) (f:=rF (dv x) w) (B:=80001) Xs (by omega) (by decide);have aLB:(0:Int)<=x.2.2+rG (dv x) w->fit ((dv x).1.natAbs*2^(x.2.2+rG (dv x) w).toNat)=true:=fun _=>decide_eq_true (bWK (Jg hz) (by omega))
 rw[gP ⟨hx.Hv.kW,by omega⟩,gP g1,gP ⟨hx,by omega,by omega,aLB⟩];have aVL:(x.1,x.2.1,(dv x).2)=x:=rfl;have f1:fit ((tF.aLN (dv x) (rG (dv x) w)).natAbs*2)=true:=decide_eq_true (bWK (pP.Jh bDL) (by decide));have eX:tF.aLN (dv x) (rG (dv x) w)*2=rX (dv x) w:=rfl;have eK:zs (isNeg (rX (dv x) w)) (sZ.uQ 2 false (rX (dv x) w).natAbs (rF (dv x) w))=rK (dv x) w:=rfl;have vN:∀n:Nat,wv (false,M6.dg n)=(n:Int):=fun n=>by show(M6.val (M6.dg n):Int)=n;rw[M6.bQ]
 have wN:∀n:Nat,bl n<=524288->gL (false,M6.dg n):=fun n hn=>by
  have:=fT (z:=(n:Int)) (by rw[cBF];exact hn);rw[iO.2 (by omega),cBF]at this;exact this
 have v3:wv (isNeg 3,M6.dg 3)=3:=nA 3;have k3:gL (isNeg 3,M6.dg 3):=fT (z:=3) (by decide +kernel);have kK:(rK (dv x) w).natAbs=sZ.uQ 2 false (rX (dv x) w).natAbs (rF (dv x) w):=lP _ _;rw[show nK (rX (dv x) w) (rF (dv x) w)=rK (dv x) w from rfl]at s2 s3 s4 s5;have f2:fit (rK (dv x) w*(rF (dv x) w:Nat)).natAbs=true:=decide_eq_true (bWK s2 (by decide));have f3:fit (rX (dv x) w-rK (dv x) w*(rF (dv x) w:Nat)).natAbs=true:=decide_eq_true (bWK s3 (by decide));have f4:fit (((rK (dv x) w).natAbs:Int)+3).natAbs=true:=decide_eq_true (bWK s4 (by decide));have f5:fit (rX (dv x) w-rK (dv x) w*(rF (dv x) w:Nat)-(((rK (dv x) w).natAbs:Int)+3)).natAbs=true:=decide_eq_true (bWK s5 (by decide));simp only[aVL,hF,nA,M6.bQ,f1,cond_true,eX,Bool.bne_false,eK,vN,v3,f2,f3,f4];rw[gP ⟨fT (bWK bDL (by decide)),by decide,by decide⟩,gP ⟨fT (bWK Xs (by decide)),wN _ (by omega),by omega,decide_eq_true (bWK s1 (by decide))⟩,
  gP ⟨fT (by rw[kK];exact bWK s1 (by decide)),wN _ (by omega)⟩,gP ⟨fT (bWK Xs (by decide)),fT (bWK s2 (by decide))⟩,gP ⟨by decide,by decide⟩,
  gP ⟨wN _ (by rw[kK];exact bWK s1 (by decide)),k3⟩,gP ⟨fT (bWK s3 (by decide)),fT (bWK s4 (by decide)),f5,by omega,by omega⟩,
  gP ⟨fT (bWK s3 (by decide)),fT (bWK s4 (by decide)),wN _ (by omega),by omega,bWK s3 (by decide),bWK s4 (by decide)⟩]
 rfl
def aJ:dK:=orc2 iX (pN .i64) sp
theorem ok:OK 243 aJ:=(eZ E aE (aA rY.ok (aA sA.ok (aA tF.ok (aA Ao.ok (aA Mx.ok (aA aGN.ok (aA aGL.ok (aA Fa.ok (aA Df.ok (aA aAW.ok (aA pP.ok aD))))))))))) func243).mT rfl spec
end bS
namespace aZ
def E:=mE [(241,Tt.aJ),(242,tD.aJ),(243,bS.aJ),(192,iW.aJ),(244,Df.aJ),(49,Fa.aJ),(50,iY.aJ),(109,aGO.aJ),(110,sW.aJ)] 105 [33,98] [(3,[0,1,5])] [3]
def aE:=bd f211
theorem aX:Nk E aE:=nk
def J3 a b c d e f:=mD E f211 aE 3 [dC a,bP b,dM 2 44 [cU c,sc (slice none 0 0),cV d,cU e,sc (slice none 0 0),cV f]]
theorem start a b:aH E f211 aE [D.s (sc (int u64 a)),D.s (sc (int i64 b))]=letI B:=int i64 0;letI A:=some [D.s (sc B),D.agg [sc (bool false),sc (slice none 0 0),sc B,sc (bool false),sc (slice none 0 0),sc B],D.s (sc (int i64 1))];aB (decide (b<1)) A (aB (decide (68000<b)) A (aZ.J3 a b false 0 false 0)):=eJ aX
theorem gU a b c d e f:J3 a b c d e f=letI O:=int i64 0;letI H:=(isNeg 4,M6.dg 4);letI C:=i64.wrap ((0:Int)-i64.wrap (b+8));letI B:=if(72:Int)>i64.wrap (b+8)then(72:Int)else i64.wrap (b+8);letI P:=B-i64.wrap (b+8);letI A:=bif cS.fN 64 a&&cB.jD 64 a then aN (bR.nB 64 a) (bR.nI 64 a)else((0:Int),(0:Int));letI Q:=M6.dg A.fst.natAbs;aO (0<=a/\a<18446744073709551616) (aC (isNeg A.fst) fun g=>aC Q fun h=>aC A.snd fun i=>letI I:=dv (g,h,i);aC (bif cS.fN 64 a then bif cB.jD 64 a then(0:Int)else(6:Int)else(2:Int)) fun j=>aB (j !=0) (some [D.s (sc O),D.agg [sc (bool false),sc (slice none 0 0),sc O,sc (bool false),sc (slice none 0 0),sc O],D.s (sc (int i64 j))]) (aO (aQ (g,h,i)) (aC (tD.aOB I) fun k=>aB k (aO (0<=a/\a<18446744073709551616) (aC (isNeg A.fst) fun l=>aC Q fun m=>aC A.snd fun n=>some [D.s (sc O),D.agg [sc (bool g),ints u64 h,sc (int i64 i),sc (bool l),ints u64 m,sc (int i64 n)],D.s (sc O)])) (aO (aQ (g,h,i)/\bl I.fst.natAbs<=64/\((-1200:Int)<=I.snd/\I.snd<=1200)/\(1<=if(72:Int)>i64.wrap (b+8)then(72:Int)else i64.wrap (b+8))/\B<=66600) (aC (isNeg (bS.rK I B)) fun o=>aC (M6.dg (bS.rK I B).natAbs) fun p=>aC (isNeg (bS.rM I B)) fun q=>aC (M6.dg (bS.rM I B).natAbs) fun r=>letI K:=wv (q,r)/(↑((2:Nat)^(i64.wrap P).toNat):Int);aO (gL (q,r)/\0<=i64.wrap P/\i64.wrap P<4611686018427387904) (aC (isNeg K) fun s=>aC (M6.dg K.natAbs) fun t=>letI N:=bif fit (wv (s,t)+wv H).natAbs then wv (s,t)+wv H else(0:Int);letI F:=bif gY (wv (s,t)) C then aN (wv (s,t)) C else((0:Int),(0:Int));aO ((-9223372036854775808:Int)<=(4:Int)/\(4:Int)<(9223372036854775808:Int)) (aO (gL (s,t)/\gL H) (aC (isNeg N) fun u=>aC (M6.dg N.natAbs) fun v=>letI G:=bif gY (wv (u,v)) C then aN (wv (u,v)) C else((0:Int),(0:Int));aO (gL (s,t)/\(-9223372036854775808:Int)<=i64.wrap ((0:Int)-i64.wrap (b+8))/\i64.wrap ((0:Int)-i64.wrap (b+8))<9223372036854775808) (aC (isNeg F.fst) fun w=>aC (M6.dg F.fst.natAbs) fun x=>aC F.snd fun y=>aO (gL (u,v)/\(-9223372036854775808:Int)<=i64.wrap ((0:Int)-i64.wrap (b+8))/\i64.wrap ((0:Int)-i64.wrap (b+8))<9223372036854775808) (aC (isNeg G.fst) fun z=>aC (M6.dg G.fst.natAbs) fun aa=>aC G.snd fun ab=>aO ((-9223372036854775808:Int)<=(4:Int)/\(4:Int)<(9223372036854775808:Int)) (aO (gL (o,p)/\gL H/\isNeg 4=false/\1<=(M6.dg 4).length) (aC (isNeg (wv (o,p)%wv H)) fun ac=>aC (M6.dg (wv (o,p)%wv H).natAbs) fun ad=>aO (gL (ac,ad)) (aC (bif sW.sG (wv (ac,ad))then wv (ac,ad)else(0:Int)) fun ae=>some [D.s (sc (int i64 ae)),D.agg [sc (bool w),ints u64 x,sc (int i64 y),sc (bool z),ints u64 aa,sc (int i64 ab)],D.s (sc O)]))))))))))))):=cJ aX
def qM(b:Int):Int×Int:=aN (bR.nB 64 b) (bR.nI 64 b)
def cW(p:Int):Int:=if 72>p+8 then 72 else p+8
def cM(x:Int×Int)(p:Int):Int:=bS.rM x (cW p)/((2^(cW p-(p+8)).toNat:Nat):Int)
def cQ(x:Int×Int)(p:Int):Int:=bif tD.aOB x then 0 else bS.rK x (cW p)%4
def Ya(x:Int×Int)(p:Int):Int×Int:=bif tD.aOB x then x else aN (cM x p) (-(p+8))
def Yb(x:Int×Int)(p:Int):Int×Int:=bif tD.aOB x then x else aN (cM x p+4) (-(p+8))
def sp(b p:Int):Prop×List D:=((0<=b/\b<18446744073709551616)/\cS.fN 64 b=true/\cB.jD 64 b=true/\(1<=p/\p<=66590)/\jK (qM b)/\bl (qM b).1.natAbs<=64/\-1200<=(qM b).2/\(qM b).2<=1200,[.s (.sc (.int .i64 (cQ (qM b) p))),uX (Ya (qM b) p) (Yb (qM b) p),.s (.sc (.int .i64 0))])
theorem aEC{z:Int}{k:Nat}(h:bl z.natAbs<=k)(hk:3<=k):bl (z+4).natAbs<=k+1:=pP.Gt h (by rw[show(4:Int).natAbs=4 from rfl,show bl 4=3 from rfl];exact hk) rfl
theorem spec:gT E f211 aE (pN .u64) (pN .i64) sp:=by
 rintro b p ⟨hb,hp,hf,⟨p1,p2⟩,hx,hz,e1,e2⟩;refine(start b p).trans ?_;unfold sp cQ Ya Yb;dsimp only;have eb:(bif cS.fN 64 b&&cB.jD 64 b then aN (bR.nB 64 b) (bR.nI 64 b)else(0,0))=qM b:=by rw[hp,hf];rfl
 have ee:(bif cS.fN 64 b then(bif cB.jD 64 b then 0 else 6)else 2:Int)=0:=by rw[hp,hf];rfl
 have dk:=dG hx;have dc:=dU (qM b);rw[aL,aL,gU,gP hb];simp only[aG,eb,ee,dc];rw[gG rfl,gP dk];cases hs:tD.aOB (qM b)with
 |true =>
  rw[cond_true,cond_true,cond_true];show aO _ _=_;rw[gP hb];rfl
 |false =>
  rw[cond_false,cond_false,cond_false];show aO _ _=_;have w8:i64.wrap (p+8)=p+8:=wrap_i64;have eW:(if 72>p+8 then 72 else p+8)=cW p:=rfl;have hW:1<=cW p/\cW p<=66600/\p+8<=cW p:=by unfold cW;split <;> omega
  have wd:i64.wrap (cW p-(p+8))=cW p-(p+8):=wrap_i64;have w0:i64.wrap (0-(p+8))=-(p+8):=by rw[wrap_i64];omega
  obtain⟨sM,sK⟩:=bS.aCB (p:=qM b) (w:=cW p) hz e1 e2 hW.1 hW.2.1;have v4:wv (isNeg 4,M6.dg 4)=4:=nA 4;have k4:gL (isNeg 4,M6.dg 4):=fT (z:=4) (by decide +kernel);have eM:bS.rM (qM b) (cW p)/((2^(cW p-(p+8)).toNat:Nat):Int)=cM (qM b) p:=rfl;have sC:bl (cM (qM b) p).natAbs<=80004:=bWK (fY (uB (bYO (by decide)))) sM;have bLV:=aEC sC (by decide);have f4:fit (cM (qM b) p+4).natAbs=true:=decide_eq_true (bWK bLV (by decide));have i1:gY (cM (qM b) p) (-(p+8))=true:=gQ (by omega) (by omega);have i2:gY (cM (qM b) p+4) (-(p+8))=true:=gQ (by omega) (by omega);have m4:0<=bS.rK (qM b) (cW p)%4/\bS.rK (qM b) (cW p)%4<4:=by omega
  have sm:sW.sG (bS.rK (qM b) (cW p)%4)=true:=by
   unfold sW.sG;simp only[bVU,decide_eq_true_eq];omega
  have b3:bl (bS.rK (qM b) (cW p)%4).natAbs<=3:=cZ.2 (by have:(2:Nat)^3=8:=rfl;omega);have l4:(M6.dg 4).length=1:=by decide +kernel
  simp only[w8,eW,wd,w0,nA,v4,eM,f4,i1,i2,sm,cond_true];rw[gP ⟨dk,hz,⟨e1,e2⟩,hW.1,hW.2.1⟩,gP ⟨fT (bWK sM (by decide)),by omega,by omega⟩,gP ⟨by decide,by decide⟩,gP ⟨fT (bWK sC (by decide)),k4⟩,
   gP ⟨fT (bWK sC (by decide)),by omega,by omega⟩,gP ⟨fT (bWK bLV (by decide)),by omega,by omega⟩,gP ⟨by decide,by decide⟩,
   gP ⟨fT (bWK sK (by decide)),k4,by decide,by omega⟩,gP (fT (bWK b3 (by decide)))]
  rfl
def aJ:dK:=orc2 (pN .u64) (pN .i64) sp
theorem ok:OK 211 aJ:=(eZ E aE (aA Tt.ok (aA tD.ok (aA bS.ok (aA iW.ok (aA Df.ok (aA Fa.ok (aA iY.ok (aA aGO.ok (aA sW.ok aD))))))))) func211).mT rfl spec
end aZ
end W
namespace M
open Go AI W
theorem aFY{u v:Nat}(hv:0<v):2*u<=2*(sZ.uQ 2 false u v*v)+v/\2*(sZ.uQ 2 false u v*v)<=2*u+v:=by
 have hd:=cAT u v;have hm:=bXW u hv;have hc:v*(u/v)=u/v*v:=cAM _ _;unfold sZ.uQ mV.mU
 by_cases h:v-u%v<=u%v
 ·cases hb:(bif (2:Int)==0 then false&&decide (u%v≠0)else bif (2:Int)==1 then !false&&decide (u%v≠0)else(decide (0<lB (u%v) (v-u%v))||(lB (u%v) (v-u%v)==0&&decide (u/v%2=1))))with
  |true=>rw[cond_true,bWI,bZS];omega
  |false =>
   rw[cond_false,bWM];have yT:¬0<lB (u%v) (v-u%v):=by
    intro hh;rw[decide_eq_true hh]at hb
    revert hb
    simp
   have:u%v<=v-u%v:=by
    unfold lB at yT;split at yT
    ·omega
    ·split at yT <;> omega
   omega
 ·have e:lB (u%v) (v-u%v)=-1:=by unfold lB;rw[aU]
  rw[e];have hb:(bif (2:Int)==0 then false&&decide (u%v≠0)else bif (2:Int)==1 then !false&&decide (u%v≠0)else(decide ((0:Int) < -1)||((-1:Int)==0&&decide (u/v%2=1))))=false:=by
   cases decide (u/v%2=1) <;> rfl
  rw[hb,cond_false,bWM];omega
theorem aPX{X:Int}{f:Nat}(hf:0<f):-(f:Rat)<=2*((X:Rat)-(bS.nK X f:Rat)*(f:Rat))/\2*((X:Rat)-(bS.nK X f:Rat)*(f:Rat))<=(f:Rat):=by
 obtain⟨d1,d2⟩:=aFY (u:=X.natAbs) hf;have h:-(f:Int)<=2*(X-bS.nK X f*(f:Int))/\2*(X-bS.nK X f*(f:Int))<=(f:Int):=by
  have bVB:2*(X.natAbs:Int)<=2*((sZ.uQ 2 false X.natAbs f:Nat)*(f:Int))+f:=by exact_mod_cast d1
  have bVA:2*((sZ.uQ 2 false X.natAbs f:Nat)*(f:Int))<=2*(X.natAbs:Int)+f:=by exact_mod_cast d2
  unfold bS.nK;generalize sZ.uQ 2 false X.natAbs f=d at *;cases hb:isNeg X with
  |true =>
   have:X<0:=nL.1 hb;have e:zs true d*(f:Int)=-((d:Int)*(f:Int)):=by show -(d:Int)*_=_;rw[cEW]
   rw[e];generalize (d:Int)*(f:Int)=P at *;omega
  |false =>
   have:0<=X:=iO.1 hb;have e:zs false d*(f:Int)=(d:Int)*(f:Int):=rfl;rw[e];generalize (d:Int)*(f:Int)=P at *;omega
 obtain⟨h1,h2⟩:=h;constructor
 ·have:((-(f:Int):Int):Rat)<=((2*(X-bS.nK X f*(f:Int)):Int):Rat):=by exact_mod_cast h1
  rw[cIM,cGU,cJM,cGU,cGV]at this;exact this
 ·have:((2*(X-bS.nK X f*(f:Int)):Int):Rat)<=((f:Int):Rat):=by exact_mod_cast h2
  rw[cGU,cJM,cGU,cGV]at this;exact this
theorem aIE{q:Rat}{a b:Int}(h1:R.pz a<=q)(h2:q<R.pz (a+1))(h3:R.pz b<=q)(h4:q<R.pz (b+1)):a=b:=by
 have:R.pz a<R.pz (b+1):=by grind
 have:=R.wF.1 this;have:R.pz b<R.pz (a+1):=by grind
 have:=R.wF.1 this;omega
theorem aUH{p q:Int×Int}(hp:p.1≠0)(h:R.qz p=R.qz q):bA p=bA q:=by
 have hq:q.1≠0:=Hj (by rw[<-h];exact aSR hp);obtain⟨a,b⟩:=oH hp;obtain⟨c,d⟩:=oH hq;rw[h]at a b;exact aIE a b c d
structure aYM(z e:Int):Prop where
 z0:z≠0
 z1:z.natAbs<9007199254740992
 e0:-1074<=e
 e1:e<=971
theorem aEF(z:Int):R.ab (z:Rat)=(z.natAbs:Rat):=by
 unfold R.ab
 by_cases hz:0<=z
 ·rw[if_pos (by exact_mod_cast hz),<-cGV];congr 1;omega
 ·rw[if_neg (by intro hc;exact hz (by exact_mod_cast hc)),<-cGV,<-cIM];congr 1;omega
theorem aBR(p:Int×Int):tD.aOB p=decide (R.ab (R.qz p)<=3/4):=by
 unfold tD.aOB;have e:R.qz (3,-2)=3/4:=by
  unfold R.qz;dsimp only;rw[show(-2:Int)=-((2:Nat):Int) by rfl,R.xG];have h3:R.hf 2=1/4:=by simp[R.hf];grind
  have:((3:Int):Rat)=3:=by norm_cast
  rw[h3,this];grind
 by_cases h:R.ab (R.qz p)<=3/4
 ·rw[decide_eq_true h];refine decide_eq_true (kX.2 ?_);rw[Co,e];exact h
 ·rw[decide_eq_false h];refine decide_eq_false fun hc=>h ?_
  have:=kX.1 hc;rwa [Co,e]at this
structure aAU(x:Int×Int):Prop where
 vD:jK x
 ne:x.1≠0
 bl:bl x.1.natAbs<=53
 t0:-1074<=bA x
 t1:bA x<=1023
 e0:-1074<=x.2
 e1:x.2<=1023
 fit:R.Fit (R.qz x)
 bFZ:¬R.ab (R.qz x)<=3/4->-53<=x.2/\R.bEF (R.qz x)
theorem bDP{z e:Int}(h:aYM z e):aAU (aN z e):=by
 obtain⟨z0,z1,e0,e1⟩:=h;have bz:bl z.natAbs<=53:=cZ.2 (by have:(2:Nat)^53=9007199254740992:=rfl;omega);have b0:=pD (n:=z.natAbs) (by omega);have q:=oI z e;have q':R.qz (aN z e)=R.qz (z,e):=q;have ne:(aN z e).1≠0:=fun hz=>z0 (dX.1 hz)
 have tt:=aUH ne q';have t':bA (z,e)=e+(bl z.natAbs:Nat)-1:=rfl;have ge:=qT (e:=e) z0;have bb:=vE z e;have b1:=pD (n:=(aN z e).1.natAbs) (by omega);have te:bA (aN z e)=(aN z e).2+(bl (aN z e).1.natAbs:Nat)-1:=rfl;have vD:jK (aN z e):=gM (gQ (by omega) (by omega)) (by omega);have num:¬R.ab (R.qz (aN z e))<=3/4->-53<=e/\R.bEF (R.qz (aN z e)):=by
  intro hb;have he:-53<=e:=by
   refine Int.not_lt.1 fun hn=>hb ?_
   have h2:=(oH (p:=(z,e)) z0).2;have:R.pz (bA (z,e)+1)<=R.pz (-1):=R.cG (by omega);have p1:R.pz (-1)*2=1:=by
    have:=R.qA 0;rw[R.fV]at this;exact this
   rw[q'];grind
  refine⟨he,(z.natAbs:Int),e,by omega,by omega,he,e1,?_⟩;rw[q',cGV,<-aEF];show(z:Rat)*R.pz e=_\/(z:Rat)*R.pz e=_;unfold R.ab;split
  ·left;rfl
  ·right;grind
 refine⟨vD,ne,by omega,by omega,by omega,by omega,by omega,?_,fun hb=>⟨by have:=(num hb).1;omega,(num hb).2⟩⟩
 by_cases c:R.ab (R.qz (aN z e))<=3/4
 ·exact Or.inr c
 ·exact Or.inl (num c).2
theorem aPE{G q K f M P W p:Rat}(hG:G=W*(256*P))(P1:1<=P)(W1:1<=W)(aq:R.ab q<=P)(f0:0<=f)(f1:f<=G*p)(f2:G*p<f+1)(p1:314159/100000<p)(p2:p<314160/100000)
  (n1:-f<=2*(2*(G*q)-K*f)) (n2:2*(2*(G*q)-K*f)<=f) (m1:M*(512*P)<=2*(G*q)-K*f-(R.ab K+3)) (m2:2*(G*q)-K*f-(R.ab K+3)<(M+1)*(512*P)) :
  M<=W*(q-K*(p/2))/\W*(q-K*(p/2))<=M+2/\W*R.ab (q-K*(p/2))<=W*(p/4)+1:=by
 have WP:=R.aF (show 0<=W-1 by grind) (show 0<=P-1 by grind);have G1:256<=G:=by rw[hG];grind
 have Gp:=R.aF (show 0<=G by grind) (show 0<=p-314159/100000 by grind);have Gp2:=R.aF (show 0<=G by grind) (show 0<=314160/100000-p by grind);have f3:3*G<=f:=by grind
 have f4:f<=4*G:=by grind
 have k0:=R.aM K;have eX:R.ab (2*(G*q))=2*(G*R.ab q):=by
  rw[R.fI,R.fI,R.bG (show(0:Rat)<=2 by grind),R.bG (show 0<=G by grind)]
 have eK:R.ab (K*f)=R.ab K*f:=by rw[R.fI,R.bG f0]
 have aKf:R.ab K*f<=2*(G*R.ab q)+f/2:=by
  rw[<-eK,<-eX];have a1:=R.By (2*(G*q));have a2:=R.nJ (2*(G*q));rw[R.bW];constructor <;> grind
 have g1:=R.aF (show 0<=G by grind) (show 0<=P-R.ab q by grind);have g2:=R.aF k0 (show 0<=f-3*G by grind);have aK:3*R.ab K<=2*P+2:=by
  refine R.bV (q:=G) (by grind) ?_;grind
 have kd:R.ab (K*(G*p-f))<=R.ab K:=by
  rw[R.fI,R.bG (show 0<=G*p-f by grind)];have:=R.aF k0 (show 0<=1-(G*p-f) by grind);grind
 rw[R.bW]at kd;have e2:2*(G*q)-K*f-K*(G*p-f)=512*P*(W*(q-K*(p/2))):=by rw[hG];grind
 have P0:0<512*P:=by grind
 refine⟨?_,?_,?_⟩
 ·refine R.bV P0 ?_;rw[<-e2];generalize K*(G*p-f)=Z at *;grind
 ·refine R.bV P0 ?_;rw[<-e2];generalize K*(G*p-f)=Z at *;grind
 ·refine R.bV P0 ?_;have e3:512*P*(W*R.ab (q-K*(p/2)))=R.ab (512*P*(W*(q-K*(p/2)))):=by
   rw[R.fI (512*P),R.fI W,R.bG (cFS P0),R.bG (show 0<=W by grind)]
  rw[e3,<-e2,R.bW];have e4:512*P*(W*(p/4)+1)=G*p/2+512*P:=by rw[hG];grind
  rw[e4];generalize K*(G*p-f)=Z at *;constructor <;> grind
structure aXV(x:Int×Int)(w k:Int):Prop where
 Yz:R.rW (R.qz x) k
 q:aZ.cQ x w=k%4
 pl:jK (aZ.Ya x w)
 ph:jK (aZ.Yb x w)
 lo:R.qz (aZ.Ya x w)<=R.qz x-(k:Rat)*(R.pi/2)
 hi:R.qz x-(k:Rat)*(R.pi/2)<=R.qz (aZ.Yb x w)
 wd:R.qz (aZ.Yb x w)-R.qz (aZ.Ya x w)<=R.pz (57-w)*R.ab (R.qz x-(k:Rat)*(R.pi/2))
 rg:R.pz (-1074)<=R.ab (R.qz x-(k:Rat)*(R.pi/2))
theorem Ir{x:Int×Int}{w:Int}(hx:aAU x)(hw:64<=w/\w<=66590):∃k,aXV x w k:=by
 obtain⟨q1,q2⟩:=R.gX
 by_cases c:R.ab (R.qz x)<=3/4
 ·have sm:tD.aOB x=true:=by rw[aBR,decide_eq_true c]
  have k0:((0:Int):Rat)=0:=by norm_cast
  have dL:aZ.Ya x w=x:=by unfold aZ.Ya;rw[sm];rfl
  have dH:aZ.Yb x w=x:=by unfold aZ.Yb;rw[sm];rfl
  have er:R.qz x-((0:Int):Rat)*(R.pi/2)=R.qz x:=by rw[k0];grind
  refine⟨0,?_,by unfold aZ.cQ;rw[sm];rfl,by rw[dL];exact hx.vD,by rw[dH];exact hx.vD,by rw[dL,er];exact cGB,by rw[dH,er];exact cGB,?_,?_⟩
  ·unfold R.rW;rw[er];grind
  ·rw[dL,dH,er];have:=R.aF (cFS (R.dJ (57-w))) (R.aM (R.qz x));grind
  ·rw[er];have:=(oH hx.ne).1;have:=R.cG hx.t0;grind
 ·have sm:tD.aOB x=false:=by rw[aBR,decide_eq_false c]
  obtain⟨e53,num⟩:=hx.bFZ c;have hb:=hx.bl;have aDC:=hx.e1;obtain⟨sM,sK⟩:=bS.aCB (p:=x) (w:=aZ.cW w) (by omega) (by omega) (by omega) (by unfold aZ.cW;split <;> omega) (by unfold aZ.cW;split <;> omega);have eW:aZ.cW w=w+8:=by unfold aZ.cW;split <;> omega
  have hM:aZ.cM x w=bS.rM x (w+8):=by
   unfold aZ.cM;rw[eW,show w+8-(w+8)=0 by omega];show bS.rM x (w+8)/((2^(0:Int).toNat:Nat):Int)=_;rw[show(2^(0:Int).toNat:Nat)=1 by rfl];omega
  have hQ:aZ.cQ x w=bS.rK x (w+8)%4:=by unfold aZ.cQ;rw[sm,eW];rfl
  have dL:aZ.Ya x w=aN (bS.rM x (w+8)) (-(w+8)):=by unfold aZ.Ya;rw[sm,hM];rfl
  have dH:aZ.Yb x w=aN (bS.rM x (w+8)+4) (-(w+8)):=by unfold aZ.Yb;rw[sm,hM];rfl
  rw[eW]at sM sK;have hT:bS.oU x=if 0>bA x+1 then 0 else bA x+1:=by
   unfold bS.oU bA;rw[show x.2+((M.bl x.1.natAbs:Nat):Int)-1+1=x.2+((M.bl x.1.natAbs:Nat):Int) by omega]
  have t1:=hx.t1;have T0:0<=bS.oU x/\bA x+1<=bS.oU x/\bS.oU x<=1024:=by rw[hT];split <;> omega
  have hG:bS.rG x (w+8)=w+8+bS.oU x+8:=rfl;obtain⟨g,hg⟩:=cAS (show 0<=bS.rG x (w+8) by omega);have hX:(bS.rX x (w+8):Rat)=2*(R.pz (bS.rG x (w+8))*R.qz x):=by
   unfold bS.rX tF.aLN;rw[aU];obtain⟨n,hn⟩:=cAS (show 0<=x.2+bS.rG x (w+8) by omega);rw[hn,bZL,cGU,cGU,cGV];have e1:((2^n:Nat):Rat)=R.pz x.2*R.pz (bS.rG x (w+8)):=by rw[<-R.jJ,hn,R.lT]
   rw[e1];unfold R.qz;have:((2:Int):Rat)=2:=by norm_cast
   rw[this];grind
  obtain⟨f1,f2⟩:=R.zH (q:=(bS.rG x (w+8)).toNat) (by omega);have f0:=(bS.Rg (g:=(bS.rG x (w+8)).toNat) (by omega)).2;have hF:R.pF (bS.rG x (w+8)).toNat=bS.rF x (w+8):=rfl;rw[hF]at f0 f1 f2;have eG:((2^(bS.rG x (w+8)).toNat:Nat):Rat)=R.pz (bS.rG x (w+8)):=by rw[hg,bZL,R.lT]
  rw[eG]at f1 f2;obtain⟨n1,n2⟩:=aPX (X:=bS.rX x (w+8)) (f:=bS.rF x (w+8)) (by omega);have hK:bS.nK (bS.rX x (w+8)) (bS.rF x (w+8))=bS.rK x (w+8):=rfl;rw[hK]at n1 n2;have hR:(bS.rR x (w+8):Rat)=(bS.rX x (w+8):Rat)-(bS.rK x (w+8):Rat)*(bS.rF x (w+8):Rat):=by
   unfold bS.rR;rw[cJM,cGU,cGV]
  have hO:(bS.rO x (w+8):Rat)=R.ab (bS.rK x (w+8):Rat)+3:=by
   unfold bS.rO;rw[cIN,cGV,aEF];have:((3:Int):Rat)=3:=by norm_cast
   rw[this]
  have hS:bS.rG x (w+8)-(w+8)+1=bS.oU x+9:=by omega
  have bKD:bS.rM x (w+8)=(bS.rR x (w+8)-bS.rO x (w+8))/((2^(bS.oU x+9).toNat:Nat):Int):=by
   show(bS.rR x (w+8)-bS.rO x (w+8))/((2^(bS.rG x (w+8)-(w+8)+1).toNat:Nat):Int)=_;rw[hS]
  obtain⟨m1,m2⟩:=Md (z:=bS.rR x (w+8)-bS.rO x (w+8)) (k:=(bS.oU x+9).toNat);rw[<-bKD,cJM]at m1 m2;obtain⟨s,hs⟩:=cAS (show 0<=bS.oU x+9 by omega);have eS:((2^(bS.oU x+9).toNat:Nat):Rat)=512*R.pz (bS.oU x):=by
   rw[hs,bZL,<-R.lT,<-hs];have:=R.dY (bS.oU x) 9;have n9:((2^9:Nat):Rat)=512:=by norm_cast
   rw[n9]at this;rw[show bS.oU x+9=bS.oU x+((9:Nat):Int) by rfl,this];grind
  rw[eS]at m1 m2;have bUU:R.pz (bS.rG x (w+8))=R.pz (w+8)*(256*R.pz (bS.oU x)):=by
   rw[hG,R.jJ,R.jJ];have:R.pz 8=256:=by rw[show(8:Int)=((8:Nat):Int) by rfl,R.lT];norm_cast
   rw[this];grind
  have P1:1<=R.pz (bS.oU x):=by rw[<-R.fV];exact R.cG (by omega)
  have aq:R.ab (R.qz x)<=R.pz (bS.oU x):=by
   have:=(oH hx.ne).2;have:=R.cG T0.2.1;grind
  have W80:(4722366482869645213696:Rat)<=R.pz (w+8):=by
   have:=R.cG (show(72:Int)<=w+8 by omega);have e:R.pz 72=4722366482869645213696:=by rw[show(72:Int)=((72:Nat):Int) by rfl,R.lT];norm_cast
   rw[e]at this;grind
  rw[hR,hO,hX]at m1 m2;rw[hX]at n1 n2;have F0:(0:Rat)<=(bS.rF x (w+8):Rat):=by exact_mod_cast cBX _
  obtain⟨r1,r2,r3⟩:=aPE bUU P1 (by grind) aq F0 f1 f2 q1 q2 n1 n2 m1 m2;have Wi:=R.Yu (w+8);have Wp:=R.dJ (-(w+8));have v:=R.aUQ num (bS.rK x (w+8));have i1:gY (bS.rM x (w+8)) (-(w+8))=true:=gQ (by omega) (by omega);have s4:M.bl (bS.rM x (w+8)+4).natAbs<=80010:=by
   have:=aZ.aEC sM (by decide);omega
  have i2:gY (bS.rM x (w+8)+4) (-(w+8))=true:=gQ (by omega) (by omega);have vL:R.qz (aZ.Ya x w)=(bS.rM x (w+8):Rat)*R.pz (-(w+8)):=by rw[dL,oI]
  have vH:R.qz (aZ.Yb x w)=(bS.rM x (w+8):Rat)*R.pz (-(w+8))+4*R.pz (-(w+8)):=by
   rw[dH,oI,cIN];have:((4:Int):Rat)=4:=by norm_cast
   rw[this];grind
  have p63:R.pz (57-w)*(1/9223372036854775808)=4*R.pz (-(w+8)):=by
   have:=R.fS (57-w) (n:=65) (c:=36893488147419103232) (by norm_cast);rw[show 57-w-((65:Nat):Int)=-(w+8) by omega]at this;grind
  have mm:=R.aF (cFS (R.dJ (57-w))) (show 0<=R.ab (R.qz x-(bS.rK x (w+8):Rat)*(R.pi/2))-1/9223372036854775808 by grind);have bAK:R.rW (R.qz x) (bS.rK x (w+8)):=by
   unfold R.rW;generalize R.ab (R.qz x-(bS.rK x (w+8):Rat)*(R.pi/2))=a at *;have u:=R.aF (cFS Wp) (show 0<=R.pz (w+8)*(R.pi/4)+1-R.pz (w+8)*a by grind);have u3:R.pz (-(w+8))*(R.pz (w+8)*a)=a:=by rw[<-cGT,cIJ (R.pz (-(w+8))),Wi];grind
   have u4:R.pz (-(w+8))*(R.pz (w+8)*(R.pi/4))=R.pi/4:=by rw[<-cGT,cIJ (R.pz (-(w+8))),Wi];grind
   have l65:R.pz (-(w+8))<=R.pz (-65):=R.cG (by omega);have bUW:=R.fS 0 (n:=65) (c:=36893488147419103232) (by norm_cast);rw[R.fV,show(0:Int)-((65:Nat):Int)=-65 by rfl]at bUW;grind
  obtain⟨r,hr⟩:∃r,r=R.qz x-(bS.rK x (w+8):Rat)*(R.pi/2):=⟨_,rfl⟩;rw[<-hr]at r1 r2 r3 v mm;have u1:=R.aF (cFS Wp) (show 0<=R.pz (w+8)*r-(bS.rM x (w+8):Rat) by grind);have u2:=R.aF (cFS Wp) (show 0<=(bS.rM x (w+8):Rat)+2-R.pz (w+8)*r by grind);have u3:R.pz (-(w+8))*(R.pz (w+8)*r)=r:=by rw[<-cGT,cIJ (R.pz (-(w+8))),Wi];grind
  refine⟨bS.rK x (w+8),?_,hQ,by rw[dL];exact gM i1 (by omega),by rw[dH];exact gM i2 (by omega),?_,?_,?_,?_⟩
  ·exact bAK
  ·rw[vL,<-hr];grind
  ·rw[vH,<-hr];grind
  ·rw[vH,vL,<-hr];grind
  ·rw[<-hr];have p64:R.pz (-1074)<=R.pz (-63):=R.cG (by omega);have bKY:=R.fS 0 (n:=63) (c:=9223372036854775808) (by norm_cast);rw[R.fV,show(0:Int)-((63:Nat):Int)=-63 by rfl]at bKY;grind
end M
namespace AI
open Go Go.RowKit
def t2{β:Type}(x y:β):Nat->β
 |0=>x
 |_+1=>y
def t4{β:Type}(x y z u:β):Nat->β
 |0=>x
 |1=>y
 |2=>z
 |_+3=>u
def bLX{β:Type}(p:SPar β)(d:β):kM (β) where
 put x:=.rows p.n 1 fun _=>p.put x
 get
  | .rows sz n g=>if n=1/\sz=p.n then(p.get (g 0)).bind fun x=>some x else none
  |_=>none
 le:=by
  intro dd x h
  match dd,h with
  | .rows sz n g,h =>
   dsimp only at h;split at h
   ·rename_i hc;obtain⟨rfl,hc⟩:=hc;simp only[bXV]at h;obtain⟨y0,h0,h⟩:=h;cases h;have zW:allB 1 (fun i=>(p.get (g i)).isSome)=true:=by simp[allB,h0]
    have e:=(pR p d).le (d:=.rows sz 1 g) (x:=(1,fun i=>(p.get (g i)).getD d)) (if_pos ⟨hc,zW⟩);rintro Y w v hv;obtain⟨A,c,e1,e2,e3⟩:=e Y w v hv;refine⟨A,c,e1,e2,fun i hi=>?_⟩;have e4:=e3 i hi;obtain rfl:i=0:=by omega
    dsimp only at e4;rw[h0]at e4;exact e4
   ·cases h
def bEQ{β:Type}(p:SPar β)(d:β):kM (β×β) where
 put x:=.rows p.n 2 fun i=>p.put (t2 x.1 x.2 i)
 get
  | .rows sz n g=>if n=2/\sz=p.n then(p.get (g 0)).bind fun x=>(p.get (g 1)).bind fun y=>some (x,y)else none
  |_=>none
 le:=by
  intro dd x h
  match dd,h with
  | .rows sz n g,h =>
   dsimp only at h;split at h
   ·rename_i hc;obtain⟨rfl,hc⟩:=hc;simp only[bXV]at h;obtain⟨y0,h0,y1,h1,h⟩:=h;cases h;have zW:allB 2 (fun i=>(p.get (g i)).isSome)=true:=by simp[allB,h0,h1]
    have e:=(pR p d).le (d:=.rows sz 2 g) (x:=(2,fun i=>(p.get (g i)).getD d)) (if_pos ⟨hc,zW⟩);rintro Y w v hv;obtain⟨A,c,e1,e2,e3⟩:=e Y w v hv;refine⟨A,c,e1,e2,fun i hi=>?_⟩;have e4:=e3 i hi;obtain rfl |rfl:i=0\/i=1:=by omega
    ·dsimp only at e4;rw[h0]at e4;exact e4
    ·dsimp only at e4;rw[h1]at e4;exact e4
   ·cases h
def aSV{β:Type}(p:SPar β)(d:β):kM (β×β×β×β) where
 put x:=.rows p.n 4 fun i=>p.put (t4 x.1 x.2.1 x.2.2.1 x.2.2.2 i)
 get
  | .rows sz n g=>if n=4/\sz=p.n then(p.get (g 0)).bind fun x=>(p.get (g 1)).bind fun y=>(p.get (g 2)).bind fun z=>(p.get (g 3)).bind fun u=>some (x,y,z,u)else none
  |_=>none
 le:=by
  intro dd x h
  match dd,h with
  | .rows sz n g,h =>
   dsimp only at h;split at h
   ·rename_i hc;obtain⟨rfl,hc⟩:=hc;simp only[bXV]at h;obtain⟨y0,h0,y1,h1,y2,h2,y3,h3,h⟩:=h;cases h;have zW:allB 4 (fun i=>(p.get (g i)).isSome)=true:=by simp[allB,h0,h1,h2,h3]
    have e:=(pR p d).le (d:=.rows sz 4 g) (x:=(4,fun i=>(p.get (g i)).getD d)) (if_pos ⟨hc,zW⟩);rintro Y w v hv;obtain⟨A,c,e1,e2,e3⟩:=e Y w v hv;refine⟨A,c,e1,e2,fun i hi=>?_⟩;have e4:=e3 i hi;obtain rfl |rfl |rfl |rfl:i=0\/i=1\/i=2\/i=3:=by omega
    ·dsimp only at e4;rw[h0]at e4;exact e4
    ·dsimp only at e4;rw[h1]at e4;exact e4
    ·dsimp only at e4;rw[h2]at e4;exact e4
    ·dsimp only at e4;rw[h3]at e4;exact e4
   ·cases h
end AI
namespace W
open Go AI M
namespace Ag
def E:=mE [] 9 [] [] []
def aE:=bd f161
theorem aX:Nk E aE:=nk
theorem start a:aH E f161 aE [D.s (sc (int i64 a))]=aB (decide (1<=a)) (some [D.s (sc (bool (decide (a<=70000))))]) (some [D.s (sc (bool false))]):=eJ aX
def sp(p:Int):Prop×List D:=(True,[.s (.sc (.bool (decide (1<=p)&&decide (p<=70000))))])
theorem spec:jE E f161 aE (pN .i64) sp:=by
 intro p h;refine(start p).trans ?_;unfold sp aB;cases (decide ((1:Int)<=p)) <;> rfl
def aJ:dK:=orc1 (pN .i64) sp
theorem ok:OK 161 aJ:=(eZ E aE aD func161).pU rfl spec
end Ag
namespace yB
def E:=mE [(161,Ag.aJ),(67,uU.aJ)] 20 [] [(4,[10,11,12])] []
def aE:=bd f117
theorem aX:Nk E aE:=nk
def L4(a:Nat)(b:Nat->Bool)(c:Nat->List Int)(d:Nat->Int)(e:Nat->Bool)(f:Nat->List Int)(g:Nat->Int) h j:=qV E f117 aE 4 [(A.v (V.one (L.rows 6 a fun i=>[sc (bool (b i)),ints u64 (c i),sc (int i64 (d i)),sc (bool (e i)),ints u64 (f i),sc (int i64 (g i))])),none),bP h,bP j]
theorem start p (a:wV) (b:wV):aH E f117 aE [D.s (sc (int i64 p)),D.rows 6 2 fun i=>[sc (bool (t2 a b i).fst),ints u64 (t2 a b i).snd.fst,sc (int i64 (t2 a b i).snd.snd.fst),sc (bool (t2 a b i).snd.snd.snd.fst),ints u64 (t2 a b i).snd.snd.snd.snd.fst,sc (int i64 (t2 a b i).snd.snd.snd.snd.snd)]]=aO True (aB (!(decide (1<=p)&&decide (p<=70000))) (some [D.s (sc (int i64 1))]) (yB.L4 2 (fun i=>(t2 a b i).fst) (fun i=>(t2 a b i).snd.fst) (fun i=>(t2 a b i).snd.snd.fst) (fun i=>(t2 a b i).snd.snd.snd.fst) (fun i=>(t2 a b i).snd.snd.snd.snd.fst) (fun i=>(t2 a b i).snd.snd.snd.snd.snd) 2 0)):=eJ aX
theorem rZ a b c d e f g h j:L4 a b c d e f g h j=aB (decide (j<h)) (if 0<=j/\j<(a:Int)then aO (eQ (b j.toNat,c j.toNat,d j.toNat,e j.toNat,f j.toNat,g j.toNat)) (yB.L4 a (fun i=>b i) (fun i=>c i) (fun i=>d i) (fun i=>e i) (fun i=>f i) (fun i=>g i) h (i64.wrap (j+1)))else none) (some [D.s (sc (int i64 0))]):=lJ aX
def sp(p:Int)(a:wV×wV):Prop×List D:=(eQ a.1/\eQ a.2,[.s (.sc (.int .i64 (if 1<=p/\p<=70000 then 0 else 1)))])
theorem L(n:Nat)(f:Nat->wV)(hn:n<=1000)(hf:∀i,i<n->eQ (f i)):∀d k:Nat,k+d=n->L4 n (fun i=>(f i).1) (fun i=>(f i).2.1) (fun i=>(f i).2.2.1) (fun i=>(f i).2.2.2.1) (fun i=>(f i).2.2.2.2.1) (fun i=>(f i).2.2.2.2.2) (n:Int) (k:Int)=some [D.s (.sc (.int .i64 0))]
 |0,k,h=>by rw[rZ,aL]
 |d+1,k,h=>by
  have e:i64.wrap ((k:Int)+1)=((k+1:Nat):Int):=by rw[wrap_i64];omega
  rw[rZ,aP,aU,bZL,gP (hf k (by omega)),e];exact L n f hn hf d (k+1) (by omega)
theorem spec:gT E f117 aE (pN .i64) (bEQ (.pair sB (.pair (sI .u64) (.pair (sN .i64) (.pair sB (.pair (sI .u64) (sN .i64)))))) (false,[],0,false,[],0)) sp:=by
 intro p a h;have hf:∀i,i<2->eQ (t2 a.1 a.2 i):=fun i hi=>by
  obtain rfl |rfl:i=0\/i=1:=by omega
  ·exact h.1
  ·exact h.2
 refine(start p a.1 a.2).trans ((gP trivial).trans ?_);unfold sp
 by_cases hp:1<=p/\p<=70000
 ·rw[if_pos hp,decide_eq_true hp.1,decide_eq_true hp.2];exact L 2 (fun i=>t2 a.1 a.2 i) (by decide) hf 2 0 (by omega)
 ·rw[if_neg hp];have:(decide (1<=p)&&decide (p<=70000))=false:=by
   rw[Bool.and_eq_false_iff,decide_eq_false_iff_not,decide_eq_false_iff_not];omega
  rw[this];rfl
def aJ:dK:=orc2 (pN .i64) (bEQ (.pair sB (.pair (sI .u64) (.pair (sN .i64) (.pair sB (.pair (sI .u64) (sN .i64)))))) (false,[],0,false,[],0)) sp
theorem ok:OK 117 aJ:=(eZ E aE (aA Ag.ok (aA uU.ok aD)) func117).mT rfl spec
end yB
namespace Mu
def E:=mE [(120,Hb.aJ)] 6 [5] [] []
def aE:=bd f165
theorem aX:Nk E aE:=nk
theorem start a b c:aH E f165 aE [D.agg [sc (bool a),ints u64 b,sc (int i64 c)]]=aO (aQ (a,b,c)/\aQ (false,[],(0:Int))) (some [D.s (sc (int i64 (eF (dv (a,b,c)) (dv (false,[],Int.ofNat (nat_lit 0))))))]):=eJ aX
def sp(x:gE):Prop×List D:=(aQ x,[.s (.sc (.int .i64 (eF (dv x) (0,0))))])
theorem bGX:aQ (false,[],0):=⟨⟨M6.Iy,fun h=>Bool.noConfusion h,by simp⟩,by constructor <;> decide,fun _=>rfl,fun h=>(h rfl).elim⟩
theorem spec:jE E f165 aE iX sp:=by
 intro x h;exact(start x.1 x.2.1 x.2.2).trans (gP ⟨h,bGX⟩)
def aJ:dK:=orc1 iX sp
theorem ok:OK 165 aJ:=(eZ E aE (aA Hb.ok aD) func165).pU rfl spec
end Mu
namespace fK
def E:=mE [(67,uU.aJ),(165,Mu.aJ)] 18 [] [] []
def aE:=bd f159
theorem aX:Nk E aE:=nk
theorem start a b c d e f:aH E f159 aE [D.agg [sc (bool a),ints u64 b,sc (int i64 c),sc (bool d),ints u64 e,sc (int i64 f)]]=letI A:=sc (int i64 0);aO (eQ (a,b,c,d,e,f)) (aO (aQ (d,e,f)) (aB (decide (eF (dv (d,e,f)) ((0:Int),(0:Int))<0)) (some [D.s (sc (int i64 (-1:Int))),D.s A]) (aO (aQ (a,b,c)) (aB (decide (0<eF (dv (a,b,c)) ((0:Int),(0:Int)))) (some [D.s (sc (int i64 1)),D.s A]) (some [D.s A,D.s A]))))):=eJ aX
def sJ(a b:Int×Int):Int:=if eF b (0,0)<0 then -1 else if 0<eF a (0,0)then 1 else 0
def sp(s:wV):Prop×List D:=(eQ s,[.s (.sc (.int .i64 (sJ (dv (gZ s)) (dv (hI s))))),.s (.sc (.int .i64 0))])
theorem spec:jE E f159 aE yJ sp:=by
 intro s h;have h:eQ s:=h;have hL:aQ (s.1,s.2.1,s.2.2.1):=h.1;have hH:aQ (s.2.2.2.1,s.2.2.2.2.1,s.2.2.2.2.2):=h.2.1;refine(start s.1 s.2.1 s.2.2.1 s.2.2.2.1 s.2.2.2.2.1 s.2.2.2.2.2).trans ?_;unfold sp sJ
 try dsimp only
 rw[gP h,gP hH];show aB (decide (eF (dv (hI s)) (0,0)<0)) _ _=_
 by_cases c1:eF (dv (hI s)) (0,0)<0
 ·rw[aP c1,if_pos c1]
 ·rw[aL c1,if_neg c1,gP hL];show aB (decide (0<eF (dv (gZ s)) (0,0))) _ _=_
  by_cases c2:0<eF (dv (gZ s)) (0,0)
  ·rw[aP c2,if_pos c2]
  ·rw[aL c2,if_neg c2]
def aJ:dK:=orc1 yJ sp
theorem ok:OK 159 aJ:=(eZ E aE (aA uU.ok (aA Mu.ok aD)) func159).pU rfl spec
end fK
namespace Nd
def E:=mE [(210,cC.aJ)] 14 [11] [] []
def aE:=bd f166
theorem aX:Nk E aE:=nk
theorem start a b d e f g c:aH E f166 aE [D.agg [sc (bool a),ints u64 b,sc (int i64 d)],D.agg [sc (bool e),ints u64 f,sc (int i64 g)],D.s (sc (int i64 c))]=letI A:=cC.uK false c (dv (a,b,d)) (dv (e,f,g));letI B:=bif gY A.fst A.snd then aN A.fst A.snd else((0:Int),(0:Int));aO (aQ (a,b,d)/\aQ (e,f,g)/\(dv (e,f,g)).fst≠0/\b.length<=4096/\f.length<=4096/\1<=c/\c<=70000) (some [D.agg [sc (bool (isNeg B.fst)),ints u64 (M6.dg B.fst.natAbs),sc (int i64 B.snd)],D.s (sc (int i64 (bif gY A.fst A.snd then(0:Int)else(5:Int))))]):=eJ aX
def sp(x y:gE)(p:Int):Prop×List D:=(aQ x/\aQ y/\(dv y).1≠0/\x.2.1.length<=4096/\y.2.1.length<=4096/\1<=p/\p<=70000,dE (gY (cC.uK false p (dv x) (dv y)).1 (cC.uK false p (dv x) (dv y)).2) (aN (cC.uK false p (dv x) (dv y)).1 (cC.uK false p (dv x) (dv y)).2))
theorem spec:oK E f166 aE iX iX (pN .i64) sp:=by
 intro x y p h;refine(start x.1 x.2.1 x.2.2 y.1 y.2.1 y.2.2 p).trans ((gP h).trans ?_);rfl
def aJ:dK:=orc3 iX iX (pN .i64) sp
theorem ok:OK 166 aJ:=(eZ E aE (aA cC.ok aD) func166).yK rfl spec
end Nd
end W
end Go.Proofs.YtplagoepbghhpaaGreatDoor
end
