/- Contracts. -/
import Derived.KernelRfl
import Derived.Test.YtplagoepbghhpaaGreatDoorBZivNarrows2
set_option linter.unusedVariables false
set_option linter.unusedSimpArgs false
set_option exponentiation.threshold 10000000
noncomputable section
open Go.IntKind(i8 i16 i32 i64 u8 u16 u32 u64)
open Go.Proofs.Tryz
open Int renaming toNat_natCast->cFB,eq_ofNat_of_zero_le->cGG,natCast_mul->cHC,natCast_ediv->cGU,natCast_nonneg->cKX,tdiv_eq_ediv_of_nonneg->cIS,le_refl->cMA,natCast_add->cME,mul_neg->cKE,sub_self->cMF,natAbs_neg->cHY,one_mul->cJO,tmod_eq_emod_of_nonneg->cIT,natAbs_natCast->cGW,mul_nonneg->cMS,mul_one->cMT,mul_assoc->cHR,natCast_emod->cHV,neg_mul->cKU,min_le_left->cMX,min_le_right->cMY,mul_neg_of_neg_of_pos->cLC,zero_mul->cGS,mul_ediv_mul_of_pos_left->cNK,mul_ediv_add_emod->cKH,toNat_of_nonneg->cNP,emod_add_mul_ediv->cNR,emod_nonneg->cKI,mul_le_mul_of_nonneg_right->cDO,natAbs_mul->cGR
open Nat renaming pow_add->cGE,mul_add->cGF,mul_assoc->cGH,pow_succ->cGD,le_trans->cCA,mul_comm->cGC,mod_lt->cDM,mul_le_mul_right->cCT,mul_le_mul_left->cDS,add_mul->cBY,zero_add->cBG,div_lt_of_lt_mul->cGY,div_add_mod->cGK,div_eq_of_lt->cHB,pow_pos->cEE,div_le_self->cJR,div_div_eq_div_mul->cGV,mod_eq_of_lt->cLT,mul_one->cBO,lt_of_lt_of_le->cCB,add_zero->cCC,beq->cBF,eq_of_beq_eq_true->cBT,zero_le->cHH,one_mul->cFI,pow_le_pow_right->cEF,le_of_not_lt->cDY,add_mul_div_left->cHU,pow_zero->cLF,le_refl->cBE,mod_add_div->cLV,mul_le_mul->cLS,mul_lt_mul''->cJS,div_le_div_left->cLX,ble->cBH,mul_left_comm->cJA,le_of_ble_eq_true->cDC,div_eq_of_lt_le->cLY,mul_right_comm->cLZ,lt_of_le_of_lt->cHT,zero_div->cKY,testBit_mod_two_pow->cMC,mul_div_le->cMD,add_assoc->cEV,lt_or_ge->cBU,or_comm->cKA,testBit_and->cMH,testBit_div_two_pow->cMI,eq_of_testBit_eq->cMJ,div_mul_le_self->cMK,lt_div_mul_add->cML,lt_mul_div_succ->cMM,div_lt_iff_lt_mul->cMN,zero_mod->cIZ,pow_lt_pow_right->cHX,testBit_two_pow->cMU,mul_add_div->cKW,add_comm->cHF,eq_of_mul_eq_mul_right->cMW,testBit_two_pow_sub_one->cNB,testBit_two_pow_sub_succ->cNC,le_div_iff_mul_le->cNE,eq_zero_or_pos->cNG,two_pow_add_eq_or_of_lt->cKB,testBit_lt_two_pow->cNL,add_mul_mod_self_left->cNM,mul_add_mod->cNN,mul_div_mul_right->cKC,mul_mod_mul_right->cKD,mul_div_cancel->cLH,exists_eq_add_of_le->cCJ,mul_lt_mul_of_pos_right->cJQ,pow_lt_pow_iff_right->cNQ
open Rat renaming le_of_lt->cGL,natCast_mul->cID,le_trans->cGJ,mul_assoc->cMO,le_refl->cHS,intCast_mul->cMP,intCast_natCast->cMQ,div_mul_cancel->cND
open List renaming replicate->cDH,take_length->cHZ,drop_zero->cHL,drop->cHA,take_set_of_le->cMB,take->cGZ,drop_set_of_lt->cMG,drop_of_length_le->cMV,append_nil->cHE,getD_eq_getElem?_getD->cGI,nil_append->cFH,append_assoc->cCZ,singleton_append->cIA
open Bool renaming not_true->cDE,true_and->cEG,false_and->cGN,true_or->cGO,false_or->cDF,not_false->cMR,and_false->cGQ,and_eq_false_iff->cNA
namespace Go.Proofs.YtplagoepbghhpaaGreatDoor
namespace R
def iA{α:Type}(n:Nat)(k:Nat->α):α:=Nat.rec (motive:=fun _=>α) (k 0) (fun m _=>k (m+1)) n
theorem fH{α:Type}(n:Nat)(k:Nat->α):iA n k=k n:=by cases n <;> rfl
def inner(q:Nat)(f:Nat):Nat->Nat->Nat->Nat×Nat:=Nat.rec (motive:=fun _=>Nat->Nat->Nat->Nat×Nat) (fun t s _=>(t,s))
 (fun _ ih t s i=>iA (t/q) fun u=>iA (u/q) fun v=>iA (s+t/i-u/(i+2)) fun s'=>iA (i+4) fun i'=>ih v s' i') f
def outer(q:Nat)(g:Nat)(f:Nat):Nat->Nat->Nat->Nat×Nat:=Nat.rec (motive:=fun _=>Nat->Nat->Nat->Nat×Nat) (fun t s _=>(t,s))
 (fun _ ih t s i=>Prod.rec (motive:=fun _=>Nat×Nat) (fun t' s'=>ih t' s' (i+4*g)) (inner q g t s i)) f
theorem aRD(n w:Nat){j:Nat}(hn:0<n):iX n w (j+1)<=iX n w j:=by
 unfold iX;refine cCA (cLX (show 2*j+1<=2*(j+1)+1 by omega) (by omega)) (Nat.div_le_div_right ?_);exact cLX (cEF hn (by omega)) (cEE hn)
def At(n w:Nat)(j:Nat)(t s:Nat):Prop:=t=2^w/n^(2*j+1)/\(s:Rat)=sum (fun j=>sg j*(iX n w j:Rat)) j/\j%2=0
theorem aWI{n w j t s:Nat}(hn:0<n)(h:At n w j t s):At n w (j+2) (t/(n*n)/(n*n)) (s+t/(2*j+1)-t/(n*n)/(2*j+1+2)):=by
 obtain⟨h1,h2,h3⟩:=h;have e1:t/(n*n)=2^w/n^(2*(j+1)+1):=by
  rw[h1,cGV,show 2*(j+1)+1=2*j+1+2 by omega,cGE _ (2*j+1) 2,Nat.pow_two]
 have e2:t/(n*n)/(n*n)=2^w/n^(2*(j+2)+1):=by
  rw[e1,cGV,show 2*(j+2)+1=2*(j+1)+1+2 by omega,cGE _ (2*(j+1)+1) 2,Nat.pow_two]
 refine⟨e2,?_,by omega⟩;have a1:t/(2*j+1)=iX n w j:=by rw[h1];rfl
 have a2:t/(n*n)/(2*j+1+2)=iX n w (j+1):=by rw[e1];rfl
 rw[a1,a2,dX,dX,<-h2];have hle:=aRD n w (j:=j) hn;have:((s+iX n w j-iX n w (j+1):Nat):Rat)+(iX n w (j+1):Rat)=(s:Rat)+(iX n w j:Rat):=by
  exact_mod_cast(show s+iX n w j-iX n w (j+1)+iX n w (j+1)=s+iX n w j by omega)
 have g1:sg j=1:=by unfold sg;rw[if_pos h3]
 have g2:sg (j+1)=-1:=by unfold sg;rw[aO]
 rw[g1,g2];grind
theorem aCM(q f t s i:Nat):inner q (f+1) t s i=iA (t/q) fun u=>iA (u/q) fun v=>iA (s+t/i-u/(i+2)) fun s'=>iA (i+4) fun i'=>inner q f v s' i':=rfl
theorem aCA(q g f t s i:Nat):outer q g (f+1) t s i=outer q g f (inner q g t s i).1 (inner q g t s i).2 (i+4*g):=rfl
theorem aOC{n w:Nat}(hn:0<n):∀(f j t s:Nat),At n w j t s->At n w (j+2*f) (inner (n*n) f t s (2*j+1)).1 (inner (n*n) f t s (2*j+1)).2:=by
 intro f
 induction f with
 |zero=>intro j t s h;exact h
 |succ f ih =>
  intro j t s h;have e:inner (n*n) (f+1) t s (2*j+1)=inner (n*n) f (t/(n*n)/(n*n)) (s+t/(2*j+1)-t/(n*n)/(2*j+1+2)) (2*(j+2)+1):=by
   rw[aCM,fH,fH,fH,fH];rfl
  rw[e,show j+2*(f+1)=(j+2)+2*f by omega];exact ih _ _ _ (aWI hn h)
theorem aNL{n w:Nat}(hn:0<n)(g:Nat):∀(f j t s:Nat),At n w j t s->At n w (j+2*(g*f)) (outer (n*n) g f t s (2*j+1)).1 (outer (n*n) g f t s (2*j+1)).2:=by
 intro f
 induction f with
 |zero=>intro j t s h;exact h
 |succ f ih =>
  intro j t s h;have e:outer (n*n) g (f+1) t s (2*j+1)=outer (n*n) g f (inner (n*n) g t s (2*j+1)).1 (inner (n*n) g t s (2*j+1)).2 (2*(j+2*g)+1):=by
   rw[aCA,show 2*j+1+4*g=2*(j+2*g)+1 by omega]
  rw[e,show j+2*(g*(f+1))=(j+2*g)+2*(g*f) by rw[Nat.mul_succ];omega];exact ih _ _ _ (aOC hn g j t s h)
def aBH(n w g f:Nat):Nat×Nat:=outer (n*n) g f (2^w/n) 0 1
theorem Jd{n:Nat}(hn:2<=n)(w g f:Nat)(hJ:2*(g*f)<=1048576)(hz:(aBH n w g f).1=0):ab (((aBH n w g f).2:Rat)-((2^w:Nat):Rat)*aAD n)<=((2*(g*f):Nat):Rat)+2:=by
 have h:=aNL (n:=n) (w:=w) (by omega) g f 0 (2^w/n) 0 ⟨by rw[Nat.mul_zero,Nat.pow_one],by simp only[sum];norm_cast,rfl⟩;obtain⟨h1,h2,_⟩:=h;rw[cBG]at h1 h2;have h3:(aBH n w g f).2=(outer (n*n) g f (2^w/n) 0 (2*0+1)).2:=rfl;have h4:(aBH n w g f).1=(outer (n*n) g f (2^w/n) 0 (2*0+1)).1:=rfl;rw[h3,h2];rw[h4,h1]at hz;rw[cBG]at hz ⊢;refine aHQ hn w hJ ?_;unfold iX;rw[hz,cKY]
def Tw(u w:Nat)(f:Nat):Nat->Nat->Nat->Nat->Nat×Nat×Nat:=Nat.rec (motive:=fun _=>Nat->Nat->Nat->Nat->Nat×Nat×Nat) (fun t c s _=>(t,c,s))
 (fun _ ih t c s k=>iA (t*u/w/(k+1)) fun t1=>iA (t1*u/w/(k+2)) fun t2=>iA (t2*u/w/(k+3)) fun t3=>iA (t3*u/w/(k+4)) fun t4=>iA (c+t-t2) fun c'=>iA (s+t1-t3) fun s'=>iA (k+4) fun k'=>ih t4 c' s' k') f
def It(w:Nat)(h:Nat):Nat->Nat->Nat×Nat:=Nat.rec (motive:=fun _=>Nat->Nat->Nat×Nat) (fun s c=>(s,c))
 (fun _ ih s c=>iA (2*(s*c/w)) fun s'=>iA (w-2*(s*s/w)) fun c'=>ih s' c') h
def aTI(x:Nat):Bool :=
 iA (x &&& (x >>> 1)) fun x=>iA (x &&& (x >>> 2)) fun x=>iA (x &&& (x >>> 4)) fun x=>iA (x &&& (x >>> 8)) fun x=>cBF (x &&& (x >>> 8)) 0
def aYW(P w:Nat):Bool :=
 iA (P/2^102) fun u=>iA (2^w) fun W =>
 Prod.rec (motive:=fun _=>Bool) (fun t r=>Prod.rec (motive:=fun _=>Bool) (fun c s=>cBF t 0 &&
  Prod.rec (motive:=fun _=>Bool) (fun s' c'=>cBH (2*s'*s') (W*W+2^(w+240))&&(cBH (W*W) (2*s'*s'+2^(w+240))&&cBH 1 c')) (It W 100 s c)) r) (Tw u W 320 W 0 0 0)
def bBZ(w:Nat):Bool :=
 Prod.rec (motive:=fun _=>Bool) (fun t5 s5=>Prod.rec (motive:=fun _=>Bool) (fun t239 nC=>Prod.rec (motive:=fun _=>Bool) (fun t18 aSI=>Prod.rec (motive:=fun _=>Bool) (fun t57 aSH =>
  cBF t5 0&&(cBF t239 0&&(cBF t18 0&&(cBF t57 0 &&
  iA (16*s5-4*nC) fun P=>iA (48*aSI+32*aSH-20*nC) fun G =>
  cBH P (G+2^24)&&(cBH G (P+2^24)&&iA (P/2^64) fun Q =>
  cBF ((P+2^40)/2^64) Q&&(cBF ((P-2^40)/2^64) Q&&(cBF (Q/2^(w-104)) 3454217652357&&(aTI Q&&(aTI (2^(w-62)-1-Q)&&aYW P w)))))))))
  (aBH 57 w 78 78)) (aBH 18 w 92 92)) (aBH 239 w 66 66)) (aBH 5 w 122 122)
def Nl(x n:Nat):Prop:=∀p,∃i,i<n/\x.testBit (p+i)=false
theorem yB{x a n:Nat}(h:Nl (x &&& (x >>> a)) n):Nl x (n+a):=by
 intro p;obtain⟨i,hi,hb⟩:=h p;rw[cMH,Nat.testBit_shiftRight,cNA]at hb;rcases hb with hb |hb
 ·exact⟨i,by omega,hb⟩
 ·exact⟨i+a,by omega,by rwa [show p+(i+a)=a+(p+i) by omega]⟩
theorem aFL{x:Nat}(h:aTI x=true):Nl x 24:=by
 unfold aTI at h;rw[fH,fH,fH,fH]at h;have h0:=cBT h;have n0:Nl ((((x &&& x >>> 1) &&& (x &&& x >>> 1) >>> 2) &&& ((x &&& x >>> 1) &&& (x &&& x >>> 1) >>> 2) >>> 4) &&& (((x &&& x >>> 1) &&& (x &&& x >>> 1) >>> 2) &&& ((x &&& x >>> 1) &&& (x &&& x >>> 1) >>> 2) >>> 4) >>> 8 &&& ((((x &&& x >>> 1) &&& (x &&& x >>> 1) >>> 2) &&& ((x &&& x >>> 1) &&& (x &&& x >>> 1) >>> 2) >>> 4) &&& (((x &&& x >>> 1) &&& (x &&& x >>> 1) >>> 2) &&& ((x &&& x >>> 1) &&& (x &&& x >>> 1) >>> 2) >>> 4) >>> 8) >>> 8) 1:=by
  rw[h0];exact fun p=>⟨0,by omega,by simp⟩
 exact yB (a:=1) (n:=23) (yB (a:=2) (n:=21) (yB (a:=4) (n:=17) (yB (a:=8) (n:=9) (yB (a:=8) (n:=1) n0))))
theorem Sj{x n:Nat}(h:Nl x n)(p:Nat):x/2^p%2^n≠2^n-1:=by
 intro hc;obtain⟨i,hi,hb⟩:=h p;have h1:(x/2^p%2^n).testBit i=true:=by
  rw[hc,cNB];exact decide_eq_true hi
 rw[cMC,cMI]at h1;rw[show p+i=i+p by omega]at hb;rw[hb]at h1;simp at h1
theorem aJW{x L n p:Nat}(hx:x<2^L)(hp:p+n<=L)(h:(2^L-1-x)/2^p%2^n≠2^n-1):x/2^p%2^n≠0:=by
 intro hc;apply h;apply cMJ;intro i;rw[cNB,cMC,cMI,show 2^L-1-x=2^L-(x+1) by omega,cNC hx];have h1:(x/2^p%2^n).testBit i=false:=by rw[hc];simp
 rw[cMC,cMI]at h1
 by_cases hi:i<n
 ·simp[hi]at h1 ⊢;exact⟨by omega,h1⟩
 ·simp[hi]
theorem aFW(h:Nat):((4^(h+1):Nat):Rat)=4*((4^h:Nat):Rat):=by
 rw[cGD,cID];grind
theorem Lj(h:Nat):((2^(h+1):Nat):Rat)=2*((2^h:Nat):Rat):=by
 rw[cGD,cID];grind
theorem Nf(b h:Nat)(hb:0<b):(1:Rat)<=((b^h:Nat):Rat):=by exact_mod_cast cEE hb
theorem Tb(w h s c:Nat):It w (h+1) s c=It w h (2*(s*c/w)) (w-2*(s*s/w)):=by
 show iA _ (fun s'=>iA _ fun c'=>It w h s' c')=_;rw[fH,fH]
theorem aQH{W s c:Nat}{x e:Rat}(hW:1<=W)(h0:0<=x)(h1:x<=1/2)(hs:ab ((s:Rat)-W*sn x)<=e)(hc:ab ((c:Rat)-W*cs x)<=e)(he:100*(e*e)<=(W:Rat))(bFW:(8*e+4*(W:Rat))*xS<=1/4) :
  ab (((2*(s*c/W):Nat):Rat)-W*sn (2*x))<=4*e+4/\ab (((W-2*(s*s/W):Nat):Rat)-W*cs (2*x))<=4*e+4/\2*(s*s/W)<=W:=by
 have bYZ:(1:Rat)<=(W:Rat):=by exact_mod_cast hW
 have aUX:0<=e:=cGJ (aP _) hs;have aUN:ab x<=1:=by rw[bR h0];grind
 have aIU:2*(s*s/W)<=W:=by
  have h2:=aFC h0 (by grind);have h3:=Mq h0 (by grind);rw[cN]at hs;have e1:e<=(W:Rat)/10:=by
   have:=Mn (a:=10*e) (b:=(W:Rat)) (by have:=aJ (show 0<=(W:Rat)-1 by grind) (show 0<=(W:Rat) by grind);grind) (by grind);rw[bR (by grind)]at this;grind
  have e2:=aJ (show 0<=(W:Rat) by grind) (show 0<=1/2-sn x by grind);have e3:(s:Rat)<=3/5*(W:Rat):=by grind
  have e4:(0:Rat)<=(s:Rat):=by exact_mod_cast cHH _
  have e5:=cR e4 e3 e4 e3;have d:=(zE (s*s) (b:=W) (by omega)).1;rw[cID]at d;have e6:(W:Rat)*(2*((s*s/W:Nat):Rat))<=(W:Rat)*(W:Rat):=by
   have:=aJ (show 0<=(W:Rat) by grind) (show 0<=(W:Rat) by grind);grind
  have e7:=cK (show 0<(W:Rat) by grind) e6;exact_mod_cast e7
 have aBD:ab ((W:Rat)*((2*(s*c/W):Nat):Rat)-2*((s:Rat)*(c:Rat)))<=2*(W:Rat):=by
  obtain⟨d1,d2⟩:=zE (s*c) (b:=W) (by omega);rw[cID]at d1 d2;rw[cID,cN];have:((2:Nat):Rat)=2:=by norm_cast
  rw[this];constructor <;> grind
 have aVF:ab ((W:Rat)*((W-2*(s*s/W):Nat):Rat)-((W:Rat)*(W:Rat)-2*((s:Rat)*(s:Rat))))<=2*(W:Rat):=by
  obtain⟨d1,d2⟩:=zE (s*s) (b:=W) (by omega);have aXW:((W-2*(s*s/W):Nat):Rat)+2*((s*s/W:Nat):Rat)=(W:Rat):=by
   exact_mod_cast(show W-2*(s*s/W)+2*(s*s/W)=W by omega)
  rw[cID]at d1 d2;generalize ((W-2*(s*s/W):Nat):Rat)=z at *;generalize ((s*s/W:Nat):Rat)=y at *;have:z=(W:Rat)-2*y:=by grind
  subst this;rw[cN];constructor <;> grind
 obtain⟨r1,r2⟩:=sW bYZ aUN hs hc (by have:=aJ aUX aUX;grind) bFW aBD aVF;exact⟨r1,r2,aIU⟩
theorem aHD{W:Nat}(hW:1<=W){E:Rat}(hE:100*(E*E)<=(W:Rat))(bFW:(8*E+4*(W:Rat))*xS<=1/4):∀(h:Nat) (x e:Rat) (s c:Nat),0<=x->((2^h:Nat):Rat)*x<=1->ab ((s:Rat)-W*sn x)<=e->ab ((c:Rat)-W*cs x)<=e->((4^h:Nat):Rat)*(e+2)<=E ->
  ab (((It W h s c).1:Rat)-W*sn (((2^h:Nat):Rat)*x))<=((4^h:Nat):Rat)*(e+2)-2/\ab (((It W h s c).2:Rat)-W*cs (((2^h:Nat):Rat)*x))<=((4^h:Nat):Rat)*(e+2)-2:=by
 intro h
 induction h with
 |zero =>
  intro x e s c h0 h1 hs hc bKO;rw[cLF,show((1:Nat):Rat)*x=x by grind];have:((1:Nat):Rat)=1:=by norm_cast
  rw[this];exact⟨by show ab ((s:Rat)-_)<=_;grind,by show ab ((c:Rat)-_)<=_;grind⟩
 |succ h ih =>
  intro x e s c h0 h1 hs hc bKO;rw[Lj]at h1;rw[aFW]at bKO;have aUX:0<=e:=cGJ (aP _) hs;have g2:=Nf 2 h (by omega);have g4:=Nf 4 h (by omega);have aKY:x<=1/2:=by
   have:=aJ (show 0<=((2^h:Nat):Rat)-1 by grind) h0;grind
  have aUV:e<=E:=by
   have:=aJ (show 0<=((4^h:Nat):Rat)-1 by grind) (show 0<=e+2 by grind);grind
  have bRV:=cR aUX aUV aUX aUV;have aUU:=xI;have hsm2:=aJ (show 0<=E-e by grind) (cGL aUU);obtain⟨r1,r2,_⟩:=aQH hW h0 aKY hs hc (by grind) (by grind);have:=ih (2*x) (4*e+4) _ _ (by grind) (by grind) r1 r2 (by grind);rw[Tb,Lj,aFW,show 2*((2^h:Nat):Rat)*x=((2^h:Nat):Rat)*(2*x) by grind];refine⟨cGJ this.1 ?_,cGJ this.2 ?_⟩ <;> grind
theorem Ml{u W:Nat}(h:u<=W)(k:Nat):sq u W (k+1)<=sq u W k:=by
 rw[sq];refine cCA (cJR _ _) ?_
 by_cases hW:W=0
 ·rw[hW,Nat.div_zero];omega
 ·exact Nat.div_le_of_le_mul (by rw[cGC];exact cCT _ h)
theorem aHZ(u w f t c s k:Nat):Tw u w (f+1) t c s k=iA (t*u/w/(k+1)) fun t1=>iA (t1*u/w/(k+2)) fun t2=>iA (t2*u/w/(k+3)) fun t3=>iA (t3*u/w/(k+4)) fun t4=>iA (c+t-t2) fun c'=>iA (s+t1-t3) fun s'=>iA (k+4) fun k'=>Tw u w f t4 c' s' k':=rfl
theorem aTD{u W:Nat}(hu:u<=W):∀(f k t c s:Nat),k%4=0->t=sq u W k->(c:Rat)=sum (fun k=>cc k*(sq u W k:Rat)) k->(s:Rat)=sum (fun k=>ss k*(sq u W k:Rat)) k ->
  (Tw u W f t c s k).1=sq u W (k+4*f)/\(((Tw u W f t c s k).2.1:Nat):Rat)=sum (fun k=>cc k*(sq u W k:Rat)) (k+4*f)/\(((Tw u W f t c s k).2.2:Nat):Rat)=sum (fun k=>ss k*(sq u W k:Rat)) (k+4*f):=by
 intro f
 induction f with
 |zero=>intro k t c s _ h1 h2 h3;exact⟨h1,h2,h3⟩
 |succ f ih =>
  intro k t c s hk h1 h2 h3;have e:Tw u W (f+1) t c s k=Tw u W f (sq u W (k+4)) (c+sq u W k-sq u W (k+2)) (s+sq u W (k+1)-sq u W (k+3)) (k+4):=by
   rw[aHZ,fH,fH,fH,fH,fH,fH,fH,h1];rfl
  have l1:sq u W (k+1)<=sq u W k:=Ml hu k;have l2:sq u W (k+2)<=sq u W (k+1):=Ml hu (k+1);have l3:sq u W (k+3)<=sq u W (k+2):=Ml hu (k+2);rw[e,show k+4*(f+1)=k+4+4*f by omega];have c0:cc k=1/\cc (k+1)=0/\cc (k+2)=-1/\cc (k+3)=0:=by
   unfold cc;refine⟨?_,?_,?_,?_⟩
   ·rw[if_pos hk]
   ·rw[aO,aO]
   ·rw[aO,aQ]
   ·rw[aO,aO]
  have s0:ss k=0/\ss (k+1)=1/\ss (k+2)=0/\ss (k+3)=-1:=by
   unfold ss;refine⟨?_,?_,?_,?_⟩
   ·rw[aO,aO]
   ·rw[aQ]
   ·rw[aO,aO]
   ·rw[aO,aQ]
  refine ih (k+4) _ _ _ (by omega) rfl ?_ ?_
  ·rw[dX,dX,dX,dX,<-h2,c0.1,c0.2.1,c0.2.2.1,c0.2.2.2];have:((c+sq u W k-sq u W (k+2):Nat):Rat)+(sq u W (k+2):Rat)=(c:Rat)+(sq u W k:Rat):=by exact_mod_cast(show c+sq u W k-sq u W (k+2)+sq u W (k+2)=c+sq u W k by omega)
   grind
  ·rw[dX,dX,dX,dX,<-h3,s0.1,s0.2.1,s0.2.2.1,s0.2.2.2];have:((s+sq u W (k+1)-sq u W (k+3):Nat):Rat)+(sq u W (k+3):Rat)=(s:Rat)+(sq u W (k+1):Rat):=by exact_mod_cast(show s+sq u W (k+1)-sq u W (k+3)+sq u W (k+3)=s+sq u W (k+1) by omega)
   grind
set_option maxRecDepth 10000
def pi:Rat:=16*aAD 5-4*aAD 239
def bLE:Rat:=48*aAD 18+32*aAD 57-20*aAD 239
theorem fT{a b:Bool}(h:(a&&b)=true):a=true/\b=true:=by simpa using h
structure Wn(w:Nat)(Q:Nat):Prop where
 lo:(Q:Rat)<=((2^(w-64):Nat):Rat)*pi
 hi:((2^(w-64):Nat):Rat)*pi<(Q:Rat)+1
 gauss:ab (((2^w:Nat):Rat)*(pi-bLE))<=33554432
 top:Q/2^(w-104)=3454217652357
 bLI:Nl Q 24
 aUB:Nl (2^(w-62)-1-Q) 24
 cos:ab (((2^w:Nat):Rat)*cs (pi/2))<=((2^250:Nat):Rat)
theorem uU(w:Nat)(hw:64<=w):2^w=2^64*2^(w-64):=by rw[<-cGE];congr 1;omega
theorem aFZ{u W:Nat}(hW:0<W):∃x:Rat,x*(W:Rat)=(u:Rat)/\0<=x:=by
 have h:(0:Rat)<(W:Rat):=by exact_mod_cast hW
 have h1:(W:Rat)≠0:=by grind
 refine⟨(u:Rat)/(W:Rat),cND h1,?_⟩;have hu:(0:Rat)<=(u:Rat):=by exact_mod_cast cHH _
 refine Rat.not_lt.1 fun hn=>?_
 have:=Rat.mul_pos h (show 0 < -((u:Rat)/(W:Rat)) by grind);have e:(u:Rat)/(W:Rat)*(W:Rat)=u:=cND h1;grind
theorem aHB{w:Nat}(hw:w<=1000000):((2^w:Nat):Rat)*xS<=1/1048576:=by
 have h1:=Dh (n:=w+20) (by omega);have h2:=Va w;have h3:=Od w 20;have h4:hf 20=1/1048576:=by simp only[hf];grind
 have h5:(0:Rat)<=((2^w:Nat):Rat):=by exact_mod_cast cHH _
 have h6:=aJ h5 (show 0<=hf (w+20)-xS by grind);rw[h3,h4]at h6;generalize ((2^w:Nat):Rat)=W at *;generalize hf w=H at *;clear h1 h3 h4;grind
theorem Xo{W E:Rat}(h:E<=W)(aUU:W*xS<=1/1048576):(8*E+4*W)*xS<=1/4:=by
 have:=aJ (show 0<=W-E by grind) (cGL xI);grind
theorem aVU{W u P p x y:Rat}(hx:x*W=u)(hy:y=1267650600228229401496703205376*x)(v1:u*5070602400912917605986812821504<=P)(v2:P<u*5070602400912917605986812821504+5070602400912917605986812821504)(hp:ab (P-W*p)<=524288):ab (W*(p/2-2*y))<=10141204801825835211973625643008:=by
 rw[cN]at hp ⊢;subst hy;have:W*(p/2-2*(1267650600228229401496703205376*x))=W*p/2-2535301200456458802993406410752*u:=by rw[<-hx];grind
 rw[this];grind
theorem bBT{w P:Nat}(hw:1000<=w)(aXN:w<=1000000)(hP:P<3454217652358*2^(w-40)){p:Rat}(hp:ab ((P:Rat)-((2^w:Nat):Rat)*p)<=524288)(h:aYW P w=true):ab (((2^w:Nat):Rat)*cs (p/2))<=((2^250:Nat):Rat):=by
 unfold aYW at h;rw[fH,fH]at h;have aSO:0<2^w:=cY;have aOJ:P/2^102*2^102<=P:=cMK P (2^102);have bJL:P<P/2^102*2^102+2^102:=cML (cY);have cAL:2^w=2^40*2^(w-40):=by rw[<-cGE];congr 1;omega
 have bRO:P/2^102*2^100<=2^w:=by
  rw[show 2^102=4*2^100 from rfl,show 2^40=1099511627776 from rfl]at *;generalize 2^100=b at *;generalize 2^(w-40)=q at *;generalize P/(4*b)=u at *;have:u*(4*b)=4*(u*b):=by rw[cJA]
  omega
 obtain⟨x,hx,Qx⟩:=aFZ (u:=P/2^102) aSO;have ht:=aTD (u:=P/2^102) (W:=2^w) (by omega) 320 0 (2^w) 0 0 rfl rfl (by simp only[sum];norm_cast) (by simp only[sum];norm_cast);generalize Tw (P/2^102) (2^w) 320 (2^w) 0 0 0=T at *;obtain⟨t,c,s⟩:=T;dsimp only at h ht;rw[cBG,show 4*320=1280 from rfl]at ht;obtain⟨ht0,bRR,bJM⟩:=ht;obtain⟨z0,h⟩:=fT h;have z0:=cBT z0;rw[z0]at ht0;have hW:(0:Rat)<((2^w:Nat):Rat):=by exact_mod_cast aSO
 have bJJ:((2^100:Nat):Rat)*x<=1:=by
  refine cK hW ?_;have h1:((P/2^102:Nat):Rat)*((2^100:Nat):Rat)<=((2^w:Nat):Rat):=by exact_mod_cast bRO
  grind
 have aKY:x<=1/2:=by
  have n1:((2^100:Nat):Rat)=1267650600228229401496703205376:=by norm_cast
  rw[n1]at bJJ;grind
 have ec:=aMN aSO hx Qx aKY (n:=1280) (by omega) (by omega) ht0.symm;have es:=aMM aSO hx Qx aKY (n:=1280) (by omega) (by omega) ht0.symm;rw[<-bRR]at ec;rw[<-bJM]at es;have aXG:((1280:Nat):Rat)=1280:=by norm_cast
 rw[aXG]at ec es;have aUU:=aHB aXN;have n4:((4^100:Nat):Rat)=1606938044258990275541962092341162602522202993782792835301376:=by norm_cast
 have bAZ:(100000000000000000000000000000000000000000000000000000000000000000000000000000000000000000000000000000000000000000000000000000000000000000000000000000000000000000000000000000000000000000000000000000000:Rat)<=((2^w:Nat):Rat):=by
  have e:2^w=2^200*(2^200*(2^200*(2^200*2^(w-800)))):=by simp only[<-cGE];congr 1;omega
  have h1:100000000000000000000000000000000000000000000000000000000000000000000000000000000000000000000000000000000000000000000000000000000000000000000000000000000000000000000000000000000000000000000000000000000<=2^200*(2^200*(2^200*(2^200*1))):=cDC rfl;have h2:100000000000000000000000000000000000000000000000000000000000000000000000000000000000000000000000000000000000000000000000000000000000000000000000000000000000000000000000000000000000000000000000000000000<=2^w:=by
   rw[e];exact cCA h1 (cDS _ (cDS _ (cDS _ (cDS _ (cY)))))
  exact_mod_cast h2
 have hepp:=xI;have hept:=Gm;have hd:=aHD (W:=2^w) aSO (E:=4499426523925172771517493858555255287062168382591819938843852800) (cGJ (by grind) bAZ) (Xo (cGJ (by grind) bAZ) aUU) 100 x 2564 s c Qx bJJ (by grind) (by grind) (by rw[n4];grind);generalize It (2^w) 100 s c=R at *;obtain⟨s',c'⟩:=R;dsimp only at h hd;obtain⟨k1,h⟩:=fT h;obtain⟨k2,k3⟩:=fT h;have k1:=cDC k1;have k2:=cDC k2;have rT:=hd.1;rw[n4]at rT;have bFE:((2^100:Nat):Rat)=1267650600228229401496703205376:=by norm_cast
 rw[bFE]at rT bJJ;obtain⟨y,hy⟩:∃y:Rat,y=1267650600228229401496703205376*x:=⟨_,rfl⟩;rw[<-hy]at rT bJJ;have aXM:0<=y:=by grind
 have bSM:=Tc (x:=y) (by rw[bR aXM];grind);have bRE:2*(s':Rat)*(s':Rat)<=((2^w:Nat):Rat)*((2^w:Nat):Rat)+((2^w:Nat):Rat)*((2^240:Nat):Rat):=by
  rw[cGE]at k1;exact_mod_cast k1
 have bRD:((2^w:Nat):Rat)*((2^w:Nat):Rat)<=2*(s':Rat)*(s':Rat)+((2^w:Nat):Rat)*((2^240:Nat):Rat):=by
  rw[cGE]at k2;exact_mod_cast k2
 have bFD:((2^240:Nat):Rat)=1766847064778384329583297500742918515827483896875618958121606201292619776:=by norm_cast
 have bFC:((2^250:Nat):Rat)=1809251394333065553493296640760748560207343510400633813116524750123642650624:=by norm_cast
 rw[bFD]at bRE bRD;rw[bFC];have aGR:ab (((2^w:Nat):Rat)*(p/2-2*y))<=10141204801825835211973625643008:=by
  have v1:((P/2^102:Nat):Rat)*((2^102:Nat):Rat)<=(P:Rat):=by exact_mod_cast aOJ
  have v2:(P:Rat)<((P/2^102:Nat):Rat)*((2^102:Nat):Rat)+((2^102:Nat):Rat):=by exact_mod_cast bJL
  have bLP:((2^102:Nat):Rat)=5070602400912917605986812821504:=by norm_cast
  rw[bLP]at v1 v2;exact aVU hx hy v1 v2 hp
 generalize ((2^w:Nat):Rat)=W at *;have Nz:(0:Rat)<=(s':Rat):=by exact_mod_cast cHH _
 generalize (s':Rat)=S at *;clear hd k1 k2 k3 ec es bRR bJM aXG Qx aKY aOJ bJL bRO cAL hx n4 bFE bFD bFC;have bZF:S<=W:=by
  refine Rat.not_lt.1 fun hn=>?_
  have:=cR (cGL hW) (cGL hn) (cGL hW) (cGL hn);have:=aJ (cGL hW) (show 0<=W-1000000000000000000000000000000000000000000000000000000000000000000000000000000000000000000 by grind);grind
 have aXX:ab (W*cs (2*y))<=56539106072908298546665520023773392506479484700019806659891398441363832832:=by
  obtain⟨a,ha⟩:∃a,a=S-W*sn y:=⟨_,rfl⟩;rw[<-ha]at rT;have eS:W*sn y=S-a:=by grind
  have q1:=cR (aP S) (show ab S<=W by rwa [bR Nz]) (aP a) rT;have q2:=cR (aP a) rT (aP a) rT;rw[<-fX]at q1 q2;have e2:W*(W*(1-2*(sn y*sn y)))=W*W-2*((S-a)*(S-a)):=by rw[<-eS];grind
  have w1:=aJ (cGL hW) (cGL hW);rw[cN]at bSM q1 q2 ⊢;have w2:=aJ w1 (show 0<=2*xS-(cs (2*y)-(1-2*(sn y*sn y))) by grind);have w3:=aJ w1 (show 0<=2*xS+(cs (2*y)-(1-2*(sn y*sn y))) by grind);have w4:=aJ (cGL hW) (show 0<=1/1048576-W*xS by grind);generalize cs (2*y)=C2 at *;generalize sn y=Sy at *;constructor
  ·refine cK hW ?_;grind
  ·refine cK hW ?_;grind
 have aXV:ab (p/2-2*y)<=1:=by
  have e3:ab (W*(p/2-2*y))=W*ab (p/2-2*y):=by rw[fX,bR (cGL hW)]
  rw[e3]at aGR;refine cK hW ?_;grind
 have aZX:ab (2*y)<=4:=by rw[bR (by grind)];grind
 have aVC:=Iu aZX (show ab (p/2-2*y)<=4 by grind);rw[show 2*y+(p/2-2*y)=p/2 by grind]at aVC;have b1:=aBR aXV;have b2:=aHK (show ab (p/2-2*y)<=4 by grind);have b3:=aFE aZX;have m1:=cR (aP _) aXX (aP _) b2;have m2:=cR (aP _) b3 (aP _) b1;have m3:W*ab (p/2-2*y)<=10141204801825835211973625643008:=by
  rw[fX,bR (cGL hW)]at aGR;exact aGR
 rw[<-fX]at m1 m2;have m4:=aJ (cGL hW) (show 0<=(1+xS)*ab (p/2-2*y)-ab (sn (2*y)*sn (p/2-2*y)) by grind);have m5:=aJ (show 0<=1+xS by grind) (show 0<=10141204801825835211973625643008-W*ab (p/2-2*y) by grind);have l1:=Ec (sn (2*y)*sn (p/2-2*y));have l2:=oU (sn (2*y)*sn (p/2-2*y));have m6:=aJ (cGL hW) (show 0<=ab (sn (2*y)*sn (p/2-2*y))-sn (2*y)*sn (p/2-2*y) by grind);have m7:=aJ (cGL hW) (show 0<=ab (sn (2*y)*sn (p/2-2*y))+sn (2*y)*sn (p/2-2*y) by grind);rw[cN]at aVC m1 ⊢;have m8:=aJ (cGL hW) (show 0<=xS-(cs (p/2)-(cs (2*y)*cs (p/2-2*y)-sn (2*y)*sn (p/2-2*y))) by grind);have m9:=aJ (cGL hW) (show 0<=xS+(cs (p/2)-(cs (2*y)*cs (p/2-2*y)-sn (2*y)*sn (p/2-2*y))) by grind);generalize cs (2*y)=C2 at *;generalize sn (2*y)*sn (p/2-2*y)=SS at *;generalize ab SS=aS at *;generalize cs (p/2-2*y)=Cd at *;generalize ab (p/2-2*y)=dd at *;generalize cs (p/2)=X at *;clear bSM rT bRE bRD bZF aGR aXV b1 b2 b3 aZX aXX;constructor <;> grind
theorem aPO{w:Nat}(hw:1000<=w)(aXN:w<=1000000)(h:bBZ w=true):∃Q,Wn w Q:=by
 unfold bBZ at h;have h5:=Jd (n:=5) (by omega) w 122 122 (by omega);have Ve:=Jd (n:=239) (by omega) w 66 66 (by omega);have bPK:=Jd (n:=18) (by omega) w 92 92 (by omega);have bPG:=Jd (n:=57) (by omega) w 78 78 (by omega);generalize aBH 5 w 122 122=A at *;generalize aBH 239 w 66 66=B at *;generalize aBH 18 w 92 92=C at *;generalize aBH 57 w 78 78=D at *;obtain⟨t5,s5⟩:=A;obtain⟨t239,nC⟩:=B;obtain⟨t18,aSI⟩:=C;obtain⟨t57,aSH⟩:=D;dsimp only at *;obtain⟨z5,h⟩:=fT h;obtain⟨aYK,h⟩:=fT h;obtain⟨bUD,h⟩:=fT h;obtain⟨bUC,h⟩:=fT h;rw[fH,fH]at h;obtain⟨g1,h⟩:=fT h;obtain⟨g2,h⟩:=fT h;rw[fH]at h;obtain⟨q1,h⟩:=fT h;obtain⟨q2,h⟩:=fT h;obtain⟨q3,h⟩:=fT h;obtain⟨r1,h⟩:=fT h;obtain⟨r2,bMS⟩:=fT h;have g1:=cDC g1;have g2:=cDC g2;have q1:=cBT q1;have q2:=cBT q2;have q3:=cBT q3;have h5:=h5 (cBT z5);have Ve:=Ve (cBT aYK);have bPK:=bPK (cBT bUD);have bPG:=bPG (cBT bUC);have aPG:ab (((16*s5-4*nC:Nat):Rat)-((2^w:Nat):Rat)*pi)<=524288:=by
  have pE:4*nC<=16*s5:=by
   refine cDY fun hn=>?_
   rw[show 16*s5-4*nC=0 by omega]at q3;simp at q3
  have hc:((16*s5-4*nC:Nat):Rat)+4*(nC:Rat)=16*(s5:Rat):=by exact_mod_cast(show 16*s5-4*nC+4*nC=16*s5 by omega)
  have n1:((2*(122*122):Nat):Rat)=29768:=by norm_cast
  have n2:((2*(66*66):Nat):Rat)=8712:=by norm_cast
  rw[n1]at h5;rw[n2]at Ve;unfold pi;rw[cN]at *;generalize ((2^w:Nat):Rat)=W at *;grind
 have bPD:20*nC<=48*aSI+32*aSH->ab (((48*aSI+32*aSH-20*nC:Nat):Rat)-((2^w:Nat):Rat)*bLE)<=2097152:=by
  intro hle;have hc:((48*aSI+32*aSH-20*nC:Nat):Rat)+20*(nC:Rat)=48*(aSI:Rat)+32*(aSH:Rat):=by exact_mod_cast(show 48*aSI+32*aSH-20*nC+20*nC=48*aSI+32*aSH by omega)
  have n1:((2*(92*92):Nat):Rat)=16928:=by norm_cast
  have n3:((2*(78*78):Nat):Rat)=12168:=by norm_cast
  have n2:((2*(66*66):Nat):Rat)=8712:=by norm_cast
  rw[n1]at bPK;rw[n2]at Ve;rw[n3]at bPG;unfold bLE;rw[cN]at *;generalize ((2^w:Nat):Rat)=W at *;grind
 have hple:2^104<=16*s5-4*nC:=by
  refine cDY fun hn=>?_
  have:(16*s5-4*nC)/2^64<2^40:=cGY (by rw[<-cGE];exact hn);have h2:(16*s5-4*nC)/2^64/2^(w-104)<=(16*s5-4*nC)/2^64:=cJR _ _;omega
 have bPC:20*nC<=48*aSI+32*aSH:=by omega
 have bPD:=bPD bPC;generalize hP:16*s5-4*nC=P at *;generalize 48*aSI+32*aSH-20*nC=G at *;have aJT:=uU w (by omega);refine⟨P/2^64,?_,?_,?_,q3,aFL r1,aFL r2,?_⟩
 ·have:2^64*(P/2^64)<=P-2^40:=by
   have:=cMD (P-2^40) (2^64);rwa [q2]at this
  have h2:2^64*(P/2^64)+2^40<=P:=by omega
  have h3:((2^64:Nat):Rat)*((P/2^64:Nat):Rat)+((2^40:Nat):Rat)<=(P:Rat):=by exact_mod_cast h2
  rw[aJT,cID,cN]at aPG;have n1:((2^64:Nat):Rat)=18446744073709551616:=by norm_cast
  have n2:((2^40:Nat):Rat)=1099511627776:=by norm_cast
  rw[n1]at aPG h3;rw[n2]at h3;refine cK (q:=18446744073709551616) (by grind) ?_;generalize ((2^(w-64):Nat):Rat)=W at *;grind
 ·have:P+2^40<2^64*(P/2^64+1):=by
   have:=cMM (P+2^40) (show 0<2^64 by omega);rwa [q1]at this
  have h3:(P:Rat)+((2^40:Nat):Rat)<((2^64:Nat):Rat)*(((P/2^64:Nat):Rat)+1):=by exact_mod_cast this
  rw[aJT,cID,cN]at aPG;have n1:((2^64:Nat):Rat)=18446744073709551616:=by norm_cast
  have n2:((2^40:Nat):Rat)=1099511627776:=by norm_cast
  rw[n1]at aPG h3;rw[n2]at h3;refine tA (q:=18446744073709551616) (by grind) ?_;generalize ((2^(w-64):Nat):Rat)=W at *;grind
 ·have c1:(P:Rat)<=(G:Rat)+((2^24:Nat):Rat):=by exact_mod_cast g1
  have c2:(G:Rat)<=(P:Rat)+((2^24:Nat):Rat):=by exact_mod_cast g2
  have n1:((2^24:Nat):Rat)=16777216:=by norm_cast
  rw[n1]at c1 c2;rw[cN]at *;generalize ((2^w:Nat):Rat)=W at *;grind
 ·refine bBT hw aXN ?_ aPG bMS;have h1:P/2^64/2^(w-104)<3454217652358:=by omega
  have h2:P/2^64<2^(w-104)*3454217652358:=(cMN (cY)).1 h1 |> fun h=>by rwa [cGC]at h
  have h3:P<2^64*(2^(w-104)*3454217652358):=by
   have:=(cMN (show 0<2^64 by omega)).1 h2;rwa [cGC]at this
  have e:2^(w-40)=2^64*2^(w-104):=by rw[<-cGE];congr 1;omega
  rw[e,cGC,cGH];exact h3
theorem bEC:bBZ 136064=true:=by kernel_rfl
theorem aFS:∃w,w=136064/\∃Q,Wn w Q:=⟨136064,rfl,aPO (by omega) (by omega) bEC⟩
def pw:Nat:=Classical.choose aFS
theorem Sc:pw=136064:=(Classical.choose_spec aFS).1
def pq:Nat:=Classical.choose (Classical.choose_spec aFS).2
theorem Ia:Wn pw pq:=Classical.choose_spec (Classical.choose_spec aFS).2
theorem iP:314159/100000<pi/\pi<314160/100000:=by
 have h:=Ia;have h1:=h.lo;have h2:=h.hi;have h3:=h.top;have e:2^(pw-64)=2^40*2^(pw-104):=by have:=Sc;rw[<-cGE];congr 1;omega
 have hp:0<2^(pw-104):=cY;have l1:=cMK pq (2^(pw-104));have l2:=cML hp (a:=pq);rw[h3]at l1 l2;have bVQ:(3454217652357:Rat)*((2^(pw-104):Nat):Rat)<=(pq:Rat):=by exact_mod_cast l1
 have bVP:(pq:Rat)+1<=(3454217652357:Rat)*((2^(pw-104):Nat):Rat)+((2^(pw-104):Nat):Rat):=by exact_mod_cast l2
 rw[e,cID]at h1 h2;have n40:((2^40:Nat):Rat)=1099511627776:=by norm_cast
 rw[n40]at h1 h2;have hq:(0:Rat)<((2^(pw-104):Nat):Rat):=by exact_mod_cast hp
 generalize ((2^(pw-104):Nat):Rat)=W at *;generalize (pq:Rat)=Q at *;clear h h3 e hp l1 l2 n40;constructor
 ·refine tA hq ?_;grind
 ·refine tA hq ?_;grind
def Gn:Rat:=hf (pw-264)
theorem aHC:0<Gn:=xP _
theorem Vm:1048576*xS<=Gn:=by
 have h1:=Od (pw-264) 20;have h4:hf 20=1/1048576:=by simp only[hf];grind
 have h2:=Dh (n:=pw-264+20) (by rw[Sc];omega);rw[h1,h4]at h2;unfold Gn;grind
theorem Sz{n:Nat}(h:n<=135800):Gn<=hf n:=aOX (by rw[Sc];exact h)
theorem aPU:Gn<=1/1048576:=by
 have:=Sz (n:=20) (by omega);simp only[hf]at this;grind
theorem Oz:16384*ab (cs (pi/2))<=Gn:=by
 have h:=Ia.cos;have e:2^pw=2^(pw-264)*(2^250*2^14):=by
  have:=Sc;have e0:pw=pw-264+250+14:=by omega
  conv=>lhs;rw[e0,cGE,cGE]
  exact cGH _ _ _
 rw[fX,bR (show(0:Rat)<=((2^pw:Nat):Rat) by exact_mod_cast cHH _),e,cID,cID]at h;have bRA:((2^14:Nat):Rat)=16384:=by norm_cast
 have h2:=Va (pw-264);have hq:(0:Rat)<((2^250:Nat):Rat):=by exact_mod_cast(cY)
 rw[bRA]at h;unfold Gn;have hp:=xP (pw-264);generalize hf (pw-264)=H at *;generalize ((2^(pw-264):Nat):Rat)=W at *;generalize ((2^250:Nat):Rat)=B at *;generalize ab (cs (pi/2))=X at *;clear bRA e;have h3:B*(16384*(W*X))<=B*1:=by grind
 have h4:=cK hq h3;have:=aJ (cGL hp) (show 0<=1-16384*(W*X) by grind);have h5:H*W*X=X:=by rw[h2];grind
 grind
theorem Xt:1024*ab (sn (pi/2)-1)<=Gn:=by
 obtain⟨p1,p2⟩:=iP;have a2:ab (pi/2)<=4:=by rw[cN];grind
 have h1:=aTS a2;have hc:=Oz;have he:=Vm;have het:=aPU;have hd:=Rx (x:=pi/4) (by rw[cN];grind);rw[show 2*(pi/4)=pi/2 by grind]at hd;have s1:=(Ay (x:=pi/4) (by grind) (by grind)).1;have c1:=(Ow (x:=pi/4) (by grind) (by grind)).1;have bUN:=cR (a:=0) (b:=pi/4) (c:=pi/4) (d:=pi/4) (by grind) (by grind) (by grind) (by grind);have q1:=cR (a:=pi/4) (b:=4/5) (c:=pi/4) (d:=4/5) (by grind) (by grind) (by grind) (by grind);have q2:=cR (a:=pi/4*(pi/4)) (b:=16/25) (c:=pi/4) (d:=4/5) (by grind) (by grind) (by grind) (by grind);have s2:1/2<=sn (pi/4):=by grind
 have c2:1/2<=cs (pi/4):=by grind
 have m:=cR (by grind) s2 (by grind) c2;have pE:1/4<=sn (pi/2):=by rw[cN]at hd;have:=Gm;grind
 have bTM:=cR (aP (cs (pi/2))) (show ab (cs (pi/2))<=Gn/16384 by grind) (aP (cs (pi/2))) (show ab (cs (pi/2))<=1/16384 by grind);rw[<-fX]at bTM;have l1:=Ec (cs (pi/2)*cs (pi/2));have bRV:ab (sn (pi/2)*sn (pi/2)-1)<=Gn/16384:=by
  have:=bKY (cs (pi/2));rw[cN]at h1 ⊢;grind
 have e:sn (pi/2)*sn (pi/2)-1=(sn (pi/2)-1)*(sn (pi/2)+1):=by grind
 rw[e,fX,bR (show 0<=sn (pi/2)+1 by grind)]at bRV;have m2:=aJ (aP (sn (pi/2)-1)) (show 0<=sn (pi/2)+1-1 by grind);have m3:=aHC;clear e l1 bTM hd s1 c1 bUN q1 q2 m h1 hc a2;generalize ab (sn (pi/2)-1)=d at *;grind
theorem aYP{x:Rat}(hx:ab x<=4):ab (sn (x+pi/2)-cs x)<=Gn:=by
 obtain⟨p1,p2⟩:=iP;have h:=aMW hx (show ab (pi/2)<=4 by rw[cN];grind);have hc:=Oz;have hs:=Xt;have he:=Vm;have het:=Gm;have aUU:=xI;have m1:=cR (aP _) (aFE hx) (aP _) (show ab (cs (pi/2))<=Gn/16384 by grind);have m2:=cR (aP _) (aHK hx) (aP _) (show ab (sn (pi/2)-1)<=Gn/1024 by grind);have m3:=aJ (show 0<=Gn by grind) (show 0<=1/1048576-xS by grind);rw[<-fX]at m1 m2;rw[cN]at *;grind
theorem aYQ{x:Rat}(hx:ab x<=4):ab (cs (x+pi/2)+sn x)<=Gn:=by
 obtain⟨p1,p2⟩:=iP;have h:=Iu hx (show ab (pi/2)<=4 by rw[cN];grind);have hc:=Oz;have hs:=Xt;have he:=Vm;have het:=Gm;have aUU:=xI;have m1:=cR (aP _) (aHK hx) (aP _) (show ab (cs (pi/2))<=Gn/16384 by grind);have m2:=cR (aP _) (aFE hx) (aP _) (show ab (sn (pi/2)-1)<=Gn/1024 by grind);have m3:=aJ (show 0<=Gn by grind) (show 0<=1/1048576-xS by grind);rw[<-fX]at m1 m2;rw[cN]at *;grind
def rs(k:Int)(s c:Rat):Rat:=if k%4=0 then s else if k%4=1 then c else if k%4=2 then -s else -c
def rc(k:Int)(s c:Rat):Rat:=if k%4=0 then c else if k%4=1 then -s else if k%4=2 then -c else s
def Sf(x:Rat)(k:Int):Rat:=rs k (sn (x-(k:Rat)*(pi/2))) (cs (x-(k:Rat)*(pi/2)))
def Cf(x:Rat)(k:Int):Rat:=rc k (sn (x-(k:Rat)*(pi/2))) (cs (x-(k:Rat)*(pi/2)))
theorem aMS{x:Rat}{k:Int}(h:ab (x-(k:Rat)*(pi/2))<=2):ab (Sf x (k+1)-Sf x k)<=Gn/\ab (Cf x (k+1)-Cf x k)<=Gn:=by
 obtain⟨p1,p2⟩:=iP;obtain⟨y,hy⟩:∃y,y=x-((k+1:Int):Rat)*(pi/2):=⟨_,rfl⟩;have hk:((k+1:Int):Rat)=(k:Rat)+1:=by norm_cast
 have e:x-(k:Rat)*(pi/2)=y+pi/2:=by rw[hy,hk];grind
 have bRH:ab y<=4:=by rw[cN]at *;grind
 have h1:=aYP bRH;have h2:=aYQ bRH;unfold Sf Cf;rw[<-hy,e];unfold rs rc;have hm:k%4=0\/k%4=1\/k%4=2\/k%4=3:=by omega
 have bAI:(k+1)%4=(k%4+1)%4:=by omega
 rw[bAI];rw[cN]at h1 h2;rcases hm with hm |hm |hm |hm <;> rw[hm] <;> simp <;> rw[cN,cN] <;> grind
theorem aZA{x:Rat}{k l:Int}(hk:ab (x-(k:Rat)*(pi/2))<=1)(hl:ab (x-(l:Rat)*(pi/2))<=1):ab (Sf x k-Sf x l)<=Gn/\ab (Cf x k-Cf x l)<=Gn:=by
 obtain⟨p1,p2⟩:=iP;have he:=aHC;have h3:l=k\/l=k+1\/k=l+1:=by
  have h1:(k:Rat)-(l:Rat)<2:=by
   refine Rat.not_le.1 fun hn=>?_
   have:=cR (show(0:Rat)<=2 by grind) hn (show(0:Rat)<=3/2 by grind) (show 3/2<=pi/2 by grind);rw[cN]at *;grind
  have h2:(l:Rat)-(k:Rat)<2:=by
   refine Rat.not_le.1 fun hn=>?_
   have:=cR (show(0:Rat)<=2 by grind) hn (show(0:Rat)<=3/2 by grind) (show 3/2<=pi/2 by grind);rw[cN]at *;grind
  have aBD:k-l<2:=by exact_mod_cast h1
  have aVF:l-k<2:=by exact_mod_cast h2
  omega
 rcases h3 with rfl |rfl |rfl
 ·rw[show Sf x l-Sf x l=0 by grind,show Cf x l-Cf x l=0 by grind,bR (by grind)];grind
 ·obtain⟨a,b⟩:=aMS (x:=x) (k:=k) (by rw[cN]at *;grind);rw[cN]at a b;rw[cN,cN];grind
 ·exact aMS (x:=x) (k:=l) (by rw[cN]at *;grind)
end R
namespace R
def pF(q:Nat):Nat:=pq/2^(pw-64-q)
theorem aJK{x:Rat}{Q m:Nat}(h1:(Q:Rat)<=((2^m:Nat):Rat)*x)(h2:((2^m:Nat):Rat)*x<(Q:Rat)+1):((Q/2^m:Nat):Rat)<=x/\x<((Q/2^m:Nat):Rat)+1:=by
 have hp:0<2^m:=cY;obtain⟨d1,d2⟩:=zE Q hp;have hq:(0:Rat)<((2^m:Nat):Rat):=by exact_mod_cast hp
 have hs:(Q:Rat)+1<=((2^m:Nat):Rat)*((Q/2^m:Nat):Rat)+((2^m:Nat):Rat):=by
  have:=cMM Q hp;exact_mod_cast(show Q+1<=2^m*(Q/2^m)+2^m by rw[cGF,cBO]at this;omega)
 constructor
 ·exact cK hq (by grind)
 ·exact tA hq (by grind)
theorem Bc{q:Nat}(hq:q<=136000):(pF q:Rat)<=((2^q:Nat):Rat)*pi/\((2^q:Nat):Rat)*pi<(pF q:Rat)+1:=by
 have h:=Ia;have h1:=h.lo;have h2:=h.hi;have hw:=Sc;have e:2^(pw-64)=2^(pw-64-q)*2^q:=by rw[<-cGE];congr 1;omega
 rw[e,cID,cMO]at h1 h2;exact aJK h1 h2
theorem aZG{q:Nat}(hq:q+24<=136000):16777216*(pF q:Rat)+1<=((2^(q+24):Nat):Rat)*pi/\((2^(q+24):Nat):Rat)*pi<16777216*(pF q:Rat)+16777215:=by
 obtain⟨h1,h2⟩:=Bc hq;have hw:=Sc;have e:pF q=pF (q+24)/2^24:=by
  unfold pF;rw[cGV,<-cGE];congr 2;omega
 have bJV:pF (q+24)%2^24≠2^24-1:=Sj Ia.bLI _;have hx:pq<2^(pw-62):=by
  have h3:=Ia.top;have hp:0<2^(pw-104):=cY;have l2:=cML hp (a:=pq);rw[h3]at l2;have e:2^(pw-62)=4398046511104*2^(pw-104):=by
   rw[show 4398046511104=2^42 from rfl,<-cGE];congr 1;omega
  omega
 have Sq:pF (q+24)%2^24≠0:=aJW hx (by omega) (Sj Ia.aUB _);have hd:=cGK (pF (q+24)) (2^24);rw[<-e]at hd;have l1:16777216*pF q+1<=pF (q+24):=by omega
 have bDM:=cDM (pF (q+24)) (show 0<2^24 by omega);have l2:pF (q+24)+1<=16777216*pF q+16777215:=by omega
 have bVQ:(16777216:Rat)*(pF q:Rat)+1<=(pF (q+24):Rat):=by exact_mod_cast l1
 have bVP:(pF (q+24):Rat)+1<=(16777216:Rat)*(pF q:Rat)+16777215:=by exact_mod_cast l2
 grind
theorem bEY{q g X off:Nat}(hq:q+24<=136000)(hg:24<=g)(bND:2*off<=2^(g-24))(hX:ab ((X:Rat)-((2^(q+g):Nat):Rat)*pi)<=(off:Rat)):off<=X/\(X-off)/2^g=pF q/\(X+off)/2^g=pF q:=by
 obtain⟨h1,h2⟩:=aZG hq;have e:2^(q+g)=2^(g-24)*2^(q+24):=by rw[<-cGE];congr 1;omega
 have eg:2^g=2^(g-24)*16777216:=by rw[show 16777216=2^24 from rfl,<-cGE];congr 1;omega
 rw[e,cID,cMO,cN]at hX;have hG:(0:Rat)<=((2^(g-24):Nat):Rat):=by exact_mod_cast cHH _
 have ho:(2:Rat)*(off:Rat)<=((2^(g-24):Nat):Rat):=by exact_mod_cast bND
 have m1:=aJ hG (show 0<=((2^(q+24):Nat):Rat)*pi-(16777216*(pF q:Rat)+1) by grind);have bZQ:(0:Rat)<((2^(g-24):Nat):Rat):=by exact_mod_cast cY
 have m2:=Rat.mul_pos bZQ (show 0<16777216*(pF q:Rat)+16777215-((2^(q+24):Nat):Rat)*pi by grind);have r1:2^(g-24)*16777216*pF q+off<=X:=by
  have:((2^(g-24):Nat):Rat)*16777216*(pF q:Rat)+(off:Rat)<=(X:Rat):=by grind
  exact_mod_cast this
 have r2:X+off<2^(g-24)*16777216*(pF q+1):=by
  have:(X:Rat)+(off:Rat)<((2^(g-24):Nat):Rat)*16777216*((pF q:Rat)+1):=by grind
  exact_mod_cast this
 rw[eg];generalize 2^(g-24)*16777216=B at *;refine⟨by omega,?_,?_⟩
 ·refine cLY ?_ ?_
  ·rw[cGC];omega
  ·rw[cGC];omega
 ·refine cLY ?_ ?_
  ·rw[cGC];omega
  ·rw[cGC];omega
theorem aEZ{u W:Nat}(h:2*u<=W)(hW:0<W):∀k,sq u W k*2^k<=W
 |0=>by simp[sq]
 |k+1=>by
  have ih:=aEZ h hW k;have h1:sq u W (k+1)<=sq u W k/2:=by
   rw[sq];refine cCA (cJR _ _) ?_;rw[cNE (by omega)];have h2:=cMK (sq u W k*u) W;have h3:sq u W k*u*2<=sq u W k*W:=by
    rw[cGH];exact cDS _ (by omega)
   generalize sq u W k*u/W=z at *;have h4:z*2*W<=sq u W k*W:=by
    rw[cLZ];omega
   exact Nat.le_of_mul_le_mul_right h4 hW
  have h2:sq u W (k+1)*2<=sq u W k:=by omega
  rw[cGD,cGC (2^k) 2,<-cGH];exact cCA (cCT _ h2) ih
theorem aEY{u w:Nat}(h:2*u<=2^w):sq u (2^w) (w+1)=0:=by
 have h1:=aEZ h (cY) (w+1);refine Nat.eq_zero_of_not_pos fun hp=>?_
 have:1*2^(w+1)<=sq u (2^w) (w+1)*2^(w+1):=cCT _ hp;rw[cGD]at this h1;have:=cEE (n:=w) (show 0<2 by omega);omega
theorem Xl{u W m:Nat}(h:sq u W m=0):∀k,sq u W (m+k)=0
 |0=>h
 |k+1=>by rw[<-cEV,sq,Xl h k];simp
theorem Om(h:Nat):4^h=2^(2*h):=by rw[Nat.pow_mul]
theorem aHO{T:Rat}(hT0:0<=T)(bZE:T<=1){w1 h u s0 c0:Nat}(aOJ:(u:Rat)<=((2^w1:Nat):Rat)*T)(bJL:((2^w1:Nat):Rat)*T<(u:Rat)+1)(hh:1<=h)(hw:w1+h<=1000000)(bJI:4*h+50<=w1+h)
  (Nz:(s0:Rat)=sum (fun k=>ss k*(sq u (2^(w1+h)) k:Rat)) (w1+h+1)) (bHL:(c0:Rat)=sum (fun k=>cc k*(sq u (2^(w1+h)) k:Rat)) (w1+h+1)) :
  ab (((It (2^(w1+h)) h s0 c0).1:Rat)-((2^(w1+h):Nat):Rat)*sn T)<=((4^h*(2*(w1+h)+10):Nat):Rat)/\ab (((It (2^(w1+h)) h s0 c0).2:Rat)-((2^(w1+h):Nat):Rat)*cs T)<=((4^h*(2*(w1+h)+10):Nat):Rat):=by
 have aSO:0<2^(w1+h):=cY;have bHS:(0:Rat)<((2^w1:Nat):Rat):=by exact_mod_cast cY
 have eW:((2^(w1+h):Nat):Rat)=((2^w1:Nat):Rat)*((2^h:Nat):Rat):=by rw[cGE,cID]
 have g2:=Nf 2 h (by omega);have g2':(2:Rat)<=((2^h:Nat):Rat):=by
  exact_mod_cast(show 2<=2^h from cEF (n:=2) (by omega) hh)
 have bMM:u<=2^w1:=by
  have:=aJ (cGL bHS) (show 0<=1-T by grind);have:(u:Rat)<=((2^w1:Nat):Rat):=by grind
  exact_mod_cast this
 have bMO:2*u<=2^(w1+h):=by
  have e:2^(w1+h)=2^w1*2^h:=cGE _ _ _;have:2^w1*2<=2^w1*2^h:=cDS _ (cEF (n:=2) (by omega) hh);omega
 obtain⟨x,hx,Qx⟩:=aFZ (u:=u) aSO;have bWA:((2^h:Nat):Rat)*x*((2^w1:Nat):Rat)=(u:Rat):=by rw[eW]at hx;grind
 have bFN:((2^h:Nat):Rat)*x<=1:=by
  have:(u:Rat)<=((2^w1:Nat):Rat):=by exact_mod_cast bMM
  refine cK bHS ?_;grind
 have aKY:x<=1/2:=by
  have:=aJ (show 0<=((2^h:Nat):Rat)-2 by grind) Qx;grind
 have hz:=aEY bMO;have ec:=aMN aSO hx Qx aKY (n:=w1+h+1) (by omega) (by omega) hz;have es:=aMM aSO hx Qx aKY (n:=w1+h+1) (by omega) (by omega) hz;rw[<-bHL]at ec;rw[<-Nz]at es;have hn:((w1+h+1:Nat):Rat)=((w1+h:Nat):Rat)+1:=by norm_cast
 have aCQ:((w1+h:Nat):Rat)<=1000000:=by exact_mod_cast hw
 have Dw:(0:Rat)<=((w1+h:Nat):Rat):=by exact_mod_cast cHH _
 rw[hn]at ec es;have aUU:=aHB (w:=w1+h) (by omega);have e4:((4^h*(2*(w1+h)+10):Nat):Rat)=((4^h:Nat):Rat)*(2*((w1+h:Nat):Rat)+10):=by
  rw[cID];congr 1;push_cast;grind
 have aPF:((4^h:Nat):Rat)*((4^h:Nat):Rat)*1125899906842624<=((2^(w1+h):Nat):Rat):=by
  have:4^h*4^h*2^50<=2^(w1+h):=by
   rw[Om,<-cGE,<-cGE];exact fK
  have bVJ:(2^50:Nat)=1125899906842624:=by rfl
  rw[bVJ]at this;exact_mod_cast this
 have g4:=Nf 4 h (by omega);have g42:((2^h:Nat):Rat)<=((4^h:Nat):Rat):=by exact_mod_cast Nat.pow_le_pow_left (show 2<=4 by omega) h
 have hq4:=aJ (show 0<=((4^h:Nat):Rat) by grind) (show 0<=((4^h:Nat):Rat)-1 by grind);have hE:((4^h:Nat):Rat)*(2*((w1+h:Nat):Rat)+8)<=((4^h:Nat):Rat)*2097152:=by
  have:=aJ (show 0<=((4^h:Nat):Rat) by grind) (show 0<=2097152-(2*((w1+h:Nat):Rat)+8) by grind);grind
 have bTB:0<=((4^h:Nat):Rat)*(2*((w1+h:Nat):Rat)+8):=aJ (by grind) (by grind);have xQ:100*(((4^h:Nat):Rat)*(2*((w1+h:Nat):Rat)+8)*(((4^h:Nat):Rat)*(2*((w1+h:Nat):Rat)+8)))<=((2^(w1+h):Nat):Rat):=by
  refine cGJ ?_ aPF;have:=cR bTB hE bTB hE;grind
 have aCZ:((4^h:Nat):Rat)*(2*((w1+h:Nat):Rat)+8)<=((2^(w1+h):Nat):Rat):=by
  refine cGJ (cGJ hE ?_) aPF;grind
 have hd:=aHD (W:=2^(w1+h)) aSO xQ (Xo aCZ aUU) h x (2*((w1+h:Nat):Rat)+6) s0 c0 Qx bFN (cGJ es (by grind)) (cGJ ec (by grind)) (by grind);have hT:ab T<=1:=by rw[bR hT0];exact bZE
 have hX:ab (((2^h:Nat):Rat)*x)<=1:=by rw[bR (aJ (by grind) Qx)];exact bFN
 have l1:=aFB hX hT;have l2:=aQM hX hT;have hd0:0<=T-((2^h:Nat):Rat)*x:=by
  have:((2^w1:Nat):Rat)*(((2^h:Nat):Rat)*x)<=((2^w1:Nat):Rat)*T:=by grind
  have:=cK bHS this;grind
 have bKC:((2^(w1+h):Nat):Rat)*(T-((2^h:Nat):Rat)*x)<=((2^h:Nat):Rat):=by
  rw[eW];have:((2^w1:Nat):Rat)*(T-((2^h:Nat):Rat)*x)<=1:=by grind
  have:=aJ (show 0<=((2^h:Nat):Rat) by grind) (show 0<=1-((2^w1:Nat):Rat)*(T-((2^h:Nat):Rat)*x) by grind);grind
 rw[bR hd0]at l1 l2;have hW:(0:Rat)<=((2^(w1+h):Nat):Rat):=by exact_mod_cast cHH _
 obtain⟨r1,r2⟩:=hd;rw[e4];clear aOJ bJL xQ aCZ aPF bWA hx eW ec es Nz bHL hz;generalize ((2^(w1+h):Nat):Rat)=W at *;generalize ((w1+h:Nat):Rat)=wr at *;generalize ((4^h:Nat):Rat)=F at *;generalize ((2^h:Nat):Rat)*x=y at *;generalize ((2^h:Nat):Rat)=H at *;rw[cN]at l1 l2 r1 r2;have m1:=aJ hW (show 0<=2*(T-y)-(sn T-sn y) by grind);have m2:=aJ hW (show 0<=2*(T-y)+(sn T-sn y) by grind);have m3:=aJ hW (show 0<=(T-y+2*xS)-(cs T-cs y) by grind);have m4:=aJ hW (show 0<=(T-y+2*xS)+(cs T-cs y) by grind);rw[cN,cN];refine⟨⟨?_,?_⟩,?_,?_⟩ <;> grind
end R
namespace R
def pz(e:Int):Rat:=if 0<=e then((2^e.toNat:Nat):Rat)else hf (-e).toNat
theorem nD(k:Nat):pz (k:Int)=((2^k:Nat):Rat):=by unfold pz;rw[aQ,cFB]
theorem yY(k:Nat):pz (-(k:Int))=hf k:=by
 unfold pz
 by_cases h:k=0
 ·subst h;simp[hf]
 ·rw[aO,Int.neg_neg,cFB]
theorem gR:pz 0=1:=by rw[show(0:Int)=((0:Nat):Int)from rfl,nD];norm_cast
theorem dW(e:Int):0<pz e:=by
 unfold pz;split
 ·exact_mod_cast cY
 ·exact xP _
theorem lO(e:Int):pz (e+1)=2*pz e:=by
 by_cases h:0<=e
 ·obtain⟨k,rfl⟩:=cGG h;rw[show(k:Int)+1=((k+1:Nat):Int) by omega,nD,nD,Lj]
 ·obtain⟨k,hk⟩:=cGG (show 0<=-e by omega);have e1:e=-(k:Int):=by omega
  subst e1;obtain⟨j,rfl⟩:∃j,k=j+1:=⟨k-1,by omega⟩;rw[show -((j+1:Nat):Int)+1=-(j:Int) by omega,yY,yY,hf];grind
theorem eN(a:Int):∀k:Nat,pz (a+k)=pz a*((2^k:Nat):Rat)
 |0=>by rw[show a+((0:Nat):Int)=a by omega,cLF];grind
 |k+1=>by
  rw[show a+((k+1:Nat):Int)=(a+k)+1 by omega,lO,eN a k,Lj];grind
theorem kS(a b:Int):pz (a+b)=pz a*pz b:=by
 by_cases h:0<=b
 ·obtain⟨k,rfl⟩:=cGG h;rw[eN,nD]
 ·obtain⟨k,hk⟩:=cGG (show 0<=-b by omega);have h1:=eN (a+b) k;rw[show a+b+(k:Int)=a by omega]at h1;have e1:b=-(k:Int):=by omega
  have h2:=Va k;rw[show pz b=hf k by rw[e1,yY],h1];rw[cMO,Rat.mul_comm ((2^k:Nat):Rat),h2];grind
theorem cX{a b:Int}(h:a<=b):pz a<=pz b:=by
 obtain⟨k,hk⟩:=cGG (show 0<=b-a by omega);rw[show b=a+(k:Int) by omega,eN];have h1:=dW a;have:=aJ (cGL h1) (show 0<=((2^k:Nat):Rat)-1 by have:=Nf 2 k (by omega);grind);grind
theorem bEW(k:Nat):hf k=pz (-(k:Int)):=(yY k).symm
theorem aBZ(e:Int):pz e*pz (-e)=1:=by rw[<-kS,Int.add_right_neg,gR]
def qz(p:Int×Int):Rat:=(p.1:Rat)*pz p.2
theorem pU{p:Int×Int}(h:p.1=0):qz p=0:=by
 unfold qz;rw[h];have:((0:Int):Rat)=0:=by norm_cast
 rw[this];grind
theorem Na{p q:Int×Int}{g:Int}(hp:g<=p.2)(hq:g<=q.2):qz p<=qz q↔p.1*((2^(p.2-g).toNat:Nat):Int)<=q.1*((2^(q.2-g).toNat:Nat):Int):=by
 unfold qz;have e1:pz p.2=pz g*((2^(p.2-g).toNat:Nat):Rat):=by
  rw[<-eN];congr 1;omega
 have e2:pz q.2=pz g*((2^(q.2-g).toNat:Nat):Rat):=by
  rw[<-eN];congr 1;omega
 have hg:=dW g;have c1:((p.1*((2^(p.2-g).toNat:Nat):Int):Int):Rat)=(p.1:Rat)*((2^(p.2-g).toNat:Nat):Rat):=by push_cast;rfl
 have c2:((q.1*((2^(q.2-g).toNat:Nat):Int):Int):Rat)=(q.1:Rat)*((2^(q.2-g).toNat:Nat):Rat):=by push_cast;rfl
 rw[<-Rat.intCast_le_intCast,c1,c2,e1,e2];generalize ((2^(p.2-g).toNat:Nat):Rat)=x;generalize ((2^(q.2-g).toNat:Nat):Rat)=y;constructor
 ·intro h;exact cK hg (by grind)
 ·intro h;have:=aJ (cGL hg) (show 0<=(q.1:Rat)*y-(p.1:Rat)*x by grind);grind
end R
namespace M
open Go AI W
def eR(p q:Int×Int):Int:=lI (bS.oG p q) (bS.oF p q)
def bC(p:Int×Int):Int:=p.2+(bl p.1.natAbs:Nat)-1
abbrev yN:=Bool×List Int×Int×Bool×List Int×Int
def iR(s:yN):gW:=(s.1,s.2.1,s.2.2.1)
def iS(s:yN):gW:=(s.2.2.2.1,s.2.2.2.2.1,s.2.2.2.2.2)
def fA(s:yN):Prop:=aU (iR s)/\aU (iS s)/\eR (dv (iR s)) (dv (iS s))<=0
def wZ(a b:Int×Int):D:=.agg [.sc (.bool (isNeg a.1)),.ints .u64 (M6.dg a.1.natAbs),.sc (.int .i64 a.2),.sc (.bool (isNeg b.1)),.ints .u64 (M6.dg b.1.natAbs),.sc (.int .i64 b.2)]
def nV(a b:Int×Int):yN:=(isNeg a.1,M6.dg a.1.natAbs,a.2,isNeg b.1,M6.dg b.1.natAbs,b.2)
theorem qE(a b:Int×Int):dv (iR (nV a b))=a:=dY a
theorem qF(a b:Int×Int):dv (iS (nV a b))=b:=dY b
theorem yW{a b:Int×Int}(ha:kT a)(hb:kT b)(h:eR a b<=0):fA (nV a b):=by
 refine⟨dV ha,dV hb,?_⟩;rw[qE,qF];exact h
theorem fA.wZ{s:yN}(h:fA s):M.wZ (dv (iR s)) (dv (iS s))=.agg [.sc (.bool s.1),.ints .u64 s.2.1,.sc (.int .i64 s.2.2.1),.sc (.bool s.2.2.2.1),.ints .u64 s.2.2.2.2.1,.sc (.int .i64 s.2.2.2.2.2)]:=by
 have h1:=h.1.Fo.cells;have h2:=h.2.1.Fo.cells;unfold M.wZ;have e1:(dv (iR s)).1=wv ((iR s).1,(iR s).2.1):=rfl;have e2:(dv (iS s)).1=wv ((iS s).1,(iS s).2.1):=rfl;rw[e1,e2,h1.1,h1.2,h2.1,h2.2];rfl
theorem aVZ{a b:Int}:lI a b<=0↔a<=b:=by unfold lI;split <;> (try split) <;> omega
theorem aWA{a b:Int}:lI a b=0↔a=b:=by unfold lI;split <;> (try split) <;> omega
theorem Ly(p q:Int×Int):bS.iO p q<=p.2/\bS.iO p q<=q.2:=Up
theorem mI{p q:Int×Int}:eR p q<=0↔R.qz p<=R.qz q:=by
 obtain⟨h1,h2⟩:=Ly p q;unfold eR;rw[aVZ,R.Na h1 h2];rfl
theorem zL{p q:Int×Int}:0<eR p q↔R.qz q<R.qz p:=by
 have:=mI (p:=p) (q:=q);constructor
 ·intro h;refine Rat.not_le.1 fun hn=>?_;have:=this.2 hn;omega
 ·intro h;refine Int.not_le.1 fun hn=>?_;exact Rat.not_lt.2 (this.1 hn) h
theorem Tf(p:Int×Int):eR p p<=0:=mI.2 cHS
theorem pC(z e:Int):R.qz (aR z e)=(z:Rat)*R.pz e:=by
 by_cases hz:z=0
 ·subst hz;rw[fR,R.pU rfl];have:((0:Int):Rat)=0:=by norm_cast
  rw[this];grind
 ·obtain⟨h1,h2⟩:=mB (e:=e) hz;unfold R.qz;rw[h2]
  conv=>rhs;rw[h1]
  rw[Bd,R.eN,cMP,cMQ];grind
theorem pD(p:Int×Int):R.qz (-p.1,p.2)=- R.qz p:=by
 unfold R.qz;rw[Rat.intCast_neg];grind
theorem Uf(p q:Int×Int):R.qz (bS.oN p q)=R.qz p+R.qz q:=by
 unfold bS.oN;split
 ·rename_i h;rw[R.pU h];grind
 ·split
  ·rename_i h;rw[R.pU h];grind
  ·obtain⟨h1,h2⟩:=Ly p q;rw[pC];unfold bS.oG bS.oF R.qz;have e1:R.pz p.2=R.pz (bS.iO p q)*((2^(p.2-bS.iO p q).toNat:Nat):Rat):=by rw[<-R.eN];congr 1;omega
   have e2:R.pz q.2=R.pz (bS.iO p q)*((2^(q.2-bS.iO p q).toNat:Nat):Rat):=by rw[<-R.eN];congr 1;omega
   rw[e1,e2,Rat.intCast_add,cMP,cMP,cMQ,cMQ];grind
end M
open Go.Value(int bool slice)
open AI.S(sc ints)
namespace W
open Go AI M
namespace Ch
def E:=mE [] 11 [] [] []
def aE:=bd f52
theorem aT:Nk E aE:=nk
theorem start a:aF E f52 aE [D.s (sc (int i64 a))]=letI A:=int i64 0;aB (a==32) (some [D.agg [sc (int i64 24),sc (int i64 (-149:Int)),sc (int i64 31)]]) (aB (a==64) (some [D.agg [sc (int i64 53),sc (int i64 (-1074:Int)),sc (int i64 63)]]) (some [D.agg [sc A,sc A,sc A]])):=eJ aT
def Eb(f:Int):Int×Int×Int:=if f=32 then(24,-149,31)else if f=64 then(53,-1074,63)else(0,0,0)
def sp(f:Int):Prop×List D:=(True,[.agg [.sc (.int .i64 (Eb f).1),.sc (.int .i64 (Eb f).2.1),.sc (.int .i64 (Eb f).2.2)]])
theorem spec:iU E f52 aE (pN .i64) sp:=by
 intro f h;refine(start f).trans ?_;unfold sp Eb
 by_cases h1:f=32
 ·rw[bI h1,if_pos h1]
 ·rw[bA h1,if_neg h1]
  by_cases h2:f=64
  ·rw[bI h2,if_pos h2]
  ·rw[bA h2,if_neg h2]
def aI:dJ:=orc1 (pN .i64) sp
theorem ok:OK 52 aI:=(eB E aE aC func52).oS rfl spec
end Ch
namespace kJ
def E:=mE [] 11 [] [] []
def aE:=bd f85
theorem aT:Nk E aE:=nk
theorem start a b c:aF E f85 aE [D.agg [sc (int i64 a),sc (int i64 b),sc (int i64 c)]]=if c<0 then none else if i64.wrap (a-1)<0 then none else some [D.s (sc (int u64 (u64.wrap (u64.wrap ((1:Int)*(↑((2:Nat)^min c.toNat 64):Int))-u64.wrap ((1:Int)*(↑((2:Nat)^min (i64.wrap (a-1)).toNat 64):Int))))))]:=eJ aT
def vB(w:Int×Int×Int):Prop:=w=(24,-149,31)\/w=(53,-1074,63)
def oD(w:Int×Int×Int):Int:=if w.1=24 then 2139095040 else 9218868437227405312
def sp(w:Int×Int×Int):Prop×List D:=(vB w,[.s (.sc (.int .u64 (oD w)))])
theorem spec:iU E f85 aE (pG (.pair (sN .i64) (.pair (sN .i64) (sN .i64)))) sp:=by
 intro w h;refine(start w.1 w.2.1 w.2.2).trans ?_;rcases(show vB w from h)with rfl |rfl <;> rfl
def aI:dJ:=orc1 (pG (.pair (sN .i64) (.pair (sN .i64) (sN .i64)))) sp
theorem ok:OK 85 aI:=(eB E aE aC func85).oS rfl spec
end kJ
namespace aKJ
def E:=mE [] 24 [] [(3,[0,1])] [3]
def aE:=bd f189
theorem aT:Nk E aE:=nk
def J3 a b:=lP E f189 aE 3 [jR a,bN b]
theorem start a b:aF E f189 aE [D.s (ints u64 a),D.s (sc (int i64 b))]=letI A:=some [D.s (sc (bool false))];aB (decide (b<0)) A (aB (decide ((a.length:Int)<=i64.wrap (b.tdiv 64))) A (aKJ.J3 a b)):=eJ aT
theorem iB a b:J3 a b=letI A:=b.tdiv 64;if 0<=i64.wrap A/\i64.wrap A<(a.length:Int)then if b.tmod 64<(0:Int)then none else some [D.s (sc (bool (fO BinOp.and u64 (a.getD (i64.wrap A).toNat 0/(↑((2:Nat)^min (b.tmod 64).toNat 64):Int)) 1==(1:Int))))]else none:=cJ aT
def sp(a:List Int)(i:Int):Prop×List D:=(M6.bZ a/\a.length<=1099511627776/\-9223372036854775808<=i/\i<9223372036854775808,[.s (.sc (.bool (decide (0<=i)&&decide (M6.val a/2^i.toNat%2=1))))])
theorem aWJ{x:Int}(h:0<=x)(h':x<18446744073709551616):fO .and .u64 x 1=x%2:=by
 rw[aAK h h' (by omega) (by omega)];have:x.toNat &&& 1=x.toNat%2:=Nat.and_one_is_mod _;show((x.toNat &&& 1:Nat):Int)=_;rw[this];omega
theorem spec:fL E f189 aE (pI .u64) (pN .i64) sp:=by
 rintro a i ⟨ha,hl,h1,h2⟩;refine(start a i).trans ?_;show _=some [D.s (.sc (.bool (decide (0<=i)&&decide (M6.val a/2^i.toNat%2=1))))]
 by_cases hn:i<0
 ·rw[aN hn,decide_eq_false (show ¬0<=i by omega),cGN]
 ·have t1:i.tdiv 64=i/64:=cIS (by omega);have t2:i.tmod 64=i%64:=cIT (by omega);have e1:(i/64).toNat=i.toNat/64:=by omega
  have e2:(i%64).toNat=i.toNat%64:=by omega
  have ps:2^i.toNat=18446744073709551616^(i.toNat/64)*2^(i.toNat%64):=by
   rw[show(18446744073709551616:Nat)=2^64 from rfl,<-Nat.pow_mul,<-cGE];congr 1;omega
  rw[aL hn,decide_eq_true (show 0<=i by omega),cEG,t1,wrap_i64 (n:=i/64),ps,<-cGV]
  by_cases hz:(a.length:Int)<=i/64
  ·have hv:M6.val a/18446744073709551616^(i.toNat/64)=0:=by
    apply cHB;exact cCB (M6.dR ha) (fK)
   rw[aN hz,hv,cKY];rfl
  ·have g:=ha.get (i.toNat/64);have hv:=M6.iJ a (n:=i.toNat/64) (by omega);have hq:M6.val a/18446744073709551616^(i.toNat/64)=M6.val (a.drop (i.toNat/64)):=by
    rw[hv,cHU _ _ (cY),cHB (M6.iG ha _),cBG]
   rw[aL hz,iB,t1,t2,wrap_i64 (n:=i/64),aQ,aO,e1,e2,hq,M6.iL];have em:min (i.toNat%64) 64=i.toNat%64:=by omega
   have kM:i.toNat%64<64:=cDM _ (by omega);rw[em];generalize i.toNat%64=k at *;generalize a.getD (i.toNat/64) 0=x at *;generalize M6.val (a.drop (i.toNat/64+1))=r at *;have hp:0<2^k:=cY;have e3:(x.toNat+18446744073709551616*r)/2^k%2=x.toNat/2^k%2:=by
    have:18446744073709551616*r=2^k*(2*(2^(63-k)*r)):=by
     rw[show(18446744073709551616:Nat)=2^64 from rfl,show 64=k+(1+(63-k))from by omega,cGE,cGE,cGH,cGH]
    rw[this,cHU _ _ hp];omega
   rw[e3];have ex:x/((2^k:Nat):Int)=((x.toNat/2^k:Nat):Int):=by
    obtain⟨n,rfl⟩:=cGG g.1;rw[<-cGU];rfl
   have hle:x.toNat/2^k<=x.toNat:=cJR _ _;rw[ex];clear ex e3 hq hv ps;generalize x.toNat/2^k=q at *;rw[aWJ (by omega) (by omega)];congr 4
   by_cases h:q%2=1
   ·rw[decide_eq_true h];have:((q:Int)%2)=1:=by omega
    rw[this];rfl
   ·rw[decide_eq_false h];have:((q:Int)%2)=0:=by omega
    rw[this];rfl
def aI:dJ:=orc2 (pI .u64) (pN .i64) sp
theorem ok:OK 189 aI:=(eB E aE aC func189).lF rfl spec
end aKJ
namespace oC
def E:=mE [] 34 [] [] []
def aE:=bd f225
theorem aT:Nk E aE:=nk
theorem start a b c d e:aF E f225 aE [D.s (sc (int i64 a)),D.s (sc (bool b)),D.s (sc (bool c)),D.s (sc (bool d)),D.s (sc (int i64 e))]=letI B:=some [D.s (sc (bool d))];letI A:=some [D.s (sc (bool false))];aB (a==0) (aB b B A) (aB (a==1) (aB (!b) B A) (aB (decide (0<e)) (some [D.s (sc (bool true))]) (aB (e==0) (some [D.s (sc (bool c))]) A))):=eJ aT
def oB(w:Int)(neg bVD rest:Bool)(half:Int):Bool:=bif w==0 then neg&&rest else bif w==1 then !neg&&rest else(decide (0<half)||(half==0&&bVD))
def sp(a:Int)(b c d:Bool)(e:Int):Prop×List D:=(True,[.s (.sc (.bool (oB a b c d e)))])
theorem spec(a:Int)(b c d:Bool)(e:Int)(h:(sp a b c d e).1):aF E f225 aE [(pN .i64).put a,pB.put b,pB.put c,pB.put d,(pN .i64).put e]=some (sp a b c d e).2:=by
 refine(start a b c d e).trans ?_;show _=some [D.s (.sc (.bool (oB a b c d e)))];unfold oB aB;cases (a==0) <;> cases (a==1) <;> cases b <;> cases c <;> cases d <;> cases (decide (0<e)) <;> cases (e==0) <;> rfl
def aI:dJ:=orc5 (pN .i64) pB pB pB (pN .i64) sp
theorem ok:OK 225 aI:=(eB E aE aC func225).bLL rfl spec
end oC
namespace pS
def E:=mE [] 7 [] [] []
def aE:=bd f95
theorem aT:Nk E aE:=nk
theorem start a:aF E f95 aE [D.s (sc (int u64 a))]=aB (a==0) (some [D.s (sc (slice none 0 0))]) (some [D.own 22 u64 [a]]):=eJ aT
def sp(w:Int):Prop×List D:=(0<=w/\w<18446744073709551616,[.s (.ints .u64 (M6.dg w.toNat))])
theorem spec:aRI E f95 aE (pN .u64) sp:=by
 intro w h;have e:=start w;obtain⟨h1,h2⟩:=h;unfold sp;simp only
 by_cases hz:w=0
 ·rw[bI hz]at e;subst hz;rw[show(0:Int).toNat=0 from rfl,M6.cB];exact⟨_,e,.cons (Ap.nil _) .nil⟩
 ·rw[bA hz]at e;have:M6.dg w.toNat=[w]:=by
   rw[M6.oL (by omega),cLT (by omega),cHB (by omega),M6.cB];congr 1;omega
  rw[this];exact⟨_,e,.cons (Ap.own _ _ _) .nil⟩
def aI:dJ:=orc1 (pN .u64) sp
theorem ok:OK 95 aI:=(eB E aE aC func95).bEK rfl spec
end pS
namespace aAT
def E:=mE [(189,aKJ.aI),(225,oC.aI),(99,Co.aI),(95,pS.aI),(100,wA.aI)] 39 [24,36] [] []
def aE:=bd f190
theorem aT:Nk E aE:=nk
theorem start a b c d e:aF E f190 aE [D.s (sc (int i64 a)),D.s (sc (bool b)),D.s (ints u64 c),D.s (sc (bool d)),D.s (sc (int i64 e))]=letI C:=M6.val c+M6.val (M6.dg 1);letI B:=bif dM.nT C then(0:Int)else(5:Int);letI A:=bif dM.nT C then M6.dg C else [];letI F:=bif B==0 then zs b (M6.val A)else(0:Int);aM (M6.bZ c/\c.length<=1099511627776/\(-9223372036854775808:Int)<=(0:Int)/\(0:Int)<(9223372036854775808:Int)) (aM True (aB (!oC.oB a b (true&&decide (M6.val c/1%(2:Nat)=(1:Nat))) d e) (aM (M6.cG c/\c.length<=1099511627776) (some [D.agg [sc (bool (isNeg (zs b (M6.val c)))),ints u64 (M6.dg (zs b (M6.val c)).natAbs)],D.s (sc (int i64 0))])) (aM ((0:Int)<=(1:Int)/\(1:Int)<(18446744073709551616:Int)) (aM (M6.cG c/\M6.cG (M6.dg 1)/\c.length<=8192/\(M6.dg 1).length<=8192) (aM (M6.cG A/\A.length<=1099511627776) (some [D.agg [sc (bool (isNeg F)),ints u64 (M6.dg F.natAbs)],D.s (sc (int i64 B))])))))):=eJ aT
def sp(w:Int)(neg:Bool)(q:List Int)(rest:Bool)(half:Int):Prop×List D:=(M6.cG q/\q.length<=8192,
 wE (fit (M6.val q+bif oC.oB w neg (decide (M6.val q%2=1)) rest half then 1 else 0)) (zs neg (M6.val q+bif oC.oB w neg (decide (M6.val q%2=1)) rest half then 1 else 0)))
theorem spec(w:Int)(neg:Bool)(q:List Int)(rest:Bool)(half:Int)(h:(sp w neg q rest half).1):aF E f190 aE [(pN .i64).put w,pB.put neg,(pI .u64).put q,pB.put rest,(pN .i64).put half]=some (sp w neg q rest half).2:=by
 obtain⟨h1,h2⟩:=h;have hb:=zP h1.jE h2;refine(start w neg q rest half).trans ?_;unfold sp
 try dsimp only
 rw[gP ⟨h1.jE,by omega,by omega,by omega⟩,gP trivial,Nat.div_one,cEG];cases hm:oC.oB w neg (decide (M6.val q%2=1)) rest half with
 |false =>
  have hf:fit (M6.val q+0)=true:=decide_eq_true (by rw[cCC];omega);rw[cMR,bT,gP ⟨h1,by omega⟩,cond_false,hf];rfl
 |true =>
  have o1:=fZ (n:=1) (k:=1) (dK.2 (by omega));rw[cDE,bF,gP ⟨by omega,by omega⟩,gP ⟨h1,M6.aY _,h2,by omega⟩,M6.bD,gP (Lo (fun h=>by rw[show dM.nT _=_ from De]at h;exact zH h)),Kv,show dM.nT _=_ from De,cond_true]
def aI:dJ:=orc5 (pN .i64) pB (pI .u64) pB (pN .i64) sp
theorem ok:OK 190 aI:=(eB E aE (aA aKJ.ok (aA oC.ok (aA Co.ok (aA pS.ok (aA wA.ok aC))))) func190).bLL rfl spec
end aAT
namespace nY
def E:=mE [(96,fV.aI),(104,Hh.aI),(103,Fh.aI),(189,aKJ.aI),(190,aAT.aI)] 61 [23,58] [(9,[0,2,4,6,8,10]),(14,[0,4,6,8,10,11])] [9,14]
def aE:=bd f149
theorem aT:Nk E aE:=nk
def J9 a b c d e f g:=lP E f149 aE 9 [bN a,bN b,dS 2 27 [dG c,gO d],dS 3 27 [dG e,sc (slice none 0 0)],jR f,rY g]
def aWM a b c d e f g:=lP E f149 aE 14 [bN a,dS 1 27 [dG b,gO c],dS 2 27 [dG d,sc (slice none 0 0)],jR e,rY f,bN g]
theorem start a b d c:aF E f149 aE [D.s (sc (int i64 a)),D.agg [sc (bool b),ints u64 d],D.s (sc (int i64 c))]=letI A:=M6.dg (M6.val d/(2:Nat)^c.toNat);aB (decide (c<0)) (some [D.agg [sc (bool false),sc (slice none 0 0)],D.s (sc (int i64 1))]) (aM (d.length<=1099511627776) (aB (!fV.oZ (b,d)) (some [D.agg [sc (bool false),sc (slice none 0 0)],D.s (sc (int i64 2))]) (aM (M6.cG d/\d.length<=8192/\0<=c/\c<4611686018427387904) (aB (decide (0<(d.length:Int))) (aM (M6.bZ d/\d.length<=1099511627776) (nY.J9 a c b d false A (decide ((↑(tz (M6.val d)):Int)<c)))) (nY.J9 a c b d false A false))))):=eJ aT
theorem aAU a b c d e f g:J9 a b c d e f g=aM (M6.bZ d/\d.length<=1099511627776/\(-9223372036854775808:Int)<=i64.wrap (b-1)/\i64.wrap (b-1)<9223372036854775808) (aB (decide (0<=i64.wrap (b-1))&&decide (M6.val d/(2:Nat)^(i64.wrap (b-1)).toNat%2=(1:Nat))) (aM (M6.bZ d/\d.length<=1099511627776) (aB ((↑(tz (M6.val d)):Int)==i64.wrap (b-1)) (nY.aWM a c d e f g 0) (nY.aWM a c d e f g 1))) (nY.aWM a c d e f g (-1:Int))):=cJ aT
theorem Wt a b c d e f g:aWM a b c d e f g=letI A:=M6.val e+bif oC.oB a b (decide (M6.val e%2=(1:Nat))) f g then(1:Nat)else(0:Nat);letI B:=bif fit A then zs b A else(0:Int);aM (M6.cG e/\e.length<=8192) (some [D.agg [sc (bool (isNeg B)),ints u64 (M6.dg B.natAbs)],D.s (sc (int i64 (bif fit A then(0:Int)else(5:Int))))]):=cJ aT
def aFN(v:Nat)(n:Int):Bool:=decide (v≠0)&&decide ((tz v:Int)<n)
def Oi(v:Nat)(n:Int):Int:=bif decide (0<=n-1)&&decide (v/2^(n-1).toNat%2=1)then(bif ((tz v:Int)==n-1)then 0 else 1)else -1
def wI(w:Int)(neg:Bool)(v:Nat)(n:Int):Nat:=v/2^n.toNat+bif oC.oB w neg (decide (v/2^n.toNat%2=1)) (aFN v n) (Oi v n)then 1 else 0
def sp(w:Int)(x:Bool×List Int)(n:Int):Prop×List D:=(iE x/\0<=n/\n<4611686018427387904,wE (fit (wI w x.1 (M6.val x.2) n)) (zs x.1 (wI w x.1 (M6.val x.2) n)))
theorem spec:oO E f149 aE (pN .i64) pV (pN .i64) sp:=by
 rintro w x n ⟨hx,h0,h1⟩;refine(start w x.1 x.2 n).trans ?_;have l1:=hx.len;have f1:=fV.mD hx;have b1:=hx.bl;obtain⟨p,a⟩:=x;have n1:M6.cG a:=hx.1
 try dsimp only at *
 unfold sp
 try dsimp only
 have hq:=fZ (n:=M6.val a/2^n.toNat) (k:=8192) (cCA (gF (cJR _ _)) b1);have j14:∀(r:Bool) (hf:Int),aWM w p a false (M6.dg (M6.val a/2^n.toNat)) r hf=some (wE (fit (M6.val a/2^n.toNat+bif oC.oB w p (decide (M6.val a/2^n.toNat%2=1)) r hf then 1 else 0)) (zs p (M6.val a/2^n.toNat+bif oC.oB w p (decide (M6.val a/2^n.toNat%2=1)) r hf then 1 else 0))):=by
  intro r hf;rw[Wt,gP ⟨M6.aY _,hq⟩,M6.bD];rfl
 have wn:i64.wrap (n-1)=n-1:=by rw[wrap_i64]
 have j9:∀r:Bool,J9 w n p a false (M6.dg (M6.val a/2^n.toNat)) r=some (wE (fit (M6.val a/2^n.toNat+bif oC.oB w p (decide (M6.val a/2^n.toNat%2=1)) r (Oi (M6.val a) n)then 1 else 0)) (zs p (M6.val a/2^n.toNat+bif oC.oB w p (decide (M6.val a/2^n.toNat%2=1)) r (Oi (M6.val a) n)then 1 else 0))):=by
  intro r;rw[aAU,wn,gP ⟨n1.jE,by omega,by omega,by omega⟩,j14,j14,j14,gP ⟨n1.jE,by omega⟩];unfold Oi aB;cases (decide (0<=n-1)&&decide (M6.val a/2^(n-1).toNat%2=1))with
  |false=>rfl
  |true=>cases ((tz (M6.val a):Int)==n-1) <;> rfl
 have hz:=M6.cZ n1;rw[aL,gP,f1,cDE,bF,gP ⟨n1,l1,h0,h1⟩,j9,j9,gP ⟨n1.jE,by omega⟩];unfold wI aFN
 by_cases h:M6.val a=0
 ·rw[aL (by have:=hz.2 h;omega),decide_eq_false (show ¬(M6.val a≠0) by omega),cGN]
 ·rw[aN (by have:a.length≠0:=fun hl=>h (hz.1 hl);omega),decide_eq_true (show(M6.val a≠0) by omega),cEG]
def aI:dJ:=orc3 (pN .i64) pV (pN .i64) sp
theorem ok:OK 149 aI:=(eB E aE (aA fV.ok (aA Hh.ok (aA Fh.ok (aA aKJ.ok (aA aAT.ok aC))))) func149).xX rfl spec
end nY
namespace oR
def E:=mE [(149,nY.aI)] 11 [8] [] []
def aE:=bd f107
theorem aT:Nk E aE:=nk
theorem start a c b:aF E f107 aE [D.agg [sc (bool a),ints u64 c],D.s (sc (int i64 b))]=letI A:=nY.wI 2 a (M6.val c) b;letI B:=bif fit A then zs a A else(0:Int);aM (iE (a,c)/\0<=b/\b<4611686018427387904) (some [D.agg [sc (bool (isNeg B)),ints u64 (M6.dg B.natAbs)],D.s (sc (int i64 (bif fit A then(0:Int)else(5:Int))))]):=eJ aT
def Ac(v:Nat)(n:Int):Nat:=nY.wI 2 false v n
theorem aUD(p:Bool)(v:Nat)(n:Int):nY.wI 2 p v n=Ac v n:=rfl
theorem small{v:Nat}{n:Int}(h:0<=n)(hb:bl v<=524288):fit (Ac v n)=true:=by
 refine decide_eq_true (cCA (gF ?_) hb);unfold Ac nY.wI oC.oB;rw[show((2:Int)==0)=false from rfl,show((2:Int)==1)=false from rfl,cond_false,cond_false];unfold nY.Oi
 by_cases hc:0<=n-1/\v/2^(n-1).toNat%2=1
 ·have hv:v≠0:=fun hz=>by rw[hz,cKY]at hc;omega
  have hn:2^n.toNat=2^(n-1).toNat*2:=by rw[<-cGD];congr 1;omega
  have hp:=cEE (n:=(n-1).toNat) (show 0<2 by omega);have h1:v/2^n.toNat<=v/2:=cLX (by omega) (by omega);have h2:∀b:Bool,(bif b then(1:Nat)else 0)<=1:=by intro b;cases b <;> decide
  by_cases bZV:v=1
  ·subst bZV;have Ao:2^(n-1).toNat=1:=by
    rcases cBU 1 (2^(n-1).toNat)with h |h
    ·rw[cHB h]at hc;omega
    ·omega
   have ht:tz 1=0:=by simp[tz]
   have aCQ:n=1:=by
    rcases cNG (n-1).toNat with h |h
    ·omega
    ·have:=cEF (n:=2) (by omega) h;omega
   subst aCQ;rw[ht];decide
  ·exact cCA (Nat.add_le_add h1 (h2 _)) (by omega)
 ·have:(decide (0<=n-1)&&decide (v/2^(n-1).toNat%2=1))=false:=by
   rw[cNA]
   by_cases h0:0<=n-1
   ·exact .inr (decide_eq_false fun h=>hc ⟨h0,h⟩)
   ·exact .inl (decide_eq_false h0)
  rw[this];exact cCA (Nat.le_of_eq (cCC _)) (cJR _ _)
def sp(x:Bool×List Int)(n:Int):Prop×List D:=(iE x/\0<=n/\n<4611686018427387904,[wD (zs x.1 (Ac (M6.val x.2) n)),.s (.sc (.int .i64 0))])
theorem spec:fL E f107 aE pV (pN .i64) sp:=by
 intro x n h;have h':=h;obtain⟨hx,h0,h1⟩:=h;refine(start x.1 x.2 n).trans ((gP h').trans ?_);unfold sp
 try dsimp only
 rw[aUD,small h0 hx.bl];rfl
def aI:dJ:=orc2 pV (pN .i64) sp
theorem ok:OK 107 aI:=(eB E aE (aA nY.ok aC) func107).lF rfl spec
end oR
namespace jA
def E:=mE [(106,uA.aI),(85,kJ.aI),(107,oR.aI),(48,Cp.aI)] 71 [19] [(9,[3,8,9]),(12,[3,8,10])] [9,12]
def aE:=bd f54
theorem aT:Nk E aE:=nk
def J9 a b c d e f:=lP E f54 aE 9 [dS 0 98 [cP a,cP b,cP c],bN d,dS 2 27 [dG e,gO f]]
def bCW a b c d e:=lP E f54 aE 12 [dS 0 98 [cP a,cP b,cP c],bN d,dO e]
theorem start a d e b c:aF E f54 aE [D.agg [sc (int i64 a),sc (int i64 d),sc (int i64 e)],D.s (ints u64 b),D.s (sc (int i64 c))]=letI G:=i64.wrap (c+(↑(bl (M6.val b)):Int))-1;letI A:=i64.wrap (i64.wrap G-a)+1;letI F:=zs false (oR.Ac (M6.val b) (i64.wrap ((if d>i64.wrap A then d else i64.wrap A)-c)));letI B:=c-if d>i64.wrap A then d else i64.wrap A;letI C:=bif fit (M6.val b*(2:Nat)^(i64.wrap B).toNat)then wv (false,b)*(↑((2:Nat)^(i64.wrap B).toNat):Int)else(0:Int);aM (M6.bZ b/\b.length<=1099511627776) (aB (decide (1100<i64.wrap G)) (aM (kJ.vB (a,d,e)) (aD (kJ.oD (a,d,e)) fun f=>some [D.s (sc (int u64 f))])) (aB (decide (c<=if d>i64.wrap A then d else i64.wrap A)) (aM (iE (false,b)/\0<=i64.wrap ((if d>i64.wrap A then d else i64.wrap A)-c)/\i64.wrap ((if d>i64.wrap A then d else i64.wrap A)-c)<4611686018427387904) (aD (isNeg F) fun g=>aD (M6.dg F.natAbs) fun h=>jA.J9 a d e (if d>i64.wrap A then d else i64.wrap A) g h)) (aM (iE (false,b)/\0<=i64.wrap B/\i64.wrap B<4611686018427387904) (aD (isNeg C) fun i=>aD (M6.dg C.natAbs) fun j=>jA.J9 a d e (if d>i64.wrap A then d else i64.wrap A) i j)))):=eJ aT
theorem aAU a b c d e f:J9 a b c d e f=aB (decide (0<(f.length:Int))) (if(0:Int)<=(0:Int)/\0<(f.length:Int)then jA.bCW a b c d (f.getD 0 0)else none) (jA.bCW a b c d 0):=cJ aT
theorem aEH a b c d e:bCW a b c d e=letI A:=u64.wrap (u64.wrap (i64.wrap (d-b))*(↑((2:Nat)^min (i64.wrap (a-1)).toNat 64):Int))+e;if i64.wrap (a-1)<0 then none else aM (kJ.vB (a,b,c)) (aD (kJ.oD (a,b,c)) fun f=>some [D.s (sc (int u64 (if f<u64.wrap A then f else u64.wrap A)))]):=cJ aT
def gJ(w:Int×Int×Int)(v:Nat)(e:Int):Int:=if w.2.1>e+(bl v:Nat)-1-w.1+1 then w.2.1 else e+(bl v:Nat)-1-w.1+1
def wH(w:Int×Int×Int)(v:Nat)(e:Int):Nat:=if e<=gJ w v e then oR.Ac v (gJ w v e-e)else v*2^(e-gJ w v e).toNat
def xE(w:Int×Int×Int)(v:Nat)(e:Int):Int:=if 1100<e+(bl v:Nat)-1 then kJ.oD w else(if kJ.oD w<(gJ w v e-w.2.1)*((2^(w.1-1).toNat:Nat):Int)+(wH w v e:Nat)then kJ.oD w else(gJ w v e-w.2.1)*((2^(w.1-1).toNat:Nat):Int)+(wH w v e:Nat))
theorem mP(v:Nat)(n:Int):oR.Ac v n<=v/2^n.toNat+1:=by
 unfold oR.Ac nY.wI;generalize oC.oB _ _ _ _ _=b;cases b
 ·exact Nat.le_succ _
 ·exact cBE _
theorem aLU{w:Int×Int×Int}(h:kJ.vB w){v:Nat}(e:Int):wH w v e<=2^53:=by
 have hm:w.1<=53:=by rcases h with rfl |rfl <;> decide
 have Sq:1<=w.1:=by rcases h with rfl |rfl <;> decide
 have hu:e+(bl v:Nat)-1-w.1+1<=gJ w v e:=by unfold gJ;split <;> omega
 have hv:=wL v;unfold wH;split
 ·rename_i he;refine cCA (mP _ _) ?_;have:v/2^(gJ w v e-e).toNat<2^53:=by
   apply cGY;rw[<-cGE];exact cCB hv (fK)
  omega
 ·rename_i he;have h1:v*2^(e-gJ w v e).toNat<=2^bl v*2^(e-gJ w v e).toNat:=cCT _ (Nat.le_of_lt hv);rw[<-cGE]at h1;exact cCA h1 (fK)
def sp(w:Int×Int×Int)(b:List Int)(e:Int):Prop×List D:=(kJ.vB w/\M6.cG b/\M6.val b≠0/\b.length<=8192/\-2000000<=e/\e<=2000000,[.s (.sc (.int .u64 (xE w (M6.val b) e)))])
theorem spec:oO E f54 aE (pG (.pair (sN .i64) (.pair (sN .i64) (sN .i64)))) (pI .u64) (pN .i64) sp:=by
 rintro w b e ⟨ht,hn,hv,hl,aGQ,aUW⟩;have hb:=zP hn.jE hl;have hm:w.1=24\/w.1=53:=by rcases ht with rfl |rfl <;> decide
 have bSE:-1074<=w.2.1/\w.2.1<=-149:=by rcases ht with rfl |rfl <;> decide
 refine(start w.1 w.2.1 w.2.2 b e).trans ?_;have w1:i64.wrap (i64.wrap (e+(bl (M6.val b):Int))-1)=e+(bl (M6.val b):Int)-1:=by
  rw[wrap_i64 (n:=e+_),wrap_i64]
 have w2:i64.wrap (i64.wrap (e+(bl (M6.val b):Int)-1-w.1)+1)=e+(bl (M6.val b):Int)-1-w.1+1:=by
  rw[wrap_i64 (n:=e+(bl (M6.val b):Int)-1-w.1) (by omega) (by omega),wrap_i64]
 have Qm:iE (false,b):=⟨hn,fun h=>(by cases h),hl⟩;have hu:(if w.2.1>e+(bl (M6.val b):Int)-1-w.1+1 then w.2.1 else e+(bl (M6.val b):Int)-1-w.1+1)=gJ w (M6.val b) e:=rfl;unfold sp xE
 try dsimp only
 rw[gP ⟨hn.jE,by omega⟩,w1,w2,hu];have bRP:gJ w (M6.val b) e<=3000000/\-3000000<=gJ w (M6.val b) e:=by unfold gJ;split <;> omega
 by_cases hc:1100<e+(bl (M6.val b):Int)-1
 ·rw[aN hc,if_pos hc,gP ht];simp only[aG]
 ·rw[aL hc,if_neg hc];have Nx:=aLU ht (v:=M6.val b) e;have bFS:w.2.1<=gJ w (M6.val b) e/\gJ w (M6.val b) e-w.2.1<=2122/\(w.1=24->gJ w (M6.val b) e-w.2.1<=2122):=by
   unfold gJ;rcases ht with rfl |rfl <;> ((try dsimp only);split <;> omega)
  have hU:wH w (M6.val b) e=if e<=gJ w (M6.val b) e then oR.Ac (M6.val b) (gJ w (M6.val b) e-e)else M6.val b*2^(e-gJ w (M6.val b) e).toNat:=rfl
  have j9:∀(p:Bool) (m:Nat),m<=2^53->J9 w.1 w.2.1 w.2.2 (gJ w (M6.val b) e) p (M6.dg m)=some [D.s (.sc (.int .u64 (if kJ.oD w<(gJ w (M6.val b) e-w.2.1)*((2^(w.1-1).toNat:Nat):Int)+(m:Nat)then kJ.oD w else(gJ w (M6.val b) e-w.2.1)*((2^(w.1-1).toNat:Nat):Int)+(m:Nat))))]:=by
   intro p m bXH;have hd0:(M6.dg m).getD 0 0=(m:Int):=by
    have h1:=M6.iL (a:=M6.dg m) 0;rw[cHL,M6.bD]at h1;have h2:=(M6.gH m).get 0;generalize M6.val ((M6.dg m).drop (0+1))=r at *;have:r=0:=by
     rcases cNG r with h |h
     ·exact h
     ·omega
    omega
   have j12:bCW w.1 w.2.1 w.2.2 (gJ w (M6.val b) e) (m:Int)=some [D.s (.sc (.int .u64 (if kJ.oD w<(gJ w (M6.val b) e-w.2.1)*((2^(w.1-1).toNat:Nat):Int)+(m:Nat)then kJ.oD w else(gJ w (M6.val b) e-w.2.1)*((2^(w.1-1).toNat:Nat):Int)+(m:Nat))))]:=by
    rw[aEH,wrap_i64 (n:=w.1-1),aO,gP ht,wrap_i64 (n:=gJ w (M6.val b) e-w.2.1),wrap_u64 (n:=gJ w (M6.val b) e-w.2.1)];simp only[aG];have bDJ:0<=gJ w (M6.val b) e-w.2.1/\gJ w (M6.val b) e-w.2.1<=2122:=by omega
    generalize gJ w (M6.val b) e-w.2.1=u at *;have hmul:u64.wrap (u64.wrap (u*((2^min (w.1-1).toNat 64:Nat):Int))+(m:Int))=u*((2^(w.1-1).toNat:Nat):Int)+(m:Int):=by
     rcases hm with h |h
     ·rw[h];show u64.wrap (u64.wrap (u*8388608)+(m:Int))=u*8388608+(m:Int);rw[wrap_u64 (n:=u*8388608),wrap_u64]
     ·rw[h];show u64.wrap (u64.wrap (u*4503599627370496)+(m:Int))=u*4503599627370496+(m:Int);rw[wrap_u64 (n:=u*4503599627370496),wrap_u64]
    rw[hmul]
   have hz:=M6.gM (n:=m);rw[aAU]
   by_cases Sq:m=0
   ·rw[aL (by have:=hz.2 Sq;omega)];subst Sq;exact j12
   ·rw[aN (by have:=fun h=>Sq (hz.1 h);omega),if_pos ⟨by omega,by have:=fun h=>Sq (hz.1 h);omega⟩,hd0,j12]
  rw[hU]at Nx ⊢
  by_cases hle:e<=gJ w (M6.val b) e
  ·rw[if_pos hle]at Nx ⊢;rw[aN hle,wrap_i64 (n:=gJ w (M6.val b) e-e),gP ⟨Qm,by omega,by omega⟩];simp only[aG];rw[kR,j9 _ _ Nx]
  ·rw[if_neg hle]at Nx ⊢;have bFW:fit (M6.val b*2^(e-gJ w (M6.val b) e).toNat)=true:=decide_eq_true (by
    have:bl (M6.val b*2^(e-gJ w (M6.val b) e).toNat)<=54:=dK.2 (by omega);omega)
   rw[aL hle,wrap_i64 (n:=e-gJ w (M6.val b) e),gP ⟨Qm,by omega,by omega⟩];simp only[aG];have bWC:wv (false,b)=(M6.val b:Int):=rfl;rw[bFW,cond_true,bWC,<-cHC,cGW,j9 _ _ Nx]
def aI:dJ:=orc3 (pG (.pair (sN .i64) (.pair (sN .i64) (sN .i64)))) (pI .u64) (pN .i64) sp
theorem ok:OK 54 aI:=(eB E aE (aA uA.ok (aA kJ.ok (aA oR.ok (aA Cp.ok aC)))) func54).xX rfl spec
end jA
namespace oX
def E:=mE [] 14 [] [] []
def aE:=bd f53
theorem aT:Nk E aE:=nk
theorem start a d e b c:aF E f53 aE [D.agg [sc (int i64 a),sc (int i64 d),sc (int i64 e)],D.s (sc (bool b)),D.s (sc (int u64 c))]=aB b (if e<0 then none else some [D.s (sc (int u64 (fO BinOp.or u64 c (u64.wrap ((1:Int)*(↑((2:Nat)^min e.toNat 64):Int))))))]) (some [D.s (sc (int u64 c))]):=eJ aT
def aSG(w:Int×Int×Int)(b:Bool)(c:Int):Int:=bif b then c+(if w.1=24 then 2147483648 else 9223372036854775808)else c
def sp(w:Int×Int×Int)(b:Bool)(c:Int):Prop×List D:=(kJ.vB w/\0<=c/\c<=kJ.oD w,[.s (.sc (.int .u64 (aSG w b c)))])
theorem spec:oO E f53 aE (pG (.pair (sN .i64) (.pair (sN .i64) (sN .i64)))) pB (pN .u64) sp:=by
 rintro w b c ⟨ht,h0,h1⟩;refine(start w.1 w.2.1 w.2.2 b c).trans ?_;unfold sp aSG;obtain⟨n,rfl⟩:=cGG h0;rcases ht with rfl |rfl
 ·have h1:(n:Int)<=2139095040:=h1;have e:=cKB (i:=31) (b:=n) (by omega) 1;cases b with
  |false=>rfl
  |true =>
   rw[bT,if_neg (by decide)];show some [D.s (.sc (.int .u64 (fO .or .u64 (n:Int) 2147483648)))]=_;rw[Yg (by omega) (by omega) (by omega) (by omega),cFB,cKA];rw[cBO]at e;rw[show(2147483648:Int).toNat=2^31 from rfl,<-e];show some [D.s (.sc (.int .u64 ((2^31+n:Nat):Int)))]=some [D.s (.sc (.int .u64 ((n:Int)+2147483648)))];rw[cME,Int.add_comm];rfl
 ·have h1:(n:Int)<=9218868437227405312:=h1;have e:=cKB (i:=63) (b:=n) (by omega) 1;cases b with
  |false=>rfl
  |true =>
   rw[bT,if_neg (by decide)];show some [D.s (.sc (.int .u64 (fO .or .u64 (n:Int) 9223372036854775808)))]=_;rw[Yg (by omega) (by omega) (by omega) (by omega),cFB,cKA];rw[cBO]at e;rw[show(9223372036854775808:Int).toNat=2^63 from rfl,<-e];show some [D.s (.sc (.int .u64 ((2^63+n:Nat):Int)))]=some [D.s (.sc (.int .u64 ((n:Int)+9223372036854775808)))];rw[cME,Int.add_comm];rfl
def aI:dJ:=orc3 (pG (.pair (sN .i64) (.pair (sN .i64) (sN .i64)))) pB (pN .u64) sp
theorem ok:OK 53 aI:=(eB E aE aC func53).xX rfl spec
end oX
namespace gG
def E:=mE [(52,Ch.aI),(45,nA.aI),(54,jA.aI),(53,oX.aI)] 35 [34] [] []
def aE:=bd f15
theorem aT:Nk E aE:=nk
theorem start a b c d:aF E f15 aE [D.s (sc (int i64 a)),D.agg [sc (bool b),ints u64 c,sc (int i64 d)]]=letI A:=Ch.Eb a;aM True (aD A.snd.fst fun e=>aD A.snd.snd fun f=>letI B:=(A.fst,e,f);aB (A.fst==0&&(e==0&&(f==0&&true))) (some [D.s (sc (int u64 0)),D.s (sc (int i64 1))]) (aM (aU (b,c,d)) (aB ((c.length:Int)==(0:Int)) (some [D.s (sc (int u64 0)),D.s (sc (int i64 0))]) (aM (kJ.vB B/\M6.cG c/\M6.val c≠0/\c.length<=8192/\(-2000000:Int)<=d/\d<=2000000) (aD (jA.xE B (M6.val c) d) fun g=>aM (kJ.vB B/\0<=g/\g<=kJ.oD B) (aD (oX.aSG B b g) fun h=>some [D.s (sc (int u64 h)),D.s (sc (int i64 0))])))))):=eJ aT
def iN(f:Int)(p:Int×Int):Int:=if p.1=0 then 0 else oX.aSG (Ch.Eb f) (isNeg p.1) (jA.xE (Ch.Eb f) p.1.natAbs p.2)
theorem Hn{f:Int}(h:f=32\/f=64):kJ.vB (Ch.Eb f):=by
 rcases h with rfl |rfl
 ·exact .inl rfl
 ·exact .inr rfl
theorem aFH{w:Int×Int×Int}(h:kJ.vB w)(v:Nat)(e:Int):0<=jA.xE w v e/\jA.xE w v e<=kJ.oD w:=by
 have hi:0<=kJ.oD w:=by unfold kJ.oD;split <;> omega
 have hu:0<=jA.gJ w v e-w.2.1:=by unfold jA.gJ;split <;> omega
 have hm:=cMS hu (cKX (2^(w.1-1).toNat));unfold jA.xE;split
 ·omega
 ·split <;> omega
def sp(f:Int)(x:gW):Prop×List D:=((f=32\/f=64)/\aU x,[.s (.sc (.int .u64 (iN f (dv x)))),.s (.sc (.int .i64 0))])
theorem spec:fL E f15 aE (pN .i64) kF sp:=by
 rintro f x ⟨hf,hx⟩;have ht:=Hn hf;have he:=hx.2.1;refine(start f x.1 x.2.1 x.2.2).trans ?_;have h0:((Ch.Eb f).1==0)=false:=by rcases hf with rfl |rfl <;> rfl
 simp only[aG];rw[gP trivial,h0,cGN,bF,gP hx];have hz:=M6.cZ hx.Kk;have hd:(dv x).1=wv (x.1,x.2.1):=rfl;have ha:(dv x).1.natAbs=M6.val x.2.1:=jB (x.1,x.2.1);have hs:isNeg (dv x).1=x.1:=hx.Fo.cells.1;unfold sp iN
 try dsimp only
 rw[ha,hs]
 by_cases hl:x.2.1.length=0
 ·rw[bI,if_pos (by have:=hz.1 hl;omega)]
 ·have hv:M6.val x.2.1≠0:=fun h=>hl (hz.2 h)
  have hb:=aFH ht (M6.val x.2.1) x.2.2;rw[bA,aO,gP ⟨ht,hx.Kk,hv,hx.len,by omega,by omega⟩,gP ⟨ht,hb⟩];rfl
def aI:dJ:=orc2 (pN .i64) kF sp
theorem ok:OK 15 aI:=(eB E aE (aA Ch.ok (aA nA.ok (aA jA.ok (aA oX.ok aC)))) func15).lF rfl spec
end gG
namespace kC
def E:=mE [(149,nY.aI)] 11 [8] [] []
def aE:=bd f192
theorem aT:Nk E aE:=nk
theorem start a c b:aF E f192 aE [D.agg [sc (bool a),ints u64 c],D.s (sc (int i64 b))]=letI A:=nY.wI 0 a (M6.val c) b;letI B:=bif fit A then zs a A else(0:Int);aM (iE (a,c)/\0<=b/\b<4611686018427387904) (some [D.agg [sc (bool (isNeg B)),ints u64 (M6.dg B.natAbs)],D.s (sc (int i64 (bif fit A then(0:Int)else(5:Int))))]):=eJ aT
theorem Ya{v:Nat}{n:Int}(h:0<=n):nY.aFN v n=decide (v%2^n.toNat≠0):=by
 unfold nY.aFN
 by_cases hv:v=0
 ·subst hv;rw[decide_eq_false (by omega),cGN,cIZ];rfl
 ·rw[decide_eq_true hv,cEG];have hs:=pT v hv;obtain⟨k,rfl⟩:=cGG h;rw[cFB];generalize tz v=j at *
  by_cases hk:j<k
  ·have:v%2^k≠0:=by
    intro hm;have e1:v=2^k*(v/2^k):=by have:=cGK v (2^k);omega
    have e2:v/2^j=2*(2^(k-j-1)*(v/2^k)):=by
     have hp:2^k=2^j*(2*2^(k-j-1)):=by
      rw[<-Nat.pow_succ',<-cGE];congr 1;omega
     generalize v/2^k=t at e1 ⊢;rw[e1,hp,cGH,Nat.mul_div_cancel_left _ (cEE (by decide)),cGH]
    omega
   rw[decide_eq_true (by omega),decide_eq_true this]
  ·have:v%2^k=0:=by
    have hp:2^j=2^k*2^(j-k):=by rw[<-cGE];congr 1;omega
    have e1:v=2^j*(v/2^j):=by have:=cGK v (2^j);omega
    rw[e1,hp,cGH,Nat.mul_mod_right]
   rw[decide_eq_false (by omega),decide_eq_false (by omega)]
theorem down{p:Bool}{v:Nat}{n:Int}(h:0<=n):zs p (nY.wI 0 p v n)=zs p v/((2^n.toNat:Nat):Int):=by
 unfold nY.wI oC.oB;rw[Ya h,show((0:Int)==0)=true from rfl,cond_true];have hp:0<2^n.toNat:=cY;have hd:=cGK v (2^n.toNat);have hm:=cDM v hp;generalize 2^n.toNat=q at *;cases p with
 |false =>
  rw[cGN,cond_false,cCC];show((v/q:Nat):Int)=(v:Int)/(q:Int);rw[cGU]
 |true =>
  rw[cEG];show -(((v/q+bif decide (v%q≠0)then 1 else 0:Nat)):Int)=-(v:Int)/(q:Int)
  by_cases hz:v%q=0
  ·rw[decide_eq_false (by omega),cond_false,cCC];have e:-(v:Int)=(q:Int)*(-((v/q:Nat):Int)):=by
    rw[cKE,<-cHC];omega
   rw[e,Int.mul_ediv_cancel_left _ (by omega)]
  ·rw[decide_eq_true hz,cond_true];have e:-(v:Int)=((q-v%q:Nat):Int)+(q:Int)*(-((v/q+1:Nat):Int)):=by
    rw[cKE,<-cHC,cGF];omega
   rw[e,Int.add_mul_ediv_left _ _ (by omega),Int.ediv_eq_zero_of_lt (by omega) (by omega),Int.zero_add]
theorem small{p:Bool}{v:Nat}{n:Int}(h:0<=n)(hb:bl v<=524288):fit (nY.wI 0 p v n)=true:=by
 refine decide_eq_true (cCA (gF ?_) hb);unfold nY.wI oC.oB;rw[Ya h,show((0:Int)==0)=true from rfl,cond_true];have hp:0<2^n.toNat:=cY
 by_cases hz:v%2^n.toNat=0
 ·rw[decide_eq_false (by omega),cGQ,cond_false];exact cJR _ _
 ·have h2:2<=2^n.toNat:=by
   refine cDY fun hc=>hz ?_
   rw[show 2^n.toNat=1 from by omega,Nat.mod_one]
  have:v/2^n.toNat<=v/2:=cLX h2 (by omega);have hv:v≠0:=fun h=>hz (by rw[h,cIZ])
  have:(bif p&&decide (v%2^n.toNat≠0)then(1:Nat)else 0)<=1:=by cases p <;> cases decide (v%2^n.toNat≠0) <;> decide
  omega
def sp(x:Bool×List Int)(n:Int):Prop×List D:=(iE x/\0<=n/\n<4611686018427387904,[wD (wv x/((2^n.toNat:Nat):Int)),.s (.sc (.int .i64 0))])
theorem spec:fL E f192 aE pV (pN .i64) sp:=by
 intro x n h;have h':=h;obtain⟨hx,h0,h1⟩:=h;refine(start x.1 x.2 n).trans ((gP h').trans ?_);unfold sp
 try dsimp only
 rw[small h0 hx.bl];show some (wE true _)=_;rw[down h0];rfl
def aI:dJ:=orc2 pV (pN .i64) sp
theorem ok:OK 192 aI:=(eB E aE (aA nY.ok aC) func192).lF rfl spec
end kC
namespace bDD
def E:=mE [(192,kC.aI)] 22 [] [] []
def aE:=bd f150
theorem aT:Nk E aE:=nk
theorem start a d b c:aF E f150 aE [D.agg [sc (bool a),ints u64 d],D.s (sc (int i64 b)),D.s (sc (bool c))]=letI A:=wv (a,d)/(↑((2:Nat)^b.toNat):Int);aB c none (aM (iE (a,d)/\0<=b/\b<4611686018427387904) (some [D.agg [sc (bool (isNeg A)),ints u64 (M6.dg A.natAbs)]])):=eJ aT
def sp(x:Bool×List Int)(n:Int)(up:Bool):Prop×List D:=(iE x/\(0<=n/\n<4611686018427387904)/\up=false,[wD (wv x/((2^n.toNat:Nat):Int))])
theorem spec:oO E f150 aE pV (pN .i64) pB sp:=by
 rintro x n up ⟨h1,h2,rfl⟩;refine(start x.1 x.2 n false).trans ?_;rw[bF,gP ⟨h1,h2⟩];rfl
def aI:dJ:=orc3 pV (pN .i64) pB sp
theorem ok:OK 150 aI:=(eB E aE (aA kC.ok aC) func150).xX rfl spec
end bDD
namespace rD
def E:=mE [(45,nA.aI),(46,nN.aI),(47,Hj.aI),(106,uA.aI),(150,bDD.aI),(50,kG.aI)] 49 [46] [(5,[1,2,3,6]),(8,[1,2,3,6,8])] [5,8]
def aE:=bd f108
theorem aT:Nk E aE:=nk
def J5 a b c d e f g:=lP E f108 aE 5 [bN a,rY b,dS 2 29 [dG c,gO d,cP e],dS 3 29 [dG f,sc (slice none 0 0),cP g]]
def J8 a b c d e f g h:=lP E f108 aE 8 [bN a,rY b,dS 2 29 [dG c,gO d,cP e],dS 3 29 [dG f,sc (slice none 0 0),cP g],bN h]
theorem start a d e b c:aF E f108 aE [D.agg [sc (bool a),ints u64 d,sc (int i64 e)],D.s (sc (int i64 b)),D.s (sc (bool c))]=letI A:=aM (d.length<=1099511627776) (some [D.agg [sc (bool a),ints u64 d,sc (int i64 e)],D.s (sc (int i64 0))]);aM (aU (a,d,e)) (aM True (aB ((d.length:Int)==(0:Int)) A (aB (decide (b<=e)) A (rD.J5 b c a d e false 0)))):=eJ aT
theorem aAV a b c d e f g:J5 a b c d e f g=letI A:=(↑(bl (M6.val d)):Int);aM (M6.bZ d/\d.length<=1099511627776) (aB (decide (a<i64.wrap (e+i64.wrap (A+(1:Int))))) (rD.J8 a b c d e f g (i64.wrap (a-e))) (rD.J8 a b c d e f g (i64.wrap (A+(1:Int))))):=cJ aT
theorem Ai a b c d e f g h:J8 a b c d e f g h=letI C:=wv (c,d)/(↑((2:Nat)^h.toNat):Int);letI A:=(isNeg C,M6.dg C.natAbs);letI B:=bif iQ (wv A) a then aR (wv A) a else((0:Int),(0:Int));aM (iE (c,d)/\(0<=h/\h<4611686018427387904)/\b=false) (aM (iE A/\(-9223372036854775808:Int)<=a/\a<9223372036854775808) (some [D.agg [sc (bool (isNeg B.fst)),ints u64 (M6.dg B.fst.natAbs),sc (int i64 B.snd)],D.s (sc (int i64 (bif iQ (wv A) a then(0:Int)else(5:Int))))])):=cJ aT
def Bs(p:Int×Int)(b:Int):Int×Int:=if p.1=0\/b<=p.2 then p else aR (p.1/((2^(b-p.2).toNat:Nat):Int)) b
def uM(p:Int×Int)(b:Int):Bool:=decide (p.1=0\/b<=p.2)||iQ (p.1/((2^(b-p.2).toNat:Nat):Int)) b
def sp(x:gW)(b:Int)(up:Bool):Prop×List D:=(aU x/\(-4611686018427387904<=b/\b<4611686018427387904)/\up=false,dE (uM (dv x) b) (Bs (dv x) b))
theorem spec:oO E f108 aE kF (pN .i64) pB sp:=by
 rintro x k up ⟨h,hk,rfl⟩;refine(start x.1 x.2.1 x.2.2 k false).trans ?_;have hl:=h.len;have hd:=h.dD;have hr:=h.2.1;have hb:=h.Fo.bl;have hw:=h.Fo;have hn:=h.Kk;obtain⟨b,a,e⟩:=x
 try dsimp only at *
 unfold sp
 try dsimp only
 have hz:=M6.cZ hn;have ha:=jB (b,a)
 try dsimp only at ha hz
 rw[gP h,gP trivial];have same:((dv (b,a,e)).1=0\/k<=(dv (b,a,e)).2)->dE (uM (dv (b,a,e)) k) (Bs (dv (b,a,e)) k)=[D.agg [.sc (.bool b),.ints .u64 a,.sc (.int .i64 e)],.s (.sc (.int .i64 0))]:=by
  intro hc;unfold uM Bs;rw[decide_eq_true hc,cGO,if_pos hc];show [M.dD (dv (b,a,e)),_]=_;rw[hd];rfl
 by_cases h0:a.length=0
 ·rw[bI,gP,same (.inl (by have:=hz.1 h0;show wv (b,a)=0;omega))]
 ·rw[bA]
  by_cases h1:k<=e
  ·rw[aN h1,gP,same (.inr h1)]
  ·have aIR:wv (b,a)≠0:=by have:M6.val a≠0:=fun h=>h0 (hz.2 h);omega
   have Al:¬((dv (b,a,e)).1=0\/k<=(dv (b,a,e)).2):=by
    rintro (hc |hc)
    ·exact aIR hc
    ·exact h1 hc
   have j8:∀n:Int,0<=n->n<4611686018427387904->wv (b,a)/((2^n.toNat:Nat):Int)=wv (b,a)/((2^(k-e).toNat:Nat):Int)->J8 k false b a e false 0 n=some (dE (uM (dv (b,a,e)) k) (Bs (dv (b,a,e)) k)):=by
    intro n Dw aCQ he;have hq:bl (wv (b,a)/((2^(k-e).toNat:Nat):Int)).natAbs<=524288:=cCA (gF (tJ (cEE (by decide)))) (by rw[ha];exact hb);rw[Ai,gP ⟨hw,⟨Dw,aCQ⟩,rfl⟩,he,gP ⟨gN hq,by omega,by omega⟩,oI];unfold uM Bs;rw[decide_eq_false Al,cDF,if_neg Al];rfl
   rw[aL h1,aAV,gP ⟨hn.jE,by omega⟩,wrap_i64 (n:=(bl (M6.val a):Int)+1) (by omega) (by omega),wrap_i64 (n:=e+((bl (M6.val a):Int)+1)) (by omega) (by omega),wrap_i64 (n:=k-e)]
   by_cases h2:k<e+((bl (M6.val a):Int)+1)
   ·rw[aN h2,j8 _ (by omega) (by omega) rfl]
   ·rw[aL h2,j8 _ (by omega) (by omega) (cAB (by rw[ha];omega) (by rw[ha];omega))]
def aI:dJ:=orc3 kF (pN .i64) pB sp
theorem ok:OK 108 aI:=(eB E aE (aA nA.ok (aA nN.ok (aA Hj.ok (aA uA.ok (aA bDD.ok (aA kG.ok aC)))))) func108).xX rfl spec
end rD
end W
namespace M
open Go AI W
theorem aJG{z e b:Int}(h:e<=b):rD.Bs (aR z e) b=aR (z/p2 (b-e)) b:=by
 unfold rD.Bs
 by_cases hz:z=0
 ·subst hz;rw[fR,if_pos (.inl rfl),Int.zero_ediv,fR]
 ·obtain⟨h1,h2⟩:=mB (e:=e) hz;have hn:(aR z e).1≠0:=fun h=>hz (dZ.1 h)
  by_cases hb:b<=(aR z e).2
  ·rw[if_pos (.inr hb)];have g:=wC (e:=e) hz (cMA e);rw[cMF,aFX,cMT]at g;have e1:p2 ((aR z e).2-e)=p2 ((aR z e).2-b)*p2 (b-e):=by rw[<-uH (by omega) (by omega)];congr 1;omega
   rw[e1,<-cHR]at g;have hp:=Ib (b-e);have:z/p2 (b-e)=(aR z e).1*p2 ((aR z e).2-b):=by
    generalize aR z e=p at *;rw[<-g,Int.mul_ediv_cancel _ (by omega)]
   rw[this,zC _ _ (by omega),show b+((aR z e).2-b)=(aR z e).2 by omega,Si Es Gc]
  ·rw[aO];have e1:p2 (b-e)=p2 (b-(aR z e).2)*p2 (tz z.natAbs:Int):=by rw[<-uH (by omega) (by omega)];congr 1;omega
   rw[e1];have hp:=Ib (tz z.natAbs:Int);have:z/(p2 (b-(aR z e).2)*p2 (tz z.natAbs:Int))=(aR z e).1/p2 (b-(aR z e).2):=by
    generalize aR z e=p at *;generalize p2 (tz z.natAbs:Int)=q at *;rw[h1,cNK _ _ hp]
   rw[this];rfl
theorem aDC{z e b:Int}(_:e<=b)(hb0:-1048576<=b)(hb:b+((bl (z/p2 (b-e)).natAbs:Nat):Int)<=1048577):rD.uM (aR z e) b=true:=by
 unfold rD.uM
 by_cases hc:(aR z e).1=0\/b<=(aR z e).2
 ·rw[decide_eq_true hc,cGO]
 ·have hz:z≠0:=fun h=>hc (.inl (dZ.2 h))
  obtain⟨h1,h2⟩:=mB (e:=e) hz;have e1:p2 (b-e)=p2 (b-(aR z e).2)*p2 (tz z.natAbs:Int):=by rw[<-uH (by omega) (by omega)];congr 1;omega
  have hp:=Ib (tz z.natAbs:Int);have:z/p2 (b-e)=(aR z e).1/p2 (b-(aR z e).2):=by
   rw[e1];generalize aR z e=p at *;generalize p2 (tz z.natAbs:Int)=q at *;rw[h1,cNK _ _ hp]
  rw[this]at hb;rw[decide_eq_false hc,cDF];exact iM hb0 hb
end M
namespace W
open Go AI M
namespace aH
def E:=mE [] 11 [] [] []
def aE:=bd f78
theorem aT:Nk E aE:=nk
theorem start a:aF E f78 aE [D.s (sc (int i64 a))]=letI A:=int i64 0;aB (a==32) (some [D.agg [sc (int i64 32),sc (int i64 24),sc (int i64 (-149:Int)),sc (int u64 2143289345)]]) (aB (a==64) (some [D.agg [sc (int i64 64),sc (int i64 53),sc (int i64 (-1074:Int)),sc (int u64 9221120237041090561)]]) (some [D.agg [sc A,sc A,sc A,sc (int u64 0)]])):=eJ aT
def fD(f:Int):Int×Int×Int×Int:=if f=32 then(32,24,-149,2143289345)else if f=64 then(64,53,-1074,9221120237041090561)else(0,0,0,0)
def bJC(s:Int×Int×Int×Int):D:=.agg [.sc (.int .i64 s.1),.sc (.int .i64 s.2.1),.sc (.int .i64 s.2.2.1),.sc (.int .u64 s.2.2.2)]
def vB(s:Int×Int×Int×Int):Prop:=s=(32,24,-149,2143289345)\/s=(64,53,-1074,9221120237041090561)
theorem two32:vB (32,24,-149,2143289345):=.inl rfl
theorem uU:vB (64,53,-1074,9221120237041090561):=.inr rfl
def sp(f:Int):Prop×List D:=(True,[bJC (fD f)])
theorem spec:iU E f78 aE (pN .i64) sp:=by
 intro f h;refine(start f).trans ?_;unfold sp fD
 try dsimp only
 by_cases h1:f=32
 ·rw[bI h1,if_pos h1];rfl
 ·rw[bA h1,if_neg h1]
  by_cases h2:f=64
  ·rw[bI h2,if_pos h2];rfl
  ·rw[bA h2,if_neg h2];rfl
def aI:dJ:=orc1 (pN .i64) sp
theorem ok:OK 78 aI:=(eB E aE aC func78).oS rfl spec
end aH
namespace cA
def E:=mE [] 7 [] [] []
def aE:=bd f135
theorem aT:Nk E aE:=nk
theorem start a b c d:aF E f135 aE [D.agg [sc (int i64 a),sc (int i64 b),sc (int i64 c),sc (int u64 d)]]=if i64.wrap (a-1)<0 then none else some [D.s (sc (int u64 (u64.wrap ((1:Int)*(↑((2:Nat)^min (i64.wrap (a-1)).toNat 64):Int)))))]:=eJ aT
def cF(s:Int×Int×Int×Int):Int:=if s.1=32 then 2147483648 else 9223372036854775808
def sp(s:Int×Int×Int×Int):Prop×List D:=(aH.vB s,[.s (.sc (.int .u64 (cF s)))])
theorem spec:iU E f135 aE (pG (.pair (sN .i64) (.pair (sN .i64) (.pair (sN .i64) (sN .u64))))) sp:=by
 intro s h;refine(start s.1 s.2.1 s.2.2.1 s.2.2.2).trans ?_;rcases h with rfl |rfl
 ·rfl
 ·rfl
def aI:dJ:=orc1 (pG (.pair (sN .i64) (.pair (sN .i64) (.pair (sN .i64) (sN .u64))))) sp
theorem ok:OK 135 aI:=(eB E aE aC func135).oS rfl spec
end cA
namespace cD
def E:=mE [(78,aH.aI),(135,cA.aI)] 36 [] [(6,[1,4,8])] [6]
def aE:=bd f77
theorem aT:Nk E aE:=nk
def J6 a b c d e f g h i:=lP E f77 aE 6 [dO a,dS 1 84 [cP b,cP c,cP d,rN e],dS 2 84 [cP f,cP g,cP h,rN i]]
theorem start a b:aF E f77 aE [D.s (sc (int i64 a)),D.s (sc (int u64 b))]=letI A:=aH.fD a;letI G:=int i64 A.snd.fst;letI F:=int u64 A.snd.snd.snd;letI C:=int i64 A.snd.snd.fst;letI B:=cD.J6 b 0 0 0 0 A.fst A.snd.fst A.snd.snd.fst A.snd.snd.snd;aM True (aB (A.fst==0&&(A.snd.fst==0&&(A.snd.snd.fst==0&&(A.snd.snd.snd==0&&true)))) (some [D.agg [sc (int i64 A.fst),sc G,sc C,sc F],D.s (sc (bool false)),D.s (sc (int u64 0)),D.s (sc (int i64 1))]) (aB (decide (A.fst<64)) (if A.fst<0 then none else aB (b/(↑((2:Nat)^min A.fst.toNat 64):Int) !=(0:Int)) (some [D.agg [sc (int i64 A.fst),sc G,sc C,sc F],D.s (sc (bool false)),D.s (sc (int u64 0)),D.s (sc (int i64 2))]) B) B)):=eJ aT
theorem vE a b c d e f g h i:J6 a b c d e f g h i=letI A:=(f,g,h,i);aM (aH.vB A) (aM (aH.vB A) (some [D.agg [sc (int i64 f),sc (int i64 g),sc (int i64 h),sc (int u64 i)],D.s (sc (bool (fO BinOp.and u64 a (cA.cF A) !=0))),D.s (sc (int u64 (fO BinOp.andNot u64 a (cA.cF A)))),D.s (sc (int i64 0))])):=cJ aT
theorem aAJ{a b:Int}(ha:0<=a)(bKG:a<18446744073709551616)(hb:0<=b)(tR:b<18446744073709551616):fO .andNot .u64 a b=((a.toNat &&& (2^64-(b.toNat+1)):Nat):Int):=by
 obtain⟨n,rfl⟩:=cGG ha;obtain⟨m,rfl⟩:=cGG hb;rw[wS];unfold bitsI0;simp only;have e:(BitVec.ofInt u64.bits (n:Int) &&& ~~~ BitVec.ofInt u64.bits (m:Int)).toNat=n &&& (2^64-(m+1)):=by
  show(BitVec.ofInt 64 (n:Int) &&& ~~~ BitVec.ofInt 64 (m:Int)).toNat=_;rw[BitVec.toNat_and,BitVec.toNat_not];have e1:(BitVec.ofInt 64 (n:Int)).toNat=n:=by simp;omega
  have e2:(BitVec.ofInt 64 (m:Int)).toNat=m:=by simp;omega
  rw[e1,e2];congr 1;omega
 have hle:n &&& (2^64-(m+1))<=n:=Nat.and_le_left;rw[e,wrap_u64];rfl
theorem Tg{n k:Nat}(hk:k<64)(h:n<2^(k+1)):n &&& (2^64-(2^k+1))=n%2^k:=by
 refine cMJ fun i=>?_
 have hp:2^k<2^64:=cHX (by decide) hk;rw[cMH,cNC hp,cMC,cMU]
 by_cases h1:i<k
 ·have:¬k=i:=by omega
  have bTF:i<64:=by omega
  simp[h1,this,bTF]
 ·by_cases h2:i=k
  ·subst h2;simp
  ·have:n<2^i:=cCB h (cEF (by decide) (by omega));rw[cNL this];simp
theorem aER{n k:Nat}(h:n<2^(k+1)):(n &&& 2^k)=if 2^k<=n then 2^k else 0:=by
 refine cMJ fun i=>?_
 rw[cMH,cMU]
 by_cases h1:2^k<=n
 ·have ht:n.testBit k=true:=by
   rw[Nat.testBit_eq_decide_div_mod_eq];have:=cLY (k:=1) (show 1*2^k<=n by omega) (show n<(1+1)*2^k by rw[cGD]at h;omega);rw[this];rfl
  rw[if_pos h1,cMU]
  by_cases hi:k=i
  ·subst hi;simp[ht]
  ·simp[hi]
 ·rw[if_neg h1,Nat.zero_testBit]
  by_cases hi:k=i
  ·subst hi;rw[cNL (by omega)];rfl
  ·simp[hi]
def eZ(f b:Int):Bool:=decide (f=64)||decide (b<4294967296)
def sp(f b:Int):Prop×List D:=((f=32\/f=64)/\0<=b/\b<18446744073709551616,[aH.bJC (aH.fD f),.s (.sc (.bool (eZ f b&&decide (cA.cF (aH.fD f)<=b)))),.s (.sc (.int .u64 (bif eZ f b then b%cA.cF (aH.fD f)else 0))),.s (.sc (.int .i64 (bif eZ f b then 0 else 2)))])
theorem spec:fL E f77 aE (pN .i64) (pN .u64) sp:=by
 rintro f b ⟨hf,h0,h1⟩;obtain⟨n,rfl⟩:=cGG h0;refine(start f n).trans ((gP trivial).trans ?_);unfold sp
 try dsimp only
 rcases hf with rfl |rfl
 ·rw[show aH.fD 32=(32,24,-149,2143289345)from rfl]
  try dsimp only
  rw[Pj (by decide),aN (by decide),if_neg (by decide),show min (32:Int).toNat 64=32 from rfl,show cA.cF (32,24,-149,2143289345)=2147483648 from rfl]
  by_cases hc:(n:Int)<4294967296
  ·have hp:eZ 32 n=true:=by unfold eZ;rw[decide_eq_true hc,Bool.or_true]
   have a1:fO .and .u64 (n:Int) 2147483648=if(2147483648:Int)<=n then 2147483648 else 0:=by
    rw[aAK (by omega) (by omega) (by omega) (by omega),cFB];have:=aER (n:=n) (k:=31) (by omega);rw[show(2147483648:Int).toNat=2^31 from rfl,this];split <;> split <;> first |rfl |omega
   have a2:fO .andNot .u64 (n:Int) 2147483648=(n:Int)%2147483648:=by
    rw[aAJ (by omega) (by omega) (by omega) (by omega),cFB,show(2147483648:Int).toNat=2^31 from rfl,Tg (by omega) (by omega)];omega
   rw[gD,vE,gP aH.two32,gP aH.two32,show cA.cF (32,24,-149,2143289345)=2147483648 from rfl,a1,a2,hp]
   by_cases hd:(2147483648:Int)<=n
   ·rw[if_pos hd,decide_eq_true hd];rfl
   ·rw[if_neg hd,decide_eq_false hd];rfl
  ·have hp:eZ 32 n=false:=by unfold eZ;rw[decide_eq_false hc];rfl
   rw[nW,hp];rfl
 ·rw[show aH.fD 64=(64,53,-1074,9221120237041090561)from rfl]
  try dsimp only
  have hp:eZ 64 n=true:=rfl;have a1:fO .and .u64 (n:Int) 9223372036854775808=if(9223372036854775808:Int)<=n then 9223372036854775808 else 0:=by
   rw[aAK (by omega) (by omega) (by omega) (by omega),cFB];have:=aER (n:=n) (k:=63) (by omega);rw[show(9223372036854775808:Int).toNat=2^63 from rfl,this];split <;> split <;> first |rfl |omega
  have a2:fO .andNot .u64 (n:Int) 9223372036854775808=(n:Int)%9223372036854775808:=by
   rw[aAJ (by omega) (by omega) (by omega) (by omega),cFB,show(9223372036854775808:Int).toNat=2^63 from rfl,Tg (by omega) (by omega)];omega
  rw[Pj (by decide),aL (by decide),vE,gP aH.uU,gP aH.uU,show cA.cF (64,53,-1074,9221120237041090561)=9223372036854775808 from rfl,a1,a2,hp]
  by_cases hd:(9223372036854775808:Int)<=n
  ·rw[if_pos hd,decide_eq_true hd];rfl
  ·rw[if_neg hd,decide_eq_false hd];rfl
def aI:dJ:=orc2 (pN .i64) (pN .u64) sp
theorem ok:OK 77 aI:=(eB E aE (aA aH.ok (aA cA.ok aC)) func77).lF rfl spec
end cD
namespace cO
def E:=mE [] 7 [] [] []
def aE:=bd f94
theorem aT:Nk E aE:=nk
theorem start a b c d:aF E f94 aE [D.agg [sc (int i64 a),sc (int i64 b),sc (int i64 c),sc (int u64 d)]]=if i64.wrap (b-1)<0 then none else some [D.s (sc (int u64 (u64.wrap ((1:Int)*(↑((2:Nat)^min (i64.wrap (b-1)).toNat 64):Int)))))]:=eJ aT
def lC(s:Int×Int×Int×Int):Int:=if s.1=32 then 8388608 else 4503599627370496
def sp(s:Int×Int×Int×Int):Prop×List D:=(aH.vB s,[.s (.sc (.int .u64 (lC s)))])
theorem spec:iU E f94 aE (pG (.pair (sN .i64) (.pair (sN .i64) (.pair (sN .i64) (sN .u64))))) sp:=by
 intro s h;refine(start s.1 s.2.1 s.2.2.1 s.2.2.2).trans ?_;rcases h with rfl |rfl
 ·rfl
 ·rfl
def aI:dJ:=orc1 (pG (.pair (sN .i64) (.pair (sN .i64) (.pair (sN .i64) (sN .u64))))) sp
theorem ok:OK 94 aI:=(eB E aE aC func94).oS rfl spec
end cO
namespace lE
def E:=mE [(135,cA.aI),(94,cO.aI)] 8 [] [] []
def aE:=bd f81
theorem aT:Nk E aE:=nk
theorem start a b c d:aF E f81 aE [D.agg [sc (int i64 a),sc (int i64 b),sc (int i64 c),sc (int u64 d)]]=letI A:=(a,b,c,d);aM (aH.vB A) (aM (aH.vB A) (some [D.s (sc (int u64 (u64.wrap (cA.cF A-cO.lC A))))])):=eJ aT
def mW(s:Int×Int×Int×Int):Int:=if s.1=32 then 2139095040 else 9218868437227405312
def sp(s:Int×Int×Int×Int):Prop×List D:=(aH.vB s,[.s (.sc (.int .u64 (mW s)))])
theorem spec:iU E f81 aE (pG (.pair (sN .i64) (.pair (sN .i64) (.pair (sN .i64) (sN .u64))))) sp:=by
 intro s h;refine(start s.1 s.2.1 s.2.2.1 s.2.2.2).trans ((gP h).trans ((gP h).trans ?_));rcases h with rfl |rfl
 ·rfl
 ·rfl
def aI:dJ:=orc1 (pG (.pair (sN .i64) (.pair (sN .i64) (.pair (sN .i64) (sN .u64))))) sp
theorem ok:OK 81 aI:=(eB E aE (aA cA.ok (aA cO.ok aC)) func81).oS rfl spec
end lE
namespace cE
def E:=mE [(77,cD.aI),(81,lE.aI)] 33 [15] [] []
def aE:=bd f42
theorem aT:Nk E aE:=nk
theorem start a b:aF E f42 aE [D.s (sc (int i64 a)),D.s (sc (int u64 b))]=letI F:=bif cD.eZ a b then(0:Int)else(2:Int);letI B:=aH.fD a;letI I:=int i64 B.snd.fst;letI H:=int u64 B.snd.snd.snd;letI G:=int i64 B.snd.snd.fst;letI C:=(B.fst,B.snd.fst,B.snd.snd.fst,B.snd.snd.snd);letI A:=some [D.agg [sc (int i64 B.fst),sc I,sc G,sc H],D.s (sc (bool (cD.eZ a b&&decide (cA.cF B<=b)))),D.s (sc (int u64 (bif cD.eZ a b then b%cA.cF B else(0:Int)))),D.s (sc (int i64 F))];aM ((a=32\/a=64)/\0<=b/\b<18446744073709551616) (aB (F==0) (aM (aH.vB C) (aB (decide (lE.mW C<=bif cD.eZ a b then b%cA.cF B else(0:Int))) (some [D.agg [sc (int i64 B.fst),sc I,sc G,sc H],D.s (sc (bool false)),D.s (sc (int u64 0)),D.s (sc (int i64 6))]) A)) A):=eJ aT
def jD(f b:Int):Bool:=decide (b%cA.cF (aH.fD f)<lE.mW (aH.fD f))
theorem Fq{f:Int}(h:f=32\/f=64):aH.vB (aH.fD f):=by
 rcases h with rfl |rfl
 ·exact .inl rfl
 ·exact .inr rfl
def sp(f b:Int):Prop×List D:=((f=32\/f=64)/\0<=b/\b<18446744073709551616,[aH.bJC (aH.fD f),.s (.sc (.bool (cD.eZ f b&&(jD f b&&decide (cA.cF (aH.fD f)<=b))))),.s (.sc (.int .u64 (bif cD.eZ f b&&jD f b then b%cA.cF (aH.fD f)else 0))),.s (.sc (.int .i64 (bif cD.eZ f b then(bif jD f b then 0 else 6)else 2)))])
theorem spec:fL E f42 aE (pN .i64) (pN .u64) sp:=by
 intro f b h;refine(start f b).trans ((gP h).trans ?_);unfold sp jD
 try dsimp only
 have ht:=Fq h.1;generalize aH.fD f=s at *;obtain⟨s1,s2,s3,s4⟩:=s;cases hp:cD.eZ f b with
 |false=>rfl
 |true =>
  try dsimp only[cond_true,cEG]
  rw[bI rfl,gP ht]
  by_cases hc:b%cA.cF (s1,s2,s3,s4)<lE.mW (s1,s2,s3,s4)
  ·rw[aL,decide_eq_true hc];rfl
  ·rw[aN,decide_eq_false hc];rfl
def aI:dJ:=orc2 (pN .i64) (pN .u64) sp
theorem ok:OK 42 aI:=(eB E aE (aA cD.ok (aA lE.ok aC)) func42).lF rfl spec
end cE
namespace dT
def E:=mE [(94,cO.aI)] 31 [] [] []
def aE:=bd f43
theorem aT:Nk E aE:=nk
theorem start a c d e b:aF E f43 aE [D.agg [sc (int i64 a),sc (int i64 c),sc (int i64 d),sc (int u64 e)],D.s (sc (int u64 b))]=letI B:=(a,c,d,e);letI C:=aH.vB B;letI A:=cO.lC B;aM C (if cO.lC B=0 then none else aM C (if cO.lC B=0 then none else aB (u64.wrap (b.tdiv A)==0) (some [D.s (sc (int u64 (b.tmod A))),D.s (sc (int i64 d))]) (aM C (some [D.s (sc (int u64 (u64.wrap (cO.lC B+b.tmod A)))),D.s (sc (int i64 (i64.wrap (i64.wrap (d+i64.wrap (u64.wrap (b.tdiv A)))-1))))])))):=eJ aT
def pQ(s:Int×Int×Int×Int)(n:Int):Int:=if n/cO.lC s=0 then n%cO.lC s else cO.lC s+n%cO.lC s
def sT(s:Int×Int×Int×Int)(n:Int):Int:=if n/cO.lC s=0 then s.2.2.1 else s.2.2.1+n/cO.lC s-1
def sp(s:Int×Int×Int×Int)(n:Int):Prop×List D:=(aH.vB s/\0<=n/\n<9223372036854775808,[.s (.sc (.int .u64 (pQ s n))),.s (.sc (.int .i64 (sT s n)))])
theorem spec:fL E f43 aE (pG (.pair (sN .i64) (.pair (sN .i64) (.pair (sN .i64) (sN .u64))))) (pN .u64) sp:=by
 rintro s n ⟨ht,h0,h1⟩;obtain⟨s1,s2,s3,s4⟩:=s;refine(start s1 s2 s3 s4 n).trans ?_;have hh:cO.lC (s1,s2,s3,s4)=8388608\/cO.lC (s1,s2,s3,s4)=4503599627370496:=by
  unfold cO.lC;split <;> simp
 have hs:-1074<=s3/\s3<=0:=by rcases ht with ht |ht <;> (cases ht;omega)
 unfold sp pQ sT
 try dsimp only
 rw[gP ht,gP ht,gP ht];generalize cO.lC (s1,s2,s3,s4)=d at *;have t1:n.tdiv d=n/d:=cIS h0;have t2:n.tmod d=n%d:=cIT h0;have b1:0<=n/d/\n/d<9223372036854775808:=by rcases hh with rfl |rfl <;> omega
 have b2:0<=n%d/\n%d<4503599627370496:=by rcases hh with rfl |rfl <;> omega
 rw[t1,t2,aO,aO,wrap_u64 (n:=n/d)]
 by_cases hz:n/d=0
 ·rw[bI hz,if_pos hz,if_pos hz]
 ·rw[bA hz,if_neg hz,if_neg hz,wrap_u64,wrap_i64 (n:=n/d),wrap_i64 (n:=s3+n/d),wrap_i64]
def aI:dJ:=orc2 (pG (.pair (sN .i64) (.pair (sN .i64) (.pair (sN .i64) (sN .u64))))) (pN .u64) sp
theorem ok:OK 43 aI:=(eB E aE (aA cO.ok aC) func43).lF rfl spec
end dT
namespace Xa
def E:=mE [(95,pS.aI),(50,kG.aI)] 20 [17] [] []
def aE:=bd f44
theorem aT:Nk E aE:=nk
theorem start a b c:aF E f44 aE [D.s (sc (bool a)),D.s (sc (int u64 b)),D.s (sc (int i64 c))]=letI G:=(b !=0,M6.dg b.toNat);letI F:=wv (bif true then b !=0 else false,M6.dg b.toNat);letI C:=(false,M6.dg b.toNat);letI B:=bif iQ (wv C) c then aR (wv C) c else((0:Int),(0:Int));letI A:=bif iQ F c then aR F c else((0:Int),(0:Int));aB a (aM (0<=b/\b<18446744073709551616) (aM (iE G/\(-9223372036854775808:Int)<=c/\c<9223372036854775808) (some [D.agg [sc (bool (isNeg A.fst)),ints u64 (M6.dg A.fst.natAbs),sc (int i64 A.snd)],D.s (sc (int i64 (bif iQ (wv G) c then(0:Int)else(5:Int))))]))) (aM (0<=b/\b<18446744073709551616) (aM (iE C/\(-9223372036854775808:Int)<=c/\c<9223372036854775808) (some [D.agg [sc (bool (isNeg B.fst)),ints u64 (M6.dg B.fst.natAbs),sc (int i64 B.snd)],D.s (sc (int i64 (bif iQ (wv C) c then(0:Int)else(5:Int))))]))):=eJ aT
def sp(a:Bool)(b c:Int):Prop×List D:=((0<=b/\b<18446744073709551616)/\-9223372036854775808<=c/\c<9223372036854775808,dE (iQ (zs a b.toNat) c) (aR (zs a b.toNat) c))
theorem spec:oO E f44 aE pB (pN .u64) (pN .i64) sp:=by
 rintro a b c ⟨hb,hc⟩;refine(start a b c).trans ?_;have hl:=fZ (n:=b.toNat) (k:=1) (dK.2 (by omega));have aWQ:∀s:Bool,wv (s,M6.dg b.toNat)=zs s b.toNat:=fun s=>by show zs s (M6.val (M6.dg b.toNat))=_;rw[M6.bD]
 have h0:iE (false,M6.dg b.toNat):=⟨M6.aY _,fun h=>Bool.noConfusion h,(by omega:(M6.dg b.toNat).length<=8192)⟩;cases a with
 |false =>
  rw[bF,gP hb,gP ⟨h0,hc⟩,aWQ];rfl
 |true =>
  have h1:iE (b !=0,M6.dg b.toNat):=⟨M6.aY _,fun h=>by
   have hb0:b≠0:=bne_iff_ne.1 h;show M6.val (M6.dg b.toNat)≠0;rw[M6.bD];omega,by show(M6.dg b.toNat).length<=8192;omega⟩
  have e:zs (b !=0) b.toNat=zs true b.toNat:=by
   by_cases hb0:b=0
   ·subst hb0;rfl
   ·rw[bne_iff_ne.2 hb0]
  rw[bT]
  try dsimp only[cond_true]
  rw[gP hb,gP ⟨h1,hc⟩,aWQ,e];rfl
def aI:dJ:=orc3 pB (pN .u64) (pN .i64) sp
theorem ok:OK 44 aI:=(eB E aE (aA pS.ok (aA kG.ok aC)) func44).xX rfl spec
end Xa
namespace aZ
def E:=mE [(42,cE.aI),(43,dT.aI),(44,Xa.aI)] 36 [15,33] [] []
def aE:=bd f12
theorem aT:Nk E aE:=nk
theorem start a b:aF E f12 aE [D.s (sc (int i64 a)),D.s (sc (int u64 b))]=letI H:=bif cD.eZ a b then bif cE.jD a b then(0:Int)else(6:Int)else(2:Int);letI C:=aH.fD a;letI F:=(C.fst,C.snd.fst,C.snd.snd.fst,C.snd.snd.snd);letI B:=bif cD.eZ a b&&cE.jD a b then b%cA.cF C else(0:Int);letI I:=dT.sT F B;letI G:=zs (cD.eZ a b&&(cE.jD a b&&decide (cA.cF C<=b))) (dT.pQ F B).toNat;letI A:=bif iQ G I then aR G I else((0:Int),(0:Int));aM ((a=32\/a=64)/\0<=b/\b<18446744073709551616) (aB (H !=0) (some [D.agg [sc (bool false),sc (slice none 0 0),sc (int i64 0)],D.s (sc (int i64 H))]) (aM (aH.vB F/\(0<=bif cD.eZ a b&&cE.jD a b then b%cA.cF C else(0:Int))/\B<9223372036854775808) (aM ((0<=dT.pQ F B/\dT.pQ F B<18446744073709551616)/\(-9223372036854775808:Int)<=dT.sT F B/\dT.sT F B<9223372036854775808) (some [D.agg [sc (bool (isNeg A.fst)),ints u64 (M6.dg A.fst.natAbs),sc (int i64 A.snd)],D.s (sc (int i64 (bif iQ G I then(0:Int)else(5:Int))))])))):=eJ aT
def kA(f b:Int):Int:=zs (decide (cA.cF (aH.fD f)<=b)) (dT.pQ (aH.fD f) (b%cA.cF (aH.fD f))).toNat
def lG(f b:Int):Int:=dT.sT (aH.fD f) (b%cA.cF (aH.fD f))
def sp(f b:Int):Prop×List D:=((f=32\/f=64)/\0<=b/\b<18446744073709551616,[dD (bif cD.eZ f b&&cE.jD f b then aR (kA f b) (lG f b)else(0,0)),.s (.sc (.int .i64 (bif cD.eZ f b then(bif cE.jD f b then 0 else 6)else 2)))])
theorem Us{s:Int×Int×Int×Int}{n:Int}(_:aH.vB s)(_:0<=n):0<=dT.pQ s n/\dT.pQ s n<9007199254740992:=by
 unfold dT.pQ cO.lC;split <;> split <;> omega
theorem Vi{s:Int×Int×Int×Int}{n:Int}(ht:aH.vB s)(h0:0<=n)(h1:n<lE.mW s):-1074<=dT.sT s n/\dT.sT s n<1024:=by
 rcases ht with rfl |rfl
 ·unfold dT.sT;have:n<2139095040:=h1;rw[show cO.lC (32,24,-149,2143289345)=8388608 from rfl]
  try dsimp only
  split <;> omega
 ·unfold dT.sT;have:n<9218868437227405312:=h1;rw[show cO.lC (64,53,-1074,9221120237041090561)=4503599627370496 from rfl]
  try dsimp only
  split <;> omega
theorem aZU{z e:Int}(hz:z.natAbs<9007199254740992)(h0:-1074<=e)(h1:e<1024):iQ z e=true:=by
 unfold iQ
 by_cases hc:z=0
 ·rw[decide_eq_true hc,cGO]
 ·have h2:=Dz (n:=z.natAbs) (by omega);have h3:bl z.natAbs<=53:=dK.2 (by omega);rw[decide_eq_true (show -1048576<=e+(tz z.natAbs:Int) by omega),decide_eq_true (show e+(tz z.natAbs:Int)<=1048576 by omega),cEG,Bool.or_true]
theorem spec:Rq E f12 aE (pN .i64) (pN .u64) sp:=by
 intro f b h;have e:=(start f b).trans (gP h);have ht:=cE.Fq h.1;have hb0:0<=b:=h.2.1;unfold sp
 try dsimp only
 cases hp:cD.eZ f b with
 |false =>
  rw[hp]at e;refine⟨_,e,.cons ?_ (iZ.refl _)⟩;unfold dD;rw[cGN,cond_false,show((0,0):Int×Int).1.natAbs=0 from rfl,M6.cB];exact Ap.agg (.cons (Fe.refl _) (.cons (Fe.nil _) (zZ.refl _)))
 |true =>
  rw[hp]at e;cases hq:cE.jD f b with
  |false =>
   rw[hq]at e;refine⟨_,e,.cons ?_ (iZ.refl _)⟩;unfold dD;rw[cGQ,cond_false,show((0,0):Int×Int).1.natAbs=0 from rfl,M6.cB];exact Ap.agg (.cons (Fe.refl _) (.cons (Fe.nil _) (zZ.refl _)))
  |true =>
   rw[hq]at e;have Dw:0<=b%cA.cF (aH.fD f):=by
    unfold cA.cF;split <;> omega
   have qA:b%cA.cF (aH.fD f)<lE.mW (aH.fD f):=of_decide_eq_true hq;have hinf:lE.mW (aH.fD f)<=9218868437227405312:=by unfold lE.mW;split <;> omega
   have hm:=Us ht Dw;have hx:=Vi ht Dw qA;rw[show(true&&true)=true from rfl]at e
   try dsimp only[cond_true]at e
   rw[show((aH.fD f).1,(aH.fD f).2.1,(aH.fD f).2.2.1,(aH.fD f).2.2.2)=aH.fD f from rfl]at e;rw[gD rfl,gP ⟨ht,Dw,by omega⟩,gP ⟨⟨hm.1,by omega⟩,by omega,by omega⟩]at e;refine⟨_,e,?_⟩;have hi:iQ (kA f b) (lG f b)=true:=aZU (by unfold kA;rw[kR];omega) hx.1 hx.2;unfold kA lG at hi;unfold kA lG;rw[show(true&&(true&&decide (cA.cF (aH.fD f)<=b)))=decide (cA.cF (aH.fD f)<=b)from rfl,hi];exact iZ.refl _
def aI:dJ:=orc2 (pN .i64) (pN .u64) sp
theorem ok:OK 12 aI:=(eB E aE (aA cE.ok (aA dT.ok (aA Xa.ok aC))) func12).aSD rfl spec
end aZ
namespace aKL
def E:=mE [(95,pS.aI),(105,Fi.aI)] 14 [] [] []
def aE:=bd f51
theorem aT:Nk E aE:=nk
theorem start a:aF E f51 aE [D.s (sc (int i64 a))]=letI B:=M6.dg (u64.wrap a).toNat;letI C:=zs false (M6.val B);letI A:=M6.dg (u64.wrap ((0:Int)-u64.wrap a)).toNat;letI F:=zs true (M6.val A);aB (decide (a<0)) (aM (0<=u64.wrap ((0:Int)-u64.wrap a)/\u64.wrap ((0:Int)-u64.wrap a)<18446744073709551616) (aM (M6.cG A/\A.length<=1099511627776) (some [D.agg [sc (bool (isNeg F)),ints u64 (M6.dg F.natAbs)]]))) (aM (0<=u64.wrap a/\u64.wrap a<18446744073709551616) (aM (M6.cG B/\B.length<=1099511627776) (some [D.agg [sc (bool (isNeg C)),ints u64 (M6.dg C.natAbs)]]))):=eJ aT
def sp(a:Int):Prop×List D:=(-9223372036854775808<=a/\a<9223372036854775808,[wD a])
theorem spec:iU E f51 aE (pN .i64) sp:=by
 rintro a ⟨h1,h2⟩;refine(start a).trans ?_;show _=some [wD a]
 by_cases hn:a<0
 ·have w1:u64.wrap (0-u64.wrap a)=(a.natAbs:Int):=by rw[fM,fM];omega
  have hl:=fZ (n:=a.natAbs) (k:=1) (dK.2 (by omega));rw[aN hn,w1,cFB,gP ⟨by omega,by omega⟩,gP ⟨M6.aY _,by omega⟩,M6.bD];have:zs true a.natAbs=a:=by show -(a.natAbs:Int)=a;omega
  rw[this];rfl
 ·have w1:u64.wrap a=(a.natAbs:Int):=by rw[fM];omega
  have hl:=fZ (n:=a.natAbs) (k:=1) (dK.2 (by omega));rw[aL hn,w1,cFB,gP ⟨by omega,by omega⟩,gP ⟨M6.aY _,by omega⟩,M6.bD];have:zs false a.natAbs=a:=by show((a.natAbs:Nat):Int)=a;omega
  rw[this];rfl
def aI:dJ:=orc1 (pN .i64) sp
theorem ok:OK 51 aI:=(eB E aE (aA pS.ok (aA Fi.ok aC)) func51).oS rfl spec
end aKL
namespace aAO
def E:=mE [(51,aKL.aI),(50,kG.aI)] 15 [] [] []
def aE:=bd f57
theorem aT:Nk E aE:=nk
theorem start a b:aF E f57 aE [D.s (sc (int i64 a)),D.s (sc (int i64 b))]=letI B:=(isNeg a,M6.dg a.natAbs);letI A:=bif iQ (wv B) b then aR (wv B) b else((0:Int),(0:Int));aM ((-9223372036854775808:Int)<=a/\a<9223372036854775808) (aM (iE B/\(-9223372036854775808:Int)<=b/\b<9223372036854775808) (some [D.agg [sc (bool (isNeg A.fst)),ints u64 (M6.dg A.fst.natAbs),sc (int i64 A.snd)]])):=eJ aT
def sp(m e:Int):Prop×List D:=((-9223372036854775808<=m/\m<9223372036854775808)/\-9223372036854775808<=e/\e<9223372036854775808,[dD (bif iQ m e then aR m e else(0,0))])
theorem spec:fL E f57 aE (pN .i64) (pN .i64) sp:=by
 rintro m e ⟨h1,h2⟩;refine(start m e).trans ?_;have hb:bl m.natAbs<=64:=dK.2 (by omega);rw[gP h1,gP ⟨gN (by omega),h2⟩,oI];rfl
def aI:dJ:=orc2 (pN .i64) (pN .i64) sp
theorem ok:OK 57 aI:=(eB E aE (aA aKL.ok (aA kG.ok aC)) func57).lF rfl spec
end aAO
namespace Ww
def E:=mE [(108,rD.aI)] 11 [8] [] []
def aE:=bd f58
theorem aT:Nk E aE:=nk
theorem start a c d b:aF E f58 aE [D.agg [sc (bool a),ints u64 c,sc (int i64 d)],D.s (sc (int i64 b))]=letI B:=dv (a,c,d);letI A:=bif rD.uM B b then rD.Bs B b else((0:Int),(0:Int));aM (aU (a,c,d)/\((-4611686018427387904:Int)<=b/\b<4611686018427387904)/\false=false) (some [D.agg [sc (bool (isNeg A.fst)),ints u64 (M6.dg A.fst.natAbs),sc (int i64 A.snd)],D.s (sc (int i64 (bif rD.uM B b then(0:Int)else(5:Int))))]):=eJ aT
def sp(x:gW)(b:Int):Prop×List D:=(aU x/\-4611686018427387904<=b/\b<4611686018427387904,dE (rD.uM (dv x) b) (rD.Bs (dv x) b))
theorem spec:fL E f58 aE kF (pN .i64) sp:=fun x b h =>
 (start x.1 x.2.1 x.2.2 b).trans (gP ⟨h.1,h.2,rfl⟩)
def aI:dJ:=orc2 kF (pN .i64) sp
theorem ok:OK 58 aI:=(eB E aE (aA rD.ok aC) func58).lF rfl spec
end Ww
namespace aSA
def E:=mE [(45,nA.aI),(47,Hj.aI),(46,nN.aI)] 22 [] [] []
def aE:=bd f68
theorem aT:Nk E aE:=nk
theorem start a b c:aF E f68 aE [D.agg [sc (bool a),ints u64 b,sc (int i64 c)]]=aM (aU (a,b,c)) (aM (b.length<=1099511627776) (aB (!a) (aM True (some [D.agg [sc (bool !(b.length:Int)==(0:Int)),ints u64 b,sc (int i64 c)],D.s (sc (int i64 0))])) (some [D.agg [sc (bool false),ints u64 b,sc (int i64 c)],D.s (sc (int i64 0))]))):=eJ aT
def sp(x:gW):Prop×List D:=(aU x,dE true (-(dv x).1,(dv x).2))
theorem spec:iU E f68 aE kF sp:=by
 intro x h;have h:aU x:=h;have hl:=h.len;have hc:=h.Fo.cells;refine(start x.1 x.2.1 x.2.2).trans ?_;obtain⟨b,a,e⟩:=x
 try dsimp only at *
 unfold sp
 try dsimp only
 rw[gP h,gP];have hz:=M6.cZ h.Kk;have ha:=jB (b,a)
 try dsimp only at ha hz
 have e1:dE true (-(dv (b,a,e)).1,(dv (b,a,e)).2)=[D.agg [.sc (.bool (isNeg (-(wv (b,a))))),.ints .u64 a,.sc (.int .i64 e)],.s (.sc (.int .i64 0))]:=by
  show [M.dD (-(wv (b,a)),e),_]=_;unfold M.dD
  try dsimp only
  rw[cHY,hc.2];rfl
 rw[e1];cases b with
 |true =>
  have:wv (true,a)=-(M6.val a:Int):=Tt (x:=(true,a)) rfl;rw[cDE,bF,iH.2 (by omega)]
 |false =>
  have hw:wv (false,a)=(M6.val a:Int):=Hm (x:=(false,a)) rfl;rw[cMR,bT,gP trivial]
  by_cases h0:a.length=0
  ·rw[beq_iff_eq.2 (show(a.length:Int)=0 by omega),iH.2 (by have:=hz.1 h0;omega)];rfl
  ·rw[beq_eq_false_iff_ne.2 (show(a.length:Int)≠0 by omega),lT.2 (by have:M6.val a≠0:=fun h=>h0 (hz.2 h);omega)];rfl
def aI:dJ:=orc1 kF sp
theorem ok:OK 68 aI:=(eB E aE (aA nA.ok (aA Hj.ok (aA nN.ok aC))) func68).oS rfl spec
end aSA
namespace Wv
def E:=mE [(68,aSA.aI),(13,bS.aI)] 22 [10,19] [] []
def aE:=bd f59
theorem aT:Nk E aE:=nk
theorem start a b c d e f:aF E f59 aE [D.agg [sc (bool a),ints u64 b,sc (int i64 c)],D.agg [sc (bool d),ints u64 e,sc (int i64 f)]]=letI G:=dv (a,b,c);letI F:=dv (d,e,f);letI C:=bif true then(-F.fst,F.snd)else((0:Int),(0:Int));letI A:=dv (isNeg C.fst,M6.dg C.fst.natAbs,C.snd);letI B:=bif bS.lA G A then bS.oN G A else((0:Int),(0:Int));aM (aU (d,e,f)) (aM (aU (a,b,c)/\aU (isNeg (-F.fst),M6.dg (-F.fst).natAbs,F.snd)) (some [D.agg [sc (bool (isNeg B.fst)),ints u64 (M6.dg B.fst.natAbs),sc (int i64 B.snd)],D.s (sc (int i64 (bif bS.lA G A then(0:Int)else(5:Int))))])):=eJ aT
def sp(x y:gW):Prop×List D:=(aU x/\aU y,dE (bS.lA (dv x) (-(dv y).1,(dv y).2)) (bS.oN (dv x) (-(dv y).1,(dv y).2)))
theorem spec:fL E f59 aE kF kF sp:=by
 rintro x y ⟨hx,hy⟩;refine(start x.1 x.2.1 x.2.2 y.1 y.2.1 y.2.2).trans ?_;have hn:=dV hy.xF.neg;have hv:=dY (-(dv y).1,(dv y).2);rw[gP hy,gP ⟨hx,hn⟩]
 try dsimp only[cond_true]at hv ⊢
 rw[hv];rfl
def aI:dJ:=orc2 kF kF sp
theorem ok:OK 59 aI:=(eB E aE (aA aSA.ok (aA bS.ok aC)) func59).lF rfl spec
end Wv
end W
namespace M6
open Go M
def rP(n v:Nat):List Int:=dg v ++ cDH (n-(dg v).length) 0
theorem nG{n v:Nat}:val (rP n v)=v:=by
 unfold rP;rw[jZ,jG,bD];omega
theorem nH{n v:Nat}:bZ (rP n v):=qC.2 ⟨gH _,jH _⟩
theorem jJ{n v:Nat}(h:v<18446744073709551616^n):(rP n v).length=n:=by
 have:=dP h;unfold rP;rw[List.length_append,List.length_replicate];omega
theorem qT {a : List Int} {n v : Nat} (h : bZ a) (hl : a.length = n) (hv : val a = v) : a = rP n v := by
  subst hl; subst hv
  obtain ⟨k, hk⟩ := Is h
  unfold rP
  have : a.length = (dg (val a)).length + k := by conv => lhs; rw [hk]
                                                  simp
  rw [this, Nat.add_sub_cancel_left]
  exact hk
theorem aPM{n:Nat}:rP n 0=cDH n 0:=by simp[rP,cB]
theorem aPN{n v:Nat}:(rP n v).take (dg v).length=dg v:=by
 unfold rP;exact List.take_left
theorem oT{a:List Int}{j:Nat}(hj:j<a.length)(d:Int):val (a.set j d)+18446744073709551616^j*(a.getD j 0).toNat=val a+18446744073709551616^j*d.toNat:=by
 have h1:=iJ (a.set j d) (n:=j) (by simp;omega);have h2:=iJ a (n:=j) (by omega);rw[qM hj,cMB (cBE j)]at h1;rw[iL (a:=a) j]at h2;rw[h1,h2,cGF,cGF];omega
theorem sF{m n:Nat}(h:m<=n):18446744073709551616^m<=18446744073709551616^n:=cEF (by omega) h
theorem Ym{a:List Int}(h:cG a):∀k,cG (a.drop k)
 |0=>h
 |k+1=>by
  match a,h with
  | [],h=>simpa using h
  |d :: a,h=>exact Ym (Yl h) k
theorem vJ{a:List Int}(h:bZ a)(k:Nat):val (a.take k)=val a%18446744073709551616^k:=by
 by_cases hk:k<=a.length
 ·rw[iJ a hk,cNM,cLT (iG h k)]
 ·rw[bV (by omega),cLT];exact cCB (dR h) (sF (by omega))
theorem lZ{a:List Int}(h:bZ a)(k:Nat):val (a.drop k)=val a/18446744073709551616^k:=by
 by_cases hk:k<=a.length
 ·have h1:=iJ a hk;have h2:=iG h k;rw[h1,cHU _ _ (cY),cHB h2,cBG]
 ·rw[cMV (by omega),cHB]
  ·rfl
  ·exact cCB (dR h) (sF (by omega))
theorem Cx(v o n:Nat):v=v%18446744073709551616^o+18446744073709551616^o*(v/18446744073709551616^o%18446744073709551616^n)+18446744073709551616^(o+n)*(v/18446744073709551616^(o+n)):=by
 have h1:=cLV v (18446744073709551616^o);have h2:=cLV (v/18446744073709551616^o) (18446744073709551616^n);rw[cGV,<-cGE]at h2
 conv=>lhs;rw[<-h1,<-h2]
 rw[cGF,<-cGH,<-cGE];omega
theorem Xe{v v' o n X c:Nat}(h1:v'%18446744073709551616^o=v%18446744073709551616^o)(h2:v'/18446744073709551616^(o+n)=v/18446744073709551616^(o+n))(h:v'+18446744073709551616^o*X=v+18446744073709551616^(o+n)*c) :
  v'/18446744073709551616^o%18446744073709551616^n+X=v/18446744073709551616^o%18446744073709551616^n+18446744073709551616^n*c:=by
 have e1:=Cx v o n;have e2:=Cx v' o n;rw[h1,h2]at e2;apply Nat.eq_of_mul_eq_mul_left (cEE (n:=o) (by omega:0<18446744073709551616));have e3:18446744073709551616^(o+n)*c=18446744073709551616^o*(18446744073709551616^n*c):=by rw[cGE,cGH]
 rw[e3]at h;rw[cGF,cGF];omega
theorem aBN(v o n:Nat):v/18446744073709551616^o%18446744073709551616^n<18446744073709551616^n:=cDM _ (cY)
theorem Xf{z z':List Int}(hd:bZ z)(Ee:bZ z'){o n:Nat}(h1:z'.take o=z.take o)(h2:z'.drop (o+n)=z.drop (o+n)):val z'%18446744073709551616^o=val z%18446744073709551616^o/\val z'/18446744073709551616^(o+n)=val z/18446744073709551616^(o+n):=by
 rw[<-vJ hd,<-vJ Ee,h1,<-lZ hd,<-lZ Ee,h2];exact⟨rfl,rfl⟩
end M6
namespace W
open Go AI M
namespace aRP
def E:=mE [(147,Ck.aI)] 18 [] [] []
def aE:=bd f193
theorem aT:Nk E aE:=nk
theorem start a:aF E f193 aE [D.s (ints u64 a)]=letI B:=M6.dg (M6.val a);letI A:=(B.length:Int);aM (M6.bZ a/\a.length<=1099511627776) (aB (decide (8192<A)) (some [D.s (sc (slice none 0 0)),D.s (sc (int i64 5))]) (if 0<=A/\A<=A/\A<=(8796093022208:Int)then some [D.own 22 u64 (cGZ A.toNat B ++ cHA (min B.length A.toNat) (cDH A.toNat (0:Int))),D.s (sc (int i64 0))]else none)):=eJ aT
def sp(a:List Int):Prop×List D:=(M6.bZ a/\a.length<=1099511627776,[.s (.ints .u64 (bif dM.nT (M6.val a)then M6.dg (M6.val a)else [])),.s (.sc (.int .i64 (bif dM.nT (M6.val a)then 0 else 5)))])
theorem spec:aRI E f193 aE (pI .u64) sp:=by
 intro a h;have hl:=M6.tG h.1;have h2:=h.2;have e:=(start a).trans (gP h);unfold sp dM.nT;simp only;generalize M6.dg (M6.val a)=d at *
 by_cases hc:d.length<=8192
 ·rw[aL,if_pos ⟨by omega,by omega,by omega⟩]at e;rw[decide_eq_true hc];refine⟨_,e,.cons ?_ (iZ.refl _)⟩;simp only[cFB,cHZ,Nat.min_self,cond_true];have:cHA d.length (cDH d.length (0:Int))=[]:=List.drop_eq_nil_of_le (by simp);rw[this,cHE];exact Ap.own _ _ _
 ·rw[aN]at e;rw[decide_eq_false hc];exact⟨_,e,.cons (Ap.nil _) (iZ.refl _)⟩
def aI:dJ:=orc1 (pI .u64) sp
theorem ok:OK 193 aI:=(eB E aE (aA Ck.ok aC) func193).bEK rfl spec
end aRP
namespace aRR
def E:=mE [(137,Cq.aI)] 6 [] [] []
def aE:=bd f195
theorem aT:Nk E aE:=nk
theorem start a:aF E f195 aE [D.s (sc (int u64 a))]=aM (0<=a/\a<18446744073709551616) (some [D.s (sc (int i64 (i64.wrap ((64:Int)-(↑(bl a.toNat):Int)))))]):=eJ aT
def sp(a:Int):Prop×List D:=(0<=a/\a<18446744073709551616,[.s (.sc (.int .i64 (64-(bl a.toNat:Int))))])
theorem spec:iU E f195 aE (pN .u64) sp:=by
 intro a h;refine(start a).trans ((gP h).trans ?_);obtain⟨h1,h2⟩:=h;have:bl a.toNat<=64:=dK.2 (by omega);rw[wrap_i64];rfl
def aI:dJ:=orc1 (pN .u64) sp
theorem ok:OK 195 aI:=(eB E aE (aA Cq.ok aC) func195).oS rfl spec
end aRR
namespace uC
def E:=mE [(195,aRR.aI)] 135 [] [(24,[2,8,9,10,14,15,16,17,18]),(17,[2,8,9,10,11,13,14,15,16]),(3,[0,1,2]),(5,[0,1,2]),(18,[2,8,9,10,11,13,14,15,16]),(21,[2,8,9,10,11,13,14,15]),(25,[2,8,9,10,14,15,16,17,18]),(28,[2,8,14,15,17,18])] [3,5,18,21,25,28]
def aE:=bd f226
theorem aT:Nk E aE:=nk
def J3 a b c:=lP E f226 aE 3 [dO a,dO b,dO c]
def J5 a b c:=lP E f226 aE 5 [dO a,dO b,dO c]
def bEF a b c d e f g h i:=pZ E f226 aE 17 [dO a,dO b,dO c,dO d,dO e,dO f,dO g,dO h,dO i]
def bCU a b c d e f g h i:=lP E f226 aE 18 [dO a,dO b,dO c,dO d,dO e,dO f,dO g,dO h,dO i]
def bIZ a b c d e f g h:=lP E f226 aE 21 [dO a,dO b,dO c,dO d,dO e,dO f,dO g,dO h]
def bIX a b c d e f g h i:=pZ E f226 aE 24 [dO a,dO b,dO c,dO d,dO e,dO f,dO g,dO h,dO i]
def bQK a b c d e f g h i:=lP E f226 aE 25 [dO a,dO b,dO c,dO d,dO e,dO f,dO g,dO h,dO i]
def aWL a b c d e f:=lP E f226 aE 28 [dO a,dO b,dO c,dO d,dO e,dO f]
theorem start a b c:aF E f226 aE [D.s (sc (int u64 a)),D.s (sc (int u64 b)),D.s (sc (int u64 c))]=aB (c==0) none (uC.J3 a b c):=eJ aT
theorem iB a b c:J3 a b c=aB (decide (c<=a)) none (uC.J5 a b c):=cJ aT
theorem aAV a b c:J5 a b c=letI C:=(↑(bl c.toNat):Int);letI H:=u64.wrap ((64:Int)-C);letI B:=b/(↑((2:Nat)^min (u64.wrap ((64:Int)-u64.wrap ((64:Int)-C))).toNat 64):Int);letI A:=(↑((2:Nat)^min H.toNat 64):Int);letI G:=fO BinOp.or u64 (u64.wrap (a*A)) B;letI F:=u64.wrap (c*A)/4294967296;aB (a==0) (if c=0 then none else if c=0 then none else some [D.s (sc (int u64 (u64.wrap (b.tdiv c)))),D.s (sc (int u64 (b.tmod c)))]) (aM (0<=c/\c<18446744073709551616) (if u64.wrap ((64:Int)-C)<0 then none else if u64.wrap ((64:Int)-C)<0 then none else if u64.wrap ((64:Int)-u64.wrap ((64:Int)-C))<0 then none else if u64.wrap ((64:Int)-C)<0 then none else if u64.wrap (c*A)/4294967296=(0:Int)then none else uC.bEF (u64.wrap (c*A)) H F (fO BinOp.and u64 (u64.wrap (c*A)) 4294967295) G (u64.wrap (b*A)/4294967296) (fO BinOp.and u64 (u64.wrap (b*A)) 4294967295) (u64.wrap (G.tdiv F)) (u64.wrap (fO BinOp.or u64 (u64.wrap (a*A)) B-u64.wrap (u64.wrap (G.tdiv F)*F))))):=cJ aT
theorem bCQ a b c d e f g h i:bEF a b c d e f g h i=letI A:=uC.bCU a b c d e f g h i;aB (decide (4294967296<=h)) A (aB (decide (u64.wrap (u64.wrap ((4294967296:Int)*i)+f)<u64.wrap (h*d))) A (uC.bIZ a b c d e f g h)):=lJ aT
theorem Qa a b c d e f g h i:bCU a b c d e f g h i=aB (decide (4294967296<=u64.wrap (i+c))) (uC.bIZ a b c d e f g (u64.wrap (h-1))) (uC.bEF a b c d e f g (u64.wrap (h-1)) (u64.wrap (i+c))):=cJ aT
theorem bCT a b c d e f g h:bIZ a b c d e f g h=letI A:=u64.wrap (u64.wrap (e*4294967296)+f)-u64.wrap (h*a);letI B:=u64.wrap A;if c=0 then none else uC.bIX a b c d g h (u64.wrap (u64.wrap A-u64.wrap (u64.wrap (B.tdiv c)*c))) B (u64.wrap (B.tdiv c)):=cJ aT
theorem bCP a b c d e f g h i:bIX a b c d e f g h i=letI A:=uC.bQK a b c d e f g h i;aB (decide (4294967296<=i)) A (aB (decide (u64.wrap (u64.wrap ((4294967296:Int)*g)+e)<u64.wrap (i*d))) A (uC.aWL a b e f h i)):=lJ aT
theorem bCS a b c d e f g h i:bQK a b c d e f g h i=aB (decide (4294967296<=u64.wrap (g+c))) (uC.aWL a b e f h (u64.wrap (i-1))) (uC.bIX a b c d e f (u64.wrap (g+c)) h (u64.wrap (i-1))):=cJ aT
theorem Jm a b c d e f:aWL a b c d e f=if b<0 then none else some [D.s (sc (int u64 (u64.wrap (u64.wrap (d*4294967296)+f)))),D.s (sc (int u64 (u64.wrap (u64.wrap (u64.wrap (e*4294967296)+c)-u64.wrap (f*a))/(↑((2:Nat)^min b.toNat 64):Int))))]:=cJ aT
theorem aLO{n:Nat}(h:n<18446744073709551616):u64.wrap (n:Int)=(n:Int):=wrap_u64 (cKX _) (Int.ofNat_lt.2 h)
theorem loop{y1 y0 u u1:Nat}(aOH:2147483648<=y1)(aZY:y1<4294967296)(aXM:y0<4294967296)(hu:u<y1*4294967296+y0)(aOJ:u1<4294967296)
  (Lf Jf:Int->Int->Option (List D)) (Kf:Int->Option (List D))
  (hL:∀q r,Lf q r=aB (decide (4294967296<=q)) (Jf q r) (aB (decide (u64.wrap (u64.wrap (4294967296*r)+(u1:Int))<u64.wrap (q*(y0:Int)))) (Jf q r) (Kf q)))
  (hJ:∀q r,Jf q r=aB (decide (4294967296<=u64.wrap (r+(y1:Int)))) (Kf (u64.wrap (q-1))) (Lf (u64.wrap (q-1)) (u64.wrap (r+(y1:Int))))) :
  ∀(q r:Nat),u=q*y1+r->r<4294967296->u*4294967296+u1<(q+1)*(y1*4294967296+y0) ->
   Lf (q:Int) (r:Int)=Kf (((u*4294967296+u1)/(y1*4294967296+y0):Nat):Int):=by
 have hy:0<y1*4294967296+y0:=by omega
 intro q
 induction q with
 |zero =>
  intro r h1 h2 h3;have h0:(u*4294967296+u1)/(y1*4294967296+y0)=0:=cHB (by omega);rw[hL,aL,h0,show(((0:Nat):Int)*(y0:Int))=0 from by omega,wrap_u64 (n:=0),aL ?_];rw[wrap_u64 (n:=4294967296*(r:Int)),wrap_u64];omega
 |succ q ih =>
  intro r h1 h2 h3;have hq:q<=4294967296:=by
   refine cDY fun hc=>?_
   have:4294967297*y1<=q*y1:=cCT _ hc;rw[cBY]at h1;omega
  have w1:u64.wrap (((q+1:Nat):Int)-1)=(q:Int):=by rw[wrap_u64];omega
  have w2:u64.wrap ((r:Int)+(y1:Int))=((r+y1:Nat):Int):=by rw[wrap_u64];omega
  have hle:(q+1)*y0<=4294967297*4294967295:=cLS (by omega) (by omega);have w3:u64.wrap (((q+1:Nat):Int)*(y0:Int))=(((q+1)*y0:Nat):Int):=by
   rw[<-cHC];exact wrap_u64
  have w4:u64.wrap (u64.wrap (4294967296*(r:Int))+(u1:Int))=((4294967296*r+u1:Nat):Int):=by
   rw[wrap_u64 (n:=4294967296*(r:Int)),wrap_u64];omega
  have ex:(q+1)*(y1*4294967296+y0)=(q*y1+y1)*4294967296+(q+1)*y0:=by
   rw[cGF,<-cGH,cBY q 1 y1,cFI]
  have cAF:q*(y1*4294967296+y0)=(q*y1)*4294967296+q*y0:=by
   rw[cGF,<-cGH]
  have aBD:u=q*y1+(r+y1):=by rw[cBY]at h1;omega
  have aJE:u*4294967296+u1<(q+1)*(y1*4294967296+y0)->Jf ((q+1:Nat):Int) r=Kf (((u*4294967296+u1)/(y1*4294967296+y0):Nat):Int):=by
   intro hT;rw[hJ,w1,w2]
   by_cases hc:4294967296<=r+y1
   ·have aSM:q*y0<=4294967296*4294967295:=cLS hq (by omega);have:(u*4294967296+u1)/(y1*4294967296+y0)=q:=by
     refine cLY ?_ hT;rw[cAF,aBD];omega
    rw[aN,this]
   ·rw[aL];exact ih (r+y1) aBD (by omega) hT
  rw[hL,w3,w4]
  by_cases hb:4294967296<=q+1
  ·rw[aN];apply aJE;have:4294967296*(y1*4294967296+y0)<=(q+1)*(y1*4294967296+y0):=cCT _ hb;omega
  ·rw[aL]
   by_cases hc:4294967296*r+u1<(q+1)*y0
   ·rw[aN];apply aJE;rw[ex];omega
   ·have:(u*4294967296+u1)/(y1*4294967296+y0)=q+1:=by
     refine cLY ?_ h3;rw[ex,aBD];rw[cBY (q*y1)];omega
    rw[aL,this]
theorem bEJ(P b Q:Int):u64.wrap (u64.wrap (u64.wrap P+b)-u64.wrap Q)=u64.wrap (P+b-Q):=by
 rw[fM,fM,fM,fM,fM];omega
theorem bFG{u u1 y:Nat}(hy:0<y)(bMG:y<=18446744073709551616):u64.wrap ((u:Int)*4294967296+(u1:Int)-(((u*4294967296+u1)/y:Nat):Int)*(y:Int))=(((u*4294967296+u1)%y:Nat):Int):=by
 have h:=cGK (u*4294967296+u1) y;have hm:=cDM (u*4294967296+u1) hy;rw[<-cHC,cGC _ y];generalize y*((u*4294967296+u1)/y)=z at *;generalize (u*4294967296+u1)%y=m at *;rw[wrap_u64];omega
theorem bFI{y1 y0 u u1 u0 s:Nat}(aOH:2147483648<=y1)(aZY:y1<4294967296)(aXM:y0<4294967296)(hu:u<y1*4294967296+y0)(aOJ:u1<4294967296)(bDJ:u0<4294967296)(hs:s<=63) :
  bEF ((y1*4294967296+y0:Nat):Int) s y1 y0 u u1 u0 ((u/y1:Nat):Int) ((u%y1:Nat):Int) =
   some [D.s (.sc (.int .u64 (((u*18446744073709551616+(u1*4294967296+u0))/(y1*4294967296+y0):Nat):Int))),D.s (.sc (.int .u64 (((u*18446744073709551616+(u1*4294967296+u0))%(y1*4294967296+y0)/2^s:Nat):Int)))]:=by
 have hy:0<y1*4294967296+y0:=by omega
 have aMU:∀v:Nat,∀w:Nat,w<4294967296->v*4294967296+w<(v/y1+1)*(y1*4294967296+y0):=by
  intro v w hw;have h:=cGK v y1;have hm:=cDM v (show 0<y1 by omega);have:(v/y1+1)*(y1*4294967296+y0)=(y1*(v/y1)+y1)*4294967296+(v/y1+1)*y0:=by
   rw[cGF,<-cGH,cBY,cFI,cGC y1]
  rw[this];omega
 have dm:∀v:Nat,v=v/y1*y1+v%y1:=by
  intro v;rw[cGC];exact(cGK v y1).symm
 obtain⟨Y,hY⟩:∃Y:Int,Y=((y1*4294967296+y0:Nat):Int):=⟨_,rfl⟩;rw[<-hY];have l1:bEF Y s y1 y0 u u1 u0 ((u/y1:Nat):Int) ((u%y1:Nat):Int)=bIZ Y s y1 y0 u u1 u0 (((u*4294967296+u1)/(y1*4294967296+y0):Nat):Int) :=
  loop aOH aZY aXM hu aOJ (bEF Y s y1 y0 u u1 u0) (bCU Y s y1 y0 u u1 u0) (bIZ Y s y1 y0 u u1 u0) (fun q r=>bCQ ..) (fun q r=>Qa ..) (u/y1) (u%y1) (dm u) (by have:=cDM u (show 0<y1 by omega);omega) (aMU u u1 aOJ)
 refine l1.trans ?_;rw[bCT,aO,bEJ];have m1:=bFG (u:=u) (u1:=u1) hy (by omega);rw[<-hY]at m1;rw[m1];obtain⟨q1,Ql⟩:∃q1,(u*4294967296+u1)/(y1*4294967296+y0)=q1:=⟨_,rfl⟩;rw[Ql];have hv:=cDM (u*4294967296+u1) hy;have hT:=cGK (u*4294967296+u1) (y1*4294967296+y0);rw[Ql]at hT;obtain⟨v,bWF⟩:∃v,(u*4294967296+u1)%(y1*4294967296+y0)=v:=⟨_,rfl⟩;rw[bWF]at hv hT ⊢;have hd:v/y1<=v:=cJR _ _;have w5:u64.wrap ((v:Int).tdiv (y1:Int))=((v/y1:Nat):Int):=by
  rw[cIS (by omega),<-cGU];exact aLO (by omega)
 have w6:u64.wrap ((v:Int)-u64.wrap (((v/y1:Nat):Int)*(y1:Int)))=((v%y1:Nat):Int):=by
  have:=dm v;have hm:=cDM v (show 0<y1 by omega);rw[<-cHC];generalize v/y1*y1=z at *;generalize v%y1=m at *;rw[wrap_u64 (n:=(z:Int)),wrap_u64];omega
 have l2:bIX Y s y1 y0 u0 q1 ((v%y1:Nat):Int) v ((v/y1:Nat):Int)=aWL Y s u0 q1 v (((v*4294967296+u0)/(y1*4294967296+y0):Nat):Int) :=
  loop aOH aZY aXM hv bDJ (fun q r=>bIX Y s y1 y0 u0 q1 r v q) (fun q r=>bQK Y s y1 y0 u0 q1 r v q) (aWL Y s u0 q1 v) (fun q r=>bCP ..) (fun q r=>bCS ..) (v/y1) (v%y1) (dm v) (by have:=cDM v (show 0<y1 by omega);omega) (aMU v u0 bDJ)
 rw[w5,w6,l2];rw[Jm,aO,bEJ];have m2:=bFG (u:=v) (u1:=u0) hy (by omega);rw[<-hY]at m2;rw[m2];have hw:=cDM (v*4294967296+u0) hy;have hT0:=cGK (v*4294967296+u0) (y1*4294967296+y0);have aSM:(v*4294967296+u0)/(y1*4294967296+y0)<4294967296:=cGY (by omega);have hq1':q1<4294967296:=by rw[<-Ql];exact cGY (by omega)
 obtain⟨q0,bWV⟩:∃q0,(v*4294967296+u0)/(y1*4294967296+y0)=q0:=⟨_,rfl⟩;obtain⟨w,bWD⟩:∃w,(v*4294967296+u0)%(y1*4294967296+y0)=w:=⟨_,rfl⟩;rw[bWV]at hT0 aSM ⊢;rw[bWD]at hT0 hw ⊢;have key:u*18446744073709551616+(u1*4294967296+u0)=(y1*4294967296+y0)*(q1*4294967296+q0)+w:=by
  rw[cGF,<-cGH];generalize (y1*4294967296+y0)*q1=A at *;generalize (y1*4294967296+y0)*q0=C at *;omega
 rw[key,cKW hy,cHB hw,cNN,cLT hw,cCC,cFB,show min s 64=s from by omega];have w7:u64.wrap (u64.wrap ((q1:Int)*4294967296)+(q0:Int))=((q1*4294967296+q0:Nat):Int):=by
  rw[wrap_u64 (n:=(q1:Int)*4294967296),wrap_u64];omega
 rw[w7,<-cGU]
def sp(a b c:Int):Prop×List D:=((0<=a/\a<c)/\(0<=b/\b<18446744073709551616)/\c<18446744073709551616,[.s (.sc (.int .u64 (((a.toNat*18446744073709551616+b.toNat)/c.toNat:Nat):Int))),.s (.sc (.int .u64 (((a.toNat*18446744073709551616+b.toNat)%c.toNat:Nat):Int)))])
theorem spec:oO E f226 aE (pN .u64) (pN .u64) (pN .u64) sp:=by
 rintro a b c ⟨⟨h1,h2⟩,⟨h3,h4⟩,h5⟩;refine(start a b c).trans ?_;obtain⟨x,rfl⟩:=cGG h1;obtain⟨l,rfl⟩:=cGG h3;obtain⟨y,rfl⟩:=cGG (show 0<=c by omega);show _=some [D.s (.sc (.int .u64 ((((x:Int).toNat*18446744073709551616+(l:Int).toNat)/(y:Int).toNat:Nat):Int))),D.s (.sc (.int .u64 ((((x:Int).toNat*18446744073709551616+(l:Int).toNat)%(y:Int).toNat:Nat):Int)))];rw[cFB,cFB,cFB,bA,iB,aL,aAV]
 by_cases hx:x=0
 ·subst hx;have hd:l/y<=l:=cJR _ _;rw[bI (a:=((0:Nat):Int)) (b:=0) rfl,aO,aO,cIS (by omega),cIT (by omega),<-cGU,<-cHV,aLO (by omega),Nat.zero_mul,cBG]
 ·have aXM:y≠0:=by omega
  have bSR:=qV aXM;have hb64:bl y<=64:=dK.2 (by omega);have Ed:=aAB aXM;have kM:=wL y;obtain⟨s,hs⟩:∃s,s=64-bl y:=⟨_,rfl⟩;have bMW:s<=63:=by omega
  have w1:u64.wrap (64-(bl y:Int))=(s:Int):=by rw[wrap_u64];omega
  have w2:u64.wrap (64-(s:Int))=((64-s:Nat):Int):=by rw[wrap_u64];omega
  have aJT:2^(64-s)*2^s=18446744073709551616:=by rw[<-cGE,show 64-s+s=64 from by omega]
  have bPR:2^(bl y-1)*2^s=9223372036854775808:=by rw[<-cGE,show bl y-1+s=63 from by omega]
  have Io:0<2^s:=cY;have hyp:y+1<=2^(64-s):=by rw[show 64-s=bl y from by omega];omega
  have bMF:(y+1)*2^s<=18446744073709551616:=by rw[<-aJT];exact cCT _ hyp
  have hyp2:9223372036854775808<=y*2^s:=by rw[<-bPR];exact cCT _ Ed
  have bDI:(x+1)*2^s<=y*2^s:=cCT _ (by omega);rw[cBY,cFI]at bMF bDI;have wy:u64.wrap ((y:Int)*((2^s:Nat):Int))=((y*2^s:Nat):Int):=by rw[<-cHC];exact wrap_u64
  have wx:u64.wrap ((x:Int)*((2^s:Nat):Int))=((x*2^s:Nat):Int):=by rw[<-cHC];exact wrap_u64
  have wl:u64.wrap ((l:Int)*((2^s:Nat):Int))=((l*2^s%18446744073709551616:Nat):Int):=by rw[<-cHC,fM];omega
  have aCU:l/2^(64-s)<2^s:=by
   apply cGY;rw[aJT];omega
  have aXO:=Hs l s (by omega);have bQN:fO .or .u64 ((x*2^s:Nat):Int) (((l/2^(64-s):Nat)):Int)=((x*2^s+l/2^(64-s):Nat):Int):=by
   have:=Ic (n:=x) aCU;rw[Yg (by omega) (by omega) (by omega) (by omega),cFB,cFB,cKA,cGC x,this,cHF]
  have bEL:∀z:Nat,z<18446744073709551616->fO .and .u64 (z:Int) 4294967295=((z%4294967296:Nat):Int):=by
   intro z hz;rw[oM (by omega) (by omega)];omega
  rw[bA,gP ⟨by omega,by omega⟩,cFB,w1,w2,aO,aO,aO,aO,
   cFB,cFB,show min s 64=s from by omega,show min (64-s) 64=64-s from by omega,wy,wx,wl,<-cGU l,bQN]
  have hu:x*2^s+l/2^(64-s)<y*2^s:=by omega
  have hU:(x*18446744073709551616+l)*2^s=(x*2^s+l/2^(64-s))*18446744073709551616+l*2^s%18446744073709551616:=by
   rw[cBY,aXO,cLZ];omega
  have bXJ:l*2^s%18446744073709551616<18446744073709551616:=cDM _ (by omega);have hdiv:(x*18446744073709551616+l)/y=((x*2^s+l/2^(64-s))*18446744073709551616+l*2^s%18446744073709551616)/(y*2^s):=by
   rw[<-hU,cKC _ _ Io]
  have aIZ:(x*18446744073709551616+l)%y=((x*2^s+l/2^(64-s))*18446744073709551616+l*2^s%18446744073709551616)%(y*2^s)/2^s:=by
   rw[<-hU,cKD,cLH _ Io]
  rw[hdiv,aIZ];clear hdiv aIZ hU bQN wl wx wy aXO aCU bDI;generalize x*2^s+l/2^(64-s)=U at *;generalize y*2^s=Y at *;generalize l*2^s%18446744073709551616=V at *;have k:=bFI (y1:=Y/4294967296) (y0:=Y%4294967296) (u:=U) (u1:=V/4294967296) (u0:=V%4294967296) (s:=s) (by omega) (by omega) (by omega) (by omega) (by omega) (by omega) bMW;rw[show Y/4294967296*4294967296+Y%4294967296=Y from by omega,show V/4294967296*4294967296+V%4294967296=V from by omega]at k;have bYX:(Y:Int)/4294967296=((Y/4294967296:Nat):Int):=by omega
  have bST:(V:Int)/4294967296=((V/4294967296:Nat):Int):=by omega
  have hd:U/(Y/4294967296)<=U:=cJR _ _;have aUY:=cGK U (Y/4294967296);have q1:u64.wrap ((U:Int).tdiv ((Y/4294967296:Nat):Int))=((U/(Y/4294967296):Nat):Int):=by
   rw[cIS (by omega),<-cGU];exact aLO (by omega)
  have r1:u64.wrap ((U:Int)-u64.wrap (((U/(Y/4294967296):Nat):Int)*((Y/4294967296:Nat):Int)))=((U%(Y/4294967296):Nat):Int):=by
   rw[<-cHC,cGC];generalize Y/4294967296*(U/(Y/4294967296))=z at *;generalize U%(Y/4294967296)=m at *;rw[wrap_u64 (n:=(z:Int)),wrap_u64];omega
  rw[bYX,bST,aO,bEL _ (by omega),bEL _ bXJ,q1,r1];exact k
def aI:dJ:=orc3 (pN .u64) (pN .u64) (pN .u64) sp
theorem ok:OK 226 aI:=(eB E aE (aA aRR.ok aC) func226).xX rfl spec
end uC
namespace oQ
def E:=mE [(144,iI.aI),(145,dM.aI),(226,uC.aI)] 45 [34,40] [(8,[0,1,7,8,9])] []
def aE:=bd f194
theorem aT:Nk E aE:=nk
def L8 a b (c:Nat) (d:List Int) e f:=pZ E f194 aE 8 [jR a,dO b,Dq 2 c 22 d,dO e,bN f]
theorem start a b:aF E f194 aE [D.s (ints u64 a),D.s (sc (int u64 b))]=letI B:=sc (slice none 0 0);letI A:=(a.length:Int);aM (a.length<=1099511627776) (aB (!iI.qI a) (some [D.s B,D.s (sc (int u64 0)),D.s (sc (int i64 2))]) (aB (b==0) (some [D.s B,D.s (sc (int u64 0)),D.s (sc (int i64 4))]) (if 0<=A/\A<=A/\A<=(8796093022208:Int)then oQ.L8 a b A.toNat (cDH A.toNat (0:Int)) 0 (i64.wrap (A-(1:Int)))else none))):=eJ aT
theorem Cr a b c d e f:L8 a b c d e f=letI A:=e.toNat*18446744073709551616+(a.getD f.toNat 0).toNat;aB (decide (0<=f)) (if 0<=f/\f<(a.length:Int)then aM ((0<=e/\e<b)/\(0<=a.getD f.toNat 0/\a.getD f.toNat 0<(18446744073709551616:Int))/\b<18446744073709551616) (if 0<=f/\f<(c:Int)then oQ.L8 a b c (d.set f.toNat (↑(A/b.toNat):Int)) (↑(A%b.toNat):Int) (i64.wrap (f-1))else none)else none) (aM (M6.bZ d/\d.length<=1099511627776) (some [D.s (ints u64 (bif dM.nT (M6.val d)then M6.dg (M6.val d)else [])),D.s (sc (int u64 e)),D.s (sc (int i64 0))])):=lJ aT
theorem L{a:List Int}{b:Nat}(ha:M6.cG a)(hl:a.length<=8192)(hb0:0<b)(hb:b<18446744073709551616):∀(i:Nat) (Q:List Int),i+Q.length=a.length->M6.bZ Q->M6.val Q=M6.val (a.drop i)/b ->
  L8 a b a.length (cDH i 0 ++ Q) ((M6.val (a.drop i)%b:Nat):Int) ((i:Int)-1)=some [D.s (.ints .u64 (M6.dg (M6.val a/b))),D.s (.sc (.int .u64 ((M6.val a%b:Nat):Int))),D.s (.sc (.int .i64 0))]:=by
 intro i
 induction i with
 |zero =>
  intro Q hi hd hv;have Qm:dM.nT (M6.val a/b)=true:=by
   refine decide_eq_true ?_;rw[cHL]at hv;rw[<-hv];have:=M6.tG hd;omega
  rw[cHL]at hv ⊢;rw[List.replicate_zero,cFH,Cr,aL,gP ⟨hd,by omega⟩,hv,Qm];rfl
 |succ i ih =>
  intro Q hi hd hv;have g:=ha.jE.get i;have hm:=cDM (M6.val (a.drop (i+1))) hb0;have aUY:=cGK (M6.val (a.drop (i+1))) b;have w:i64.wrap ((i:Int)-1)=(i:Int)-1:=by rw[wrap_i64]
  have hs:(cDH i (0:Int) ++ 0 :: Q).set i ((((M6.val (a.drop (i+1))%b)*18446744073709551616+(a.getD i 0).toNat)/b:Nat):Int)=cDH i 0 ++ (((((M6.val (a.drop (i+1))%b)*18446744073709551616+(a.getD i 0).toNat)/b:Nat):Int) :: Q):=Hu (by simp) _ _ _;have hN:M6.val (a.drop i)=b*(18446744073709551616*(M6.val (a.drop (i+1))/b))+((M6.val (a.drop (i+1))%b)*18446744073709551616+(a.getD i 0).toNat):=by
   rw[M6.iL,cJA];generalize b*(M6.val (a.drop (i+1))/b)=z at *;omega
  have hq:((M6.val (a.drop (i+1))%b)*18446744073709551616+(a.getD i 0).toNat)/b<18446744073709551616:=by
   apply cGY;have:(M6.val (a.drop (i+1))%b+1)*18446744073709551616<=b*18446744073709551616:=cCT _ hm;omega
  have aXW:(0:Int)<=((M6.val (a.drop (i+1))%b:Nat):Int)/\((M6.val (a.drop (i+1))%b:Nat):Int)<(b:Int):=⟨cKX _,Int.ofNat_lt.2 hm⟩;have aXS:=ih (((((M6.val (a.drop (i+1))%b)*18446744073709551616+(a.getD i 0).toNat)/b:Nat):Int) :: Q) (by rw[List.length_cons];omega) (M6.mH.2 ⟨⟨cKX _,Int.ofNat_lt.2 hq⟩,hd⟩) (by
    show(((((M6.val (a.drop (i+1))%b)*18446744073709551616+(a.getD i 0).toNat)/b:Nat):Int)).toNat+18446744073709551616*M6.val Q=_;rw[cFB,hN,cKW hb0,hv,cHF])
  rw[Cr,show(((i+1:Nat):Int)-1)=(i:Int)from by omega,aN,if_pos ⟨by omega,by omega⟩,cFB,gP ⟨aXW,g,by omega⟩,if_pos ⟨by omega,by omega⟩,cFB,cFB,w,List.replicate_succ',cCZ,cIA,hs];rw[hN,cNN]at aXS;exact aXS
def sp(a:List Int)(n:Int):Prop×List D:=(M6.cG a/\a.length<=8192/\0<n/\n<18446744073709551616,[.s (.ints .u64 (M6.dg (M6.val a/n.toNat))),.s (.sc (.int .u64 ((M6.val a%n.toNat:Nat):Int))),.s (.sc (.int .i64 0))])
theorem spec:fL E f194 aE (pI .u64) (pN .u64) sp:=by
 rintro a n ⟨ha,hl,h0,h1⟩;obtain⟨b,rfl⟩:=cGG (show 0<=n by omega);refine(start a b).trans ?_;show _=some [D.s (.ints .u64 (M6.dg (M6.val a/(b:Int).toNat))),D.s (.sc (.int .u64 ((M6.val a%(b:Int).toNat:Nat):Int))),D.s (.sc (.int .i64 0))];have w:i64.wrap ((a.length:Int)-1)=(a.length:Int)-1:=by rw[wrap_i64]
 rw[cFB,cFB,gP,iI.oV ha hl,cDE,bF,bA,if_pos ⟨by omega,by omega,by omega⟩,w];have:=L (b:=b) ha hl (by omega) (by omega) a.length [] (by simp) M6.mQ (by simp[M6.val]);rw[cHE,List.drop_length]at this;simp only[M6.val,cIZ]at this;exact this
def aI:dJ:=orc2 (pI .u64) (pN .u64) sp
theorem ok:OK 194 aI:=(eB E aE (aA iI.ok (aA dM.ok (aA uC.ok aC))) func194).lF rfl spec
end oQ
namespace Cb
def E:=mE [] 43 [] [(7,[1,7,8,19,20])] []
def aE:=bd f196
theorem aT:Nk E aE:=nk
def L7 a (b:Nat) (c:List Int) d e f:=pZ E f196 aE 7 [bN a,Dq 1 b 22 c,dO d,bN e,bN f]
theorem start a b c:aF E f196 aE [D.s (ints u64 a),D.s (sc (int i64 b)),D.s (sc (int i64 c))]=letI A:=cGZ c.toNat a ++ cHA (min a.length c.toNat) (cDH c.toNat (0:Int));if 0<=c/\c<=c/\c<=8796093022208 then aB (b==0) (some [D.own 22 u64 A]) (Cb.L7 b c.toNat A 0 (c.toNat:Int) 0)else none:=eJ aT
theorem yO a b c d e f:L7 a b c d e f=aB (decide (f<e)) (if 0<=f/\f<(b:Int)then if a<0 then none else if 0<=f/\f<(b:Int)then if i64.wrap ((64:Int)-a)<0 then none else if 0<=f/\f<(b:Int)then Cb.L7 a b (c.set f.toNat (fO BinOp.or u64 (u64.wrap (c.getD f.toNat 0*(↑((2:Nat)^min a.toNat 64):Int))) d)) (c.getD f.toNat 0/(↑((2:Nat)^min (i64.wrap ((64:Int)-a)).toNat 64):Int)) e (i64.wrap (f+1))else none else none else none) (some [D.own 22 u64 c]):=lJ aT
def sp(a:List Int)(s n:Int):Prop×List D:=(M6.bZ a/\0<=s/\s<64/\0<=n/\a.length<=n.toNat/\n<=549755813888/\M6.val a*2^s.toNat<18446744073709551616^n.toNat,[.own gX .u64 (M6.rP n.toNat (M6.val a*2^s.toNat))])
theorem L{A:List Int}{s n:Nat}(hA:M6.bZ A)(bPE:A.length=n)(hn:n<=549755813888)(Nz:0<s)(hs:s<64)(hT:M6.val A*2^s<18446744073709551616^n):∀(r i:Nat) (P:List Int) (c:Int),i+r=n->P.length=i->M6.bZ P->0<=c->c<((2^s:Nat):Int) ->
  M6.val P+18446744073709551616^i*c.toNat=M6.val (A.take i)*2^s ->
  L7 s n (P ++ A.drop i) c n i=some [.own gX .u64 (M6.rP n (M6.val A*2^s))]:=by
 have Io:2^s<2^64:=cHX (by omega) hs;intro r
 induction r with
 |zero =>
  intro i P c hi hP hd h0 h1 hv;have Zc:i=n:=by omega
  subst Zc;rw[M6.bV (by omega)]at hv;have hc:c=0:=by
   rcases Int.lt_or_le 0 c with h |h
   ·have h2:18446744073709551616^i*1<=18446744073709551616^i*c.toNat:=cDS _ (by omega);omega
   ·omega
  subst hc;simp at hv;rw[yO,aL,cMV (by omega),cHE,M6.qT hd hP hv]
 |succ r ih =>
  intro i P c hi hP hd h0 h1 hv;have g:=hA.get i;have w1:i64.wrap ((i:Int)+1)=((i+1:Nat):Int):=by rw[wrap_i64];omega
  have w3:i64.wrap (64-(s:Int))=((64-s:Nat):Int):=by rw[wrap_i64];omega
  have m1:min s 64=s:=by omega
  have m2:min (64-s) 64=64-s:=by omega
  have aOY:A.drop i=A.getD i 0 :: A.drop (i+1):=by
   rw[List.drop_eq_getElem_cons (by omega)];simp[cGI,List.getElem?_eq_getElem (show i<A.length by omega)]
  obtain⟨x,hx⟩:=cGG g.1;have kM:x*2^s%18446744073709551616<18446744073709551616:=cDM _ (by omega);have aCU:u64.wrap ((x:Int)*((2^s:Nat):Int))=((x*2^s%18446744073709551616:Nat):Int):=by
   rw[fM,<-cHC,cHV];rfl
  have aUO:c.toNat+x*2^s%18446744073709551616<18446744073709551616:=by
   rw[Ky x s hs];have hm:x%2^(64-s)<2^(64-s):=cDM _ (cY);have e:(18446744073709551616:Nat)=2^s*2^(64-s):=by rw[<-cGE,show s+(64-s)=64 from by omega]
   have h3:2^s*(x%2^(64-s)+1)<=2^s*2^(64-s):=cDS _ hm;rw[<-e,cGF]at h3;omega
  have bGG:fO .or .u64 ((x*2^s%18446744073709551616:Nat):Int) c=c+((x*2^s%18446744073709551616:Nat):Int):=by
   rw[Yg (by omega) (by omega) h0 (by omega),cFB,cKA,Ky x s hs,Ic (by omega)];omega
  have aBC:x/2^(64-s)<2^s:=by
   apply cGY;rw[<-cGE,show 64-s+s=64 from by omega];omega
  rw[aOY,yO,aN,aQ,aO,aQ,w3,aO,aQ,w1,cFB,cFB,cFB,m1,m2,Iq hP,Hu hP,hx,aCU,bGG];have aXO:=Hs x s hs;have:=ih (i+1) (P ++ [c+((x*2^s%18446744073709551616:Nat):Int)]) ((x/2^(64-s):Nat):Int) (by omega) (by simp[hP]) (M6.mG hd ⟨by omega,by omega⟩) (by omega) (by omega) (by
   rw[M6.lY,hP,M6.bJ,hx,cFB,cFB,cGD,cGH,cBY];have e1:(c+(((x*2^s%18446744073709551616:Nat)):Int)).toNat=c.toNat+x*2^s%18446744073709551616:=by omega
   rw[e1];have e2:18446744073709551616^i*(c.toNat+x*2^s%18446744073709551616)+18446744073709551616^i*(18446744073709551616*(x/2^(64-s)))=18446744073709551616^i*c.toNat+18446744073709551616^i*x*2^s:=by
    rw[cGH,<-cGF,<-cGF];congr 1;omega
   omega)
  rw[cCZ,cIA,cGU]at this;exact this
theorem spec:oO E f196 aE (pI .u64) (pN .i64) (pN .i64) sp:=by
 rintro a s n ⟨hd,Nz,hs,Dw,hl,hn,hT⟩;obtain⟨s,rfl⟩:=cGG Nz;obtain⟨n,rfl⟩:=cGG Dw;simp only[sp,cFB]at hl hT ⊢;refine(start a s n).trans ?_;have hA:cGZ n a ++ cHA (min a.length n) (cDH n (0:Int))=a ++ cDH (n-a.length) 0:=by
  rw[List.take_of_length_le hl,List.drop_replicate,Nat.min_eq_left hl]
 have aPI:M6.val (a ++ cDH (n-a.length) 0)=M6.val a:=by rw[M6.jZ,M6.jG];omega
 have bTD:M6.bZ (a ++ cDH (n-a.length) 0):=M6.qC.2 ⟨hd,M6.jH _⟩;have bPE:(a ++ cDH (n-a.length) 0).length=n:=by simp;omega
 rw[aQ,cFB,hA]
 by_cases hz:s=0
 ·subst hz;rw[bI (by rfl),cLF,cBO,M6.qT bTD bPE aPI]
 ·rw[bA];have hp:0<((2^s:Nat):Int):=by
   have:0<2^s:=cY;omega
  have:=L (s:=s) bTD bPE (by omega) (by omega) (by omega) (by rw[aPI];exact hT) n 0 [] 0 (by omega) rfl M6.mQ (by omega) hp (by simp[M6.val]);rw[cFH,cHL,aPI]at this;exact this
def aI:dJ:=orc3 (pI .u64) (pN .i64) (pN .i64) sp
theorem ok:OK 196 aI:=(eB E aE aC func196).xX rfl spec
end Cb
namespace aEA
def E:=mE [(226,uC.aI)] 20 [16] [] []
def aE:=bd f227
theorem aT:Nk E aE:=nk
theorem start a b c:aF E f227 aE [D.s (sc (int u64 a)),D.s (sc (int u64 b)),D.s (sc (int u64 c))]=aB (decide (c<=a)) (some [D.s (sc (int u64 18446744073709551615))]) (aM ((0<=a/\a<c)/\(0<=b/\b<18446744073709551616)/\c<18446744073709551616) (some [D.s (sc (int u64 (↑((a.toNat*18446744073709551616+b.toNat)/c.toNat):Int)))])):=eJ aT
def sp(a b c:Int):Prop×List D:=(0<=a/\0<=b/\b<18446744073709551616/\c<18446744073709551616,[.s (.sc (.int .u64 (if c<=a then 18446744073709551615 else(((a.toNat*18446744073709551616+b.toNat)/c.toNat:Nat):Int))))])
theorem spec:oO E f227 aE (pN .u64) (pN .u64) (pN .u64) sp:=by
 rintro a b c ⟨h1,h2,h3,h4⟩;refine(start a b c).trans ?_;simp only[sp]
 by_cases hc:c<=a
 ·rw[aN hc,if_pos hc]
 ·rw[aL hc,if_neg hc,gP ⟨⟨h1,by omega⟩,⟨h2,h3⟩,h4⟩]
def aI:dJ:=orc3 (pN .u64) (pN .u64) (pN .u64) sp
theorem ok:OK 227 aI:=(eB E aE (aA uC.ok aC) func227).xX rfl spec
end aEA
namespace Pu
def E:=mE [] 51 [] [] []
def aE:=bd f250
theorem aT:Nk E aE:=nk
theorem start a b:aF E f250 aE [D.s (sc (int u64 a)),D.s (sc (int u64 b))]=letI A:=u64.wrap (a/4294967296*fO BinOp.and u64 b 4294967295)+u64.wrap (fO BinOp.and u64 a 4294967295*fO BinOp.and u64 b 4294967295)/4294967296;some [D.s (sc (int u64 (u64.wrap (u64.wrap (u64.wrap (a/4294967296*(b/4294967296))+u64.wrap A/4294967296)+u64.wrap (fO BinOp.and u64 (u64.wrap A) 4294967295+u64.wrap (fO BinOp.and u64 a 4294967295*(b/4294967296)))/4294967296)))),D.s (sc (int u64 (u64.wrap (a*b))))]:=eJ aT
def sp(a b:Int):Prop×List D:=(0<=a/\a<18446744073709551616/\0<=b/\b<18446744073709551616,[.s (.sc (.int .u64 (a*b/18446744073709551616))),.s (.sc (.int .u64 (a*b%18446744073709551616)))])
theorem spec:fL E f250 aE (pN .u64) (pN .u64) sp:=by
 rintro a b ⟨ha,bKG,hb,tR⟩;refine(start a b).trans ?_;simp only[sp];have m1:fO .and .u64 a 4294967295=a%4294967296:=oM ha bKG;have m2:fO .and .u64 b 4294967295=b%4294967296:=oM hb tR;rw[m1,m2];have bd:∀x y:Int,0<=x->x<=4294967295->0<=y->y<=4294967295->0<=x*y/\x*y<=18446744065119617025:=fun x y h1 h2 h3 h4 =>
  ⟨cMS h1 h3,by have:=Int.mul_le_mul h2 h4 h3 (by omega:(0:Int)<=4294967295);omega⟩
 have q11:=bd (a/4294967296) (b/4294967296) (by omega) (by omega) (by omega) (by omega);have bLB:=bd (a/4294967296) (b%4294967296) (by omega) (by omega) (by omega) (by omega);have q01:=bd (a%4294967296) (b/4294967296) (by omega) (by omega) (by omega) (by omega);have bUU:=bd (a%4294967296) (b%4294967296) (by omega) (by omega) (by omega) (by omega);have e:a*b=(a/4294967296)*(b/4294967296)*18446744073709551616+((a/4294967296)*(b%4294967296)+(a%4294967296)*(b/4294967296))*4294967296+(a%4294967296)*(b%4294967296):=by
  conv=>lhs;rw[<-cKH a 4294967296,<-cKH b 4294967296]
  generalize a/4294967296=x;generalize a%4294967296=y;generalize b/4294967296=z;generalize b%4294967296=t;grind
 have e0:u64.wrap (a*b)=a*b%18446744073709551616:=fM _;rw[e0];generalize a*b=ab at *;generalize (a/4294967296)*(b/4294967296)=bLG at *;generalize (a/4294967296)*(b%4294967296)=aZH at *;generalize (a%4294967296)*(b/4294967296)=bLH at *;generalize (a%4294967296)*(b%4294967296)=aZI at *;rw[wrap_u64 (n:=aZI),wrap_u64 (n:=bLG),wrap_u64 (n:=bLH),wrap_u64 (n:=aZH)];rw[wrap_u64 (n:=aZH+aZI/4294967296),oM (w:=aZH+aZI/4294967296) (by omega) (by omega)];rw[wrap_u64 (n:=(aZH+aZI/4294967296)%4294967296+bLH),wrap_u64 (n:=bLG+(aZH+aZI/4294967296)/4294967296),wrap_u64];have:bLG+(aZH+aZI/4294967296)/4294967296+((aZH+aZI/4294967296)%4294967296+bLH)/4294967296=ab/18446744073709551616:=by omega
 rw[this]
def aI:dJ:=orc2 (pN .u64) (pN .u64) sp
theorem ok:OK 250 aI:=(eB E aE aC func250).lF rfl spec
end Pu
namespace uZ
def E:Env:={ ({ base with C:=callsOf [(250,Pu.aI)],n0:=1,io:=[0] })with nt:=66,own:=[45,61],keep:=fun k=>(tlook [(3,[0,1,2,7,8,14,15])] k).getD [],cut:=tlook [] }
def aE:=bd f228
theorem aT:Nk E aE:=nk
def L3(a:List Int)(b:Nat)(c:Nat) d f g h i j:=pZ E f228 aE 3 [(A.any,some { e:=(22:Nat),cont:=rH.ints u64 a }),(A.v (V.one (L.view 0 b c)),none),jR d,dO f,dO g,dO h,bN i,bN j]
theorem start al ao an b c:aF E f228 aE [D.io gX u64 al ao an,D.s (ints u64 b),D.s (sc (int u64 c))]=uZ.L3 al ao an b c 0 0 (b.length:Int) 0:=eJ aT
theorem xK a b c d e f g h i:L3 a b c d e f g h i=letI C:=b+i.toNat;letI B:=(d.length:Int);letI F:=b+B.toNat;letI A:=d.getD i.toNat 0*e%18446744073709551616+f+0;aB (decide (i<h)) (if 0<=i/\i<B then aM (0<=d.getD i.toNat 0/\d.getD i.toNat 0<(18446744073709551616:Int)/\0<=e/\e<18446744073709551616) (aM (0<=d.getD i.toNat 0*e%18446744073709551616/\0<=f/\(0:Int)<=(0:Int)/\(0:Int)<=(1:Int)) (if 0<=i/\i<(c:Int)then aM (0<=a.getD C 0/\0<=A%18446744073709551616/\A%18446744073709551616<(18446744073709551616:Int)/\0<=g/\g<=1) (if 0<=i/\i<(c:Int)then uZ.L3 (a.set C ((a.getD C 0-A%18446744073709551616-g)%18446744073709551616)) b c d e (u64.wrap (d.getD i.toNat 0*e/18446744073709551616+A/18446744073709551616)) (if a.getD C 0<A%18446744073709551616+g then(1:Int)else(0:Int)) h (i64.wrap (i+1))else none)else none))else none) (if 0<=B/\B<(c:Int)then aM (0<=a.getD F 0/\0<=f/\f<18446744073709551616/\0<=g/\g<=1) (if 0<=B/\B<(c:Int)then some [D.s (sc (int u64 (if a.getD F 0<f+g then(1:Int)else(0:Int)))),D.io 22 u64 (a.set F ((a.getD F 0-f-g)%18446744073709551616)) 0 0]else none)else none):=lJ aT
def Xc(v o n X:Nat):Nat:=if v/18446744073709551616^o%18446744073709551616^n<X then 1 else 0
def sp(x:List Int×Nat×Nat)(b:List Int)(w:Int):Prop×List D:=(M6.bZ x.1/\x.2.2=b.length+1/\x.2.1+x.2.2<=x.1.length/\M6.bZ b/\x.1.length<=1099511627776/\0<=w/\w<18446744073709551616,
 [.s (.sc (.int .u64 (Xc (M6.val x.1) x.2.1 x.2.2 (M6.val b*w.toNat)))),.io gX .u64 (M6.rP x.1.length (M6.val x.1+18446744073709551616^(x.2.1+x.2.2)*Xc (M6.val x.1) x.2.1 x.2.2 (M6.val b*w.toNat)-18446744073709551616^x.2.1*(M6.val b*w.toNat))) 0 0])
theorem fin{a z':List Int}{o n X c N:Nat}(bDW:c<=1)(hd:M6.bZ a)(Ee:M6.bZ z')(hl:z'.length=N)(h1:z'.take o=a.take o)(h2:z'.drop (o+n)=a.drop (o+n))(h:M6.val z'+18446744073709551616^o*X=M6.val a+18446744073709551616^(o+n)*c) :
  c=Xc (M6.val a) o n X/\z'=M6.rP N (M6.val a+18446744073709551616^(o+n)*Xc (M6.val a) o n X-18446744073709551616^o*X):=by
 obtain⟨k1,k2⟩:=M6.Xf hd Ee h1 h2;have e:=M6.Xe k1 k2 h;have kM:=M6.aBN (M6.val z') o n;have hc:c=Xc (M6.val a) o n X:=by
  unfold Xc;have:c=0\/c=1:=by omega
  rcases this with rfl |rfl
  ·rw[aO]
  ·rw[aQ]
 subst hc;exact⟨rfl,M6.qT Ee hl (by omega)⟩
theorem bEP{x C s:Int}{p:Nat}(hp:p<=340282366920938463426481119284349108225)(h0:0<=x)(h1:x<18446744073709551616)(h2:0<=C)(h3:C<18446744073709551616)(h4:0<=s)(h5:s<=1) :
  (0<=(p:Int)/18446744073709551616+((p:Int)%18446744073709551616+C+0)/18446744073709551616/\(p:Int)/18446744073709551616+((p:Int)%18446744073709551616+C+0)/18446744073709551616<18446744073709551616) /\
  ((x-((p:Int)%18446744073709551616+C+0)%18446744073709551616-s)%18446744073709551616).toNat+p+C.toNat+s.toNat=x.toNat+18446744073709551616*(((p:Int)/18446744073709551616+((p:Int)%18446744073709551616+C+0)/18446744073709551616).toNat+(if x<((p:Int)%18446744073709551616+C+0)%18446744073709551616+s then(1:Int)else 0).toNat):=by
 split <;> omega
theorem L{a b:List Int}{o:Nat}{w:Int}(hN:a.length<=1099511627776)(ha:M6.bZ a)(hb:M6.bZ b)(ho:o+(b.length+1)<=a.length)(aIT:0<=w)(bMJ:w<18446744073709551616):∀(r i:Nat) (z:List Int) (C s:Int),i+r=b.length->z.length=a.length->M6.bZ z->0<=C->C<18446744073709551616->0<=s->s<=1->z.take o=a.take o->z.drop (o+(b.length+1))=a.drop (o+(b.length+1)) ->
  M6.val z+18446744073709551616^o*(M6.val (b.take i)*w.toNat)=M6.val a+18446744073709551616^(o+i)*(C.toNat+s.toNat) ->
  L3 z o (b.length+1) b w C s b.length i=some [.s (.sc (.int .u64 (Xc (M6.val a) o (b.length+1) (M6.val b*w.toNat)))),.io gX .u64 (M6.rP a.length (M6.val a+18446744073709551616^(o+(b.length+1))*Xc (M6.val a) o (b.length+1) (M6.val b*w.toNat)-18446744073709551616^o*(M6.val b*w.toNat))) 0 0]:=by
 intro r
 induction r with
 |zero =>
  intro i z C s hi hz hd h0 h1 h2 h3 ht aJD hv;have bAO:i=b.length:=by omega
  subst bAO;rw[cHZ]at hv;have g:=hd.get (o+b.length);rw[xK,aL,aQ,cFB,gP ⟨g.1,h0,h1,h2,h3⟩,aQ];have hs:=M6.oT (a:=z) (j:=o+b.length) (by omega) ((z.getD (o+b.length) 0-C-s)%18446744073709551616);have hf:=fin (a:=a) (z':=z.set (o+b.length) ((z.getD (o+b.length) 0-C-s)%18446744073709551616)) (o:=o) (n:=b.length+1) (X:=M6.val b*w.toNat) (c:=(if z.getD (o+b.length) 0<C+s then(1:Int)else 0).toNat) (N:=a.length) (by split <;> omega) ha (M6.nI hd (by omega)) (by simp[hz]) (by rw[cMB (by omega)];exact ht) (by rw[cMG (by omega)];exact aJD) (by
   rw[<-cEV o,cGD,cGH];generalize z.getD (o+b.length) 0=x at *;generalize M6.val (z.set (o+b.length) _)=W at *;generalize 18446744073709551616^(o+b.length)=P at *;have e:((x-C-s)%18446744073709551616).toNat+(C.toNat+s.toNat)=x.toNat+18446744073709551616*(if x<C+s then(1:Int)else 0).toNat:=by split <;> omega
   have e2:P*((x-C-s)%18446744073709551616).toNat+P*(C.toNat+s.toNat)=P*x.toNat+P*(18446744073709551616*(if x<C+s then(1:Int)else 0).toNat):=by
    rw[<-cGF,e,cGF]
   omega)
  rw[<-hf.2,<-hf.1,cNP (by split <;> omega)]
 |succ r ih =>
  intro i z C s hi hz hd h0 h1 h2 h3 ht aJD hv;have g:=hd.get (o+i);have g2:=hb.get i;have w2:i64.wrap ((i:Int)+1)=((i+1:Nat):Int):=by rw[wrap_i64];omega
  obtain⟨X,hX⟩:=cGG g2.1;obtain⟨Y,hY⟩:=cGG aIT;have bOR:X*Y<=340282366920938463426481119284349108225:=by
   have h2:X<=18446744073709551615:=by omega
   have h3:Y<=18446744073709551615:=by omega
   have:=cLS h2 h3;omega
  obtain⟨k1,k2⟩:=bEP bOR g.1 g.2 h0 h1 h2 h3;rw[xK,aN,aQ,w2];simp only[cFB];have hq:b.getD i 0*w=((X*Y:Nat):Int):=by rw[hX,hY];simp
  rw[gP ⟨g2.1,g2.2,aIT,bMJ⟩];simp only[hq];rw[gP ⟨by omega,by omega,by omega,by omega⟩,aQ,gP ⟨g.1,by omega,by omega,h2,h3⟩,aQ,wrap_u64 k1.1 k1.2];refine ih (i+1) _ _ (if z.getD (o+i) 0<(((X*Y:Nat):Int)%18446744073709551616+C+0)%18446744073709551616+s then(1:Int)else 0) (by omega) (by simp[hz]) (M6.nI hd (by omega)) k1.1 k1.2 (by split <;> omega) (by split <;> omega) (by rw[cMB (by omega)];exact ht) (by rw[cMG (by omega)];exact aJD) ?_;have hs:=M6.oT (a:=z) (j:=o+i) (by omega) ((z.getD (o+i) 0-(((X*Y:Nat):Int)%18446744073709551616+C+0)%18446744073709551616-s)%18446744073709551616);have e0:18446744073709551616^o*(M6.val (b.take (i+1))*w.toNat)=18446744073709551616^o*(M6.val (b.take i)*w.toNat)+18446744073709551616^(o+i)*(X*Y):=by
   rw[M6.bJ,hX,hY,cFB,cFB,cBY,cGF,cGE,cGH,cGH]
  rw[e0,show o+(i+1)=(o+i)+1 from by omega,cGD,cGH];generalize ((z.getD (o+i) 0-(((X*Y:Nat):Int)%18446744073709551616+C+0)%18446744073709551616-s)%18446744073709551616)=d at *;generalize (((X*Y:Nat):Int)/18446744073709551616+(((X*Y:Nat):Int)%18446744073709551616+C+0)/18446744073709551616).toNat=C' at *;generalize (if z.getD (o+i) 0<(((X*Y:Nat):Int)%18446744073709551616+C+0)%18446744073709551616+s then(1:Int)else 0).toNat=s' at *;generalize X*Y=q at *;generalize 18446744073709551616^(o+i)=P at *;generalize M6.val (z.set (o+i) d)=W at *;generalize (z.getD (o+i) 0).toNat=x at *;generalize 18446744073709551616^o*(M6.val (b.take i)*w.toNat)=U at *;have e2:P*d.toNat+P*q+P*(C.toNat+s.toNat)=P*x+P*(18446744073709551616*(C'+s')):=by
   rw[<-cGF,<-cGF,<-cGF];congr 1;omega
  omega
theorem bound{v o n N X:Nat}(hv:v<18446744073709551616^N)(bXC:o+n<=N)(hX:X<18446744073709551616^n):v+18446744073709551616^(o+n)*Xc v o n X-18446744073709551616^o*X<18446744073709551616^N:=by
 have e1:=M6.Cx v o n;have hW:=M6.aBN v o n;have hT:v/18446744073709551616^(o+n)<18446744073709551616^(N-(o+n)):=by
  apply cGY;rw[<-cGE,show o+n+(N-(o+n))=N from by omega];exact hv
 have hL:v%18446744073709551616^o<18446744073709551616^o:=cDM _ (cY);have s2:18446744073709551616^(o+n)*(v/18446744073709551616^(o+n)+1)<=18446744073709551616^N:=by
  have:=cDS (18446744073709551616^(o+n)) hT;rw[<-cGE,show o+n+(N-(o+n))=N from by omega]at this;exact this
 rw[cGF]at s2;unfold Xc;generalize v/18446744073709551616^o%18446744073709551616^n=W at *;generalize v%18446744073709551616^o=L at *;generalize v/18446744073709551616^(o+n)=T at *;split
 ·rename_i kM;have:18446744073709551616^o*(W+1)<=18446744073709551616^o*X:=cDS _ kM;rw[cGF]at this;omega
 ·omega
theorem spec(x:List Int×Nat×Nat)(b:List Int)(w:Int)(h:(sp x b w).1):aF E f228 aE [(Ga gX .u64).put x,(pI .u64).put b,(pN .u64).put w]=some (sp x b w).2/\∃rs oH,(sp x b w).2=rs ++ [.io gX .u64 oH 0 0]/\oH.length=x.1.length:=by
 obtain⟨xl,o,n⟩:=x;obtain⟨hd,hn,ho,hb,hN,aIT,bMJ⟩:=h;simp only at hd hn ho hN;subst hn;refine⟨(start xl o (b.length+1) b w).trans ?_,[_],_,rfl,M6.jJ (bound (M6.dR hd) ho ?_)⟩
 ·exact L hN hd hb ho aIT bMJ b.length 0 xl 0 0 (by omega) rfl hd (by omega) (by omega) (by omega) (by omega) rfl rfl (by simp[M6.val])
 ·rw[cGD];exact cJS (M6.dR hb) (by omega)
def aI:dJ:=orc3 (Ga gX .u64) (pI .u64) (pN .u64) sp
theorem fnok:nM prog E 228 f228 aE:=xR tN mixed (nJ _ rfl (aA Pu.ok aC) (pJ)) func228 rfl rfl rfl rfl rfl
theorem ok:rW prog base.glob 228 aI:=fnok.xX rfl spec
end uZ
namespace Ag
def E:Env:={ ({ base with n0:=1,io:=[0] })with nt:=44,own:=[24,39],keep:=fun k=>(tlook [(3,[0,1,5,8,9])] k).getD [],cut:=tlook [] }
def aE:=bd f229
theorem aT:Nk E aE:=nk
def L3(a:List Int)(b:Nat)(c:Nat) d f g h:=pZ E f229 aE 3 [(A.any,some { e:=(22:Nat),cont:=rH.ints u64 a }),(A.v (V.one (L.view 0 b c)),none),jR d,dO f,bN g,bN h]
theorem start al ao an b:aF E f229 aE [D.io gX u64 al ao an,D.s (ints u64 b)]=Ag.L3 al ao an b 0 (b.length:Int) 0:=eJ aT
theorem xK a b c d e f g:L3 a b c d e f g=letI G:=b+g.toNat;letI B:=a.getD G 0+d.getD g.toNat 0+e;letI A:=(d.length:Int);letI F:=b+A.toNat;letI C:=a.getD F 0+(0:Int)+e;aB (decide (g<f)) (if 0<=g/\g<(c:Int)then if 0<=g/\g<A then aM (0<=a.getD G 0/\0<=d.getD g.toNat 0/\0<=e/\e<=1) (if 0<=g/\g<(c:Int)then Ag.L3 (a.set G (B%18446744073709551616)) b c d (B/18446744073709551616) f (i64.wrap (g+1))else none)else none else none) (if 0<=A/\A<(c:Int)then aM (0<=a.getD F 0/\(0:Int)<=(0:Int)/\0<=e/\e<=1) (if 0<=A/\A<(c:Int)then some [D.s (sc (int u64 (C/18446744073709551616))),D.io 22 u64 (a.set F (C%18446744073709551616)) 0 0]else none)else none):=lJ aT
def aBE(v o n X:Nat):Nat:=(v/18446744073709551616^o%18446744073709551616^n+X)/18446744073709551616^n
def sp(x:List Int×Nat×Nat)(b:List Int):Prop×List D:=(M6.bZ x.1/\x.2.2=b.length+1/\x.2.1+x.2.2<=x.1.length/\M6.bZ b/\x.1.length<=1099511627776,
 [.s (.sc (.int .u64 (aBE (M6.val x.1) x.2.1 x.2.2 (M6.val b)))),.io gX .u64 (M6.rP x.1.length (M6.val x.1+18446744073709551616^x.2.1*M6.val b-18446744073709551616^(x.2.1+x.2.2)*aBE (M6.val x.1) x.2.1 x.2.2 (M6.val b))) 0 0])
theorem fin{a z':List Int}{o n X c N:Nat}(hd:M6.bZ a)(Ee:M6.bZ z')(hl:z'.length=N)(h1:z'.take o=a.take o)(h2:z'.drop (o+n)=a.drop (o+n))(h:M6.val z'+18446744073709551616^(o+n)*c=M6.val a+18446744073709551616^o*X) :
  c=aBE (M6.val a) o n X/\z'=M6.rP N (M6.val a+18446744073709551616^o*X-18446744073709551616^(o+n)*aBE (M6.val a) o n X):=by
 obtain⟨k1,k2⟩:=M6.Xf hd Ee h1 h2;have e:=M6.Xe k1.symm k2.symm h.symm;have kM:=M6.aBN (M6.val z') o n;have hc:c=aBE (M6.val a) o n X:=by
  unfold aBE;rw[e];rw[cHU _ _ (cY),cHB kM,cBG]
 subst hc;exact⟨rfl,M6.qT Ee hl (by omega)⟩
theorem L{a b:List Int}{o:Nat}(hN:a.length<=1099511627776)(ha:M6.bZ a)(hb:M6.bZ b)(ho:o+(b.length+1)<=a.length):∀(r i:Nat) (z:List Int) (c:Int),i+r=b.length->z.length=a.length->M6.bZ z->0<=c->c<=1->z.take o=a.take o->z.drop (o+(b.length+1))=a.drop (o+(b.length+1)) ->
  M6.val z+18446744073709551616^(o+i)*c.toNat=M6.val a+18446744073709551616^o*M6.val (b.take i) ->
  L3 z o (b.length+1) b c b.length i=some [.s (.sc (.int .u64 (aBE (M6.val a) o (b.length+1) (M6.val b)))),.io gX .u64 (M6.rP a.length (M6.val a+18446744073709551616^o*M6.val b-18446744073709551616^(o+(b.length+1))*aBE (M6.val a) o (b.length+1) (M6.val b))) 0 0]:=by
 intro r
 induction r with
 |zero =>
  intro i z c hi hz hd h0 h1 ht aJD hv;have bAO:i=b.length:=by omega
  subst bAO;rw[cHZ]at hv;have g:=hd.get (o+b.length);rw[xK,aL,aQ,cFB,gP ⟨g.1,by omega,h0,h1⟩,aQ];have hs:=M6.oT (a:=z) (j:=o+b.length) (by omega) ((z.getD (o+b.length) 0+0+c)%18446744073709551616);have hf:=fin (a:=a) (z':=z.set (o+b.length) ((z.getD (o+b.length) 0+0+c)%18446744073709551616)) (o:=o) (n:=b.length+1) (X:=M6.val b) (c:=((z.getD (o+b.length) 0+0+c)/18446744073709551616).toNat) (N:=a.length) ha (M6.nI hd (by omega)) (by simp[hz]) (by rw[cMB (by omega)];exact ht) (by rw[cMG (by omega)];exact aJD) (by
   rw[<-cEV o,cGD,cGH];generalize z.getD (o+b.length) 0=x at *;generalize M6.val (z.set (o+b.length) _)=W at *;generalize 18446744073709551616^(o+b.length)=P at *;have e:((x+0+c)%18446744073709551616).toNat+18446744073709551616*((x+0+c)/18446744073709551616).toNat=x.toNat+c.toNat:=by omega
   have e2:P*((x+0+c)%18446744073709551616).toNat+P*(18446744073709551616*((x+0+c)/18446744073709551616).toNat)=P*x.toNat+P*c.toNat:=by
    rw[<-cGF,e,cGF]
   omega)
  rw[<-hf.2,<-hf.1,cNP (by omega)]
 |succ r ih =>
  intro i z c hi hz hd h0 h1 ht aJD hv;have g:=hd.get (o+i);have g2:=hb.get i;have w2:i64.wrap ((i:Int)+1)=((i+1:Nat):Int):=by rw[wrap_i64];omega
  rw[xK,aN,aQ,aQ,cFB,gP ⟨g.1,g2.1,h0,h1⟩,aQ,w2];refine ih (i+1) _ _ (by omega) (by simp[hz]) (M6.nI hd (by omega)) (by omega) (by omega) (by rw[cMB (by omega)];exact ht) (by rw[cMG (by omega)];exact aJD) ?_;have hs:=M6.oT (a:=z) (j:=o+i) (by omega) ((z.getD (o+i) 0+b.getD i 0+c)%18446744073709551616);rw[M6.bJ,cGF,<-cGH,<-cGE,show o+(i+1)=(o+i)+1 from by omega,cGD,cGH];generalize z.getD (o+i) 0=x at *;generalize b.getD i 0=y at *;generalize M6.val (z.set (o+i) _)=W at *;generalize 18446744073709551616^(o+i)=P at *;generalize 18446744073709551616^o*M6.val (b.take i)=U at *;have e:((x+y+c)%18446744073709551616).toNat+18446744073709551616*((x+y+c)/18446744073709551616).toNat=x.toNat+y.toNat+c.toNat:=by omega
  have e2:P*((x+y+c)%18446744073709551616).toNat+P*(18446744073709551616*((x+y+c)/18446744073709551616).toNat)=P*x.toNat+P*y.toNat+P*c.toNat:=by
   rw[<-cGF,e,cGF,cGF]
  omega
theorem bound{v o n N X:Nat}(hv:v<18446744073709551616^N)(bXC:o+n<=N):v+18446744073709551616^o*X-18446744073709551616^(o+n)*aBE v o n X<18446744073709551616^N:=by
 have e1:=M6.Cx v o n;unfold aBE;generalize hW:v/18446744073709551616^o%18446744073709551616^n=W at *;have h2:=cLV (W+X) (18446744073709551616^n);have h3:(W+X)%18446744073709551616^n<18446744073709551616^n:=cDM _ (cY);generalize (W+X)/18446744073709551616^n=c at *;generalize (W+X)%18446744073709551616^n=M at *;have hL:v%18446744073709551616^o<18446744073709551616^o:=cDM _ (cY);have hT:v/18446744073709551616^(o+n)<18446744073709551616^(N-(o+n)):=by
  apply cGY;rw[<-cGE,show o+n+(N-(o+n))=N from by omega];exact hv
 generalize v%18446744073709551616^o=L at *;generalize v/18446744073709551616^(o+n)=T at *;have e3:18446744073709551616^(o+n)*c=18446744073709551616^o*(18446744073709551616^n*c):=by rw[cGE,cGH]
 have e4:18446744073709551616^o*(W+X)=18446744073709551616^o*M+18446744073709551616^o*(18446744073709551616^n*c):=by rw[<-h2,cGF]
 rw[cGF]at e4;have e5:v+18446744073709551616^o*X-18446744073709551616^(o+n)*c=L+18446744073709551616^o*M+18446744073709551616^(o+n)*T:=by omega
 rw[e5];have s1:L+18446744073709551616^o*M<18446744073709551616^(o+n):=by
  have:18446744073709551616^o*(M+1)<=18446744073709551616^o*18446744073709551616^n:=cDS _ h3;rw[<-cGE,cGF]at this;omega
 have s2:18446744073709551616^(o+n)*(T+1)<=18446744073709551616^N:=by
  have:=cDS (18446744073709551616^(o+n)) hT;rw[<-cGE,show o+n+(N-(o+n))=N from by omega]at this;exact this
 rw[cGF]at s2;omega
theorem spec(x:List Int×Nat×Nat)(b:List Int)(h:(sp x b).1):aF E f229 aE [(Ga gX .u64).put x,(pI .u64).put b]=some (sp x b).2/\∃rs oH,(sp x b).2=rs ++ [.io gX .u64 oH 0 0]/\oH.length=x.1.length:=by
 obtain⟨xl,o,n⟩:=x;obtain⟨hd,hn,ho,hb,hN⟩:=h;simp only at hd hn ho hN;subst hn;refine⟨(start xl o (b.length+1) b).trans ?_,[_],_,rfl,M6.jJ (bound (M6.dR hd) ho)⟩;exact L hN hd hb ho b.length 0 xl 0 (by omega) rfl hd (by omega) (by omega) rfl rfl (by simp[M6.val])
def aI:dJ:=orc2 (Ga gX .u64) (pI .u64) sp
theorem fnok:nM prog E 229 f229 aE:=xR tN mixed (nJ _ rfl aC (pJ)) func229 rfl rfl rfl rfl rfl
theorem ok:rW prog base.glob 229 aI:=fnok.lF rfl spec
end Ag
namespace Hb
def E:Env:={ ({ base with C:=tK [(228,uZ.aI),(229,Ag.aI)] (callsOf [(227,aEA.aI)]),ioF:=Qu [(228,uZ.aI),(229,Ag.aI)],n0:=1,io:=[0] })with nt:=72,own:=[],keep:=fun k=>(tlook [(10,[0,1,5,6,7,8,9]),(4,[0,1,5,6,7])] k).getD [],cut:=tlook [] }
def aE:=bd f197
theorem aT:Nk E aE:=nk
def L4(a:List Int)(b:Nat)(c:Nat) d f (g:Nat) (h:List Int) i:=pZ E f197 aE 4 [(A.any,some { e:=(22:Nat),cont:=rH.ints u64 a }),(A.v (V.one (L.view 0 b c)),none),jR d,bN f,Dq 4 g 22 h,bN i]
def Jl(a:List Int)(b:Nat)(c:Nat) d f (g:Nat) (h:List Int) i j (k:Nat) (l:Nat):=pZ E f197 aE 10 [(A.any,some { e:=(22:Nat),cont:=rH.ints u64 a }),(A.v (V.one (L.view 0 b c)),none),jR d,bN f,Dq 4 g 22 h,bN i,dO j,(A.v (V.one (L.view 0 k l)),none)]
theorem start al ao an b:aF E f197 aE [D.io gX u64 al ao an,D.s (ints u64 b)]=letI B:=(an:Int);letI A:=(b.length:Int);if 0<=i64.wrap (B-A)/\i64.wrap (B-A)<=i64.wrap (B-A)/\i64.wrap (B-A)<=8796093022208 then Hb.L4 al ao an b A (i64.wrap (B-A)).toNat (cDH (i64.wrap (B-A)).toNat (0:Int)) (i64.wrap (i64.wrap (B-A)-1))else none:=eJ aT
theorem nS a b c d e f g h:L4 a b c d e f g h=letI N:=b+h.toNat;letI K:=i64.wrap (e-1);letI H:=i64.wrap (h+e)+1;letI G:=i64.wrap (h+e)-1;letI F:=b+(i64.wrap (h+e)).toNat;letI B:=b+(i64.wrap G).toNat;letI A:=i64.wrap H;letI C:=A.toNat-h.toNat;aB (decide (0<=h)) (if 0<=i64.wrap (h+e)/\i64.wrap (h+e)<(c:Int)then if 0<=i64.wrap G/\i64.wrap G<(c:Int)then if 0<=i64.wrap (e-1)/\i64.wrap (e-1)<(d.length:Int)then aM (0<=a.getD F 0/\0<=a.getD B 0/\a.getD B 0<(18446744073709551616:Int)/\d.getD K.toNat 0<(18446744073709551616:Int)) (aD (if d.getD K.toNat 0<=a.getD F 0 then(18446744073709551615:Int)else(↑(((a.getD F 0).toNat*18446744073709551616+(a.getD B 0).toNat)/(d.getD K.toNat 0).toNat):Int)) fun i=>letI I:=M6.val d*i.toNat;if 0<=h/\h<=i64.wrap H/\i64.wrap H<=(c:Int)then aM (M6.bZ a/\A.toNat-h.toNat=d.length+1/\b+h.toNat+C<=a.length/\M6.bZ d/\a.length<=1099511627776/\0<=i/\i<18446744073709551616) (aD (↑(uZ.Xc (M6.val a) N C I):Int) fun j=>aD (M6.rP a.length (M6.val a+(18446744073709551616:Nat)^(b+h.toNat+C)*uZ.Xc (M6.val a) N C I-(18446744073709551616:Nat)^N*I)) fun k=>aB (j==0) (if 0<=h/\h<(f:Int)then Hb.L4 k b c d e f (g.set h.toNat i) (i64.wrap (h-1))else none) (Hb.Jl k b c d e f g h i N C))else none)else none else none else none) (some [D.own 22 u64 g,D.io 22 u64 a 0 0]):=lJ aT
theorem tD a b c d e f g h i j k:Jl a b c d e f g h i j k=aM (M6.bZ a/\k=d.length+1/\j+k<=a.length/\M6.bZ d/\a.length<=1099511627776) (aD (↑(Ag.aBE (M6.val a) j k (M6.val d)):Int) fun l=>aD (M6.rP a.length (M6.val a+(18446744073709551616:Nat)^j*M6.val d-(18446744073709551616:Nat)^(j+k)*Ag.aBE (M6.val a) j k (M6.val d))) fun m=>aB (l==1) (if 0<=h/\h<(f:Int)then Hb.L4 m b c d e f (g.set h.toNat (u64.wrap (i-1))) (i64.wrap (h-1))else none) (Hb.Jl m b c d e f g h (u64.wrap (i-1)) j k)):=lJ aT
def sp(x:List Int×Nat×Nat)(b:List Int):Prop×List D:=(M6.bZ x.1/\x.2.1=0/\x.2.2=x.1.length/\M6.bZ b/\0<b.length/\b.length<=x.1.length/\x.1.length<=549755813888/\M6.val x.1/18446744073709551616^(x.1.length-b.length)<M6.val b,
 [.own gX .u64 (M6.rP (x.1.length-b.length) (M6.val x.1/M6.val b)),.io gX .u64 (M6.rP x.1.length (M6.val x.1%M6.val b)) 0 0])
theorem digit{z:List Int}(hd:M6.bZ z)(k:Nat):(z.getD k 0).toNat=M6.val z/18446744073709551616^k%18446744073709551616:=by
 rw[<-M6.lZ hd,M6.iL];have:=hd.get k;omega
theorem Ku{v j n:Nat}(h:v/18446744073709551616^j<18446744073709551616^n):v/18446744073709551616^j%18446744073709551616^n=v/18446744073709551616^j:=cLT h
theorem minus{v j R X:Nat}(hR:R=v/18446744073709551616^j)(hX:X<=R):(v-18446744073709551616^j*X)/18446744073709551616^j=R-X/\18446744073709551616^j*X<=v:=by
 have h1:=cLV v (18446744073709551616^j);have h2:v%18446744073709551616^j<18446744073709551616^j:=cDM _ (cY);rw[<-hR]at h1;obtain⟨D,rfl⟩:=cCJ hX;rw[cGF]at h1;have h3:v-18446744073709551616^j*X=v%18446744073709551616^j+18446744073709551616^j*D:=by omega
 rw[h3,cHU _ _ (cY),cHB h2];omega
theorem plus{v j n R X:Nat}(hR:R=v/18446744073709551616^j)(hX:R<X)(bDX:X<=18446744073709551616^n):(v+18446744073709551616^(j+n)-18446744073709551616^j*X)/18446744073709551616^j%18446744073709551616^n=R+18446744073709551616^n-X:=by
 have h1:=cLV v (18446744073709551616^j);have h2:v%18446744073709551616^j<18446744073709551616^j:=cDM _ (cY);rw[<-hR]at h1;have h4:18446744073709551616^j*(R+18446744073709551616^n)=18446744073709551616^j*R+18446744073709551616^(j+n):=by rw[cGF,cGE]
 obtain⟨D,hD⟩:∃D,R+18446744073709551616^n=X+D:=cCJ (by omega);rw[hD,cGF]at h4;have h3:v+18446744073709551616^(j+n)-18446744073709551616^j*X=v%18446744073709551616^j+18446744073709551616^j*D:=by omega
 rw[h3,cHU _ _ (cY),cHB h2,cBG,cLT (by omega)];omega
theorem aLZ{R V n:Nat}{hi lo d:Int}(hn:0<n)(hV:V<18446744073709551616^n)(bKL:R<18446744073709551616*V)(aBC:hi.toNat=R/18446744073709551616^n)(aCU:lo.toNat=R/18446744073709551616^(n-1)%18446744073709551616)(hd:d.toNat=V/18446744073709551616^(n-1))(h0:0<=hi) :
  R/V<=(if d<=hi then(18446744073709551615:Int)else(((hi.toNat*18446744073709551616+lo.toNat)/d.toNat:Nat):Int)).toNat/\(0<=if d<=hi then(18446744073709551615:Int)else(((hi.toNat*18446744073709551616+lo.toNat)/d.toNat:Nat):Int))/\(if d<=hi then(18446744073709551615:Int)else(((hi.toNat*18446744073709551616+lo.toNat)/d.toNat:Nat):Int))<18446744073709551616:=by
 by_cases hc:d<=hi
 ·rw[if_pos hc];refine⟨?_,by omega,by omega⟩;have:R/V<18446744073709551616:=by
   apply cGY;rw[cGC];exact bKL
  show R/V<=18446744073709551615;omega
 ·rw[if_neg hc];obtain⟨k,rfl⟩:∃k,n=k+1:=⟨n-1,by omega⟩;rw[Nat.add_sub_cancel]at aCU hd;have e1:hi.toNat*18446744073709551616+lo.toNat=R/18446744073709551616^k:=by
   rw[aBC,aCU,cGD,<-cGV];omega
  have bYM:0<d.toNat:=by omega
  have kM:hi.toNat<d.toNat:=by omega
  refine⟨?_,cKX _,?_⟩
  ·rw[cFB,e1,cGV];apply cLX
   ·rw[hd];exact cMD _ _
   ·exact Nat.mul_pos (cY) bYM
  ·have hlo2:lo.toNat<18446744073709551616:=by rw[aCU];exact cDM _ (by omega)
   have:(hi.toNat*18446744073709551616+lo.toNat)/d.toNat<18446744073709551616:=by
    apply cGY;have:(hi.toNat+1)*18446744073709551616<=d.toNat*18446744073709551616:=cCT _ kM;omega
   exact Int.ofNat_lt.2 this
theorem bQJ{u b qs:List Int}{L j R q:Nat}(hL:L<=549755813888)(hu:u.length=L)(hd:M6.bZ u)(hb:M6.bZ b)(hj:j+(b.length+1)<=L)(hR:R=M6.val u/18446744073709551616^j)(aYC:R<18446744073709551616^(b.length+1))(hV:0<M6.val b)(hq:q=R/M6.val b)(hqs:qs.length=L-b.length):∀(k w:Nat),w=q+(k+1)->w<18446744073709551616 ->
  Jl (M6.rP L (M6.val u+18446744073709551616^(j+(b.length+1))-18446744073709551616^j*(M6.val b*w))) 0 L b b.length (L-b.length) qs j w j (b.length+1)=L4 (M6.rP L (M6.val u-18446744073709551616^j*(M6.val b*q))) 0 L b b.length (L-b.length) (qs.set j (q:Int)) ((j:Int)-1):=by
 have bHU:=M6.dR hb;have bJR:M6.val b*q<=R:=by rw[hq];exact cMD _ _
 have bAD:R<M6.val b*(q+1):=by rw[hq];exact cMM _ hV
 have bFP:=M6.dR hd;rw[hu]at bFP;intro k
 induction k with
 |zero =>
  intro w hw bWE;subst hw;have bDX:M6.val b*(q+(0+1))<=18446744073709551616^(b.length+1):=by
   rw[cGD];exact cLS (by omega) (by omega)
  have So:=plus (n:=b.length+1) hR (X:=M6.val b*(q+(0+1))) bAD bDX;have bHO:M6.val u+18446744073709551616^(j+(b.length+1))-18446744073709551616^j*(M6.val b*(q+(0+1)))<18446744073709551616^L:=by
   have:=uZ.bound bFP hj (X:=M6.val b*(q+(0+1))) (by rw[cGD];exact cJS bHU (by omega));unfold uZ.Xc at this;rw[Ku (by rw[<-hR];exact aYC),<-hR,if_pos bAD,cBO]at this;exact this
  have bAX:Ag.aBE (M6.val u+18446744073709551616^(j+(b.length+1))-18446744073709551616^j*(M6.val b*(q+(0+1)))) j (b.length+1) (M6.val b)=1:=by
   unfold Ag.aBE;rw[So];have e:R+18446744073709551616^(b.length+1)-M6.val b*(q+(0+1))+M6.val b=18446744073709551616^(b.length+1)*1+(R-M6.val b*q):=by
    rw[cGF]at bDX ⊢;omega
   have kM:R-M6.val b*q<18446744073709551616^(b.length+1):=by omega
   rw[e,cKW (cY),cHB kM]
  have w1:u64.wrap (((q+(0+1):Nat):Int)-1)=(q:Int):=by rw[wrap_u64];omega
  have w2:i64.wrap ((j:Int)-1)=(j:Int)-1:=by rw[wrap_i64]
  rw[tD,aG,aG,M6.jJ bHO,M6.nG,bAX,gP ⟨M6.nH,by trivial,hj,hb,by omega⟩,bI (by rfl),aQ,w1,w2,cFB];congr 1;congr 1;have e1:18446744073709551616^j*(M6.val b*(q+(0+1)))=18446744073709551616^j*(M6.val b*q)+18446744073709551616^j*M6.val b:=by rw[cGF,cGF];simp
  have e2:=(minus hR bJR).2;have e3:18446744073709551616^j*M6.val b<=18446744073709551616^(j+(b.length+1)):=by
   rw[cGE,cGD];exact cDS _ (by omega)
  omega
 |succ k ih =>
  intro w hw bWE;subst hw;have bGR:R<M6.val b*(q+(k+1)):=cCB bAD (cDS _ (by omega));have aOK:M6.val b*(q+(k+1+1))=M6.val b*(q+(k+1))+M6.val b:=by rw[<-cEV q,Nat.mul_succ]
  have bDX:M6.val b*(q+(k+1+1))<=18446744073709551616^(b.length+1):=by
   rw[cGD];exact cLS (by omega) (by omega)
  have So:=plus (n:=b.length+1) hR (X:=M6.val b*(q+(k+1+1))) (by omega) bDX;have bHO:M6.val u+18446744073709551616^(j+(b.length+1))-18446744073709551616^j*(M6.val b*(q+(k+1+1)))<18446744073709551616^L:=by
   have:=uZ.bound bFP hj (X:=M6.val b*(q+(k+1+1))) (by rw[cGD];exact cJS bHU (by omega));unfold uZ.Xc at this;rw[Ku (by rw[<-hR];exact aYC),<-hR,aQ,cBO]at this;exact this
  have bAX:Ag.aBE (M6.val u+18446744073709551616^(j+(b.length+1))-18446744073709551616^j*(M6.val b*(q+(k+1+1)))) j (b.length+1) (M6.val b)=0:=by
   unfold Ag.aBE;rw[So];exact cHB (by omega)
  have w1:u64.wrap (((q+(k+1+1):Nat):Int)-1)=((q+(k+1):Nat):Int):=by rw[wrap_u64];omega
  rw[tD,aG,aG,M6.jJ bHO,M6.nG,bAX,gP ⟨M6.nH,by trivial,hj,hb,by omega⟩,bA (by decide),w1];have e4:M6.val u+18446744073709551616^(j+(b.length+1))-18446744073709551616^j*(M6.val b*(q+(k+1+1)))+18446744073709551616^j*M6.val b-18446744073709551616^(j+(b.length+1))*0=M6.val u+18446744073709551616^(j+(b.length+1))-18446744073709551616^j*(M6.val b*(q+(k+1))):=by
   have e1:18446744073709551616^j*(M6.val b*(q+(k+1+1)))=18446744073709551616^j*(M6.val b*(q+(k+1)))+18446744073709551616^j*M6.val b:=by rw[aOK,cGF]
   have e3:18446744073709551616^j*(M6.val b*(q+(k+1+1)))<=18446744073709551616^(j+(b.length+1)):=by
    rw[cGE];exact cDS _ bDX
   omega
  rw[e4];exact ih _ rfl (by omega)
theorem aSX{α R:Type}{x:α}{k:α->Option R}{r:Option R}(Q:α->Prop)(hx:Q x)(hk:∀w,Q w->k w=r):aD x k=r:=hk x hx
theorem cBC{b:List Int}{L U0:Nat}(hL:L<=549755813888)(hb:M6.bZ b)(hn:0<b.length)(hbL:b.length<=L):∀(t:Nat) (u qs:List Int),t<=L-b.length->u.length=L->M6.bZ u->qs.length=L-b.length->M6.bZ qs->M6.val u/18446744073709551616^t<M6.val b->U0=M6.val u+M6.val b*(18446744073709551616^t*M6.val (qs.drop t)) ->
  L4 u 0 L b b.length (L-b.length) qs ((t:Int)-1)=some [.own gX .u64 (M6.rP (L-b.length) (U0/M6.val b)),.io gX .u64 (M6.rP L (U0%M6.val b)) 0 0]:=by
 have bHU:=M6.dR hb;intro t
 induction t with
 |zero =>
  intro u qs _ hu hd hq bNZ kM hU;rw[cLF,Nat.div_one]at kM;rw[cLF,cFI,cHL]at hU;rw[nS,aL];have e1:U0/M6.val b=M6.val qs:=by rw[hU,cHU _ _ (by omega),cHB kM,cBG]
  have e2:U0%M6.val b=M6.val u:=by rw[hU,cNM,cLT kM]
  rw[M6.qT hd hu e2.symm,M6.qT bNZ hq e1.symm]
 |succ j ih =>
  intro u qs hj hu hd hq bNZ kM hU;obtain⟨R,hR⟩:∃R,R=M6.val u/18446744073709551616^j:=⟨_,rfl⟩;have hV:0<M6.val b:=cHT (cHH _) kM;have bKL:R<18446744073709551616*M6.val b:=by
   rw[cGD,<-cGV,<-hR]at kM;rw[cGC];exact(cMN (by omega)).1 kM
  have aYC:R<18446744073709551616^(b.length+1):=by rw[cGD];omega
  obtain⟨q,bJQ⟩:∃q,q=R/M6.val b:=⟨_,rfl⟩;have bJR:M6.val b*q<=R:=by rw[bJQ];exact cMD _ _
  have hqB:q<18446744073709551616:=by
   rw[bJQ];apply cGY;rw[cGC];exact bKL
  have bFP:=M6.dR hd;rw[hu]at bFP;have bQV:L4 (M6.rP L (M6.val u-18446744073709551616^j*(M6.val b*q))) 0 L b b.length (L-b.length) (qs.set j (q:Int)) ((j:Int)-1)=some [.own gX .u64 (M6.rP (L-b.length) (U0/M6.val b)),.io gX .u64 (M6.rP L (U0%M6.val b)) 0 0]:=by
   obtain⟨m1,m2⟩:=minus hR bJR;refine ih _ _ (by omega) (M6.jJ (by omega)) M6.nH (by simp[hq]) (M6.nI bNZ ⟨by omega,by omega⟩) ?_ ?_
   ·rw[M6.nG,m1];have h1:=cLV R (M6.val b);have h2:=cDM R hV;rw[<-bJQ]at h1;omega
   ·rw[M6.nG,M6.qM (by omega),cFB,hU,cGD];have e1:M6.val b*(18446744073709551616^j*(q+18446744073709551616*M6.val (qs.drop (j+1))))=18446744073709551616^j*(M6.val b*q)+M6.val b*(18446744073709551616^j*18446744073709551616*M6.val (qs.drop (j+1))):=by
     rw[cGF,cGF,cJA,cGH (18446744073709551616^j)]
    rw[e1];omega
  have hx:((j+1:Nat):Int)-1=(j:Int):=by omega
  have w1:i64.wrap ((j:Int)+(b.length:Int))=((j+b.length:Nat):Int):=by rw[wrap_i64];omega
  have w2:i64.wrap (((j+b.length:Nat):Int)-1)=((j+b.length-1:Nat):Int):=by rw[wrap_i64];omega
  have w3:i64.wrap ((b.length:Int)-1)=((b.length-1:Nat):Int):=by rw[wrap_i64];omega
  have w4:i64.wrap (((j+b.length:Nat):Int)+1)=((j+b.length+1:Nat):Int):=by rw[wrap_i64];omega
  have w5:i64.wrap ((j:Int)-1)=(j:Int)-1:=by rw[wrap_i64]
  have e5:j+b.length+1-j=b.length+1:=by omega
  have g1:=hd.get (j+b.length);have g2:=hd.get (j+b.length-1);have g3:=hb.get (b.length-1);have aBC:(u.getD (j+b.length) 0).toNat=R/18446744073709551616^b.length:=by
   rw[digit hd,cGE,<-cGV,<-hR,cLT];apply cGY;rw[cGD]at aYC;exact aYC
  have aCU:(u.getD (j+b.length-1) 0).toNat=R/18446744073709551616^(b.length-1)%18446744073709551616:=by
   rw[digit hd,show j+b.length-1=j+(b.length-1)from by omega,cGE,<-cGV,<-hR]
  have aXV:(b.getD (b.length-1) 0).toNat=M6.val b/18446744073709551616^(b.length-1):=by
   rw[digit hb,cLT];apply cGY;rw[<-cGD,show(b.length-1).succ=b.length from by omega];exact bHU
  have ht:=aLZ hn bHU bKL aBC aCU aXV g1.1;rw[hx,nS,aN,w1,w2,w3,w4,aQ,aQ,aQ,cFB,cFB,cFB,cBG,cBG,gP ⟨g1.1,g2.1,g2.2,g3.2⟩];refine aSX (fun w:Int=>R/M6.val b<=w.toNat/\0<=w/\w<18446744073709551616) ht ?_;rintro w ⟨Ed,h0,h1⟩;obtain⟨w,rfl⟩:=cGG h0;rw[cFB]at Ed;rw[aQ];simp only[cFB,cBG,e5];rw[hu,gP ⟨hd,by trivial,by omega,hb,by omega,h0,h1⟩,aG,aG]
  by_cases hc:M6.val b*w<=R
  ·have ho:uZ.Xc (M6.val u) j (b.length+1) (M6.val b*w)=0:=by
    unfold uZ.Xc;rw[Ku (by rw[<-hR];exact aYC),<-hR,aO]
   have bRK:w=q:=by
    have:w<=R/M6.val b:=by rw[cNE hV,cGC];exact hc
    omega
   subst bRK;rw[ho,bI (by rfl),aQ,Nat.mul_zero,cCC,w5];exact bQV
  ·have ho:uZ.Xc (M6.val u) j (b.length+1) (M6.val b*w)=1:=by
    unfold uZ.Xc;rw[Ku (by rw[<-hR];exact aYC),<-hR,aQ]
   have bRK:q<w:=by
    rcases cBU q w with h |h
    ·exact h
    ·exact absurd (cCA (cDS _ h) bJR) hc
   rw[ho,bA (by decide),cBO];rw[bQJ hL hu hd hb (by omega) hR aYC hV bJQ hq (w-q-1) w (by omega) (by omega)];exact bQV
theorem spec(x:List Int×Nat×Nat)(b:List Int)(h:(sp x b).1):aF E f197 aE [(Ga gX .u64).put x,(pI .u64).put b]=some (sp x b).2/\∃rs oH,(sp x b).2=rs ++ [.io gX .u64 oH 0 0]/\oH.length=x.1.length:=by
 obtain⟨xl,xo,xn⟩:=x;obtain⟨hd,ho,hn,hb,h0,Qn,hL,kM⟩:=h;simp only at hd ho hn Qn hL kM;subst ho;subst hn;refine⟨(start xl 0 xl.length b).trans ?_,[_],_,rfl,M6.jJ ?_⟩
 ·have w1:i64.wrap ((xl.length:Int)-(b.length:Int))=((xl.length-b.length:Nat):Int):=by rw[wrap_i64];omega
  have w2:i64.wrap (((xl.length-b.length:Nat):Int)-1)=((xl.length-b.length:Nat):Int)-1:=by rw[wrap_i64]
  rw[w1,w2,aQ,cFB];refine cBC hL hb h0 Qn (xl.length-b.length) xl _ (cBE _) rfl hd (by simp) (M6.jH _) kM ?_;rw[cMV (by simp)];simp[M6.val]
 ·show _<18446744073709551616^xl.length;exact cHT (Nat.mod_le _ _) (M6.dR hd)
def aI:dJ:=orc2 (Ga gX .u64) (pI .u64) sp
theorem fnok:nM prog E 197 f197 aE:=xR tN mixed (nL _ _ rfl rfl (nQ uZ.ok (nQ Ag.ok zG)) (aA aEA.ok aC) (pJ)) func197 rfl rfl rfl rfl rfl
theorem ok:rW prog base.glob 197 aI:=fnok.lF rfl spec
end Hb
namespace Ci
def E:Env:={ ({ base with C:=tK [(197,Hb.aI)] (callsOf [(144,iI.aI),(101,Cm.aI),(193,aRP.aI),(194,oQ.aI),(95,pS.aI),(195,aRR.aI),(196,Cb.aI),(104,Hh.aI)]),ioF:=Qu [(197,Hb.aI)] })with nt:=98,own:=[37,49,55,68,76,88,93],keep:=fun k=>(tlook [] k).getD [],cut:=tlook [(3,[0,1])] }
def aE:=bd f151
theorem aT:Nk E aE:=nk
def J3 a b:=lP E f151 aE 3 [jR a,jR b]
theorem start a b:aF E f151 aE [D.s (ints u64 a),D.s (ints u64 b)]=letI B:=sc (slice none 0 0);letI A:=some [D.s B,D.s B,D.s (sc (int i64 2))];aM (a.length<=1099511627776) (aB (!iI.qI a) A (aM (b.length<=1099511627776) (aB (!iI.qI b) A (Ci.J3 a b)))):=eJ aT
theorem iB a b:J3 a b=letI K:=sc (int i64 0);letI H:=(a.length:Int);letI O:=H+(1:Int);letI G:=sc (slice none 0 0);letI C:=i64.wrap O;letI A:=(b.length:Int);letI N:=A-(1:Int);letI F:=i64.wrap N;aB (A==(0:Int)) (some [D.s G,D.s G,D.s (sc (int i64 4))]) (aM (M6.bZ a/\M6.bZ b/\a.length<=1099511627776/\b.length<=1099511627776) (aB (decide (jK (M6.val a) (M6.val b)<0)) (aM (M6.bZ a/\a.length<=1099511627776) (aD (bif dM.nT (M6.val a)then M6.dg (M6.val a)else []) fun c=>some [D.s G,D.s (ints u64 c),D.s K])) (aB (A==(1:Int)) (if(0:Int)<=(0:Int)/\0<A then aM (M6.cG a/\a.length<=8192/\0<b.getD 0 0/\b.getD 0 0<(18446744073709551616:Int)) (aD (M6.dg (M6.val a/(b.getD 0 0).toNat)) fun d=>aD (↑(M6.val a%(b.getD 0 0).toNat):Int) fun e=>aM (0<=e/\e<18446744073709551616) (some [D.s (ints u64 d),D.s (ints u64 (M6.dg e.toNat)),D.s K]))else none) (if 0<=i64.wrap N/\i64.wrap N<A then aM (0<=b.getD F.toNat 0/\b.getD F.toNat 0<(18446744073709551616:Int)) (aD ((64:Int)-(↑(bl (b.getD F.toNat 0).toNat):Int)) fun f=>aM (M6.bZ a/\0<=f/\f<64/\0<=i64.wrap O/\a.length<=C.toNat/\i64.wrap O<=549755813888/\M6.val a*(2:Nat)^f.toNat<(18446744073709551616:Nat)^C.toNat) (aD (M6.rP C.toNat (M6.val a*(2:Nat)^f.toNat)) fun g=>aM (M6.bZ b/\0<=f/\f<64/\0<=A/\b.length<=A.toNat/\A<=(549755813888:Int)/\M6.val b*(2:Nat)^f.toNat<(18446744073709551616:Nat)^A.toNat) (aD (M6.rP A.toNat (M6.val b*(2:Nat)^f.toNat)) fun h=>letI P:=g.length-h.length;letI I:=(h.length:Int);aM (M6.bZ g/\(0:Nat)=(0:Nat)/\g.length=g.length/\M6.bZ h/\0<h.length/\h.length<=g.length/\g.length<=549755813888/\M6.val g/(18446744073709551616:Nat)^P<M6.val h) (aD (M6.rP P (M6.val g/M6.val h)) fun i=>aD (M6.rP g.length (M6.val g%M6.val h)) fun j=>letI B:=cGZ (I.toNat-0) (cHA 0 j);if(0:Int)<=(0:Int)/\0<=I/\I<=(g.length:Int)then aM (M6.bZ B/\B.length<=1099511627776) (aD (bif dM.nT (M6.val B)then M6.dg (M6.val B)else []) fun k=>aM (M6.cG k/\k.length<=8192/\0<=f/\f<4611686018427387904) (aD (M6.dg (M6.val k/(2:Nat)^f.toNat)) fun l=>aM (M6.bZ i/\i.length<=1099511627776) (aD (bif dM.nT (M6.val i)then M6.dg (M6.val i)else []) fun m=>some [D.s (ints u64 m),D.s (ints u64 l),D.s K])))else none))))else none)))):=cJ aT
def sp(a b:List Int):Prop×List D:=(M6.cG a/\a.length<=8192/\M6.cG b/\1<=b.length/\b.length<=8192,[.s (.ints .u64 (M6.dg (M6.val a/M6.val b))),.s (.ints .u64 (M6.dg (M6.val a%M6.val b))),.s (.sc (.int .i64 0))])
theorem aCC{n k:Nat}(h:n<18446744073709551616^k)(hk:k<=8192):dM.nT n=true:=decide_eq_true (by have:=M6.dP h;omega)
theorem spec:Rq E f151 aE (pI .u64) (pI .u64) sp:=by
 rintro a b ⟨ha,hl,hb,h1,Qn⟩;have e:=start a b;have g:=hb.jE.get 0;have hz:M6.val b≠0:=fun h=>by have:=(M6.cZ hb).2 h;omega
 rw[gP,iI.oV ha hl,cDE,bF,gP,iI.oV hb (by omega),cDE,bF,iB,bA,gP ⟨ha.jE,hb.jE,by omega,by omega⟩]at e;unfold sp;simp only
 by_cases hc:M6.val a<M6.val b
 ·have Qm:dM.nT (M6.val a)=true:=aCC (M6.dR ha.jE) hl;rw[aN (by unfold jK;rw[if_pos hc];omega),gP ⟨ha.jE,by omega⟩,aG,Qm]at e;rw[cHB hc,cLT hc,M6.cB];exact⟨_,e,.cons (Ap.nil _) (iZ.refl _)⟩
 have hm:=cDM (M6.val a) (show 0<M6.val b by omega);rw[aL (by unfold jK;rw[if_neg hc];split <;> omega)]at e
 by_cases Kn:b.length=1
 ·have hv:M6.val b=(b.getD 0 0).toNat:=by
   have:=M6.bJ (a:=b) 0;rw[M6.bV (by omega)]at this;simpa [M6.val] using this
  rw[bI,if_pos ⟨by omega,by omega⟩,gP ⟨ha,by omega,by omega,by omega⟩,<-hv,aG,aG,gP ⟨cKX _,by generalize M6.val a%M6.val b=m at *;omega⟩,cFB]at e;exact⟨_,e,iZ.refl _⟩
 ·have w1:i64.wrap ((b.length:Int)-1)=((b.length-1:Nat):Int):=by rw[wrap_i64];omega
  have w2:i64.wrap ((a.length:Int)+1)=((a.length+1:Nat):Int):=by rw[wrap_i64];omega
  have gt:=hb.jE.get (b.length-1);have htop:b.getD (b.length-1) 0≠0:=by
   have:=M6.getLast_take (a:=b) (n:=b.length-1) (by omega);rw[show b.length-1+1=b.length from by omega,cHZ]at this;exact hb.top this
  have bML:=M6.bJ (a:=b) (b.length-1);rw[show b.length-1+1=b.length from by omega,cHZ]at bML;have bRN:=M6.iG hb.jE (b.length-1);obtain⟨x,hx⟩:=cGG gt.1;have Qx:x≠0:=by omega
  have hbx:bl x<=64:=dK.2 (by omega);have bSR:=qV Qx;have bRJ:=wL x;obtain⟨s,hs⟩:∃s:Nat,s=64-bl x:=⟨_,rfl⟩;have ws:(64-(bl x:Int))=(s:Int):=by omega
  have aPI:=M6.dR ha.jE;have bKP:=M6.dR hb.jE;have Io:2^s<18446744073709551616:=by
   have:2^s<2^64:=cHX (by omega) (by omega);omega
  have aCP:0<2^s:=cY;have bTE:M6.val a*2^s<18446744073709551616^(a.length+1):=by rw[cGD];exact cJS aPI Io
  have aGU:M6.val b*2^s<18446744073709551616^b.length:=by
   have h2:(x+1)*2^s<=2^bl x*2^s:=cCT _ bRJ;rw[<-cGE,show bl x+s=64 from by omega]at h2;have h3:M6.val b+1<=18446744073709551616^(b.length-1)*(x+1):=by
    rw[bML,hx,cFB,cGF];omega
   have h4:(M6.val b+1)*2^s<=18446744073709551616^(b.length-1)*(x+1)*2^s:=cCT _ h3;have h5:18446744073709551616^(b.length-1)*((x+1)*2^s)<=18446744073709551616^(b.length-1)*2^64:=cDS _ h2;have h6:18446744073709551616^(b.length-1)*2^64=18446744073709551616^b.length:=by
    conv=>rhs;rw[show b.length=(b.length-1)+1 from by omega,cGD]
   rw[h6]at h5;rw[cGH]at h4;rw[cBY]at h4;omega
  have hlab:b.length<=a.length:=by
   rcases cBU a.length b.length with h |h
   ·exact absurd (M6.oJ ha.jE hb h) hc
   ·exact h
  have Ed:18446744073709551616^(b.length-1)<=M6.val b:=by
   rw[bML,hx,cFB];have:18446744073709551616^(b.length-1)*1<=18446744073709551616^(b.length-1)*x:=cDS _ (by omega);omega
  have aGO:M6.val a*2^s/18446744073709551616^(a.length+1-b.length)<M6.val b*2^s:=by
   apply cGY;have h1:18446744073709551616^(a.length+1-b.length)*18446744073709551616^(b.length-1)<=18446744073709551616^(a.length+1-b.length)*M6.val b:=cDS _ Ed;rw[<-cGE,show a.length+1-b.length+(b.length-1)=a.length from by omega]at h1;rw[<-cGH];exact cJQ (cCB aPI h1) aCP
  have hQ:M6.val a*2^s/(M6.val b*2^s)=M6.val a/M6.val b:=cKC _ _ aCP;have hR:M6.val a*2^s%(M6.val b*2^s)=M6.val a%M6.val b*2^s:=cKD _ _ _;have bKK:M6.val a%M6.val b*2^s<18446744073709551616^b.length:=Nat.lt_trans (cJQ hm aCP) aGU;have hRl2:M6.val a%M6.val b*2^s<18446744073709551616^(a.length+1):=cCB bKK (M6.sF (by omega));have bZH:M6.val a/M6.val b<18446744073709551616^a.length:=cHT (cJR _ _) aPI;have bOU:M6.val a/M6.val b<18446744073709551616^(a.length+1-b.length):=by
   apply cGY;have h1:18446744073709551616^(b.length-1)*18446744073709551616^(a.length+1-b.length)<=M6.val b*18446744073709551616^(a.length+1-b.length):=cCT _ Ed;rw[<-cGE,show b.length-1+(a.length+1-b.length)=a.length from by omega]at h1;omega
  have bFV:M6.val ((M6.rP (a.length+1) (M6.val a%M6.val b*2^s)).take b.length)=M6.val a%M6.val b*2^s:=by
   rw[M6.vJ M6.nH,M6.nG,cLT bKK]
  rw[bA,w1,w2,aQ,cFB,cFB,cFB,gP gt,hx,cFB,ws,aG,cFB,
   gP ⟨ha.jE,by omega,by omega,by omega,by omega,by omega,bTE⟩,aG,gP ⟨hb.jE,by omega,by omega,by omega,cBE _,by omega,aGU⟩,aG,
   M6.jJ bTE,M6.jJ aGU,M6.nG,M6.nG,cFB,gP ⟨M6.nH,rfl,rfl,M6.nH,by omega,by omega,by omega,aGO⟩,aG,aG,hQ,hR,
   aQ,cHL,Nat.sub_zero,bFV,gP ⟨M6.nH.take _,by rw[List.length_take];omega⟩,aCC bKK Qn,cond_true,aG,
   gP ⟨M6.aY _,by have:=M6.dP bKK;omega,by omega,by omega⟩,M6.bD,cLH _ aCP,aG,gP ⟨M6.nH,by rw[M6.jJ bOU];omega⟩,M6.nG,aCC bZH hl,cond_true,aG]at e
  exact⟨_,e,iZ.refl _⟩
def aI:dJ:=orc2 (pI .u64) (pI .u64) sp
theorem fnok:uR prog E 151 f151 aE:=aJJ tN mixed (nL _ _ rfl rfl (nQ Hb.ok zG) (aA iI.ok (aA Cm.ok (aA aRP.ok (aA oQ.ok (aA pS.ok (aA aRR.ok (aA Cb.ok (aA Hh.ok aC)))))))) (pJ)) func151 rfl rfl rfl
theorem ok:mN prog base.glob 151 aI:=fnok.aSD rfl spec
end Ci
namespace aKN
def E:=mE [(96,fV.aI),(151,Ci.aI),(102,vY.aI),(99,Co.aI)] 60 [28,50,57] [(3,[2,3,4])] [3]
def aE:=bd f109
theorem aT:Nk E aE:=nk
def J3 a b c d e:=lP E f109 aE 3 [dS 0 27 [dG a,gO b],dS 1 27 [dG c,gO d],dS 2 27 [dG e,sc (slice none 0 0)]]
theorem start a b c d:aF E f109 aE [D.agg [sc (bool a),ints u64 b],D.agg [sc (bool c),ints u64 d]]=letI A:=some [D.agg [sc (bool false),sc (slice none 0 0)],D.s (sc (int i64 2))];aM (b.length<=1099511627776) (aB (!fV.oZ (a,b)) A (aM (d.length<=1099511627776) (aB (!fV.oZ (c,d)) A (aKN.J3 a b c d false)))):=eJ aT
theorem iB a b c d e:J3 a b c d e=letI A:=M6.dg (M6.val b%M6.val d);letI F:=M6.dg (M6.val d-M6.val A);letI C:=bif (if M6.val d<M6.val A then(3:Int)else(0:Int))==0 then zs c (M6.val F)else(0:Int);letI B:=aM (M6.cG A/\A.length<=1099511627776) (some [D.agg [sc (bool (isNeg (zs c (M6.val A)))),ints u64 (M6.dg (zs c (M6.val A)).natAbs)],D.s (sc (int i64 0))]);aB ((d.length:Int)==(0:Int)) (some [D.agg [sc (bool false),sc (slice none 0 0)],D.s (sc (int i64 4))]) (aM (M6.cG b/\b.length<=8192/\M6.cG d/\1<=d.length/\d.length<=8192) (aB (a !=c) (aB (decide (0<(A.length:Int))) (aM (M6.cG d/\M6.cG A/\d.length<=8192/\A.length<=8192) (aM (M6.cG F/\F.length<=1099511627776) (some [D.agg [sc (bool (isNeg C)),ints u64 (M6.dg C.natAbs)],D.s (sc (int i64 (if M6.val d<M6.val A then(3:Int)else(0:Int))))]))) B) B)):=cJ aT
def sp(x y:Bool×List Int):Prop×List D:=(iE x/\iE y/\y.1=false/\1<=y.2.length,[wD (wv x%wv y),.s (.sc (.int .i64 0))])
theorem spec:fL E f109 aE pV pV sp:=by
 rintro x y ⟨hx,hy,hn,h1⟩;refine(start x.1 x.2 y.1 y.2).trans ?_;have l1:=hx.len;have l2:=hy.len;have f1:=fV.mD hx;have f2:=fV.mD hy;have b2:=hy.bl;obtain⟨p,a⟩:=x;obtain⟨q,b⟩:=y;have n1:M6.cG a:=hx.1;have n2:M6.cG b:=hy.1
 try dsimp only at *
 subst hn;unfold sp
 try dsimp only
 have hz:M6.val b≠0:=fun h=>by have:=(M6.cZ n2).2 h;omega
 have hm:=cDM (M6.val a) (show 0<M6.val b by omega);have hl:=fZ (n:=M6.val a%M6.val b) (k:=8192) (cCA (gF (Nat.le_of_lt hm)) b2);have bJW:=fZ (n:=M6.val b-M6.val a%M6.val b) (k:=8192) (cCA (gF (Nat.sub_le _ _)) b2);have hb:wv (false,b)=(M6.val b:Int):=Hm (x:=(false,b)) rfl;have zf:∀n:Nat,zs false n=(n:Int):=fun n=>rfl
 rw[gP,f1,cDE,bF,gP,f2,cDE,bF,iB,bA,gP ⟨n1,l1,n2,h1,l2⟩];simp only[M6.bD];cases p with
 |false =>
  have ha:wv (false,a)=(M6.val a:Int):=Hm (x:=(false,a)) rfl;rw[show(false !=false)=false from rfl,bF,gP ⟨M6.aY _,by omega⟩,ha,hb,<-cHV];rfl
 |true =>
  have ha:wv (true,a)=-(M6.val a:Int):=Tt (x:=(true,a)) rfl;rw[show(true !=false)=true from rfl,bT]
  by_cases hr:M6.val a%M6.val b=0
  ·have e0:-(M6.val a:Int)%(M6.val b:Int)=0:=by
    have aUY:=cGK (M6.val a) (M6.val b);rw[hr,cCC]at aUY;rw[<-aUY,cHC,<-cKE];exact Int.mul_emod_right _ _
   rw[hr,M6.cB,aL (by simp),gP ⟨M6.Lm,by simp⟩,ha,hb,e0];rfl
  ·have hd:(M6.dg (M6.val a%M6.val b)).length≠0:=fun h=>hr (M6.gM.1 h)
   have e0:-(M6.val a:Int)%(M6.val b:Int)=((M6.val b-M6.val a%M6.val b:Nat):Int):=by
    have aUY:=cGK (M6.val a) (M6.val b);have e1:-(M6.val a:Int)=((M6.val b-M6.val a%M6.val b:Nat):Int)+(M6.val b:Int)*(-(((M6.val a/M6.val b+1:Nat)):Int)):=by
     have e2:((M6.val b*(M6.val a/M6.val b)+M6.val a%M6.val b:Nat):Int)=(M6.val a:Int):=by rw[aUY]
     rw[cME,cHC]at e2;rw[cKE,cME,Int.mul_add];generalize M6.val a%M6.val b=r at *;generalize (M6.val b:Int)*((M6.val a/M6.val b:Nat):Int)=z at *;omega
    rw[e1,Int.add_mul_emod_self_left];exact Int.emod_eq_of_lt (by omega) (by omega)
   rw[aN,gP ⟨n2,M6.aY _,l2,hl⟩,gP ⟨M6.aY _,by omega⟩,aO,ha,hb,e0];rfl
def aI:dJ:=orc2 pV pV sp
theorem ok:OK 109 aI:=(eB E aE (aA fV.ok (aA Ci.ok (aA vY.ok (aA Co.ok aC)))) func109).lF rfl spec
end aKN
namespace uO
def E:=mE [(96,fV.aI)] 40 [] [(8,[1,4])] [8]
def aE:=bd f110
theorem aT:Nk E aE:=nk
def J8 a b c:=lP E f110 aE 8 [dS 0 27 [dG a,gO b],dO c]
theorem start a b:aF E f110 aE [D.agg [sc (bool a),ints u64 b]]=letI F:=uO.J8 a b (b.getD 0 0);letI C:=(b.length:Int);letI B:=sc (int i64 0);letI A:=some [D.s B,D.s (sc (int i64 5))];aM (b.length<=1099511627776) (aB (!fV.oZ (a,b)) (some [D.s B,D.s (sc (int i64 2))]) (aB (C==(0:Int)) (some [D.s B,D.s B]) (if(0:Int)<=(0:Int)/\0<C then aB (decide (1<C)) A (aB (decide (9223372036854775808<b.getD 0 0)) A (aB (b.getD 0 0==(9223372036854775808:Int)) (aB (!a) A F) F))else none))):=eJ aT
theorem Ai a b c:J8 a b c=aB a (some [D.s (sc (int i64 (i64.wrap (u64.wrap ((0:Int)-c))))),D.s (sc (int i64 0))]) (some [D.s (sc (int i64 (i64.wrap c))),D.s (sc (int i64 0))]):=cJ aT
def uE(z:Int):Bool:=decide (-9223372036854775808<=z)&&decide (z<9223372036854775808)
def sp(x:Bool×List Int):Prop×List D:=(iE x,[.s (.sc (.int .i64 (bif uE (wv x)then wv x else 0))),.s (.sc (.int .i64 (bif uE (wv x)then 0 else 5)))])
theorem spec:iU E f110 aE pV sp:=by
 intro x h;have h:iE x:=h;refine(start x.1 x.2).trans ?_;obtain⟨b,a⟩:=x;have hl:a.length<=8192:=h.len;have h1:M6.cG a:=h.1;have g:=h1.jE.get 0;have hf:=fV.mD h
 try dsimp only
 unfold sp
 try dsimp only
 rw[gP,hf,cDE,bF];have yes:∀z:Int,-9223372036854775808<=z->z<9223372036854775808->uE z=true:=fun z h h'=>by unfold uE;rw[decide_eq_true h,decide_eq_true h'];rfl
 have no:∀z:Int,(z < -9223372036854775808\/9223372036854775808<=z)->uE z=false:=fun z h=>by
  unfold uE;rcases h with h |h
  ·rw[decide_eq_false (by omega),cGN]
  ·rw[decide_eq_false (show ¬z<_ by omega),cGQ]
 by_cases hz:a.length=0
 ·have hv:=(M6.cZ h1).1 hz;have:wv (b,a)=0:=by
   have:=jB (b,a);rw[show M6.val (b,a).2=0 from hv]at this;omega
  rw[bI,this];rfl
 ·rw[bA,if_pos ⟨by omega,by omega⟩];have bMK:M6.val a≠0:=fun h=>hz ((M6.cZ h1).2 h)
  have aPD:=jB (b,a)
  try dsimp only at aPD
  by_cases h2:1<a.length
  ·have Ed:18446744073709551616<=M6.val a:=by
    have:=M6.Dg (n:=M6.val a) (k:=1) (by rw[aNQ h1];exact h2);omega
   rw[aN,no _ (by omega)];rfl
  ·have hv:M6.val a=(a.getD 0 0).toNat:=by
    have:=M6.bJ (a:=a) 0;rw[M6.bV (by omega)]at this;simpa [M6.val] using this
   rw[aL];generalize a.getD 0 0=w at *
   by_cases h3:9223372036854775808<w
   ·rw[aN h3,no _ (by omega)];rfl
   ·rw[aL h3,Ai];cases b with
    |true =>
     have hw:wv (true,a)=-(M6.val a:Int):=Tt (x:=(true,a)) rfl;have e1:i64.wrap (u64.wrap (0-w))=wv (true,a):=by rw[hw,fM,Jo];omega
     rw[yes _ (by omega) (by omega),cDE,bF,bT,e1];unfold aB;cases (w==9223372036854775808) <;> rfl
    |false =>
     have hw:wv (false,a)=(M6.val a:Int):=Hm (x:=(false,a)) rfl;rw[cMR,bT,bF]
     by_cases h4:w=9223372036854775808
     ·rw[bI h4,no _ (by omega)];rfl
     ·rw[bA h4,yes _ (by omega) (by omega),wrap_i64];rw[show w=wv (false,a)from by omega];rfl
def aI:dJ:=orc1 pV sp
theorem ok:OK 110 aI:=(eB E aE (aA fV.ok aC) func110).oS rfl spec
end uO
namespace aAN
def E:=mE [(51,aKL.aI),(109,aKN.aI),(110,uO.aI)] 19 [15] [] []
def aE:=bd f60
theorem aT:Nk E aE:=nk
theorem start a b:aF E f60 aE [D.agg [sc (bool a),ints u64 b]]=letI B:=(isNeg 4,M6.dg 4);letI A:=(isNeg (wv (a,b)%wv B),M6.dg (wv (a,b)%wv B).natAbs);aM ((-9223372036854775808:Int)<=(4:Int)/\(4:Int)<(9223372036854775808:Int)) (aM (iE (a,b)/\iE B/\isNeg 4=false/\1<=(M6.dg 4).length) (aM (iE A) (some [D.s (sc (int i64 (bif uO.uE (wv A)then wv A else(0:Int))))]))):=eJ aT
def sp(x:Bool×List Int):Prop×List D:=(iE x,[.s (.sc (.int .i64 (wv x%4)))])
theorem spec:iU E f60 aE pV sp:=by
 intro x h;have h:iE x:=h;have e4:wv (isNeg 4,M6.dg 4)=4:=oI 4;have w4:iE (isNeg 4,M6.dg 4):=gN (z:=4) (cCA (dK.2 (show(4:Int).natAbs<2^3 by decide)) (by omega));have l4:(M6.dg 4).length=1:=by
  have h1:=M6.dP (n:=4) (k:=1) (by decide);have h2:(M6.dg 4).length≠0:=fun h=>by have:=M6.gM.1 h;omega
  omega
 have hr:0<=wv x%4/\wv x%4<4:=by omega
 refine(start x.1 x.2).trans ?_;rw[gP,gP ⟨h,w4,rfl,Nat.le_of_eq l4.symm⟩,e4,oI];show aM _ _=some [D.s (.sc (.int .i64 (wv x%4)))];generalize wv (x.1,x.2)%4=r at *;rw[gP (gN (cCA (dK.2 (show r.natAbs<2^3 by omega)) (by omega)))];have:uO.uE r=true:=by unfold uO.uE;rw[decide_eq_true (by omega),decide_eq_true (by omega)];rfl
 rw[this];rfl
def aI:dJ:=orc1 pV sp
theorem ok:OK 60 aI:=(eB E aE (aA aKL.ok (aA aKN.ok (aA uO.ok aC))) func60).oS rfl spec
end aAN
namespace dU
def E:=mE [(12,aZ.aI),(56,kW.aI),(13,bS.aI),(57,aAO.aI),(58,Ww.aI),(59,Wv.aI),(48,Cp.aI),(60,aAN.aI)] 71 [22,68] [] []
def aE:=bd f18
theorem aT:Nk E aE:=nk
theorem start a:aF E f18 aE [D.s (sc (int u64 a))]=letI N:=sc (int i64 0);letI I:=bif iQ 1 (-1:Int)then aR 1 (-1:Int)else((0:Int),(0:Int));letI B:=bif cD.eZ 64 a&&cE.jD 64 a then aR (aZ.kA 64 a) (aZ.lG 64 a)else((0:Int),(0:Int));aM (((64:Int)=(32:Int)\/(64:Int)=(64:Int))/\0<=a/\a<18446744073709551616) (aD (isNeg B.fst) fun b=>aD (M6.dg B.fst.natAbs) fun c=>aD B.snd fun d=>letI O:=dv (b,c,d);letI H:=bif kW.Hv O 1 then kW.Qg O 1 else((0:Int),(0:Int));aD (bif cD.eZ 64 a then bif cE.jD 64 a then(0:Int)else(6:Int)else(2:Int)) fun e=>aB (e !=0) (some [D.s N,D.agg [sc (bool false),sc (slice none 0 0),sc (int i64 0)],D.s (sc (int i64 e))]) (aM (aU (b,c,d)/\(-9223372036854775808:Int)<=(1:Int)/\(1:Int)<(9223372036854775808:Int)) (aD (isNeg H.fst) fun f=>aD (M6.dg H.fst.natAbs) fun g=>aD H.snd fun h=>aM (((-9223372036854775808:Int)<=(1:Int)/\(1:Int)<(9223372036854775808:Int))/\(-9223372036854775808:Int)<=(-1:Int)/\(-1:Int)<(9223372036854775808:Int)) (aD (isNeg I.fst) fun i=>aD (M6.dg I.fst.natAbs) fun j=>aD I.snd fun k=>letI C:=bif bS.lA (dv (f,g,h)) (dv (i,j,k))then bS.oN (dv (f,g,h)) (dv (i,j,k))else((0:Int),(0:Int));aM (aU (f,g,h)/\aU (i,j,k)) (aD (isNeg C.fst) fun l=>aD (M6.dg C.fst.natAbs) fun m=>aD C.snd fun n=>letI G:=bif rD.uM (dv (l,m,n)) 0 then rD.Bs (dv (l,m,n)) 0 else((0:Int),(0:Int));aM (aU (l,m,n)/\(-4611686018427387904:Int)<=(0:Int)/\(0:Int)<(4611686018427387904:Int)) (aD (isNeg G.fst) fun o=>aD (M6.dg G.fst.natAbs) fun p=>aD G.snd fun q=>letI K:=bif fit (M6.val p*(2:Nat)^q.toNat)then wv (o,p)*(↑((2:Nat)^q.toNat):Int)else(0:Int);letI F:=bif kW.Hv (dv (o,p,q)) (-1:Int)then kW.Qg (dv (o,p,q)) (-1:Int)else((0:Int),(0:Int));aM (aU (o,p,q)/\(-9223372036854775808:Int)<=(-1:Int)/\(-1:Int)<(9223372036854775808:Int)) (aD (isNeg F.fst) fun r=>aD (M6.dg F.fst.natAbs) fun s=>aD F.snd fun t=>letI P:=dv (r,s,t);letI A:=bif bS.lA O (-P.fst,P.snd)then bS.oN O (-P.fst,P.snd)else((0:Int),(0:Int));aM (aU (b,c,d)/\aU (r,s,t)) (aD (isNeg A.fst) fun u=>aD (M6.dg A.fst.natAbs) fun v=>aD A.snd fun w=>aB (decide (q<2)) (aM (iE (o,p)/\0<=q/\q<4611686018427387904) (aD (isNeg K) fun x=>aD (M6.dg K.natAbs) fun y=>aM (iE (x,y)) (aD (wv (x,y)%4) fun z=>some [D.s (sc (int i64 z)),D.agg [sc (bool u),ints u64 v,sc (int i64 w)],D.s N]))) (some [D.s N,D.agg [sc (bool u),ints u64 v,sc (int i64 w)],D.s N]))))))))):=eJ aT
def Du(p:Int×Int):Int:=if 0<=p.2 then p.1*p2 (p.2+1)else(p.1*4+p2 (-p.2))/p2 (1-p.2)
def Yb(p:Int×Int):Int:=if 0<=p.2 then 0 else p.1*2-Du p*p2 (-p.2)
def Ki(p:Int×Int):Int×Int:=aR (Yb p) (p.2-1)
def qR(a:Int):Int×Int:=aR (aZ.kA 64 a) (aZ.lG 64 a)
def sp(a:Int):Prop×List D:=(0<=a/\a<18446744073709551616,[.s (.sc (.int .i64 (bif cE.jD 64 a then Du (qR a)%4 else 0))),dD (bif cE.jD 64 a then Ki (qR a)else(0,0)),.s (.sc (.int .i64 (bif cE.jD 64 a then 0 else 6)))])
theorem dR{a:Int}(_:0<=a)(hf:cE.jD 64 a=true):(aZ.kA 64 a).natAbs<2^53/\-1074<=aZ.lG 64 a/\aZ.lG 64 a<=971:=by
 have Dw:0<=a%cA.cF (aH.fD 64):=by rw[show cA.cF (aH.fD 64)=9223372036854775808 from rfl];omega
 have qA:a%cA.cF (aH.fD 64)<lE.mW (aH.fD 64):=of_decide_eq_true hf;have hm:=aZ.Us aH.uU Dw;have hx:=aZ.Vi aH.uU Dw qA;refine⟨?_,hx.1,?_⟩
 ·unfold aZ.kA;rw[kR];have:=hm.2;rw[show aH.fD 64=(64,53,-1074,9221120237041090561)from rfl]at *;omega
 ·unfold aZ.lG dT.sT;rw[show lE.mW (aH.fD 64)=9218868437227405312 from rfl]at qA;rw[show cO.lC (aH.fD 64)=4503599627370496 from rfl];rw[show(aH.fD 64).2.2.1=-1074 from rfl];split <;> omega
theorem aCD{a:Int}(h0:0<=a)(hf:cE.jD 64 a=true):kT (qR a)/\(qR a).1.natAbs<2^53/\-1074<=(qR a).2/\(qR a).2<=1024:=by
 obtain⟨h1,h2,h3⟩:=dR h0 hf;have hb:bl (aZ.kA 64 a).natAbs<=53:=dK.2 h1;have ha:=Ge (aZ.kA 64 a) (aZ.lG 64 a);refine⟨iF (iM (by omega) (by omega)) (by omega),?_,?_⟩
 ·unfold qR;omega
 ·unfold qR
  by_cases hz:aZ.kA 64 a=0
  ·rw[hz,fR];exact⟨by show(-1074:Int)<=0;omega,by show(0:Int)<=1024;omega⟩
  ·have:=(mB (e:=aZ.lG 64 a) hz).2;have:=Dz (n:=(aZ.kA 64 a).natAbs) (by omega);omega
theorem spec:aRI E f18 aE (pN .u64) sp:=by
 rintro a ⟨h0,h1⟩;have hp:cD.eZ 64 a=true:=rfl;unfold sp
 try dsimp only
 cases hf:cE.jD 64 a with
 |false =>
  have s:=start a;rw[gP ⟨.inr rfl,h0,h1⟩,hp,hf,vl,vl,vl,vl,nW (by decide)]at s;refine⟨_,s,.cons (Ap.refl _) (.cons ?_ (iZ.refl _))⟩;unfold dD;rw[cond_false,show((0,0):Int×Int).1.natAbs=0 from rfl,M6.cB];exact Ap.agg (.cons (Fe.refl _) (.cons (Fe.nil _) (zZ.refl _)))
 |true =>
  refine⟨_,(start a).trans ((gP ⟨.inr rfl,h0,h1⟩).trans ?_),iZ.refl _⟩
  try dsimp only[cond_true]
  have e1:(bif cD.eZ 64 a&&cE.jD 64 a then aR (aZ.kA 64 a) (aZ.lG 64 a)else((0:Int),(0:Int)))=qR a:=by rw[hp,hf];rfl
  have bTL:(bif cD.eZ 64 a then bif cE.jD 64 a then(0:Int)else 6 else 2)=0:=by rw[hp,hf];rfl
  rw[e1,bTL,Dy,vl,gD rfl];obtain⟨aIV,hm,aUX,aGQ⟩:=aCD h0 hf;generalize qR a=p at *;obtain⟨m,e⟩:=p;have hs:aR m e=(m,e):=aIV.same
  try dsimp only at hm aUX aGQ
  have bm:bl m.natAbs<=53:=dK.2 hm;rw[gP ⟨dV aIV,by omega,by omega⟩,dY];have bK:bl (Du (m,e)).natAbs<=1100:=by
   unfold Du
   try dsimp only
   split
   ·have:=Bv (n:=e+1) (k:=1025) bm (by omega);omega
   ·refine bCC ?_ _;have b1:=Bv (z:=m) (n:=2) (k:=2) bm (by omega);have b2:=Bv (z:=1) (n:=-e) (k:=1074) Iz (by omega);rw[cJO]at b2;exact cCA (aDQ (n:=1075) (cCA b1 (by omega)) b2) (by omega)
  have hR:Ki (m,e)=aR (if 0<=e then 0 else m*2-Du (m,e)*p2 (-e)) (e-1):=rfl;have hK:Du (m,e)=if 0<=e then m*p2 (e+1)else(m*4+p2 (-e))/p2 (1-e):=rfl
  generalize Du (m,e)=K at *;generalize Ki (m,e)=R at *;rw[<-hs];have e2:(bif kW.Hv (aR m e) 1 then kW.Qg (aR m e) 1 else((0:Int),(0:Int)))=aR m (e+1):=by
   rw[Xy (by omega) (by omega),aFK];rfl
  have e3:(bif iQ 1 (-1)then aR 1 (-1)else((0:Int),(0:Int)))=aR 1 (-1):=by
   rw[iM (by omega) (by have:=Iz;omega)];rfl
  have bUY:kT (aR m (e+1)):=iF (iM (by omega) (by omega)) (by omega);have p3:kT (aR 1 (-1)):=iF (iM (by omega) (by have:=Iz;omega)) (by have:=Iz;omega);rw[e2,e3,Dy,gP ⟨by omega,by omega⟩,Dy,gP ⟨dV bUY,dV p3⟩,dY,dY];obtain⟨S,G,hS,hG0,bPD,Qm,aVC,bDS⟩:∃S G:Int,bl S.natAbs<=1100/\-1100<=G/\G<=-1/\bS.lA (aR m (e+1)) (aR 1 (-1))=true/\bS.oN (aR m (e+1)) (aR 1 (-1))=aR S G/\S/p2 (0-G)=K:=by
   by_cases hc:0<=e
   ·have b1:=Bv (z:=m) (n:=e+1 - -1) (k:=1026) bm (by omega);have b2:=Bv (z:=1) (n:=-1 - -1) (k:=0) Iz (by omega);refine⟨_,-1,cCA (aDQ (n:=1080) (cCA b1 (by omega)) (cCA b2 (by omega))) (by omega),by omega,by omega,Dm (G:=-1) (by omega) (by omega) (by omega) (by omega) (by omega) (by omega),Gz (by omega) (by omega),?_⟩;rw[hK,if_pos hc,show e+1 - -1=e+1+1 by omega,uH (by omega) (by omega),show p2 (0 - -1)=2 from rfl,show p2 (-1 - -1)=1 from rfl,aNJ];generalize p2 (e+1)=q;rw[<-cHR];omega
   ·have b1:=Bv (z:=m) (n:=e+1-(e-1)) (k:=2) bm (by omega);have b2:=Bv (z:=1) (n:=-1-(e-1)) (k:=1074) Iz (by omega);refine⟨_,e-1,cCA (aDQ (n:=1080) (cCA b1 (by omega)) (cCA b2 (by omega))) (by omega),by omega,by omega,Dm (G:=e-1) (by omega) (by omega) (by omega) (by omega) (by omega) (by omega),Gz (by omega) (by omega),?_⟩;rw[hK,if_neg hc,show e+1-(e-1)=2 by omega,show -1-(e-1)=-e by omega,cJO,show p2 2=4 from rfl,show 0-(e-1)=1-e by omega]
  have e4:(bif bS.lA (aR m (e+1)) (aR 1 (-1))then bS.oN (aR m (e+1)) (aR 1 (-1))else((0:Int),(0:Int)))=aR S G:=by rw[Qm,aVC];rfl
  have p4:kT (aR S G):=iF (iM (by omega) (by omega)) (by omega);have e5:(bif rD.uM (aR S G) 0 then rD.Bs (aR S G) 0 else((0:Int),(0:Int)))=aR K 0:=by
   rw[aDC (by omega) (by omega) (by rw[bDS];omega),aJG (by omega),bDS];rfl
  have p5:kT (aR K 0):=iF (iM (by omega) (by omega)) (by omega);rw[e4,Dy,gP ⟨dV p4,by omega,by omega⟩,dY,e5,Dy,gP ⟨dV p5,by omega,by omega⟩,dY];have e6:(bif kW.Hv (aR K 0) (-1)then kW.Qg (aR K 0) (-1)else((0:Int),(0:Int)))=aR K (-1):=by
   rw[Xy (by omega) (by omega),aFK];rfl
  have p6:kT (aR K (-1)):=iF (iM (by omega) (by omega)) (by omega);rw[e6,Dy,gP ⟨dV (hs▸aIV),dV p6⟩,dY,<-Yn];have e7:(bif bS.lA (aR m e) (aR (-K) (-1))then bS.oN (aR m e) (aR (-K) (-1))else((0:Int),(0:Int)))=R:=by
   rw[hR]
   by_cases hc:0<=e
   ·have b1:=Bv (z:=m) (n:=e - -1) (k:=1026) bm (by omega);have b2:=Bv (z:=-K) (n:=-1 - -1) (k:=0) (aQZ bK) (by omega);rw[Dm (G:=-1) (by omega) (by omega) (by omega) (by omega) (by omega) (by omega),Gz (G:=-1) (by omega) (by omega),if_pos hc,hK,if_pos hc,show e - -1=e+1 by omega,show p2 (-1 - -1)=1 from rfl,cMT];rw[show m*p2 (e+1)+-(m*p2 (e+1))=0 by omega,fR,fR];rfl
   ·have b1:=Bv (z:=m) (n:=e-(e-1)) (k:=1) bm (by omega);have b2:=Bv (z:=-K) (n:=-1-(e-1)) (k:=1074) (aQZ bK) (by omega);rw[Dm (G:=e-1) (by omega) (by omega) (by omega) (by omega) (by omega) (by omega),Gz (G:=e-1) (by omega) (by omega),if_neg hc,show e-(e-1)=1 by omega,show -1-(e-1)=-e by omega,aNJ,cKU,<-Int.sub_eq_add_neg];rfl
  rw[e7,Dy];have gK:=aCE (z:=K) (e:=0) (G:=0) (by omega);rw[cMF,Int.sub_zero,aFX,cMT]at gK;have bXP:0<=(aR K 0).2:=by
   by_cases hz:K=0
   ·rw[hz,fR];exact cMA 0
   ·exact tF hz
  have bWG:M6.val (M6.dg (aR K 0).1.natAbs)=(aR K 0).1.natAbs:=M6.bD _;have aOW:fit (M6.val (M6.dg (aR K 0).1.natAbs)*2^(aR K 0).2.toNat)=true:=by
   rw[bWG,<-aDX,gK];exact decide_eq_true (by omega)
  by_cases hc:(aR K 0).2<2
  ·rw[aN hc,gP ⟨(dV p5).Fo,by omega,by omega⟩,oI,aOW];have e8:(bif true then(aR K 0).1*((2^(aR K 0).2.toNat:Nat):Int)else(0:Int))=K:=gK;rw[e8,vl,vl,gP (gN (by omega)),oI,vl];rfl
  ·rw[aL hc];have:K%4=0:=by
    have e9:p2 (aR K 0).2=p2 ((aR K 0).2-2)*4:=by
     have:=uH (m:=(aR K 0).2-2) (n:=2) (by omega) (by omega);rwa [show(aR K 0).2-2+2=(aR K 0).2 by omega]at this
    rw[e9,<-cHR]at gK;generalize (aR K 0).1*p2 ((aR K 0).2-2)=q at *;omega
   rw[this];rfl
def aI:dJ:=orc1 (pN .u64) sp
theorem ok:OK 18 aI:=(eB E aE (aA aZ.ok (aA kW.ok (aA bS.ok (aA aAO.ok (aA Ww.ok (aA Wv.ok (aA Cp.ok (aA aAN.ok aC)))))))) func18).bEK rfl spec
end dU
namespace lM
def E:=mE [(78,aH.aI)] 12 [] [] []
def aE:=bd f84
theorem aT:Nk E aE:=nk
theorem start a:aF E f84 aE [D.s (sc (int i64 a))]=letI A:=aH.fD a;aM True (aB (A.fst==0&&(A.snd.fst==0&&(A.snd.snd.fst==0&&(A.snd.snd.snd==0&&true)))) (some [D.s (sc (int u64 0)),D.s (sc (int i64 1))]) (some [D.s (sc (int u64 A.snd.snd.snd)),D.s (sc (int i64 0))])):=eJ aT
def Am(f:Int):Bool:=decide (f=32\/f=64)
def sp(f:Int):Prop×List D:=(True,[.s (.sc (.int .u64 (aH.fD f).2.2.2)),.s (.sc (.int .i64 (bif Am f then 0 else 1)))])
theorem spec:iU E f84 aE (pN .i64) sp:=by
 intro f h;refine(start f).trans ((gP trivial).trans ?_);unfold sp Am
 try dsimp only
 by_cases h1:f=32
 ·subst h1;rfl
 ·by_cases h2:f=64
  ·subst h2;rfl
  ·have:aH.fD f=(0,0,0,0):=by unfold aH.fD;rw[if_neg h1,if_neg h2]
   rw[this,decide_eq_false (by omega)];rfl
def aI:dJ:=orc1 (pN .i64) sp
theorem ok:OK 84 aI:=(eB E aE (aA aH.ok aC) func84).oS rfl spec
end lM
namespace wT
def E:=mE [] 13 [] [] []
def aE:=bd f61
theorem aT:Nk E aE:=nk
theorem start a:aF E f61 aE [D.s (sc (int i64 a))]=letI A:=some [D.s (sc (bool true))];aB (a==4) A (aB (a==5) A (some [D.s (sc (bool (a==6)))])):=eJ aT
def Bl(a:Int):Bool:=decide (a=4\/a=5\/a=6)
def sp(a:Int):Prop×List D:=(True,[.s (.sc (.bool (Bl a)))])
theorem spec:iU E f61 aE (pN .i64) sp:=by
 intro a h;refine(start a).trans ?_;unfold sp Bl
 try dsimp only
 by_cases h1:a=4
 ·rw[bI h1,decide_eq_true (by omega)]
 ·rw[bA h1]
  by_cases h2:a=5
  ·rw[bI h2,decide_eq_true (by omega)]
  ·rw[bA h2]
   by_cases h3:a=6
   ·rw[beq_iff_eq.2 h3,decide_eq_true (by omega)]
   ·rw[beq_eq_false_iff_ne.2 h3,decide_eq_false (by omega)]
def aI:dJ:=orc1 (pN .i64) sp
theorem ok:OK 61 aI:=(eB E aE aC func61).oS rfl spec
end wT
namespace fF
def E:=mE [(94,cO.aI),(81,lE.aI)] 23 [] [] []
def aE:=bd f79
theorem aT:Nk E aE:=nk
theorem start a c d e b:aF E f79 aE [D.agg [sc (int i64 a),sc (int i64 c),sc (int i64 d),sc (int u64 e)],D.s (sc (int u64 b))]=letI B:=(a,c,d,e);letI A:=aH.vB B;aB (b==0) (some [D.s (sc (int i64 0))]) (aM A (aB (decide (b<cO.lC B)) (some [D.s (sc (int i64 1))]) (aM A (aB (decide (b<lE.mW B)) (some [D.s (sc (int i64 2))]) (aM A (aB (b==lE.mW B) (some [D.s (sc (int i64 3))]) (some [D.s (sc (int i64 4))]))))))):=eJ aT
def fW(s:Int×Int×Int×Int)(n:Int):Int:=if n=0 then 0 else if n<cO.lC s then 1 else if n<lE.mW s then 2 else if n=lE.mW s then 3 else 4
def sp(s:Int×Int×Int×Int)(n:Int):Prop×List D:=(aH.vB s,[.s (.sc (.int .i64 (fW s n)))])
theorem spec:fL E f79 aE (pG (.pair (sN .i64) (.pair (sN .i64) (.pair (sN .i64) (sN .u64))))) (pN .u64) sp:=by
 intro s n h;obtain⟨s1,s2,s3,s4⟩:=s;have h:aH.vB (s1,s2,s3,s4):=h;refine(start s1 s2 s3 s4 n).trans ?_;show _=some [D.s (.sc (.int .i64 (fW (s1,s2,s3,s4) n)))];unfold fW
 by_cases h1:n=0
 ·rw[bI h1,if_pos h1]
 ·rw[bA h1,if_neg h1,gP h]
  by_cases h2:n<cO.lC (s1,s2,s3,s4)
  ·rw[aN h2,if_pos h2]
  ·rw[aL h2,if_neg h2,gP h]
   by_cases h3:n<lE.mW (s1,s2,s3,s4)
   ·rw[aN h3,if_pos h3]
   ·rw[aL h3,if_neg h3,gP h]
    by_cases h4:n=lE.mW (s1,s2,s3,s4)
    ·rw[bI h4,if_pos h4]
    ·rw[bA h4,if_neg h4]
def aI:dJ:=orc2 (pG (.pair (sN .i64) (.pair (sN .i64) (.pair (sN .i64) (sN .u64))))) (pN .u64) sp
theorem ok:OK 79 aI:=(eB E aE (aA cO.ok (aA lE.ok aC)) func79).lF rfl spec
end fF
namespace wY
def E:=mE [(77,cD.aI),(79,fF.aI)] 24 [13,23] [] []
def aE:=bd f83
theorem aT:Nk E aE:=nk
theorem start a b:aF E f83 aE [D.s (sc (int i64 a)),D.s (sc (int u64 b))]=letI C:=bif cD.eZ a b then(0:Int)else(2:Int);letI A:=aH.fD a;letI B:=(A.fst,A.snd.fst,A.snd.snd.fst,A.snd.snd.snd);aM ((a=32\/a=64)/\0<=b/\b<18446744073709551616) (aB (C !=0) (some [D.s (sc (int i64 0)),D.s (sc (int i64 C))]) (aM (aH.vB B) (some [D.s (sc (int i64 (fF.fW B (bif cD.eZ a b then b%cA.cF A else(0:Int))))),D.s (sc (int i64 0))]))):=eJ aT
def sp(f b:Int):Prop×List D:=((f=32\/f=64)/\0<=b/\b<18446744073709551616,[.s (.sc (.int .i64 (bif cD.eZ f b then fF.fW (aH.fD f) (b%cA.cF (aH.fD f))else 0))),.s (.sc (.int .i64 (bif cD.eZ f b then 0 else 2)))])
theorem spec:fL E f83 aE (pN .i64) (pN .u64) sp:=by
 intro f b h;refine(start f b).trans ((gP h).trans ?_);unfold sp
 try dsimp only
 have ht:aH.vB (aH.fD f):=by
  rcases h.1 with rfl |rfl
  ·exact .inl rfl
  ·exact .inr rfl
 cases hp:cD.eZ f b with
 |false=>rfl
 |true =>
  try dsimp only[cond_true]
  rw[gD rfl,gP ht]
def aI:dJ:=orc2 (pN .i64) (pN .u64) sp
theorem ok:OK 83 aI:=(eB E aE (aA cD.ok (aA fF.ok aC)) func83).lF rfl spec
end wY
namespace Je
def E:=mE [] 5 [] [] []
def aE:=bd f142
theorem aT:Nk E aE:=nk
theorem start a:aF E f142 aE [D.s (sc (int i64 a))]=aB (a==32) (some [D.s (sc (int u64 2139095040))]) (some [D.s (sc (int u64 9218868437227405312))]):=eJ aT
def sp(f:Int):Prop×List D:=(f=32\/f=64,[.s (.sc (.int .u64 (lE.mW (aH.fD f))))])
theorem spec:iU E f142 aE (pN .i64) sp:=by
 intro f h;refine(start f).trans ?_;rcases h with rfl |rfl <;> rfl
def aI:dJ:=orc1 (pN .i64) sp
theorem ok:OK 142 aI:=(eB E aE aC func142).oS rfl spec
end Je
namespace aAX
def E:=mE [(135,cA.aI)] 13 [] [] []
def aE:=bd f80
theorem aT:Nk E aE:=nk
theorem start a d e f b c:aF E f80 aE [D.agg [sc (int i64 a),sc (int i64 d),sc (int i64 e),sc (int u64 f)],D.s (sc (bool b)),D.s (sc (int u64 c))]=aB b (aM (aH.vB (a,d,e,f)) (some [D.s (sc (int u64 (fO BinOp.or u64 c (cA.cF (a,d,e,f)))))])) (some [D.s (sc (int u64 c))]):=eJ aT
def sp(s:Int×Int×Int×Int)(b:Bool)(c:Int):Prop×List D:=(aH.vB s,[.s (.sc (.int .u64 (bif b then fO .or .u64 c (cA.cF s)else c)))])
theorem spec:oO E f80 aE (pG (.pair (sN .i64) (.pair (sN .i64) (.pair (sN .i64) (sN .u64))))) pB (pN .u64) sp:=by
 intro s b c h;refine(start s.1 s.2.1 s.2.2.1 s.2.2.2 b c).trans ?_;cases b with
 |true=>exact gP h
 |false=>rfl
def aI:dJ:=orc3 (pG (.pair (sN .i64) (.pair (sN .i64) (.pair (sN .i64) (sN .u64))))) pB (pN .u64) sp
theorem ok:OK 80 aI:=(eB E aE (aA cA.ok aC) func80).xX rfl spec
end aAX
namespace iD
def E:=mE [(78,aH.aI),(80,aAX.aI),(136,aRH.aI),(137,Cq.aI),(94,cO.aI),(81,lE.aI)] 102 [25,80,101] [(8,[1,2,3,10]),(13,[1,2,3,10,12])] [8,13]
def aE:=bd f82
theorem aT:Nk E aE:=nk
def J8 a b c d e f g:=lP E f82 aE 8 [rY a,dO b,bN c,dS 3 84 [cP d,cP e,cP f,rN g]]
def Qc a b c d e f g h:=lP E f82 aE 13 [rY a,dO b,bN c,dS 3 84 [cP d,cP e,cP f,rN g],bN h]
theorem start a b c d:aF E f82 aE [D.s (sc (int i64 a)),D.s (sc (bool b)),D.s (sc (int u64 c)),D.s (sc (int i64 d))]=letI B:=some [D.s (sc (int u64 0)),D.s (sc (int i64 5))];letI A:=aH.fD a;letI C:=(A.fst,A.snd.fst,A.snd.snd.fst,A.snd.snd.snd);aM True (aB (A.fst==0&&(A.snd.fst==0&&(A.snd.snd.fst==0&&(A.snd.snd.snd==0&&true)))) (some [D.s (sc (int u64 0)),D.s (sc (int i64 1))]) (aB (c==0) (aM (aH.vB C) (some [D.s (sc (int u64 (bif b then fO BinOp.or u64 0 (cA.cF C)else(0:Int)))),D.s (sc (int i64 0))])) (aB (decide (d<i64.wrap (A.snd.snd.fst-64))) B (aB (decide (i64.wrap (A.snd.snd.fst+4096)<d)) B (iD.J8 b c d A.fst A.snd.fst A.snd.snd.fst A.snd.snd.snd))))):=eJ aT
theorem Ai a b c d e f g:J8 a b c d e f g=letI C:=some [D.s (sc (int u64 0)),D.s (sc (int i64 5))];letI B:=(↑(tz b.toNat):Int);letI A:=(↑((2:Nat)^min (if b=0 then(64:Int)else B).toNat 64):Int);letI F:=(↑(bl (b/A).toNat):Int);aM (0<=b/\b<18446744073709551616) (if(if b=0 then(64:Int)else B)<0 then none else aM (0<=b/A/\b/A<(18446744073709551616:Int)) (aB (decide (e<F)) C (aB (decide (i64.wrap (c+if b=0 then(64:Int)else B)<f)) C (iD.Qc a (b/A) (i64.wrap (c+if b=0 then(64:Int)else B)) d e f g F)))):=cJ aT
theorem wW a b c d e f g h:Qc a b c d e f g h=letI F:=(d,e,f,g);letI C:=aH.vB F;letI B:=b*(↑((2:Nat)^min (if i64.wrap (c-f)<i64.wrap (e-h)then i64.wrap (c-f)else i64.wrap (e-h)).toNat 64):Int);letI A:=u64.wrap (u64.wrap (u64.wrap (i64.wrap (i64.wrap (i64.wrap (c-if i64.wrap (c-f)<i64.wrap (e-h)then i64.wrap (c-f)else i64.wrap (e-h))-f)+1))-1)*cO.lC F)+u64.wrap B;if(if i64.wrap (c-f)<i64.wrap (e-h)then i64.wrap (c-f)else i64.wrap (e-h))<0 then none else aM C (aB (decide (u64.wrap B<cO.lC F)) (aM C (some [D.s (sc (int u64 (bif a then fO BinOp.or u64 (u64.wrap B) (cA.cF F)else u64.wrap B))),D.s (sc (int i64 0))])) (aM C (aM C (aB (decide (lE.mW F<=u64.wrap A)) (some [D.s (sc (int u64 0)),D.s (sc (int i64 5))]) (aM C (some [D.s (sc (int u64 (bif a then fO BinOp.or u64 (u64.wrap A) (cA.cF F)else u64.wrap A))),D.s (sc (int i64 0))])))))):=cJ aT
def Xv(s:Int×Int×Int×Int)(b:Bool)(c:Int):Int:=bif b then c+cA.cF s else c
def Qr(s:Int×Int×Int×Int)(m:Nat)(e:Int):Nat:=(if e-s.2.2.1<s.2.1-(bl m:Int)then e-s.2.2.1 else s.2.1-(bl m:Int)).toNat
def Mt(s:Int×Int×Int×Int)(m:Nat)(e:Int):Option Int :=
 if((m*2^Qr s m e:Nat):Int)<cO.lC s then some ((m*2^Qr s m e:Nat):Int)
 else if lE.mW s<=(e-(Qr s m e:Nat)-s.2.2.1)*cO.lC s+((m*2^Qr s m e:Nat):Int)then none
 else some ((e-(Qr s m e:Nat)-s.2.2.1)*cO.lC s+((m*2^Qr s m e:Nat):Int))
def aGH(s:Int×Int×Int×Int)(m:Nat)(e:Int):Option Int :=
 if e<s.2.2.1-64\/s.2.2.1+4096<e then none
 else if s.2.1<(bl (m/2^tz m):Int)\/e+(tz m:Int)<s.2.2.1 then none
 else Mt s (m/2^tz m) (e+(tz m:Int))
def Qq(s:Int×Int×Int×Int)(b:Bool)(o:Option Int):Int:=match o with
 |some c=>Xv s b c
 |none=>0
def aPR(o:Option Int):Int:=match o with
 |some _=>0
 |none=>5
def uY(s:Int×Int×Int×Int)(m e:Int):Option Int:=if m=0 then some 0 else aGH s m.toNat e
def bET(s:Int×Int×Int×Int)(b:Bool)(o:Option Int):List D:=[.s (.sc (.int .u64 (Qq s b o))),.s (.sc (.int .i64 (aPR o)))]
theorem zB{s:Int×Int×Int×Int}(hs:aH.vB s){b:Bool}{c:Int}(h0:0<=c)(h1:c<cA.cF s):(bif b then fO .or .u64 c (cA.cF s)else c)=Xv s b c:=by
 unfold Xv;cases b with
 |false=>rfl
 |true =>
  try dsimp only[cond_true]
  obtain⟨n,rfl⟩:=cGG h0;rcases hs with rfl |rfl
  ·rw[show cA.cF (32,24,-149,2143289345)=2147483648 from rfl]at *;rw[Yg (by omega) (by omega) (by omega) (by omega)];have:=Ic (c:=n) (n:=1) (k:=31) (by omega);rw[show(2147483648:Int).toNat=2^31*1 from rfl,cFB,this];omega
  ·rw[show cA.cF (64,53,-1074,9221120237041090561)=9223372036854775808 from rfl]at *;rw[Yg (by omega) (by omega) (by omega) (by omega)];have:=Ic (c:=n) (n:=1) (k:=63) (by omega);rw[show(9223372036854775808:Int).toNat=2^63*1 from rfl,cFB,this];omega
theorem j13{s:Int×Int×Int×Int}(hs:aH.vB s)(b:Bool)(m:Nat)(e:Int)(h1:(bl m:Int)<=s.2.1)(h2:s.2.2.1<=e)(h3:e<=3000)(hm:m≠0) :
  Qc b (m:Int) e s.1 s.2.1 s.2.2.1 s.2.2.2 (bl m:Int)=some (bET s b (Mt s m e)):=by
 have hb:=qV hm;have kM:m*2^Qr s m e<2^(bl m+Qr s m e):=by
  rw[cGE];exact Nat.mul_lt_mul_of_lt_of_le (wL m) (cBE _) (cEE (by decide))
 have aLA:((bl m+Qr s m e:Nat):Int)<=s.2.1:=by
  unfold Qr;split <;> omega
 have bDJ:((Qr s m e:Nat):Int)<=e-s.2.2.1:=by
  unfold Qr;split <;> omega
 rw[wW];have bJK:∀k:Nat,s.2.1<=(k:Int)->m*2^Qr s m e<2^k:=fun k hk=>cCB kM (cEF (by decide) (by omega))
 have low:-1074<=s.2.2.1/\s.2.2.1<=0/\s.2.1<=53:=by rcases hs with rfl |rfl <;> ((try dsimp only);omega)
 rw[wrap_i64 (n:=e-s.2.2.1),wrap_i64 (n:=s.2.1-(bl m:Int))];have bWJ:(if e-s.2.2.1<s.2.1-(bl m:Int)then e-s.2.2.1 else s.2.1-(bl m:Int))=((Qr s m e:Nat):Int):=by
  unfold Qr;split <;> omega
 rw[bWJ,aO,cFB,show min (Qr s m e) 64=Qr s m e by omega,<-cHC,gP hs];unfold Mt;generalize Qr s m e=u at *;generalize m*2^u=M at *;rcases hs with rfl |rfl
 ·have hM:=bJK 24 (by decide);simp only[show cO.lC (32,24,-149,2143289345)=8388608 from rfl,show lE.mW (32,24,-149,2143289345)=2139095040 from rfl]at *;rw[wrap_u64 (n:=(M:Int)),wrap_i64 (n:=e-(u:Int)),wrap_i64 (n:=e-(u:Int) - -149),wrap_i64 (n:=e-(u:Int) - -149+1),wrap_u64 (n:=e-(u:Int) - -149+1),wrap_u64 (n:=e-(u:Int) - -149+1-1),show e-(u:Int) - -149+1-1=e-(u:Int) - -149 by omega,wrap_u64 (n:=(e-(u:Int) - -149)*8388608),wrap_u64 (n:=(e-(u:Int) - -149)*8388608+(M:Int))]
  by_cases c1:(M:Int)<8388608
  ·rw[aN c1,if_pos c1,gP aH.two32,zB aH.two32 (by omega) (by show(M:Int)<2147483648;omega)];rfl
  ·rw[aL c1,if_neg c1,gP aH.two32,gP aH.two32]
   by_cases c2:2139095040<=(e-(u:Int) - -149)*8388608+(M:Int)
   ·rw[aN c2,if_pos c2];rfl
   ·rw[aL c2,if_neg c2,gP aH.two32,zB aH.two32 (by omega) (by show _<2147483648;omega)];rfl
 ·have hM:=bJK 53 (by decide);simp only[show cO.lC (64,53,-1074,9221120237041090561)=4503599627370496 from rfl,show lE.mW (64,53,-1074,9221120237041090561)=9218868437227405312 from rfl]at *
  by_cases c1:(M:Int)<4503599627370496
  ·rw[wrap_u64 (n:=(M:Int)),aN c1,if_pos c1,gP aH.uU,zB aH.uU (by omega) (by show(M:Int)<9223372036854775808;omega)];rfl
  ·rw[wrap_u64 (n:=(M:Int)),wrap_i64 (n:=e-(u:Int)),wrap_i64 (n:=e-(u:Int) - -1074),wrap_i64 (n:=e-(u:Int) - -1074+1),wrap_u64 (n:=e-(u:Int) - -1074+1),wrap_u64 (n:=e-(u:Int) - -1074+1-1),show e-(u:Int) - -1074+1-1=e-(u:Int) - -1074 by omega];rw[wrap_u64 (n:=(e-(u:Int) - -1074)*4503599627370496),wrap_u64 (n:=(e-(u:Int) - -1074)*4503599627370496+(M:Int)),aL c1,if_neg c1,gP aH.uU,gP aH.uU]
   by_cases c2:9218868437227405312<=(e-(u:Int) - -1074)*4503599627370496+(M:Int)
   ·rw[aN c2,if_pos c2];rfl
   ·rw[aL c2,if_neg c2,gP aH.uU,zB aH.uU (by omega) (by show _<9223372036854775808;omega)];rfl
def sp(f:Int)(b:Bool)(m e:Int):Prop×List D:=((f=32\/f=64)/\(0<=m/\m<18446744073709551616)/\-4000<=e/\e<=2900,[.s (.sc (.int .u64 (Qq (aH.fD f) b (uY (aH.fD f) m e)))),.s (.sc (.int .i64 (aPR (uY (aH.fD f) m e))))])
theorem spec:Rr E f82 aE (pN .i64) pB (pN .u64) (pN .i64) sp:=by
 rintro f b m e ⟨hf,⟨Sq,bJV⟩,aUX,aGQ⟩;refine(start f b m e).trans ((gP trivial).trans ?_);show _=some (bET (aH.fD f) b (uY (aH.fD f) m e));unfold uY;have hs:aH.vB (aH.fD f):=by
  rcases hf with rfl |rfl
  ·exact .inl rfl
  ·exact .inr rfl
 generalize aH.fD f=s at *;obtain⟨n,rfl⟩:=cGG Sq;have low:-1074<=s.2.2.1/\s.2.2.1<=0/\s.2.1<=53:=by rcases hs with rfl |rfl <;> ((try dsimp only);omega)
 have Bp:(s.1==0&&(s.2.1==0&&(s.2.2.1==0&&(s.2.2.2==0&&true))))=false:=by rcases hs with rfl |rfl <;> rfl
 have aIR:0<cA.cF s:=by unfold cA.cF;split <;> omega
 rw[Pj Bp]
 by_cases h0:(n:Int)=0
 ·rw[bI h0,if_pos h0];refine(gP hs).trans ?_;rw[zB hs (by omega) aIR];rfl
 ·have Dw:n≠0:=by omega
  have ht:=Jp Dw;have bJO:tz n<64:=(cNQ (by decide:1<2)).1 (cHT ht (by omega));rw[bA h0,if_neg h0,wrap_i64 (n:=s.2.2.1-64),wrap_i64 (n:=s.2.2.1+4096)];unfold aGH
  by_cases c1:e<s.2.2.1-64
  ·rw[aN c1,if_pos (.inl c1)];rfl
  ·rw[aL c1]
   by_cases c2:s.2.2.1+4096<e
   ·rw[aN c2,if_pos (.inr c2)];rfl
   ·rw[aL c2,aO,Ai,if_neg h0,cFB,aO,gP,cFB,show min (tz n) 64=tz n by omega,<-cGU,cFB,wrap_i64 (n:=e+(tz n:Int))];have hd:n/2^tz n≠0:=fun h=>by have:=(pT n Dw).2;rw[h]at this;cases this
    have hl:n/2^tz n<=n:=cJR _ _;generalize n/2^tz n=q at *;rw[gP]
    by_cases c3:s.2.1<(bl q:Int)
    ·rw[aN c3,if_pos (.inl c3)];rfl
    ·rw[aL c3]
     by_cases c4:e+(tz n:Int)<s.2.2.1
     ·rw[aN c4,if_pos (.inr c4)];rfl
     ·rw[aL c4,aO,j13 hs b _ _ (by omega) (by omega) (by omega) hd]
def aI:dJ:=orc4 (pN .i64) pB (pN .u64) (pN .i64) sp
theorem ok:OK 82 aI:=(eB E aE (aA aH.ok (aA aAX.ok (aA aRH.ok (aA Cq.ok (aA cO.ok (aA lE.ok aC)))))) func82).aSJ rfl spec
end iD
namespace Wf
def E:=mE [] 14 [] [] []
def aE:=bd f141
theorem aT:Nk E aE:=nk
theorem start a b c:aF E f141 aE [D.s (sc (int i64 a)),D.s (sc (bool b)),D.s (sc (int u64 c))]=aB b (if i64.wrap (a-1)<0 then none else some [D.s (sc (int u64 (fO BinOp.or u64 c (u64.wrap ((1:Int)*(↑((2:Nat)^min (i64.wrap (a-1)).toNat 64):Int))))))]) (some [D.s (sc (int u64 c))]):=eJ aT
def sp(f:Int)(b:Bool)(c:Int):Prop×List D:=((f=32\/f=64)/\0<=c/\c<cA.cF (aH.fD f),[.s (.sc (.int .u64 (iD.Xv (aH.fD f) b c)))])
theorem spec:oO E f141 aE (pN .i64) pB (pN .u64) sp:=by
 rintro f b c ⟨hf,h0,h1⟩;refine(start f b c).trans ?_;have hs:aH.vB (aH.fD f):=cE.Fq hf;unfold sp
 try dsimp only
 rw[<-iD.zB hs h0 h1];cases b with
 |false=>rfl
 |true=>rcases hf with rfl |rfl <;> rfl
def aI:dJ:=orc3 (pN .i64) pB (pN .u64) sp
theorem ok:OK 141 aI:=(eB E aE aC func141).xX rfl spec
end Wf
namespace mV
def E:=mE [(142,Je.aI),(141,Wf.aI),(82,iD.aI)] 27 [15,23] [] []
def aE:=bd f92
theorem aT:Nk E aE:=nk
theorem start a b c:aF E f92 aE [D.s (sc (int i64 a)),D.agg [sc (int i64 b),sc (bool c)]]=letI A:=aH.fD a;aB (b==2) (aM (a=32\/a=64) (aM ((a=32\/a=64)/\0<=lE.mW A/\lE.mW A<cA.cF A) (some [D.s (sc (int u64 (iD.Xv A c (lE.mW A))))]))) (aM ((a=32\/a=64)/\(0<=u64.wrap b/\u64.wrap b<18446744073709551616)/\(-4000:Int)<=(0:Int)/\(0:Int)<=(2900:Int)) (some [D.s (sc (int u64 (iD.Qq A c (iD.uY A (u64.wrap b) 0))))])):=eJ aT
def Kj(f:Int)(s:Int)(n:Bool):Int:=iD.Xv (aH.fD f) n (if s=2 then lE.mW (aH.fD f)else if s=1 then(if f=32 then 1065353216 else 4607182418800017408)else 0)
def sp(f:Int)(v:Int×Bool):Prop×List D:=((f=32\/f=64)/\(v.1=0\/v.1=1\/v.1=2),[.s (.sc (.int .u64 (Kj f v.1 v.2)))])
theorem Yh:iD.uY (aH.fD 64) 1 0=some 4607182418800017408/\iD.uY (aH.fD 32) 1 0=some 1065353216:=by
 have b1:bl 1=1:=rfl;have t1:tz (1:Int).toNat=0:=Aq rfl;unfold iD.uY iD.aGH iD.Mt iD.Qr;rw[t1];exact⟨rfl,rfl⟩
theorem spec:fL E f92 aE (pN .i64) (pG (.pair (sN .i64) sB)) sp:=by
 rintro f v ⟨hf,hv⟩;obtain⟨s,n⟩:=v;refine(start f s n).trans ?_;unfold sp Kj
 try dsimp only at *
 have hi:0<=lE.mW (aH.fD f)/\lE.mW (aH.fD f)<cA.cF (aH.fD f):=by
  rcases hf with rfl |rfl
  ·exact⟨by show(0:Int)<=2139095040;omega,by show(2139095040:Int)<2147483648;omega⟩
  ·exact⟨by show(0:Int)<=9218868437227405312;omega,by show(9218868437227405312:Int)<9223372036854775808;omega⟩
 rcases hv with rfl |rfl |rfl
 ·rw[bA,show u64.wrap 0=0 from rfl,gP ⟨hf,by omega,by omega⟩];rfl
 ·rw[bA,show u64.wrap 1=1 from rfl,gP ⟨hf,by omega,by omega⟩];rcases hf with rfl |rfl
  ·rw[Yh.2];rfl
  ·rw[Yh.1];rfl
 ·rw[bI rfl,gP hf,gP ⟨hf,hi⟩];rfl
def aI:dJ:=orc2 (pN .i64) (pG (.pair (sN .i64) sB)) sp
theorem ok:OK 92 aI:=(eB E aE (aA Je.ok (aA Wf.ok (aA iD.ok aC))) func92).lF rfl spec
end mV
namespace qW
def E:=mE [] 19 [] [] []
def aE:=bd f111
theorem aT:Nk E aE:=nk
theorem start a b c:aF E f111 aE [D.agg [sc (bool a),ints u64 b,sc (int i64 c)]]=aB (decide (0<c)) (some [D.s (sc (int i64 1))]) (aB (c==0) (some [D.s (sc (int i64 2))]) (aB (c==(-1:Int)) (some [D.s (sc (int i64 3))]) (aB (c==(-2:Int)) (some [D.s (sc (int i64 4))]) (some [D.s (sc (int i64 0))])))):=eJ aT
def sG(e:Int):Int:=if 0<e then 1 else if e=0 then 2 else if e=-1 then 3 else if e=-2 then 4 else 0
def sp(x:gW):Prop×List D:=(True,[.s (.sc (.int .i64 (sG x.2.2)))])
theorem spec:iU E f111 aE kF sp:=by
 intro x h;refine(start x.1 x.2.1 x.2.2).trans ?_;unfold sp sG
 try dsimp only
 by_cases h1:0<x.2.2
 ·rw[aN h1,if_pos h1]
 ·rw[aL h1,if_neg h1]
  by_cases h2:x.2.2=0
  ·rw[bI h2,if_pos h2]
  ·rw[bA h2,if_neg h2]
   by_cases h3:x.2.2=-1
   ·rw[bI h3,if_pos h3]
   ·rw[bA h3,if_neg h3]
    by_cases h4:x.2.2=-2
    ·rw[bI h4,if_pos h4]
    ·rw[bA h4,if_neg h4]
def aI:dJ:=orc1 kF sp
theorem ok:OK 111 aI:=(eB E aE aC func111).oS rfl spec
end qW
namespace fC
def E:=mE [(111,qW.aI),(60,aAN.aI)] 97 [] [] []
def aE:=bd f63
theorem aT:Nk E aE:=nk
theorem start a b c d:aF E f63 aE [D.s (sc (int i64 a)),D.agg [sc (bool b),ints u64 c,sc (int i64 d)]]=letI Z:=bool false;letI Y:=bool (wv (b,c)%4==(3:Int));letI X:=int i64 0;letI U:=qW.sG d==1;letI O:=qW.sG d==3;letI N:=some [D.agg [sc X,sc Z],D.s (sc Z)];letI I:=qW.sG d==2;letI F:=sc (bool true);letI T:=some [D.agg [sc X,sc (bool b)],D.s F];letI Q:=some [D.agg [sc (int i64 1),sc (bool I)],D.s F];letI P:=some [D.agg [sc X,sc (bool (b !=I))],D.s F];letI G:=some [D.agg [sc (int i64 1),sc Y],D.s F];letI C:=aB (a==6) (aB (qW.sG d==4) G N) N;letI H:=aB (a==6) (aB O (some [D.agg [sc (int i64 2),sc Y],D.s F]) C) C;letI A:=aB (a==6) (aB U P (aB I P H)) H;letI K:=aB (a==5) (aB O (some [D.agg [sc X,sc Z],D.s F]) A) A;letI B:=aB (a==5) (aB U Q (aB I Q K)) K;letI W:=aB (a==4) (aB O G B) B;aM True (aM (iE (b,c)) (aB (a==4) (aB U T (aB I T W)) W)):=eJ aT
def An(fn:Int)(p:Int×Int):Int×Bool×Bool :=
 if fn=4 then(if 0<=p.2 then(0,isNeg p.1,true)else if p.2=-1 then(1,p.1%4==3,true)else(0,false,false))
 else if fn=5 then(if 0<=p.2 then(1,p.2==0,true)else if p.2=-1 then(0,false,true)else(0,false,false))
 else if fn=6 then(if 0<=p.2 then(0,isNeg p.1 !=(p.2==0),true)else if p.2=-1 then(2,p.1%4==3,true)else if p.2=-2 then(1,p.1%4==3,true)else(0,false,false))
 else(0,false,false)
def sp(fn:Int)(x:gW):Prop×List D:=(aU x,[.agg [.sc (.int .i64 (An fn (dv x)).1),.sc (.bool (An fn (dv x)).2.1)],.s (.sc (.bool (An fn (dv x)).2.2))])
theorem spec:fL E f63 aE (pN .i64) kF sp:=by
 intro fn x h;have h:aU x:=h;refine(start fn x.1 x.2.1 x.2.2).trans ((gP trivial).trans ((gP h.Fo).trans ?_));have hw:=h.Fo.cells.1;obtain⟨b,a,e⟩:=x
 try dsimp only at *
 unfold sp An dv
 try dsimp only
 rw[hw];generalize wv (b,a)=z;have So:(0<e/\qW.sG e=1)\/(e=0/\qW.sG e=2)\/(e=-1/\qW.sG e=3)\/(e=-2/\qW.sG e=4)\/(e < -2/\qW.sG e=0):=by
  unfold qW.sG;split
  ·omega
  ·split
   ·omega
   ·split
    ·omega
    ·split <;> omega
 generalize qW.sG e=pv at *
 by_cases h4:fn=4
 ·subst h4;rcases So with ⟨he,rfl⟩ |⟨rfl,rfl⟩ |⟨rfl,rfl⟩ |⟨rfl,rfl⟩ |⟨he,rfl⟩
  ·rw[if_pos rfl,aQ];rfl
  ·rfl
  ·rfl
  ·rfl
  ·rw[if_pos rfl,aO,aO];rfl
 ·by_cases h5:fn=5
  ·subst h5;rcases So with ⟨he,rfl⟩ |⟨rfl,rfl⟩ |⟨rfl,rfl⟩ |⟨rfl,rfl⟩ |⟨he,rfl⟩
   ·rw[aO,if_pos rfl,aQ,beq_eq_false_iff_ne.2 (show e≠0 by omega)];rfl
   ·rfl
   ·rfl
   ·rfl
   ·rw[aO,if_pos rfl,aO,aO];rfl
  ·by_cases h6:fn=6
   ·subst h6;rcases So with ⟨he,rfl⟩ |⟨rfl,rfl⟩ |⟨rfl,rfl⟩ |⟨rfl,rfl⟩ |⟨he,rfl⟩
    ·rw[aO,aO,if_pos rfl,aQ,beq_eq_false_iff_ne.2 (show e≠0 by omega)];rfl
    ·rfl
    ·rfl
    ·rfl
    ·rw[aO,aO,if_pos rfl,aO,aO,aO];rfl
   ·rw[if_neg h4,if_neg h5,if_neg h6];simp only[beq_eq_false_iff_ne.2 h4,beq_eq_false_iff_ne.2 h5,beq_eq_false_iff_ne.2 h6,bF]
def aI:dJ:=orc2 (pN .i64) kF sp
theorem ok:OK 63 aI:=(eB E aE (aA qW.ok (aA aAN.ok aC)) func63).lF rfl spec
end fC
namespace bQ
def E:=mE [(84,lM.aI),(61,wT.aI),(83,wY.aI),(92,mV.aI),(12,aZ.aI),(63,fC.aI)] 67 [18,31,48,66] [(4,[0,1,2,9]),(15,[0,1,2])] [4,15]
def aE:=bd f39
theorem aT:Nk E aE:=nk
def J4 a b c d:=lP E f39 aE 4 [bN a,bN b,dO c,dO d]
def aLK a b c:=lP E f39 aE 15 [bN a,bN b,dO c]
theorem start a b c:aF E f39 aE [D.s (sc (int i64 a)),D.s (sc (int i64 b)),D.s (sc (int u64 c))]=letI A:=some [D.s (sc (int u64 0)),D.s (sc (bool false)),D.s (sc (int i64 1))];aM True (aD (aH.fD a).snd.snd.snd fun d=>aD (bif lM.Am a then(0:Int)else(1:Int)) fun e=>aB (e !=0) A (aM True (aB (!wT.Bl b) A (bQ.J4 a b c d)))):=eJ aT
theorem Ek a b c d:J4 a b c d=letI C:=sc (int i64 0);letI B:=sc (bool true);letI A:=some [D.s (sc (int u64 d)),D.s B,D.s C];aM ((a=32\/a=64)/\0<=c/\c<18446744073709551616) (aD (bif cD.eZ a c then fF.fW (aH.fD a) (c%cA.cF (aH.fD a))else(0:Int)) fun e=>aD (bif cD.eZ a c then(0:Int)else(2:Int)) fun f=>aB (f !=0) (some [D.s (sc (int u64 0)),D.s (sc (bool false)),D.s (sc (int i64 f))]) (aB (e==4) A (aB (e==3) A (aB (e==0) (aB (b==5) (aM ((a=32\/a=64)/\((1:Int)=(0:Int)\/(1:Int)=(1:Int)\/(1:Int)=(2:Int))) (aD (mV.Kj a 1 false) fun g=>some [D.s (sc (int u64 g)),D.s B,D.s C])) (some [D.s (sc (int u64 c)),D.s B,D.s C])) (bQ.aLK a b c))))):=cJ aT
theorem Qb a b c:aLK a b c=letI A:=bif cD.eZ a c&&cE.jD a c then aR (aZ.kA a c) (aZ.lG a c)else((0:Int),(0:Int));aM ((a=32\/a=64)/\0<=c/\c<18446744073709551616) (aD (isNeg A.fst) fun d=>aD (M6.dg A.fst.natAbs) fun e=>aD A.snd fun f=>letI B:=fC.An b (dv (d,e,f));aM (aU (d,e,f)) (aD B.fst fun g=>aD B.snd.fst fun h=>aD B.snd.snd fun i=>aB (!i) (some [D.s (sc (int u64 0)),D.s (sc (bool false)),D.s (sc (int i64 0))]) (aM ((a=32\/a=64)/\(g=0\/g=1\/g=2)) (some [D.s (sc (int u64 (mV.Kj a g h))),D.s (sc (bool true)),D.s (sc (int i64 0))])))):=cJ aT
def iK(f b:Int):Int×Int:=aR (aZ.kA f b) (aZ.lG f b)
theorem Nj{f b:Int}(h:f=32\/f=64)(_:0<=b)(hf:cE.jD f b=true):kT (iK f b)/\(aZ.kA f b).natAbs<2^53/\-1074<=aZ.lG f b/\aZ.lG f b<=1023:=by
 have hs:=cE.Fq h;have Dw:0<=b%cA.cF (aH.fD f):=by unfold cA.cF;split <;> omega
 have qA:b%cA.cF (aH.fD f)<lE.mW (aH.fD f):=of_decide_eq_true hf;have hm:=aZ.Us hs Dw;have hx:=aZ.Vi hs Dw qA;have hz:(aZ.kA f b).natAbs<2^53:=by
  unfold aZ.kA;rw[kR];omega
 have he:-1074<=aZ.lG f b/\aZ.lG f b<=1023:=⟨hx.1,by unfold aZ.lG;omega⟩;have hb:bl (aZ.kA f b).natAbs<=53:=dK.2 hz;exact⟨iF (iM (by omega) (by omega)) (by omega),hz,he⟩
def sU(f fn b:Int):Int×Bool×Int :=
 if lM.Am f=false\/wT.Bl fn=false then(0,false,1)
 else if cD.eZ f b=false then(0,false,2)
 else if fF.fW (aH.fD f) (b%cA.cF (aH.fD f))=4\/fF.fW (aH.fD f) (b%cA.cF (aH.fD f))=3 then((aH.fD f).2.2.2,true,0)
 else if fF.fW (aH.fD f) (b%cA.cF (aH.fD f))=0 then(if fn=5 then mV.Kj f 1 false else b,true,0)
 else if(fC.An fn (iK f b)).2.2=true then(mV.Kj f (fC.An fn (iK f b)).1 (fC.An fn (iK f b)).2.1,true,0)
 else(0,false,0)
def sp(f fn b:Int):Prop×List D:=(0<=b/\b<18446744073709551616,[.s (.sc (.int .u64 (sU f fn b).1)),.s (.sc (.bool (sU f fn b).2.1)),.s (.sc (.int .i64 (sU f fn b).2.2))])
theorem aGZ(fn:Int)(p:Int×Int):(fC.An fn p).1=0\/(fC.An fn p).1=1\/(fC.An fn p).1=2:=by
 unfold fC.An
 repeat' split
 all_goals simp
theorem aJY{f b:Int}(h:f=32\/f=64)(c3:fF.fW (aH.fD f) (b%cA.cF (aH.fD f))≠3)(c4:fF.fW (aH.fD f) (b%cA.cF (aH.fD f))≠4):cE.jD f b=true:=by
 unfold cE.jD;have hi:cO.lC (aH.fD f)<lE.mW (aH.fD f)/\0<cO.lC (aH.fD f):=by
  rcases h with rfl |rfl
  ·exact⟨by show(8388608:Int)<2139095040;omega,by show(0:Int)<8388608;omega⟩
  ·exact⟨by show(4503599627370496:Int)<9218868437227405312;omega,by show(0:Int)<4503599627370496;omega⟩
 generalize b%cA.cF (aH.fD f)=n at *;refine decide_eq_true ?_;unfold fF.fW at c3 c4
 by_cases h0:n=0
 ·omega
 ·by_cases h1:n<cO.lC (aH.fD f)
  ·omega
  ·by_cases h2:n<lE.mW (aH.fD f)
   ·exact h2
   ·rw[if_neg h0,if_neg h1,if_neg h2]at c3 c4
    by_cases h3:n=lE.mW (aH.fD f)
    ·rw[if_pos h3]at c3;exact(c3 rfl).elim
    ·rw[if_neg h3]at c4;exact(c4 rfl).elim
theorem spec:oO E f39 aE (pN .i64) (pN .i64) (pN .u64) sp:=by
 intro f fn b h;have h:0<=b/\b<18446744073709551616:=h;refine(start f fn b).trans ((gP trivial).trans ?_);rw[vl,vl,gP trivial];unfold sp sU;cases hq:lM.Am f with
 |false=>rw[if_pos (.inl rfl)];rfl
 |true =>
  have hf:f=32\/f=64:=of_decide_eq_true hq;rw[cond_true,gD rfl];cases hk:wT.Bl fn with
  |false=>rw[if_pos (.inr rfl)];rfl
  |true =>
   rw[if_neg (by simp),cDE,bF,Ek,gP ⟨hf,h⟩,vl,vl];cases hp:cD.eZ f b with
   |false=>rw[if_pos rfl];rfl
   |true =>
    rw[if_neg (by simp),cond_true,cond_true,gD rfl]
    by_cases c4:fF.fW (aH.fD f) (b%cA.cF (aH.fD f))=4
    ·rw[bI c4,if_pos (.inl c4)]
    ·rw[bA c4]
     by_cases c3:fF.fW (aH.fD f) (b%cA.cF (aH.fD f))=3
     ·rw[bI c3,if_pos (.inr c3)]
     ·rw[bA c3,if_neg (fun h=>h.elim c4 c3)];have qA:=aJY hf c3 c4
      by_cases c0:fF.fW (aH.fD f) (b%cA.cF (aH.fD f))=0
      ·rw[bI c0,if_pos c0]
       by_cases h5:fn=5
       ·rw[bI h5,if_pos h5,gP ⟨hf,.inr (.inl rfl)⟩];rfl
       ·rw[bA h5,if_neg h5]
      ·rw[bA c0,if_neg c0,Qb,gP ⟨hf,h⟩];have e1:(bif cD.eZ f b&&cE.jD f b then aR (aZ.kA f b) (aZ.lG f b)else((0:Int),(0:Int)))=iK f b:=by rw[hp,qA];rfl
       rw[e1,Dy,gP (dV (Nj hf h.1 qA).1),dY,vl,vl,vl];cases hv:(fC.An fn (iK f b)).2.2 with
       |false=>rw[if_neg (by simp)];try rfl
       |true=>rw[if_pos rfl,cDE,bF,gP ⟨hf,aGZ _ _⟩];try rfl
def aI:dJ:=orc3 (pN .i64) (pN .i64) (pN .u64) sp
theorem ok:OK 39 aI:=(eB E aE (aA lM.ok (aA wT.ok (aA wY.ok (aA mV.ok (aA aZ.ok (aA fC.ok aC)))))) func39).xX rfl spec
end bQ
namespace dC
def E:=mE [(77,cD.aI),(78,aH.aI),(79,fF.aI),(80,aAX.aI),(81,lE.aI),(43,dT.aI),(82,iD.aI)] 48 [13,35,45] [] []
def aE:=bd f31
theorem aT:Nk E aE:=nk
theorem start a:aF E f31 aE [D.s (sc (int u64 a))]=letI I:=bif cD.eZ 32 a then(0:Int)else(2:Int);letI F:=aH.vB ((64:Int),(53:Int),(-1074:Int),(9221120237041090561:Int));letI C:=aH.fD 32;letI H:=(C.fst,C.snd.fst,C.snd.snd.fst,C.snd.snd.snd);letI G:=bif cD.eZ 32 a then a%cA.cF C else(0:Int);letI B:=bif cD.eZ 32 a then a%2147483648 else(0:Int);letI A:=iD.uY (aH.fD 64) (dT.pQ H G) (dT.sT H G);aM (((32:Int)=(32:Int)\/(32:Int)=(64:Int))/\0<=a/\a<18446744073709551616) (aB (I !=0) (some [D.s (sc (int u64 0)),D.s (sc (int i64 I))]) (aM True (aM (aH.vB ((32:Int),(24:Int),(-149:Int),(2143289345:Int))) (aB (fF.fW ((32:Int),(24:Int),(-149:Int),(2143289345:Int)) B==4) (some [D.s (sc (int u64 9221120237041090561)),D.s (sc (int i64 0))]) (aB (fF.fW ((32:Int),(24:Int),(-149:Int),(2143289345:Int)) B==3) (aM F (aM F (some [D.s (sc (int u64 (bif cD.eZ 32 a&&decide (2147483648<=a)then fO BinOp.or u64 9218868437227405312 9223372036854775808 else(9218868437227405312:Int)))),D.s (sc (int i64 0))]))) (aM (aH.vB ((32:Int),(24:Int),(-149:Int),(2143289345:Int))/\(0<=bif cD.eZ 32 a then a%2147483648 else(0:Int))/\B<9223372036854775808) (aM (((64:Int)=(32:Int)\/(64:Int)=(64:Int))/\(0<=dT.pQ ((32:Int),(24:Int),(-149:Int),(2143289345:Int)) B/\dT.pQ ((32:Int),(24:Int),(-149:Int),(2143289345:Int)) B<18446744073709551616)/\(-4000:Int)<=dT.sT ((32:Int),(24:Int),(-149:Int),(2143289345:Int)) B/\dT.sT ((32:Int),(24:Int),(-149:Int),(2143289345:Int)) B<=2900) (some [D.s (sc (int u64 (iD.Qq (aH.fD 64) (cD.eZ 32 a&&decide (2147483648<=a)) A))),D.s (sc (int i64 (iD.aPR A)))])))))))):=eJ aT
abbrev Ds:Int×Int×Int×Int:=(32,24,-149,2143289345)
abbrev Mx:Int×Int×Int×Int:=(64,53,-1074,9221120237041090561)
def aLQ(b:Int):Option Int:=iD.uY Mx (dT.pQ Ds (b%2147483648)) (dT.sT Ds (b%2147483648))
def vG(b:Int):Int:=bif cD.eZ 32 b then(if fF.fW Ds (b%2147483648)=4 then 9221120237041090561 else if fF.fW Ds (b%2147483648)=3 then iD.Xv Mx (decide (2147483648<=b)) 9218868437227405312 else iD.Qq Mx (decide (2147483648<=b)) (aLQ b))else 0
def aHW(b:Int):Int:=bif cD.eZ 32 b then(if fF.fW Ds (b%2147483648)=4 then 0 else if fF.fW Ds (b%2147483648)=3 then 0 else iD.aPR (aLQ b))else 2
def sp(b:Int):Prop×List D:=(0<=b/\b<18446744073709551616,[.s (.sc (.int .u64 (vG b))),.s (.sc (.int .i64 (aHW b)))])
theorem spec:iU E f31 aE (pN .u64) sp:=by
 intro b h;refine(start b).trans ((gP ⟨.inl rfl,h⟩).trans ?_);unfold sp vG aHW
 try dsimp only
 cases hp:cD.eZ 32 b with
 |false=>rfl
 |true =>
  try dsimp only[cond_true,cEG]
  rw[gD rfl,gP trivial,gP aH.two32];have Dw:0<=b%2147483648:=by omega
  by_cases c4:fF.fW Ds (b%2147483648)=4
  ·rw[bI c4,if_pos c4,if_pos c4]
  ·rw[bA c4,if_neg c4,if_neg c4]
   by_cases c3:fF.fW Ds (b%2147483648)=3
   ·rw[bI c3,if_pos c3,if_pos c3,gP aH.uU,gP aH.uU];rw[<-iD.zB aH.uU (by show(0:Int)<=9218868437227405312;omega) (by show(9218868437227405312:Int)<9223372036854775808;omega)];rfl
   ·have hf:b%2147483648<lE.mW Ds:=by
     unfold fF.fW at c3 c4;split at c3
     ·rename_i h0;show _<(2139095040:Int);omega
     ·split at c3
      ·rename_i h0 h1;have:cO.lC Ds=8388608:=rfl;show _<(2139095040:Int);omega
      ·split at c3
       ·assumption
       ·split at c3
        ·exact(c3 rfl).elim
        ·rename_i h0 h1 h2 h3;rw[if_neg h0,if_neg h1,if_neg h2,if_neg h3]at c4;exact(c4 rfl).elim
    have hm:=aZ.Us aH.two32 Dw;have hx:=aZ.Vi aH.two32 Dw hf;rw[bA c3,if_neg c3,if_neg c3,gP ⟨aH.two32,by omega,by omega⟩,gP ⟨.inr rfl,⟨hm.1,by omega⟩,by omega,by omega⟩];rfl
def aI:dJ:=orc1 (pN .u64) sp
theorem ok:OK 31 aI:=(eB E aE (aA cD.ok (aA aH.ok (aA fF.ok (aA aAX.ok (aA lE.ok (aA dT.ok (aA iD.ok aC))))))) func31).oS rfl spec
end dC
end W
namespace W.aAR
open Go AI M W
theorem Mu(f:Int):cA.cF (aH.fD f)=2147483648\/cA.cF (aH.fD f)=9223372036854775808:=by unfold cA.cF;split <;> simp
theorem Zn{fn:Int}(h:4<=fn/\fn<=6):wT.Bl fn=true:=by
 have:fn=4\/fn=5\/fn=6:=by omega
 rcases this with rfl |rfl |rfl <;> rfl
theorem Uv{f:Int}(h:f=32\/f=64):0<cO.lC (aH.fD f)/\cO.lC (aH.fD f)<lE.mW (aH.fD f)/\lE.mW (aH.fD f)<cA.cF (aH.fD f):=by
 rcases h with rfl |rfl
 ·exact⟨by show(0:Int)<8388608;omega,by show(8388608:Int)<2139095040;omega,by show(2139095040:Int)<2147483648;omega⟩
 ·exact⟨by show(0:Int)<4503599627370496;omega,by show(4503599627370496:Int)<9218868437227405312;omega,by show(9218868437227405312:Int)<9223372036854775808;omega⟩
theorem Vj{f fn b:Int}(h:f=32\/f=64)(hf:4<=fn/\fn<=6)(hp:cD.eZ f b=true)(hn:b%cA.cF (aH.fD f)=0):bQ.sU f fn b=(if fn=5 then mV.Kj f 1 false else b,true,0):=by
 have hq:lM.Am f=true:=decide_eq_true h;have hc:fF.fW (aH.fD f) (b%cA.cF (aH.fD f))=0:=by unfold fF.fW;rw[if_pos hn]
 unfold bQ.sU;rw[if_neg (by rw[hq,Zn hf];simp),if_neg (by rw[hp];simp),if_neg (by rw[hc];omega),if_pos hc]
theorem aDF{f fn b:Int}(h:f=32\/f=64)(hf:4<=fn/\fn<=6)(hp:cD.eZ f b=true)(hn:0<b%cA.cF (aH.fD f))(aUR:b%cA.cF (aH.fD f)<lE.mW (aH.fD f)) :
  bQ.sU f fn b=if(fC.An fn (bQ.iK f b)).2.2=true then(mV.Kj f (fC.An fn (bQ.iK f b)).1 (fC.An fn (bQ.iK f b)).2.1,true,0)else(0,false,0):=by
 have hq:lM.Am f=true:=decide_eq_true h;have hc:fF.fW (aH.fD f) (b%cA.cF (aH.fD f))=1\/fF.fW (aH.fD f) (b%cA.cF (aH.fD f))=2:=by
  unfold fF.fW;rw[aO];split
  ·exact .inl rfl
  ·first |exact .inr rfl | (rw[if_pos aUR];exact .inr rfl)
 unfold bQ.sU;rw[if_neg (by rw[hq,Zn hf];simp),if_neg (by rw[hp];simp),aO,aO]
theorem Ll{f b:Int}(h:f=32\/f=64)(_:0<=b)(hn:0<b%cA.cF (aH.fD f)):0<(dT.pQ (aH.fD f) (b%cA.cF (aH.fD f))):=by
 have hi:=Uv h;unfold dT.pQ;split
 ·rename_i hd;have:=cNR (b%cA.cF (aH.fD f)) (cO.lC (aH.fD f));rw[hd,Int.mul_zero]at this;omega
 ·have:=cKI (b%cA.cF (aH.fD f)) (show cO.lC (aH.fD f)≠0 by omega);omega
theorem aNP{f b c:Int}(h1:c%cA.cF (aH.fD f)=b%cA.cF (aH.fD f))(h2:decide (cA.cF (aH.fD f)<=c)=!decide (cA.cF (aH.fD f)<=b)):bQ.iK f c=(-(bQ.iK f b).1,(bQ.iK f b).2):=by
 unfold bQ.iK aZ.kA aZ.lG;rw[h1,h2,<-Yn];congr 1;unfold zs;cases decide (cA.cF (aH.fD f)<=b) <;> simp
theorem aGC{f b:Int}(h:f=32\/f=64)(h0:0<=b)(hn:0<b%cA.cF (aH.fD f)):(bQ.iK f b).1%2=1:=by
 have hm:=Ll h h0 hn;apply Gc;rw[Ne,dZ];unfold aZ.kA;rw[Cv];omega
theorem aEM{b:Int}(h0:0<=b)(h1:b<4294967296)(hn:0<b%2147483648)(aUR:b%2147483648<2139095040) :
  dC.aHW b=0/\0<=dC.vG b/\dC.vG b<18446744073709551616/\0<dC.vG b%9223372036854775808/\dC.vG b%9223372036854775808<9218868437227405312/\bQ.iK 64 (dC.vG b)=bQ.iK 32 b:=by
 have hp:cD.eZ 32 b=true:=decide_eq_true (by show b<4294967296;omega);have hc:fF.fW dC.Ds (b%2147483648)=1\/fF.fW dC.Ds (b%2147483648)=2:=by
  unfold fF.fW;rw[aO];split
  ·exact .inl rfl
  ·first |exact .inr rfl | (rw[if_pos (show b%2147483648<lE.mW dC.Ds from aUR)];exact .inr rfl)
 have bDK:cA.cF (aH.fD 32)=2147483648:=rfl;have aCR:=Ll (f:=32) (.inl rfl) h0 (by rw[bDK];exact hn);rw[bDK]at aCR;have hmlt:dT.pQ dC.Ds (b%2147483648)<16777216:=by
  unfold dT.pQ;rw[show cO.lC dC.Ds=8388608 from rfl];split <;> omega
 have hexp:-149<=dT.sT dC.Ds (b%2147483648)/\dT.sT dC.Ds (b%2147483648)<=104:=by
  unfold dT.sT;rw[show cO.lC dC.Ds=8388608 from rfl,show dC.Ds.2.2.1=-149 from rfl];split <;> omega
 have bAF:bQ.iK 32 b=aR (zs (decide (2147483648<=b)) (dT.pQ dC.Ds (b%2147483648)).toNat) (dT.sT dC.Ds (b%2147483648)):=rfl;have hV:dC.vG b=iD.Qq dC.Mx (decide (2147483648<=b)) (dC.aLQ b):=by
  unfold dC.vG;rw[hp,cond_true,aO,aO]
 have hE:dC.aHW b=iD.aPR (dC.aLQ b):=by
  unfold dC.aHW;rw[hp,cond_true,aO,aO]
 have hO:dC.aLQ b=iD.uY dC.Mx (dT.pQ dC.Ds (b%2147483648)) (dT.sT dC.Ds (b%2147483648)):=rfl;rw[hE,hV,bAF,hO];have aCR:0<dT.pQ dC.Ds (b%2147483648):=aCR;generalize dT.pQ dC.Ds (b%2147483648)=M at *;generalize dT.sT dC.Ds (b%2147483648)=e at *;obtain⟨m,rfl⟩:=cGG (show 0<=M by omega);have Sq:m≠0:=by omega
 have bWK:=pT m Sq;have hmul:m=m/2^tz m*2^tz m:=by
  have:=cGK m (2^tz m);rw[bWK.1]at this;rw[cGC];omega
 have bNI:m/2^tz m≠0:=by omega
 have bYS:bl m<=24:=dK.2 (by omega);have hbm':bl (m/2^tz m)<=24:=cCA (gF (cJR _ _)) bYS;have htl:=Dz Sq;have hJ:iD.uY dC.Mx (m:Int) e=iD.Mt dC.Mx (m/2^tz m) (e+(tz m:Int)):=by
  unfold iD.uY iD.aGH;rw[cFB,aO,show dC.Mx.2.2.1=-1074 from rfl,show dC.Mx.2.1=53 from rfl,aO,aO]
 rw[hJ];generalize hg:m/2^tz m=m' at *;generalize tz m=t at *;have aLA:iD.Qr dC.Mx m' (e+(t:Int))=53-bl m':=by
  unfold iD.Qr;rw[show dC.Mx.2.2.1=-1074 from rfl,show dC.Mx.2.1=53 from rfl,aO];omega
 have bAZ:2^52<=m'*2^(53-bl m')/\m'*2^(53-bl m')<2^53:=by
  have hb:bl (m'*2^(53-bl m'))=53:=by rw[cGC,zO bNI];omega
  refine⟨?_,dK.1 (by omega)⟩;have:=(sL (n:=m'*2^(53-bl m')) (k:=52)).1 (by omega);exact this
 have hS:iD.Mt dC.Mx m' (e+(t:Int))=some ((e+(t:Int)-((53-bl m':Nat):Int) - -1074)*4503599627370496+((m'*2^(53-bl m'):Nat):Int)):=by
  unfold iD.Mt;rw[aLA,show cO.lC dC.Mx=4503599627370496 from rfl,show lE.mW dC.Mx=9218868437227405312 from rfl,show dC.Mx.2.2.1=-1074 from rfl,aO,aO]
 rw[hS];generalize hu:53-bl m'=u at *;generalize bZN:m'*2^u=MM at *;have bHL:0<=(e+(t:Int)-(u:Int) - -1074)*4503599627370496+(MM:Int)/\(e+(t:Int)-(u:Int) - -1074)*4503599627370496+(MM:Int)<9218868437227405312:=by omega
 generalize bKD:(e+(t:Int)-(u:Int) - -1074)*4503599627370496+(MM:Int)=c at *;have hsgv:cA.cF dC.Mx=9223372036854775808:=rfl;have hval:iD.Qq dC.Mx (decide (2147483648<=b)) (some c)=bif decide (2147483648<=b)then c+9223372036854775808 else c:=rfl
 rw[hval];have aIZ:(bif decide (2147483648<=b)then c+9223372036854775808 else c)%9223372036854775808=c:=by
  cases decide (2147483648<=b)with
  |true=>rw[cond_true];omega
  |false=>rw[cond_false];omega
 have bOD:decide (9223372036854775808<=(bif decide (2147483648<=b)then c+9223372036854775808 else c))=decide (2147483648<=b):=by
  cases decide (2147483648<=b)with
  |true=>rw[cond_true];exact decide_eq_true (by omega)
  |false=>rw[cond_false];exact decide_eq_false (by omega)
 refine⟨rfl,?_,?_,?_,?_,?_⟩
 ·cases decide (2147483648<=b)with
  |true=>rw[cond_true];omega
  |false=>rw[cond_false];omega
 ·cases decide (2147483648<=b)with
  |true=>rw[cond_true];omega
  |false=>rw[cond_false];omega
 ·rw[aIZ];omega
 ·rw[aIZ];omega
 ·unfold bQ.iK aZ.kA aZ.lG;rw[show cA.cF (aH.fD 64)=9223372036854775808 from rfl,aIZ,bOD];have bGP:dT.pQ (aH.fD 64) c=(MM:Int):=by
   unfold dT.pQ;rw[show cO.lC (aH.fD 64)=4503599627370496 from rfl,aO];omega
  have bHF:dT.sT (aH.fD 64) c=e+(t:Int)-(u:Int):=by
   unfold dT.sT;rw[show cO.lC (aH.fD 64)=4503599627370496 from rfl,aO,show(aH.fD 64).2.2.1=-1074 from rfl];omega
  rw[bGP,bHF,cFB,cFB];have z1:zs (decide (2147483648<=b)) MM=zs (decide (2147483648<=b)) m'*p2 (u:Nat):=by
   rw[Bd,<-bZN];unfold zs;cases decide (2147483648<=b) <;> simp[cKU]
  have z2:zs (decide (2147483648<=b)) m=zs (decide (2147483648<=b)) m'*p2 (t:Nat):=by
   rw[Bd,hmul];unfold zs;cases decide (2147483648<=b) <;> simp[cKU]
  rw[z1,z2,zC _ _ (by omega),zC _ _ (by omega)];congr 1;omega
end W.aAR
namespace W.aAS
open Go AI M W
def aKF(N V k:Nat):Prop:=2*(k*N)<=2*V+N/\2*V<=2*(k*N)+N/\(2*(k*N)=2*V+N->k%2=0)/\(2*V=2*(k*N)+N->k%2=0)
theorem aNE{N V V' k k':Nat}(hN:0<N)(h:aKF N V k)(h':aKF N V' k')(hV:V<=V'):k<=k':=by
 obtain⟨a1,a2,a3,a4⟩:=h;obtain⟨b1,b2,b3,b4⟩:=h';apply cDY;intro kM;have m:(k'+1)*N<=k*N:=cCT _ kM;rw[cBY,cFI]at m;have e:k*N=(k'+1)*N:=by rw[cBY,cFI];omega
 have e2:=cMW hN e;have:=a3 (by omega);have:=b4 (by omega);omega
theorem aIE{N V k K:Nat}(hK:0<K)(h:aKF N V k):aKF (N*K) (V*K) k:=by
 obtain⟨a1,a2,a3,a4⟩:=h;have e1:2*(k*(N*K))=2*(k*N)*K:=by rw[<-cGH,<-cGH,<-cGH]
 have e2:2*(V*K)+N*K=(2*V+N)*K:=by rw[cBY,cGH]
 have e3:2*(k*(N*K))+N*K=(2*(k*N)+N)*K:=by rw[e1,cBY]
 have e4:2*(V*K)=2*V*K:=by rw[cGH]
 refine⟨?_,?_,fun h=>a3 ?_,fun h=>a4 ?_⟩
 ·rw[e1,e2];exact cCT _ a1
 ·rw[e3,e4];exact cCT _ a2
 ·rw[e1,e2]at h;exact cMW hK h
 ·rw[e3,e4]at h;exact cMW hK h
theorem aIF{N k:Nat}(hN:0<N):aKF N (k*N) k:=⟨by omega,by omega,fun h=>by omega,fun h=>by omega⟩
theorem Yo{v:Nat}{n:Int}(h:0<=n):aKF (2^n.toNat) v (oR.Ac v n):=by
 unfold oR.Ac nY.wI oC.oB;rw[show((2:Int)==0)=false from rfl,show((2:Int)==1)=false from rfl,cond_false,cond_false];have hv0:=cGK v (2^n.toNat);have bMY:=cDM v (cEE (n:=n.toNat) (show 0<2 by omega))
 by_cases h0:n=0
 ·subst h0;have:nY.Oi v 0=-1:=rfl;rw[this];simp[aKF]
 ·obtain⟨m,hm⟩:∃m:Nat,n=(m:Int)+1:=⟨(n-1).toNat,by omega⟩;subst hm;have t1:((m:Int)+1).toNat=m+1:=by omega
  have t2:((m:Int)+1-1).toNat=m:=by omega
  unfold nY.Oi;rw[t1,t2]at *;have hp:=cEE (n:=m) (show 0<2 by omega);have hN:2^(m+1)=2^m*2:=cGD ..;have hq:v/2^(m+1)=v/2^m/2:=by rw[hN,cGV]
  have hs:=cGK v (2^m);have bMR:=cDM v hp;rw[decide_eq_true (show(0:Int)<=(m:Int)+1-1 by omega),cEG];rw[hq]at *;rw[hN]at *
  by_cases hb:v/2^m%2=1
  ·have hv:v≠0:=fun hz=>by rw[hz,cKY]at hb;omega
   rw[decide_eq_true hb,cond_true];have ht:(tz v=m↔v%2^m=0):=by
    constructor
    ·intro e;apply Classical.byContradiction;intro Bp;have a:=aLW (n:=v/2^m) bMR Bp;rw[cHF,hs]at a;have b:=Jp Bp;have:=(cNQ (a:=2) (by omega)).1 (cHT b bMR);omega
    ·intro e;rw[e,cCC]at hs;have a:=Me (n:=v/2^m) (by omega) m;rw[hs,Aq hb]at a;exact a
   generalize v/2^m=d at *;generalize v%2^m=s at *;generalize hM:2^m=M at *;have hd:d=2*(d/2)+1:=by omega
   generalize d/2=q at *;have bOW:M*d=2*(M*q)+M:=by rw[hd,cGF,cBO,cJA]
   have bJS:q*(M*2)=2*(M*q):=by rw[cGC q,cLZ,cGC]
   have Ql:(q+1)*(M*2)=2*(M*q)+2*M:=by rw[cBY,bJS];omega
   by_cases hc:tz v=m
   ·have s0:=ht.1 hc;rw[beq_iff_eq.2 (show(tz v:Int)=(m:Int)+1-1 by omega),cond_true];rw[show decide ((0:Int)<0)=false from rfl,cDF,show((0:Int)==0)=true from rfl,cEG]
    by_cases ho:q%2=1
    ·rw[decide_eq_true ho,cond_true];unfold aKF;rw[Ql];exact⟨by omega,by omega,fun _=>by omega,fun h=>by omega⟩
    ·rw[decide_eq_false ho,cond_false,cCC];unfold aKF;rw[bJS];exact⟨by omega,by omega,fun h=>by omega,fun _=>by omega⟩
   ·have s0:s≠0:=fun h=>hc (ht.2 h)
    rw[beq_eq_false_iff_ne.2 (show(tz v:Int)≠(m:Int)+1-1 by omega),cond_false];rw[show decide ((0:Int)<1)=true from rfl,cGO,cond_true];unfold aKF;rw[Ql];exact⟨by omega,by omega,fun h=>by omega,fun h=>by omega⟩
  ·rw[decide_eq_false hb,cond_false];rw[show decide ((0:Int) < -1)=false from rfl,show((-1:Int)==0)=false from rfl,cGN,cDF,cond_false,cCC];generalize v/2^m=d at *;generalize v%2^m=s at *;generalize 2^m=M at *;have hd:d=2*(d/2):=by omega
   generalize d/2=q at *;have bOW:M*d=2*(M*q):=by rw[hd,cJA]
   have bJS:q*(M*2)=2*(M*q):=by rw[cGC q,cLZ,cGC]
   unfold aKF;rw[bJS];exact⟨by omega,by omega,fun h=>by omega,fun h=>by omega⟩
theorem Rt{w:Int×Int×Int}{v:Nat}{e G:Int}(h1:G<=e)(h2:G<=jA.gJ w v e):aKF (2^(jA.gJ w v e-G).toNat) (v*2^(e-G).toNat) (jA.wH w v e):=by
 unfold jA.wH;generalize jA.gJ w v e=u at *;have hp:∀n:Nat,0<2^n:=fun n=>cY
 split
 ·rename_i h;have r:=aIE (hp (e-G).toNat) (Yo (v:=v) (show 0<=u-e by omega));rw[<-cGE,show(u-e).toNat+(e-G).toNat=(u-G).toNat by omega]at r;exact r
 ·rename_i h;have r:=aIF (k:=v*2^(e-u).toNat) (hp (u-G).toNat);rw[cGH,<-cGE,show(e-u).toNat+(u-G).toNat=(e-G).toNat by omega]at r;exact r
theorem Kw(w:Int×Int×Int)(v:Nat)(e:Int):w.2.1<=jA.gJ w v e/\e+(bl v:Nat)-w.1<=jA.gJ w v e/\(jA.gJ w v e=w.2.1\/jA.gJ w v e=e+(bl v:Nat)-w.1):=by
 unfold jA.gJ;split <;> omega
theorem Da{w:Int×Int×Int}(hw:kJ.vB w){v v':Nat}{e e' G:Int}(hv:v≠0)(aKZ:v'≠0)(h1:G<=e)(h2:G<=e')(h:v*2^(e-G).toNat<=v'*2^(e'-G).toNat):jA.xE w v e<=jA.xE w v' e':=by
 obtain⟨g,aSN,aLE⟩:∃g:Int,g<=G/\g<=w.2.1:=⟨min G w.2.1,cMX _ _,cMY _ _⟩;have hp:∀n:Nat,0<2^n:=fun n=>cY
 have h3:v*2^(e-g).toNat<=v'*2^(e'-g).toNat:=by
  have:=cCT (2^(G-g).toNat) h;rw[cGH,cGH,<-cGE,<-cGE,show(e-G).toNat+(G-g).toNat=(e-g).toNat by omega,show(e'-G).toNat+(G-g).toNat=(e'-g).toNat by omega]at this;exact this
 obtain⟨u1,u2,u3⟩:=Kw w v e;obtain⟨u1',u2',u3'⟩:=Kw w v' e';have r:=Rt (w:=w) (v:=v) (show g<=e by omega) (show g<=jA.gJ w v e by omega);have r':=Rt (w:=w) (v:=v') (show g<=e' by omega) (show g<=jA.gJ w v' e' by omega);have b:bl (v*2^(e-g).toNat)=(e-g).toNat+bl v:=by rw[cGC,zO hv]
 have b':bl (v'*2^(e'-g).toNat)=(e'-g).toNat+bl v':=by rw[cGC,zO aKZ]
 have hb:=gF h3;have bp:=qV hv;have bp':=qV aKZ;have l1:=wL (v*2^(e-g).toNat);have l2:=aAB (n:=v'*2^(e'-g).toNat) (Nat.ne_of_gt (Nat.mul_pos (Nat.pos_of_ne_zero aKZ) (hp _)));have hm:1<=w.1/\w.1<=53:=by rcases hw with rfl |rfl <;> decide
 unfold jA.xE;generalize hU:jA.gJ w v e=u at *;generalize bSU:jA.gJ w v' e'=u' at *;generalize jA.wH w v e=k at *;generalize jA.wH w v' e'=k' at *;generalize hV:v*2^(e-g).toNat=V at *;generalize hV':v'*2^(e'-g).toNat=V' at *
 by_cases c:1100<e+(bl v:Nat)-1
 ·rw[if_pos c,if_pos (show 1100<e'+(bl v':Nat)-1 by omega)];exact cMA _
 ·rw[if_neg c]
  by_cases c':1100<e'+(bl v':Nat)-1
  ·rw[if_pos c'];split <;> omega
  ·rw[if_neg c'];have key:(u-w.2.1)*((2^(w.1-1).toNat:Nat):Int)+(k:Int)<=(u'-w.2.1)*((2^(w.1-1).toNat:Nat):Int)+(k':Int):=by
    have hH:=hp (w.1-1).toNat;rcases Int.lt_trichotomy u u' with kM |heq |hgt
    ·
     have k1:k<=2*2^(w.1-1).toNat:=by
      apply cDY;intro hh;have a1:=r.1;have m:(2*2^(w.1-1).toNat+1)*2^(u-g).toNat<=k*2^(u-g).toNat:=cCT _ hh;have lt:V<2*2^(w.1-1).toNat*2^(u-g).toNat:=by
       refine cCB l1 ?_;rw[show 2*2^(w.1-1).toNat=2^(w.1-1).toNat*2^1 by omega,<-cGE,<-cGE];exact fK
      rw[cBY,cFI]at m;have:=hp (u-g).toNat;generalize 2*2^(w.1-1).toNat*2^(u-g).toNat=x at *;omega
     have k2:2^(w.1-1).toNat<=k':=by
      apply cDY;intro hh;have a2:=r'.2.1;have m:(k'+1)*2^(u'-g).toNat<=2^(w.1-1).toNat*2^(u'-g).toNat:=cCT _ hh;have ge:2^(w.1-1).toNat*2^(u'-g).toNat<=V':=by
       refine cCA ?_ l2;rw[<-cGE];exact fK
      rw[cBY,cFI]at m;have:=hp (u'-g).toNat;generalize 2^(w.1-1).toNat*2^(u'-g).toNat=x at *;omega
     have hd:u-w.2.1+1<=u'-w.2.1:=by omega
     have m:=cDO hd (show(0:Int)<=((2^(w.1-1).toNat:Nat):Int) by omega);rw[Int.add_mul,cJO]at m;generalize (u-w.2.1)*((2^(w.1-1).toNat:Nat):Int)=x at *;generalize (u'-w.2.1)*((2^(w.1-1).toNat:Nat):Int)=y at *;omega
    ·subst heq;have:=aNE (hp _) r r' h3;omega
    ·omega
   generalize (u-w.2.1)*((2^(w.1-1).toNat:Nat):Int)+(k:Int)=x at *;generalize (u'-w.2.1)*((2^(w.1-1).toNat:Nat):Int)+(k':Int)=y at *;split <;> split <;> omega
def sg(f:Int):Int:=if f=32 then 2147483648 else 9223372036854775808
def ord(f w:Int):Int:=if w<sg f then w else sg f-w
def sz(f:Int)(p:Int×Int):Int:=jA.xE (Ch.Eb f) p.1.natAbs p.2
theorem bER{f:Int}(h:f=32\/f=64):(if(Ch.Eb f).1=24 then(2147483648:Int)else 9223372036854775808)=sg f:=by rcases h with rfl |rfl <;> rfl
theorem Fv{f:Int}(h:f=32\/f=64)(p:Int×Int):0<=sz f p/\sz f p<=kJ.oD (Ch.Eb f)/\kJ.oD (Ch.Eb f)<sg f:=by
 have:=gG.aFH (gG.Hn h) p.1.natAbs p.2;exact⟨this.1,this.2,by rcases h with rfl |rfl <;> decide⟩
theorem oK{f:Int}{p:Int×Int}(h:0<p.1):gG.iN f p=sz f p:=by
 unfold gG.iN sz oX.aSG;rw[aO,iH.2 (by omega),cond_false]
theorem yD{f:Int}(hf:f=32\/f=64){p:Int×Int}(h:p.1<0):gG.iN f p=sz f p+sg f:=by
 unfold gG.iN sz oX.aSG;rw[aO,lT.2 h,cond_true,bER hf]
theorem aNT{f:Int}{p:Int×Int}(h:p.1=0):gG.iN f p=0:=by unfold gG.iN;rw[if_pos h]
theorem Ye{f:Int}(hf:f=32\/f=64)(p:Int×Int):ord f (gG.iN f p)=if p.1<0 then -sz f p else if p.1=0 then 0 else sz f p:=by
 have hb:=Fv hf p
 by_cases h:p.1<0
 ·rw[if_pos h,yD hf h];unfold ord;rw[aO];omega
 ·rw[if_neg h]
  by_cases h0:p.1=0
  ·rw[if_pos h0,aNT h0];unfold ord;rw[aQ]
  ·rw[if_neg h0,oK (by omega)];unfold ord;rw[aQ]
theorem aIL{f:Int}(hf:f=32\/f=64){p q:Int×Int}(h:R.qz p<=R.qz q):ord f (gG.iN f p)<=ord f (gG.iN f q):=by
 obtain⟨G,h1,h2⟩:∃G:Int,G<=p.2/\G<=q.2:=⟨min p.2 q.2,cMX _ _,cMY _ _⟩;rw[R.Na h1 h2]at h;have hp:∀n:Nat,(0:Int)<((2^n:Nat):Int):=fun n=>by have:=cEE (n:=n) (show 0<2 by omega);omega
 have s1:=Fv hf p;have s2:=Fv hf q;have a1:=hp (p.2-G).toNat;have a2:=hp (q.2-G).toNat;rw[Ye hf,Ye hf];have hP:p.1<0->p.1*((2^(p.2-G).toNat:Nat):Int)<0:=fun h=>cLC h a1
 have bSV:0<p.1->0<p.1*((2^(p.2-G).toNat:Nat):Int):=fun h=>Int.mul_pos h a1
 have hQ:q.1<0->q.1*((2^(q.2-G).toNat:Nat):Int)<0:=fun h=>cLC h a2
 have bZL:p.1=0->p.1*((2^(p.2-G).toNat:Nat):Int)=0:=fun h=>by rw[h,cGS]
 have bZK:q.1=0->q.1*((2^(q.2-G).toNat:Nat):Int)=0:=fun h=>by rw[h,cGS]
 have Um:∀(z:Int) (n:Nat),z.natAbs*2^n=(z*((2^n:Nat):Int)).natAbs:=fun z n=>by rw[cGR,cGW]
 by_cases c1:p.1<0
 ·rw[if_pos c1]
  by_cases c2:q.1<0
  ·rw[if_pos c2];have:=Da (gG.Hn hf) (v:=q.1.natAbs) (v':=p.1.natAbs) (by omega) (by omega) h2 h1 (by rw[Um,Um];have:=hP c1;have:=hQ c2;omega);unfold sz;omega
  ·rw[if_neg c2];split <;> omega
 ·rw[if_neg c1]
  by_cases c0:p.1=0
  ·rw[if_pos c0]
   by_cases c2:q.1<0
   ·have:=hQ c2;have:=bZL c0;omega
   ·rw[if_neg c2];split <;> omega
  ·rw[if_neg c0];have p0:=bSV (by omega)
   by_cases c2:q.1<0
   ·have:=hQ c2;omega
   ·by_cases c3:q.1=0
    ·have:=bZK c3;omega
    ·rw[if_neg c2,if_neg c3];have:=Da (gG.Hn hf) (v:=p.1.natAbs) (v':=q.1.natAbs) (by omega) (by omega) h1 h2 (by rw[Um,Um];omega);exact this
theorem aIM{f:Int}(hf:f=32\/f=64){p:Int×Int}(h:p.1≠0):gG.iN f (-p.1,p.2)=if gG.iN f p<sg f then gG.iN f p+sg f else gG.iN f p-sg f:=by
 have hb:=Fv hf p;have e:sz f (-p.1,p.2)=sz f p:=by unfold sz;rw[cHY]
 by_cases c:p.1<0
 ·rw[oK (p:=(-p.1,p.2)) (by show 0 < -p.1;omega),yD hf c,e,aO];omega
 ·rw[yD hf (p:=(-p.1,p.2)) (by show -p.1<0;omega),oK (by omega),e,aQ]
theorem aTF{f:Int}(hf:f=32\/f=64){p q:Int×Int}(hp:p.1≠0)(hq:q.1≠0)(h:R.qz p=R.qz q):sz f p=sz f q:=by
 obtain⟨G,h1,h2⟩:∃G:Int,G<=p.2/\G<=q.2:=⟨min p.2 q.2,cMX _ _,cMY _ _⟩;have l1:=(R.Na h1 h2).1 (by rw[h];exact cHS);have l2:=(R.Na h2 h1).1 (by rw[h];exact cHS);have Um:∀(z:Int) (n:Nat),z.natAbs*2^n=(z*((2^n:Nat):Int)).natAbs:=fun z n=>by rw[cGR,cGW]
 have a:=Da (gG.Hn hf) (v:=p.1.natAbs) (v':=q.1.natAbs) (by omega) (by omega) h1 h2 (by rw[Um,Um];omega);have b:=Da (gG.Hn hf) (v:=q.1.natAbs) (v':=p.1.natAbs) (by omega) (by omega) h2 h1 (by rw[Um,Um];omega);unfold sz;omega
theorem Sk(v:Nat):oR.Ac v 0=v:=by
 have r:=Yo (v:=v) (show(0:Int)<=0 by omega);unfold aKF at r;simp only[Int.toNat_zero,cLF,cBO]at r;omega
theorem Rz{w:Int×Int×Int}{H:Nat}{Q t:Int}(hH:2^(w.1-1).toNat=H)(h1:0<t)(h2:t<kJ.oD w)(hm:1<=w.1)(hQ:kJ.oD w<=(Q+1)*H)(hT:w.2.1+Q+w.1<=1102) :
  jA.xE w (if t/(H:Int)=0 then t%(H:Int)else(H:Int)+t%(H:Int)).toNat (if t/(H:Int)=0 then w.2.1 else w.2.1+t/(H:Int)-1)=t:=by
 have hp:0<H:=by rw[<-hH];exact cY
 have d:=cNR t (H:Int);have r0:=cKI t (show(H:Int)≠0 by omega);have r1:=Int.emod_lt_of_pos t (show(0:Int)<(H:Int) by omega);have q0:0<=t/(H:Int):=Int.ediv_nonneg (by omega) (by omega);have qQ:t/(H:Int)<=Q:=by
  apply Int.le_of_not_gt;intro kM;have m:=cDO (show Q+1<=t/(H:Int) by omega) (show(0:Int)<=(H:Int) by omega);rw[Int.mul_comm (t/(H:Int))]at m;omega
 generalize t/(H:Int)=q at *;generalize t%(H:Int)=r at *
 by_cases c:q=0
 ·rw[if_pos c,if_pos c];subst c;rw[Int.mul_zero,Int.add_zero]at d;subst d;obtain⟨v,rfl⟩:=cGG r0;rw[cFB];have hb:bl v<=(w.1-1).toNat:=dK.2 (by omega);have hu:jA.gJ w v w.2.1=w.2.1:=by obtain⟨a,b,h |h⟩:=Kw w v w.2.1 <;> omega
  unfold jA.xE jA.wH;rw[hu,if_pos (cMA _),cMF,Sk,cGS,aO,aO];omega
 ·rw[if_neg c,if_neg c];obtain⟨v,hv⟩:∃v:Nat,(H:Int)+r=v:=⟨((H:Int)+r).toNat,by omega⟩;rw[hv,cFB];have hb:bl v=(w.1-1).toNat+1:=aYG (by omega) (by rw[cGD];omega);have hu:jA.gJ w v (w.2.1+q-1)=w.2.1+q-1:=by obtain⟨a,b,h |h⟩:=Kw w v (w.2.1+q-1) <;> omega
  unfold jA.xE jA.wH;rw[hu,if_pos (cMA _),cMF,Sk,aO,hH];have e:(w.2.1+q-1-w.2.1)*(H:Int)+(v:Int)=t:=by
   rw[show w.2.1+q-1-w.2.1=q-1 by omega,Int.sub_mul,cJO,Int.mul_comm];omega
  rw[e,aO]
theorem Uo{f b:Int}(h:0<=b/\b<2*sg f):b%sg f=if b<sg f then b else b-sg f:=by
 unfold sg at *;split at h <;> rename_i hf
 ·rw[if_pos hf];split <;> omega
 ·rw[if_neg hf];split <;> omega
def Fin(f b:Int):Prop:=(f=32\/f=64)/\(0<=b/\b<2*sg f)/\0<b%sg f/\b%sg f<kJ.oD (Ch.Eb f)
theorem Mv{f:Int}(h:f=32\/f=64):cA.cF (aH.fD f)=sg f/\lE.mW (aH.fD f)=kJ.oD (Ch.Eb f):=by rcases h with rfl |rfl <;> exact⟨rfl,rfl⟩
theorem Ul{f b:Int}(h:Fin f b):(bQ.iK f b).1<0↔sg f<=b:=by
 obtain⟨hf,hb,h1,h2⟩:=h;obtain⟨e1,e2⟩:=Mv hf;have aCR:=aAR.Ll hf hb.1 (by rw[e1];exact h1);rw[e1]at aCR;have hz:aZ.kA f b=zs (decide (sg f<=b)) (dT.pQ (aH.fD f) (b%sg f)).toNat:=by unfold aZ.kA;rw[e1]
 have bKH:aZ.kA f b≠0:=by rw[hz,Ne,Cv];omega
 have e:=(mB (e:=aZ.lG f b) bKH).1;have hp:=Ib (tz (aZ.kA f b).natAbs:Nat);have aOG:aZ.kA f b<0↔sg f<=b:=by
  rw[hz]
  by_cases c:sg f<=b
  ·rw[decide_eq_true c];unfold zs;simp only[cond_true];omega
  ·rw[decide_eq_false c];unfold zs;simp only[cond_false];omega
 rw[<-aOG];have en:(aR (aZ.kA f b) (aZ.lG f b))=bQ.iK f b:=rfl;rw[en]at e;generalize p2 (tz (aZ.kA f b).natAbs:Nat)=P at *;constructor
 ·intro h;rw[e];exact cLC h hp
 ·intro h;apply Classical.byContradiction;intro hn;have:0<=(bQ.iK f b).1*P:=cMS (by omega) (by omega);omega
theorem aIK{f b:Int}(h:Fin f b):gG.iN f (bQ.iK f b)=b:=by
 obtain⟨hf,hb,h1,h2⟩:=h;obtain⟨e1,e2⟩:=Mv hf;have aXO:0<sg f:=by unfold sg;split <;> omega
 have aCR:=aAR.Ll hf hb.1 (by rw[e1];exact h1);rw[e1]at aCR;have hq:R.qz (bQ.iK f b)=R.qz (aZ.kA f b,aZ.lG f b):=pC _ _;have hz:aZ.kA f b=zs (decide (sg f<=b)) (dT.pQ (aH.fD f) (b%sg f)).toNat:=by unfold aZ.kA;rw[e1]
 have hE:aZ.lG f b=dT.sT (aH.fD f) (b%sg f):=by unfold aZ.lG;rw[e1]
 have bKH:aZ.kA f b≠0:=by rw[hz,Ne,Cv];omega
 have bZM:(bQ.iK f b).1≠0:=fun h=>bKH (dZ.1 h)
 have hS:=aTF hf bZM (q:=(aZ.kA f b,aZ.lG f b)) bKH hq;have hA:(aZ.kA f b).natAbs=(dT.pQ (aH.fD f) (b%sg f)).toNat:=by rw[hz,kR]
 have sQ:sz f (aZ.kA f b,aZ.lG f b)=b%sg f:=by
  unfold sz;rw[hA,hE];rcases hf with rfl |rfl
  ·exact Rz (w:=(24,-149,31)) (H:=8388608) (Q:=254) rfl h1 h2 (by decide) (by decide) (by decide)
  ·exact Rz (w:=(53,-1074,63)) (H:=4503599627370496) (Q:=2046) rfl h1 h2 (by decide) (by decide) (by decide)
 have aIX:=Ul ⟨hf,hb,h1,h2⟩
 by_cases c:sg f<=b
 ·rw[yD hf (aIX.2 c),hS,sQ,Uo hb,aO];omega
 ·rw[oK (by have:=mt aIX.1 c;omega),hS,sQ,Uo hb,aQ]
end W.aAS
namespace W
open Go AI M
namespace Pw
def E:=mE [(149,nY.aI)] 11 [8] [] []
def aE:=bd f191
theorem aT:Nk E aE:=nk
theorem start a c b:aF E f191 aE [D.agg [sc (bool a),ints u64 c],D.s (sc (int i64 b))]=letI A:=nY.wI 1 a (M6.val c) b;letI B:=bif fit A then zs a A else(0:Int);aM (iE (a,c)/\0<=b/\b<4611686018427387904) (some [D.agg [sc (bool (isNeg B)),ints u64 (M6.dg B.natAbs)],D.s (sc (int i64 (bif fit A then(0:Int)else(5:Int))))]):=eJ aT
theorem up{p:Bool}{v:Nat}{n:Int}(h:0<=n):zs p (nY.wI 1 p v n)=-(-(zs p v)/((2^n.toNat:Nat):Int)):=by
 have e1:zs p (nY.wI 1 p v n)=-(zs (!p) (nY.wI 0 (!p) v n)):=by
  unfold nY.wI oC.oB zs;cases p <;> simp
 have e2:-(zs p v)=zs (!p) v:=by unfold zs;cases p <;> simp
 rw[e1,e2,kC.down h]
theorem small{p:Bool}{v:Nat}{n:Int}(h:0<=n)(hb:bl v<=524288):fit (nY.wI 1 p v n)=true:=by
 have e1:nY.wI 1 p v n=nY.wI 0 (!p) v n:=by
  unfold nY.wI oC.oB;cases p <;> simp
 rw[e1];exact kC.small h hb
def sp(x:Bool×List Int)(n:Int):Prop×List D:=(iE x/\0<=n/\n<4611686018427387904,[wD (-(-(wv x)/((2^n.toNat:Nat):Int))),.s (.sc (.int .i64 0))])
theorem spec:fL E f191 aE pV (pN .i64) sp:=by
 intro x n h;have h':=h;obtain⟨hx,h0,h1⟩:=h;refine(start x.1 x.2 n).trans ((gP h').trans ?_);unfold sp
 try dsimp only
 rw[small h0 hx.bl];show some (wE true _)=_;rw[up h0];rfl
def aI:dJ:=orc2 pV (pN .i64) sp
theorem ok:OK 191 aI:=(eB E aE (aA nY.ok aC) func191).lF rfl spec
end Pw
namespace lL
def E:=mE [(192,kC.aI),(191,Pw.aI)] 22 [] [] []
def aE:=bd f150
theorem aT:Nk E aE:=nk
theorem start a d b c:aF E f150 aE [D.agg [sc (bool a),ints u64 d],D.s (sc (int i64 b)),D.s (sc (bool c))]=letI B:=iE (a,d)/\0<=b/\b<4611686018427387904;letI A:=(↑((2:Nat)^b.toNat):Int);aB c (aM B (some [D.agg [sc (bool (isNeg (-(-wv (a,d)/A)))),ints u64 (M6.dg (-(-wv (a,d)/A)).natAbs)]])) (aM B (some [D.agg [sc (bool (isNeg (wv (a,d)/A))),ints u64 (M6.dg (wv (a,d)/A).natAbs)]])):=eJ aT
def qU(up:Bool)(z:Int)(n:Nat):Int:=bif up then -(-z/((2^n:Nat):Int))else z/((2^n:Nat):Int)
theorem aHF(up:Bool)(z:Int)(n:Nat):(qU up z n).natAbs<=z.natAbs:=by
 unfold qU;cases up with
 |false=>exact tJ (cEE (by decide))
 |true =>
  rw[cond_true,cHY];have:=tJ (z:=-z) (cEE (n:=n) (show 0<2 by decide));rwa [cHY]at this
def sp(x:Bool×List Int)(n:Int)(up:Bool):Prop×List D:=(iE x/\(0<=n/\n<4611686018427387904),[wD (qU up (wv x) n.toNat)])
theorem spec:oO E f150 aE pV (pN .i64) pB sp:=by
 rintro x n up ⟨h1,h2⟩;refine(start x.1 x.2 n up).trans ?_;cases up with
 |true=>rw[bT,gP ⟨h1,h2⟩];rfl
 |false=>rw[bF,gP ⟨h1,h2⟩];rfl
def aI:dJ:=orc3 pV (pN .i64) pB sp
theorem ok:OK 150 aI:=(eB E aE (aA kC.ok (aA Pw.ok aC)) func150).xX rfl spec
end lL
namespace cV
def E:=mE [(106,uA.aI),(50,kG.aI),(150,lL.aI)] 33 [20,30] [] []
def aE:=bd f240
theorem aT:Nk E aE:=nk
theorem start a e b c d:aF E f240 aE [D.agg [sc (bool a),ints u64 e],D.s (sc (int i64 b)),D.s (sc (int i64 c)),D.s (sc (bool d))]=letI H:=wv (a,e);letI C:=bif iQ H b then aR H b else((0:Int),(0:Int));letI B:=(↑(bl (M6.val e)):Int);letI G:=lL.qU d H (i64.wrap (B-c)).toNat;letI F:=b+i64.wrap (B-c);letI I:=i64.wrap F;aM (M6.bZ e/\e.length<=1099511627776) (aB (decide (i64.wrap (B-c)<=0)) (aM (iE (a,e)/\(-9223372036854775808:Int)<=b/\b<9223372036854775808) (aD (isNeg C.fst) fun f=>aD (M6.dg C.fst.natAbs) fun g=>aD C.snd fun h=>aD (bif iQ H b then(0:Int)else(5:Int)) fun i=>some [D.agg [sc (bool f),ints u64 g,sc (int i64 h)],D.s (sc (int i64 i))])) (aM (iE (a,e)/\0<=i64.wrap (B-c)/\i64.wrap (B-c)<4611686018427387904) (aD (isNeg G) fun j=>aD (M6.dg G.natAbs) fun k=>letI A:=bif iQ (wv (j,k)) I then aR (wv (j,k)) I else((0:Int),(0:Int));aM (iE (j,k)/\(-9223372036854775808:Int)<=i64.wrap F/\i64.wrap F<9223372036854775808) (aD (isNeg A.fst) fun l=>aD (M6.dg A.fst.natAbs) fun m=>aD A.snd fun n=>aD (bif iQ (wv (j,k)) I then(0:Int)else(5:Int)) fun o=>some [D.agg [sc (bool l),ints u64 m,sc (int i64 n)],D.s (sc (int i64 o))])))):=eJ aT
def oY(up:Bool)(z e p:Int):Int×Int:=if(bl z.natAbs:Int)-p<=0 then(z,e)else(lL.qU up z ((bl z.natAbs:Int)-p).toNat,e+((bl z.natAbs:Int)-p))
def sp(x:Bool×List Int)(e p:Int)(up:Bool):Prop×List D:=(iE x/\(-4611686018427387904<=e/\e<4611686018427387904)/\1<=p/\p<=70000,dE (iQ (oY up (wv x) e p).1 (oY up (wv x) e p).2) (aR (oY up (wv x) e p).1 (oY up (wv x) e p).2))
theorem spec:Rr E f240 aE pV (pN .i64) (pN .i64) pB sp:=by
 rintro x e p up ⟨hw,he,hp⟩;have hb:=hw.bl;have hl:=hw.len;have ha:=jB x;refine(start x.1 x.2 e p up).trans ?_;unfold sp oY
 try dsimp only
 rw[gP ⟨hw.1.jE,by omega⟩,aG,ha,wrap_i64 (n:=(bl (M6.val x.2):Int)-p) (by omega) (by omega)];have hx:wv (x.1,x.2)=wv x:=rfl
 by_cases hn:(bl (M6.val x.2):Int)-p<=0
 ·rw[aN hn,if_pos hn,gP ⟨hw,by omega,by omega⟩];simp only[aG];rfl
 ·have aJE:=lL.aHF up (wv x) ((bl (M6.val x.2):Int)-p).toNat;have Qm:iE (isNeg (lL.qU up (wv x) ((bl (M6.val x.2):Int)-p).toNat),M6.dg (lL.qU up (wv x) ((bl (M6.val x.2):Int)-p).toNat).natAbs):=gN (cCA (gF aJE) (by rw[ha];exact hb));rw[aL hn,if_neg hn,gP ⟨hw,by omega,by omega⟩];simp only[aG];rw[wrap_i64 (n:=e+((bl (M6.val x.2):Int)-p)) (by omega) (by omega)];rw[gP ⟨Qm,by omega,by omega⟩,oI];rfl
def aI:dJ:=orc4 pV (pN .i64) (pN .i64) pB sp
theorem ok:OK 240 aI:=(eB E aE (aA uA.ok (aA kG.ok (aA lL.ok aC))) func240).aSJ rfl spec
end cV
namespace oP
def E:=mE [] 8 [] [] []
def aE:=bd f252
theorem aT:Nk E aE:=nk
theorem start a:aF E f252 aE [D.s (ints u64 a)]=aB (decide (8192<(a.length:Int))) (some [D.s (sc (slice none 0 0)),D.s (sc (int i64 5))]) (some [D.s (ints u64 a),D.s (sc (int i64 0))]):=eJ aT
def can(a b:List Int):Prop:=Contract prog base.glob 253 [(pI .u64).put a,(pI .u64).put b] [.own gX .u64 (M6.dg (M6.val a*M6.val b))]
def less(n:Nat):Prop:=∀c d:List Int,M6.cG c->M6.cG d->c.length+d.length<n->can c d
def prec:dJ:=orc2 (pI .u64) (pI .u64) fun a b=>(can a b,[.own gX .u64 (M6.dg (M6.val a*M6.val b))])
theorem aFT:mN prog base.glob 253 prec:=by
 intro ds g rs hd hg;unfold prec orc2 at hd;split at hd
 ·split at hd
  ·rename_i x y hx hy;have hd:=Option.some.inj hd;have e1:g=can x y:=(Prod.mk.inj hd).1.symm;have e2:=(Prod.mk.inj hd).2;subst e1;rw[<-e2];exact⟨Contract.bLN (show Contract _ _ _ _ _ from hg) ((pI .u64).le hx) ((pI .u64).le hy),sR (c:=(f253.body).getD .skip) func253 rfl rfl⟩
  ·cases hd
 ·cases hd
def Mg(a:List Int):Bool:=decide (a.length<=8192)
def sp(a:List Int):Prop×List D:=(True,[.s (.ints .u64 (bif Mg a then a else [])),.s (.sc (.int .i64 (bif Mg a then 0 else 5)))])
theorem spec:aRI E f252 aE (pI .u64) sp:=by
 intro a _;have e:=start a;unfold sp Mg;simp only
 by_cases hc:a.length<=8192
 ·rw[aL]at e;rw[decide_eq_true hc];exact⟨_,e,iZ.refl _⟩
 ·rw[aN]at e;rw[decide_eq_false hc];exact⟨_,e,.cons (Ap.nil _) (iZ.refl _)⟩
def aI:dJ:=orc1 (pI .u64) sp
theorem ok:OK 252 aI:=(eB E aE aC func252).bEK rfl spec
end oP
namespace Ke
def E:Env:={ ({ base with C:=callsOf [(250,Pu.aI)],n0:=1,io:=[0] })with nt:=71,own:=[],keep:=fun k=>(tlook [(5,[0,1,2,6,7,13,14,18,19]),(1,[0,1,2,13,14])] k).getD [],cut:=tlook [] }
def aE:=bd f264
theorem aT:Nk E aE:=nk
def L1(a:List Int)(b:Nat)(c:Nat) d f g h:=pZ E f264 aE 1 [(A.any,some { e:=(22:Nat),cont:=rH.ints u64 a }),(A.v (V.one (L.view 0 b c)),none),jR d,jR f,bN g,bN h]
def L5(a:List Int)(b:Nat)(c:Nat) d f g h i j k l:=pZ E f264 aE 5 [(A.any,some { e:=(22:Nat),cont:=rH.ints u64 a }),(A.v (V.one (L.view 0 b c)),none),jR d,jR f,bN g,dO h,bN i,bN j,bN k,bN l]
theorem start al ao an b c:aF E f264 aE [D.io gX u64 al ao an,D.s (ints u64 b),D.s (ints u64 c)]=Ke.L1 al ao an b c (c.length:Int) 0:=eJ aT
theorem Tq a b c d e f g:L1 a b c d e f g=aB (decide (g<f)) (Ke.L5 a b c d e g 0 f g (d.length:Int) 0) (some [D.io 22 u64 a 0 0]):=lJ aT
theorem Px a b c d e f g h i j k:L5 a b c d e f g h i j k=letI C:=(d.length:Int);letI B:=b+(i64.wrap (k+f)).toNat;letI A:=d.getD k.toNat 0*e.getD f.toNat 0%(18446744073709551616:Int)+g+0;letI F:=a.getD B 0+A%18446744073709551616+(0:Int);aB (decide (k<j)) (if 0<=k/\k<C then if 0<=f/\f<(e.length:Int)then aM (0<=d.getD k.toNat 0/\d.getD k.toNat 0<(18446744073709551616:Int)/\0<=e.getD f.toNat 0/\e.getD f.toNat 0<(18446744073709551616:Int)) (aM (0<=d.getD k.toNat 0*e.getD f.toNat 0%(18446744073709551616:Int)/\0<=g/\(0:Int)<=(0:Int)/\(0:Int)<=(1:Int)) (if 0<=i64.wrap (k+f)/\i64.wrap (k+f)<(c:Int)then aM (0<=a.getD B 0/\0<=A%18446744073709551616/\(0:Int)<=(0:Int)/\(0:Int)<=(1:Int)) (if 0<=i64.wrap (k+f)/\i64.wrap (k+f)<(c:Int)then Ke.L5 (a.set B (F%18446744073709551616)) b c d e f (u64.wrap (u64.wrap (d.getD k.toNat 0*e.getD f.toNat 0/(18446744073709551616:Int)+A/18446744073709551616)+F/18446744073709551616)) h i j (i64.wrap (k+1))else none)else none))else none else none) (if 0<=i64.wrap (f+C)/\i64.wrap (f+C)<(c:Int)then Ke.L1 (a.set (b+(i64.wrap (f+C)).toNat) g) b c d e h (i64.wrap (i+1))else none):=lJ aT
def sp(x:List Int×Nat×Nat)(a b:List Int):Prop×List D:=(M6.bZ x.1/\x.2.1=0/\x.2.2=x.1.length/\M6.bZ a/\M6.bZ b/\x.1.length=a.length+b.length/\x.1.length<=1099511627776/\M6.val x.1=0,
 [.io gX .u64 (M6.rP x.1.length (M6.val a*M6.val b)) 0 0])
theorem bFF{x c:Int}{p:Nat}(hp:p<=340282366920938463426481119284349108225)(h0:0<=x)(h1:x<18446744073709551616)(h2:0<=c)(h3:c<18446744073709551616) :
  (0<=(p:Int)/18446744073709551616+((p:Int)%18446744073709551616+c+0)/18446744073709551616/\(p:Int)/18446744073709551616+((p:Int)%18446744073709551616+c+0)/18446744073709551616<18446744073709551616) /\
  (0<=(p:Int)/18446744073709551616+((p:Int)%18446744073709551616+c+0)/18446744073709551616+(x+((p:Int)%18446744073709551616+c+0)%18446744073709551616+0)/18446744073709551616/\(p:Int)/18446744073709551616+((p:Int)%18446744073709551616+c+0)/18446744073709551616+(x+((p:Int)%18446744073709551616+c+0)%18446744073709551616+0)/18446744073709551616<18446744073709551616) /\
  ((x+((p:Int)%18446744073709551616+c+0)%18446744073709551616+0)%18446744073709551616).toNat+18446744073709551616*((p:Int)/18446744073709551616+((p:Int)%18446744073709551616+c+0)/18446744073709551616+(x+((p:Int)%18446744073709551616+c+0)%18446744073709551616+0)/18446744073709551616).toNat=x.toNat+p+c.toNat:=by
 omega
theorem bLQ{i j u X Y:Nat}:18446744073709551616^j*((u+18446744073709551616^i*X)*Y)=18446744073709551616^j*(u*Y)+18446744073709551616^(i+j)*(X*Y):=by
 rw[cBY,cGF,cGE];congr 1;rw[cGH,<-cGH (18446744073709551616^j),cGC (18446744073709551616^j)]
theorem cBB{a b:List Int}{N j V:Nat}(hN:N<=1099511627776)(ha:M6.bZ a)(hb:M6.bZ b)(hj:j<b.length)(bOV:a.length+b.length=N):∀(r i:Nat) (z:List Int) (c:Int),i+r=a.length->z.length=N->M6.bZ z->0<=c->c<18446744073709551616->z.getD (a.length+j) 0=0 ->
  M6.val z+18446744073709551616^(i+j)*c.toNat=V+18446744073709551616^j*(M6.val (a.take i)*(b.getD j 0).toNat) ->
  ∃z',L5 z 0 N a b j c b.length j a.length i=L1 z' 0 N a b b.length ((j+1:Nat):Int)/\z'.length=N/\M6.bZ z'/\M6.val z'=V+18446744073709551616^j*(M6.val a*(b.getD j 0).toNat):=by
 intro r
 induction r with
 |zero =>
  intro i z c hi hz hd h0 h1 bFL hv;have w1:i64.wrap ((j:Int)+(a.length:Int))=((a.length+j:Nat):Int):=by rw[wrap_i64];omega
  have w2:i64.wrap ((j:Int)+1)=((j+1:Nat):Int):=by rw[wrap_i64];omega
  have bNS:i=a.length:=by omega
  subst bNS;refine⟨z.set (a.length+j) c,?_,by simp[hz],M6.nI hd ⟨h0,h1⟩,?_⟩
  ·rw[Px,aL,w1,aQ,cFB,cBG,w2]
  ·have hs:=M6.oT (a:=z) (j:=a.length+j) (by omega) c;rw[bFL]at hs;rw[cHZ]at hv;simp at hs;rw[hs];exact hv
 |succ r ih =>
  intro i z c hi hz hd h0 h1 bFL hv;have g:=hd.get (i+j);have ga:=ha.get i;have gb:=hb.get j;have w1:i64.wrap ((i:Int)+(j:Int))=((i+j:Nat):Int):=by rw[wrap_i64];omega
  have w2:i64.wrap ((i:Int)+1)=((i+1:Nat):Int):=by rw[wrap_i64];omega
  obtain⟨X,hX⟩:=cGG ga.1;obtain⟨Y,hY⟩:=cGG gb.1;have bOR:X*Y<=340282366920938463426481119284349108225:=by
   have h2:X<=18446744073709551615:=by omega
   have h3:Y<=18446744073709551615:=by omega
   have:=cLS h2 h3;omega
  rw[Px,aN,aQ,aQ,w1,w2];simp only[cFB,cBG];have hs:=fun d=>M6.oT (a:=z) (j:=i+j) (by omega) d
  rw[show a.getD i 0*b.getD j 0=((X*Y:Nat):Int)from by rw[hX,hY];simp];obtain⟨k1,k2,k3⟩:=bFF bOR g.1 g.2 h0 h1;rw[gP ⟨ga.1,ga.2,gb.1,gb.2⟩,gP ⟨by omega,by omega,by omega,by omega⟩,aQ,gP ⟨by omega,by omega,by omega,by omega⟩,aQ];rw[wrap_u64 k1.1 k1.2,wrap_u64 k2.1 k2.2];refine ih (i+1) _ _ (by omega) (by simp[hz]) (M6.nI hd (by omega)) k2.1 k2.2 (by
   rw[cGI,List.getElem?_set_ne (by omega),<-cGI];exact bFL) ?_
  rw[M6.bJ,bLQ,show i+1+j=(i+j)+1 from by omega,cGD,cGH];have hs:=hs ((z.getD (i+j) 0+(((X*Y:Nat):Int)%18446744073709551616+c+0)%18446744073709551616+0)%18446744073709551616);rw[hX,hY,cFB,cFB];rw[hY,cFB]at hv;generalize ((z.getD (i+j) 0+(((X*Y:Nat):Int)%18446744073709551616+c+0)%18446744073709551616+0)%18446744073709551616)=d at *;generalize ((X*Y:Nat):Int)/18446744073709551616+(((X*Y:Nat):Int)%18446744073709551616+c+0)/18446744073709551616+(z.getD (i+j) 0+(((X*Y:Nat):Int)%18446744073709551616+c+0)%18446744073709551616+0)/18446744073709551616=c' at *;generalize X*Y=q at *;generalize 18446744073709551616^(i+j)=B at *;generalize M6.val (z.set (i+j) d)=W at *;generalize (z.getD (i+j) 0).toNat=x at *;generalize 18446744073709551616^j*(M6.val (a.take i)*Y)=U at *;have e2:B*d.toNat+B*(18446744073709551616*c'.toNat)=B*x+B*q+B*c.toNat:=by
   rw[<-cGF,k3,cGF,cGF]
  omega
theorem aSU{z:List Int}(hd:M6.bZ z){k:Nat}(h:M6.val z<18446744073709551616^k):z.getD k 0=0:=by
 have h1:=M6.lZ hd k;rw[cHB h,M6.iL]at h1;have:=hd.get k;omega
theorem bQI{a b:List Int}{N:Nat}(hN:N<=1099511627776)(ha:M6.bZ a)(hb:M6.bZ b)(bOV:a.length+b.length=N):∀(r j:Nat) (z:List Int),j+r=b.length->z.length=N->M6.bZ z->M6.val z=M6.val a*M6.val (b.take j) ->
  L1 z 0 N a b b.length j=some [.io gX .u64 (M6.rP N (M6.val a*M6.val b)) 0 0]:=by
 intro r
 induction r with
 |zero =>
  intro j z hj hz hd hv;rw[Tq,aL];rw[M6.bV (by omega)]at hv;rw[M6.qT hd hz hv]
 |succ r ih =>
  intro j z hj hz hd hv;rw[Tq,aN];have kM:M6.val z<18446744073709551616^(a.length+j):=by
   rw[hv,cGE];exact cJS (M6.dR ha) (M6.iG hb j)
  obtain⟨z',h1,h2,h3,h4⟩:=cBB hN ha hb (show j<b.length by omega) bOV a.length 0 z 0 (by omega) hz hd (by omega) (by omega) (aSU hd kM) (V:=M6.val z) (by simp[M6.val]);have h1:L5 z 0 N a b j 0 b.length j a.length 0=L1 z' 0 N a b b.length ((j+1:Nat):Int):=h1;rw[h1];refine ih (j+1) z' (by omega) h2 h3 ?_;rw[h4,hv,M6.bJ,cGF];congr 1;rw[<-cGH,<-cGH,cGC (18446744073709551616^j)]
theorem spec(x:List Int×Nat×Nat)(a b:List Int)(h:(sp x a b).1):aF E f264 aE [(Ga gX .u64).put x,(pI .u64).put a,(pI .u64).put b]=some (sp x a b).2/\∃rs oH,(sp x a b).2=rs ++ [.io gX .u64 oH 0 0]/\oH.length=x.1.length:=by
 obtain⟨xl,xo,xn⟩:=x;obtain⟨hd,ho,hn,ha,hb,hl,hN,hv⟩:=h;simp only at hd ho hn hl hN hv;subst ho;subst hn;refine⟨(start xl 0 xl.length a b).trans ?_,[],_,rfl,M6.jJ ?_⟩
 ·exact bQI hN ha hb hl.symm b.length 0 xl (by omega) rfl hd (by simp[hv,M6.val])
 ·show _<18446744073709551616^xl.length;rw[hl,cGE];exact cJS (M6.dR ha) (M6.dR hb)
def aI:dJ:=orc3 (Ga gX .u64) (pI .u64) (pI .u64) sp
theorem fnok:nM prog E 264 f264 aE:=xR tN mixed (nJ _ rfl (aA Pu.ok aC) (pJ)) func264 rfl rfl rfl rfl rfl
theorem ok:rW prog base.glob 264 aI:=fnok.xX rfl spec
end Ke
namespace Cj
def E:=mE [] 22 [] [(2,[0,3])] []
def aE:=bd f261
theorem aT:Nk E aE:=nk
def L2 a b:=pZ E f261 aE 2 [jR a,bN b]
theorem start a:aF E f261 aE [D.s (ints u64 a)]=Cj.L2 a (a.length:Int):=eJ aT
theorem mK a b:L2 a b=letI B:=(a.length:Int);letI A:=ints u64 (cHA 0 (cGZ b.toNat a));aB (decide (0<b)) (if 0<=i64.wrap (b-1)/\i64.wrap (b-1)<B then aB (a.getD (i64.wrap (b-1)).toNat 0==(0:Int)) (Cj.L2 a (i64.wrap (b-1))) (if(0:Int)<=(0:Int)/\0<=b/\b<=b/\b<=B then some [D.s A]else none)else none) (if(0:Int)<=(0:Int)/\0<=b/\b<=b/\b<=B then some [D.s A]else none):=lJ aT
def sp(a:List Int):Prop×List D:=(M6.bZ a/\a.length<=1099511627776,[.s (.ints .u64 (M6.dg (M6.val a)))])
theorem L{xs:List Int}(hd:M6.bZ xs)(hl:xs.length<=4398046511104):∀n:Nat,n<=xs.length->L2 xs n=some [D.s (.ints .u64 (M6.dg (M6.val (xs.take n))))]
 |0,h=>by
  rw[mK,aL,aQ];simp[M6.val,M6.cB]
 |n+1,h=>by
  rw[mK];have e:i64.wrap (((n+1:Nat):Int)-1)=(n:Int):=by rw[wrap_i64];omega
  rw[e,aN,aQ,cFB]
  by_cases hz:xs.getD n 0=0
  ·rw[bI hz,L hd hl n (by omega),M6.mL (by omega),hz];simp
  ·rw[bA hz,aQ,cFB,cHL];have:M6.cG (xs.take (n+1)):=M6.Be (hd.take _) fun d hg=>by
    rw[M6.getLast_take (by omega)]at hg;cases hg;exact hz
   rw[<-this]
theorem spec:iU E f261 aE (pI .u64) sp:=by
 rintro a ⟨hd,hl⟩;refine(start a).trans ?_;rw[L hd (by omega) a.length (cBE _),cHZ];rfl
def aI:dJ:=orc1 (pI .u64) sp
theorem ok:OK 261 aI:=(eB E aE aC func261).oS rfl spec
end Cj
namespace rA
def E:Env:={ ({ base with n0:=1,io:=[0] })with nt:=55,own:=[],keep:=fun k=>(tlook [(7,[0,6,8]),(2,[0,1,2,6,10,11])] k).getD [],cut:=tlook [] }
def aE:=bd f267
theorem aT:Nk E aE:=nk
def L2(a:List Int)(b:Nat)(c:Nat) d f g h i:=pZ E f267 aE 2 [(A.any,some { e:=(22:Nat),cont:=rH.ints u64 a }),(A.v (V.one (L.view 0 b c)),none),jR d,bN f,dO g,bN h,bN i]
def L7(a:List Int)(b:Nat)(c:Nat) d f:=pZ E f267 aE 7 [(A.any,some { e:=(22:Nat),cont:=rH.ints u64 a }),(A.v (V.one (L.view 0 b c)),none),dO d,bN f]
theorem start al ao an b c:aF E f267 aE [D.io gX u64 al ao an,D.s (ints u64 b),D.s (sc (int i64 c))]=rA.L2 al ao an b c 0 (b.length:Int) 0:=eJ aT
theorem mK a b c d e f g h:L2 a b c d e f g h=letI A:=b+(i64.wrap (e+h)).toNat;letI B:=a.getD A 0+d.getD h.toNat 0+f;aB (decide (h<g)) (if 0<=i64.wrap (e+h)/\i64.wrap (e+h)<(c:Int)then if 0<=h/\h<(d.length:Int)then aM (0<=a.getD A 0/\0<=d.getD h.toNat 0/\0<=f/\f<=1) (if 0<=i64.wrap (e+h)/\i64.wrap (e+h)<(c:Int)then rA.L2 (a.set A (B%18446744073709551616)) b c d e (B/18446744073709551616) g (i64.wrap (h+1))else none)else none else none) (rA.L7 a b c f (i64.wrap (e+(d.length:Int)))):=lJ aT
theorem yO a b c d e:L7 a b c d e=letI B:=b+e.toNat;letI A:=a.getD B 0+(0:Int)+d;aB (decide (0<d)) (if 0<=e/\e<(c:Int)then aM (0<=a.getD B 0/\(0:Int)<=(0:Int)/\0<=d/\d<=1) (if 0<=e/\e<(c:Int)then rA.L7 (a.set B (A%18446744073709551616)) b c (A/18446744073709551616) (i64.wrap (e+1))else none)else none) (some [D.io 22 u64 a 0 0]):=lJ aT
def sp(x:List Int×Nat×Nat)(b:List Int)(k:Int):Prop×List D:=(M6.bZ x.1/\x.2.1=0/\x.2.2=x.1.length/\M6.bZ b/\0<=k/\k.toNat+b.length<=x.1.length/\x.1.length<=1099511627776/\M6.val x.1+M6.val b*18446744073709551616^k.toNat<18446744073709551616^x.1.length,
 [.io gX .u64 (M6.rP x.1.length (M6.val x.1+M6.val b*18446744073709551616^k.toNat)) 0 0])
theorem bQF{T N:Nat}(hN:N<=1099511627776)(hT:T<18446744073709551616^N):∀(r j:Nat) (z:List Int) (c:Int),j+r=N+1->z.length=N->M6.bZ z->0<=c->c<=1->M6.val z+18446744073709551616^j*c.toNat=T ->
  L7 z 0 N c j=some [.io gX .u64 (M6.rP N T) 0 0]:=by
 intro r
 induction r with
 |zero =>
  intro j z c hj hz hd h0 h1 hv;have hc:c=0:=by
   have h2:=M6.sF (show N<=j by omega);rcases Int.lt_or_le 0 c with h3 |h3
   ·have:c=1:=by omega
    subst this;simp at hv;omega
   ·omega
  subst hc;rw[yO,aL];simp at hv;rw[M6.qT hd hz hv]
 |succ r ih =>
  intro j z c hj hz hd h0 h1 hv
  by_cases hc:c=0
  ·subst hc;rw[yO,aL];simp at hv;rw[M6.qT hd hz hv]
  ·have bDW:c=1:=by omega
   subst bDW;have bXT:j<N:=by
    rcases cBU j N with h |h
    ·exact h
    ·have h2:=M6.sF h;simp at hv;omega
   have g:=hd.get j;have w2:i64.wrap ((j:Int)+1)=((j+1:Nat):Int):=by rw[wrap_i64];omega
   rw[yO,aN,aQ,cBG,cFB,gP ⟨g.1,by omega,by omega,by omega⟩,aQ,w2];refine ih (j+1) _ _ (by omega) (by simp[hz]) (M6.nI hd (by omega)) (by omega) (by omega) ?_;have hs:=M6.oT (a:=z) (j:=j) (by omega) ((z.getD j 0+0+1)%18446744073709551616);rw[cGD,cGH];generalize z.getD j 0=x at *;generalize M6.val (z.set j _)=V at *;generalize 18446744073709551616^j=B at *;have e:((x+0+1)%18446744073709551616).toNat+18446744073709551616*((x+0+1)/18446744073709551616).toNat=x.toNat+1:=by omega
   have e2:B*((x+0+1)%18446744073709551616).toNat+B*(18446744073709551616*((x+0+1)/18446744073709551616).toNat)=B*x.toNat+B:=by
    rw[<-cGF,e,cGF,cBO]
   simp at hv;omega
theorem bQH{b:List Int}{V N k:Nat}(hN:N<=1099511627776)(hb:M6.bZ b)(hk:k+b.length<=N)(hT:V+M6.val b*18446744073709551616^k<18446744073709551616^N):∀(r i:Nat) (z:List Int) (c:Int),i+r=b.length->z.length=N->M6.bZ z->0<=c->c<=1 ->
  M6.val z+18446744073709551616^(k+i)*c.toNat=V+M6.val (b.take i)*18446744073709551616^k ->
  L2 z 0 N b k c b.length i=some [.io gX .u64 (M6.rP N (V+M6.val b*18446744073709551616^k)) 0 0]:=by
 intro r
 induction r with
 |zero =>
  intro i z c hi hz hd h0 h1 hv;have w1:i64.wrap ((k:Int)+(b.length:Int))=((k+b.length:Nat):Int):=by rw[wrap_i64];omega
  rw[mK,aL,w1];have bAO:i=b.length:=by omega
  subst bAO;rw[cHZ]at hv;exact bQF hN hT (N+1-(k+b.length)) (k+b.length) z c (by omega) hz hd h0 h1 hv
 |succ r ih =>
  intro i z c hi hz hd h0 h1 hv;have g:=hd.get (k+i);have g2:=hb.get i;have w1:i64.wrap ((k:Int)+(i:Int))=((k+i:Nat):Int):=by rw[wrap_i64];omega
  have w2:i64.wrap ((i:Int)+1)=((i+1:Nat):Int):=by rw[wrap_i64];omega
  rw[mK,aN,w1,aQ,aQ,cBG,cFB,cFB,gP ⟨g.1,g2.1,h0,h1⟩,aQ,w2];refine ih (i+1) _ _ (by omega) (by simp[hz]) (M6.nI hd (by omega)) (by omega) (by omega) ?_;have hs:=M6.oT (a:=z) (j:=k+i) (by omega) ((z.getD (k+i) 0+b.getD i 0+c)%18446744073709551616);have e0:M6.val (b.take (i+1))*18446744073709551616^k=M6.val (b.take i)*18446744073709551616^k+18446744073709551616^(k+i)*(b.getD i 0).toNat:=by
   rw[M6.bJ,cBY,cGE];congr 1;rw[cLZ,cGC (18446744073709551616^i)]
  rw[e0,show k+(i+1)=(k+i)+1 from by omega,cGD,cGH];generalize z.getD (k+i) 0=x at *;generalize b.getD i 0=y at *;generalize M6.val (z.set (k+i) _)=W at *;generalize 18446744073709551616^(k+i)=B at *;generalize M6.val (b.take i)*18446744073709551616^k=U at *;have e:((x+y+c)%18446744073709551616).toNat+18446744073709551616*((x+y+c)/18446744073709551616).toNat=x.toNat+y.toNat+c.toNat:=by omega
  have e2:B*((x+y+c)%18446744073709551616).toNat+B*(18446744073709551616*((x+y+c)/18446744073709551616).toNat)=B*x.toNat+B*y.toNat+B*c.toNat:=by
   rw[<-cGF,e,cGF,cGF]
  omega
theorem spec(x:List Int×Nat×Nat)(b:List Int)(k:Int)(h:(sp x b k).1):aF E f267 aE [(Ga gX .u64).put x,(pI .u64).put b,(pN .i64).put k]=some (sp x b k).2/\∃rs oH,(sp x b k).2=rs ++ [.io gX .u64 oH 0 0]/\oH.length=x.1.length:=by
 obtain⟨xl,xo,xn⟩:=x;obtain⟨hd,ho,hn,hb,hk,aLC,hl,hT⟩:=h;simp only at hd ho hn hb hk aLC hl hT;subst ho;subst hn;obtain⟨k,rfl⟩:=cGG hk;rw[cFB]at aLC hT;refine⟨(start xl 0 xl.length b k).trans ?_,[],_,rfl,M6.jJ hT⟩;have:=bQH hl hb aLC hT b.length 0 xl 0 (by omega) rfl hd (by omega) (by omega) (by simp[M6.val]);exact this
def aI:dJ:=orc3 (Ga gX .u64) (pI .u64) (pN .i64) sp
theorem fnok:nM prog E 267 f267 aE:=xR tN mixed (nJ _ rfl aC (pJ)) func267 rfl rfl rfl rfl rfl
theorem ok:rW prog base.glob 267 aI:=fnok.xX rfl spec
end rA
end W
end Go.Proofs.YtplagoepbghhpaaGreatDoor
end
