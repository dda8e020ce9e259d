/- Contracts of functions and laws, for the claim on RefvalDoubles. -/
import Derived.KernelRfl
import Derived.Test.YtcnlagnipklcmaaGreatDoorBRefvalDoubles2
set_option linter.unusedVariables false
set_option linter.unusedSimpArgs false
set_option exponentiation.threshold 10000000
noncomputable section
open Go.IntKind(i8 i16 i32 i64 u8 u16 u32 u64)
open Go.Proofs.Tryz
open Int renaming toNat_natCast->cCJ,eq_ofNat_of_zero_le->cDO,natCast_mul->cEW,natCast_ediv->cEA,tdiv_eq_ediv_of_nonneg->cFZ,natAbs_neg->cGD,natCast_nonneg->cIA,tmod_eq_emod_of_nonneg->cGA,mul_neg->cHI,mul_ediv_add_emod->cHK,lt_or_le->cJR,mul_le_mul_of_nonneg_left->cJT,add_zero->cJV,mul_nonneg->cKF,natCast_emod->cFC,toNat_of_nonneg->cKI,emod_nonneg->cHL,emod_lt_of_pos->cHM,emod_eq_of_lt->cHT,mul_le_mul_of_nonneg_right->cAX,emod_emod_of_dvd->cKM
open Nat renaming mul_add->cDN,pow_add->cDP,mul_assoc->cDQ,pow_succ->cDL,mul_comm->cDM,mod_lt->cAV,zero_add->bYP,mul_le_mul_left->cBB,div_le_self->cGV,div_lt_of_lt_mul->cEF,div_eq_of_lt->cEI,lt_of_lt_of_le->bZN,add_mul->bZH,mul_le_mul_right->cAA,pow_pos->cBM,mod_eq_of_lt->cIT,mul_lt_mul''->cGW,lt_of_le_of_lt->cFA,le_trans->bZJ,div_div_eq_div_mul->cEB,mul_one->bYX,div_add_mod->cDT,zero_le->cEN,le_refl->bYN,beq->bYO,eq_of_beq_eq_true->bZB,mod_add_div->cIV,pow_lt_pow_right->cFE,pow_zero->cIJ,le_of_ble_eq_true->cAL,add_mul_div_left->cFB,add_zero->bZO,mul_le_mul->cIS,pow_le_pow_right->cBN,ble->bYQ,div_eq_of_lt_le->cIZ,add_assoc->cCD,lt_or_ge->bZC,one_mul->cCQ,div_le_div_left->cJC,testBit_mod_two_pow->cJD,mul_left_comm->cGH,le_of_not_lt->cDK,mul_div_le->cJE,mul_right_comm->cJF,add_comm->cEL,testBit_and->cJI,testBit_div_two_pow->cJJ,eq_of_testBit_eq->cJK,div_mul_le_self->cJL,lt_div_mul_add->cJM,lt_mul_div_succ->cJN,div_lt_iff_lt_mul->cJO,pow_mul->cFD,zero_mod->cGG,min_eq_left->cEQ,mul_add_div->cHZ,zero_mul->cGE,testBit_two_pow->cJU,testBit_two_pow_sub_one->cJX,testBit_two_pow_sub_succ->cJY,le_div_iff_mul_le->cKA,add_mul_mod_self_left->cKE,mul_add_mod->cKH,mul_div_mul_right->cHG,mul_mod_mul_right->cHH,mul_div_cancel->cIL,exists_eq_add_of_le->bZS,mul_lt_mul_of_pos_right->cGU,testBit_lt_two_pow->cKL
open Rat renaming le_of_lt->cDU,natCast_mul->cFK,le_trans->cDS,le_refl->cEZ,intCast_natCast->cIW,intCast_mul->cJA,intCast_neg->cJG,mul_pos->cEE,mul_assoc->cJP,div_mul_cancel->cJZ,intCast_add->cKB,le_antisymm->cKJ
open List renaming replicate->cAQ,take->cEG,drop->cEH,take_length->cFF,drop_zero->cER,length_replicate->cIX,take_set_of_le->cJB,length_take->cBD,drop_set_of_lt->cJH,length_append->bZQ,drop_of_length_le->cJQ,getD_eq_getElem?_getD->cDR,take_of_length_le->cFV,drop_replicate->cJS,nil_append->cCP,append_nil->cEK,take_zero->cCO,append_assoc->cAI,singleton_append->cFG
open Bool renaming not_true->cAN,true_and->cBO,false_and->cDW,false_or->cAO,true_or->cEJ,and_eq_true->bYT,not_false->cKD,and_false->cDY
namespace Go.Proofs.YtcnlagnipklcmaaGreatDoor
namespace R
def gX{α:Type}(n:Nat)(k:Nat->α):α:=Nat.rec (motive:=fun _=>α) (k 0) (fun m _=>k (m+1)) n
theorem fT{α:Type}(n:Nat)(k:Nat->α):gX n k=k n:=by cases n <;> rfl
def inner(q:Nat)(f:Nat):Nat->Nat->Nat->Nat×Nat:=Nat.rec (motive:=fun _=>Nat->Nat->Nat->Nat×Nat) (fun t s _=>(t,s))
 (fun _ ih t s i=>gX (t/q) fun u=>gX (u/q) fun v=>gX (s+t/i-u/(i+2)) fun s'=>gX (i+4) fun i'=>ih v s' i') f
def outer(q:Nat)(g:Nat)(f:Nat):Nat->Nat->Nat->Nat×Nat:=Nat.rec (motive:=fun _=>Nat->Nat->Nat->Nat×Nat) (fun t s _=>(t,s))
 (fun _ ih t s i=>Prod.rec (motive:=fun _=>Nat×Nat) (fun t' s'=>ih t' s' (i+4*g)) (inner q g t s i)) f
theorem aNZ(n w:Nat){j:Nat}(hn:0<n):iR n w (j+1)<=iR n w j:=by
 unfold iR;refine bZJ (cJC (show 2*j+1<=2*(j+1)+1 by omega) (by omega)) (Nat.div_le_div_right ?_);exact cJC (cBN hn (by omega)) (cBM hn)
def At(n w:Nat)(j:Nat)(t s:Nat):Prop:=t=2^w/n^(2*j+1)/\(s:Rat)=sum (fun j=>sg j*(iR n w j:Rat)) j/\j%2=0
theorem aTL{n w j t s:Nat}(hn:0<n)(h:At n w j t s):At n w (j+2) (t/(n*n)/(n*n)) (s+t/(2*j+1)-t/(n*n)/(2*j+1+2)):=by
 obtain⟨h1,h2,h3⟩:=h;have e1:t/(n*n)=2^w/n^(2*(j+1)+1):=by
  rw[h1,cEB,show 2*(j+1)+1=2*j+1+2 by omega,cDP _ (2*j+1) 2,Nat.pow_two]
 have e2:t/(n*n)/(n*n)=2^w/n^(2*(j+2)+1):=by
  rw[e1,cEB,show 2*(j+2)+1=2*(j+1)+1+2 by omega,cDP _ (2*(j+1)+1) 2,Nat.pow_two]
 refine⟨e2,?_,by omega⟩;have a1:t/(2*j+1)=iR n w j:=by rw[h1];rfl
 have a2:t/(n*n)/(2*j+1+2)=iR n w (j+1):=by rw[e1];rfl
 rw[a1,a2,eB,eB,<-h2];have hle:=aNZ n w (j:=j) hn;have:((s+iR n w j-iR n w (j+1):Nat):Rat)+(iR n w (j+1):Rat)=(s:Rat)+(iR n w j:Rat):=by
  exact_mod_cast(show s+iR n w j-iR n w (j+1)+iR n w (j+1)=s+iR n w j by omega)
 have g1:sg j=1:=by unfold sg;rw[if_pos h3]
 have g2:sg (j+1)=-1:=by unfold sg;rw[bI]
 rw[g1,g2];grind
theorem aAU(q f t s i:Nat):inner q (f+1) t s i=gX (t/q) fun u=>gX (u/q) fun v=>gX (s+t/i-u/(i+2)) fun s'=>gX (i+4) fun i'=>inner q f v s' i':=rfl
theorem aAO(q g f t s i:Nat):outer q g (f+1) t s i=outer q g f (inner q g t s i).1 (inner q g t s i).2 (i+4*g):=rfl
theorem aLG{n w:Nat}(hn:0<n):∀(f j t s:Nat),At n w j t s->At n w (j+2*f) (inner (n*n) f t s (2*j+1)).1 (inner (n*n) f t s (2*j+1)).2:=by
 intro f
 induction f with
 |zero=>intro j t s h;exact h
 |succ f ih =>
  intro j t s h;have e:inner (n*n) (f+1) t s (2*j+1)=inner (n*n) f (t/(n*n)/(n*n)) (s+t/(2*j+1)-t/(n*n)/(2*j+1+2)) (2*(j+2)+1):=by
   rw[aAU,fT,fT,fT,fT];rfl
  rw[e,show j+2*(f+1)=(j+2)+2*f by omega];exact ih _ _ _ (aTL hn h)
theorem aKT{n w:Nat}(hn:0<n)(g:Nat):∀(f j t s:Nat),At n w j t s->At n w (j+2*(g*f)) (outer (n*n) g f t s (2*j+1)).1 (outer (n*n) g f t s (2*j+1)).2:=by
 intro f
 induction f with
 |zero=>intro j t s h;exact h
 |succ f ih =>
  intro j t s h;have e:outer (n*n) g (f+1) t s (2*j+1)=outer (n*n) g f (inner (n*n) g t s (2*j+1)).1 (inner (n*n) g t s (2*j+1)).2 (2*(j+2*g)+1):=by
   rw[aAO,show 2*j+1+4*g=2*(j+2*g)+1 by omega]
  rw[e,show j+2*(g*(f+1))=(j+2*g)+2*(g*f) by rw[Nat.mul_succ];omega];exact ih _ _ _ (aLG hn g j t s h)
def Zu(n w g f:Nat):Nat×Nat:=outer (n*n) g f (2^w/n) 0 1
theorem It{n:Nat}(hn:2<=n)(w g f:Nat)(hJ:2*(g*f)<=1048576)(hz:(Zu n w g f).1=0):ab (((Zu n w g f).2:Rat)-((2^w:Nat):Rat)*Oa n)<=((2*(g*f):Nat):Rat)+2:=by
 have h:=aKT (n:=n) (w:=w) (by omega) g f 0 (2^w/n) 0 ⟨by rw[Nat.mul_zero,Nat.pow_one],by simp only[sum];norm_cast,rfl⟩;obtain⟨h1,h2,_⟩:=h;rw[bYP]at h1 h2;have h3:(Zu n w g f).2=(outer (n*n) g f (2^w/n) 0 (2*0+1)).2:=rfl;have h4:(Zu n w g f).1=(outer (n*n) g f (2^w/n) 0 (2*0+1)).1:=rfl;rw[h3,h2];rw[h4,h1]at hz;rw[bYP]at hz ⊢;refine aFW hn w hJ ?_;unfold iR;rw[hz,Nat.zero_div]
def Sj(u w:Nat)(f:Nat):Nat->Nat->Nat->Nat->Nat×Nat×Nat:=Nat.rec (motive:=fun _=>Nat->Nat->Nat->Nat->Nat×Nat×Nat) (fun t c s _=>(t,c,s))
 (fun _ ih t c s k=>gX (t*u/w/(k+1)) fun t1=>gX (t1*u/w/(k+2)) fun t2=>gX (t2*u/w/(k+3)) fun t3=>gX (t3*u/w/(k+4)) fun t4=>gX (c+t-t2) fun c'=>gX (s+t1-t3) fun s'=>gX (k+4) fun k'=>ih t4 c' s' k') f
def qD(w:Nat)(h:Nat):Nat->Nat->Nat×Nat:=Nat.rec (motive:=fun _=>Nat->Nat->Nat×Nat) (fun s c=>(s,c))
 (fun _ ih s c=>gX (2*(s*c/w)) fun s'=>gX (w-2*(s*s/w)) fun c'=>ih s' c') h
def aQU(x:Nat):Bool :=
 gX (x &&& (x >>> 1)) fun x=>gX (x &&& (x >>> 2)) fun x=>gX (x &&& (x >>> 4)) fun x=>gX (x &&& (x >>> 8)) fun x=>bYO (x &&& (x >>> 8)) 0
def aWK(P w:Nat):Bool :=
 gX (P/2^102) fun u=>gX (2^w) fun W =>
 Prod.rec (motive:=fun _=>Bool) (fun t r=>Prod.rec (motive:=fun _=>Bool) (fun c s=>bYO t 0 &&
  Prod.rec (motive:=fun _=>Bool) (fun s' c'=>bYQ (2*s'*s') (W*W+2^(w+240))&&(bYQ (W*W) (2*s'*s'+2^(w+240))&&bYQ 1 c')) (qD W 100 s c)) r) (Sj u W 320 W 0 0 0)
def aZQ(w:Nat):Bool :=
 Prod.rec (motive:=fun _=>Bool) (fun t5 s5=>Prod.rec (motive:=fun _=>Bool) (fun t239 nZ=>Prod.rec (motive:=fun _=>Bool) (fun t18 aPK=>Prod.rec (motive:=fun _=>Bool) (fun t57 aPJ =>
  bYO t5 0&&(bYO t239 0&&(bYO t18 0&&(bYO t57 0 &&
  gX (16*s5-4*nZ) fun P=>gX (48*aPK+32*aPJ-20*nZ) fun G =>
  bYQ P (G+2^24)&&(bYQ G (P+2^24)&&gX (P/2^64) fun Q =>
  bYO ((P+2^40)/2^64) Q&&(bYO ((P-2^40)/2^64) Q&&(bYO (Q/2^(w-104)) 3454217652357&&(aQU Q&&(aQU (2^(w-62)-1-Q)&&aWK P w)))))))))
  (Zu 57 w 78 78)) (Zu 18 w 92 92)) (Zu 239 w 66 66)) (Zu 5 w 122 122)
def Mq(x n:Nat):Prop:=∀p,∃i,i<n/\x.testBit (p+i)=false
theorem xX{x a n:Nat}(h:Mq (x &&& (x >>> a)) n):Mq x (n+a):=by
 intro p;obtain⟨i,hi,hb⟩:=h p;rw[cJI,Nat.testBit_shiftRight,Bool.and_eq_false_iff]at hb;rcases hb with hb |hb
 ·exact⟨i,by omega,hb⟩
 ·exact⟨i+a,by omega,by rwa [show p+(i+a)=a+(p+i) by omega]⟩
theorem aDV{x:Nat}(h:aQU x=true):Mq x 24:=by
 unfold aQU at h;rw[fT,fT,fT,fT]at h;have h0:=bZB h;have n0:Mq ((((x &&& x >>> 1) &&& (x &&& x >>> 1) >>> 2) &&& ((x &&& x >>> 1) &&& (x &&& x >>> 1) >>> 2) >>> 4) &&& (((x &&& x >>> 1) &&& (x &&& x >>> 1) >>> 2) &&& ((x &&& x >>> 1) &&& (x &&& x >>> 1) >>> 2) >>> 4) >>> 8 &&& ((((x &&& x >>> 1) &&& (x &&& x >>> 1) >>> 2) &&& ((x &&& x >>> 1) &&& (x &&& x >>> 1) >>> 2) >>> 4) &&& (((x &&& x >>> 1) &&& (x &&& x >>> 1) >>> 2) &&& ((x &&& x >>> 1) &&& (x &&& x >>> 1) >>> 2) >>> 4) >>> 8) >>> 8) 1:=by
  rw[h0];exact fun p=>⟨0,by omega,by simp⟩
 exact xX (a:=1) (n:=23) (xX (a:=2) (n:=21) (xX (a:=4) (n:=17) (xX (a:=8) (n:=9) (xX (a:=8) (n:=1) n0))))
theorem Rg{x n:Nat}(h:Mq x n)(p:Nat):x/2^p%2^n≠2^n-1:=by
 intro hc;obtain⟨i,hi,hb⟩:=h p;have h1:(x/2^p%2^n).testBit i=true:=by
  rw[hc,cJX];exact dqT hi
 rw[cJD,cJJ]at h1;rw[show p+i=i+p by omega]at hb;rw[hb]at h1;simp at h1
theorem aHR{x L n p:Nat}(hx:x<2^L)(hp:p+n<=L)(h:(2^L-1-x)/2^p%2^n≠2^n-1):x/2^p%2^n≠0:=by
 intro hc;apply h;apply cJK;intro i;rw[cJX,cJD,cJJ,show 2^L-1-x=2^L-(x+1) by omega,cJY hx];have h1:(x/2^p%2^n).testBit i=false:=by rw[hc];simp
 rw[cJD,cJJ]at h1
 by_cases hi:i<n
 ·simp[hi]at h1 ⊢;exact⟨by omega,h1⟩
 ·simp[hi]
theorem aEF(h:Nat):((4^(h+1):Nat):Rat)=4*((4^h:Nat):Rat):=by
 rw[cDL,cFK];grind
theorem Kn(h:Nat):((2^(h+1):Nat):Rat)=2*((2^h:Nat):Rat):=by
 rw[cDL,cFK];grind
theorem Mh(b h:Nat)(hb:0<b):(1:Rat)<=((b^h:Nat):Rat):=by exact_mod_cast cBM hb
theorem yF(w h s c:Nat):qD w (h+1) s c=qD w h (2*(s*c/w)) (w-2*(s*s/w)):=by
 show gX _ (fun s'=>gX _ fun c'=>qD w h s' c')=_;rw[fT,fT]
theorem aNI{W s c:Nat}{x e:Rat}(hW:1<=W)(h0:0<=x)(h1:x<=1/2)(hs:ab ((s:Rat)-W*sn x)<=e)(hc:ab ((c:Rat)-W*cs x)<=e)(he:100*(e*e)<=(W:Rat))(bJU:(8*e+4*(W:Rat))*vR<=1/4) :
  ab (((2*(s*c/W):Nat):Rat)-W*sn (2*x))<=4*e+4/\ab (((W-2*(s*s/W):Nat):Rat)-W*cs (2*x))<=4*e+4/\2*(s*s/W)<=W:=by
 have bVY:(1:Rat)<=(W:Rat):=by exact_mod_cast hW
 have bBN:0<=e:=cDS (aT _) hs;have aUW:ab x<=1:=by rw[bQ h0];grind
 have aXS:2*(s*s/W)<=W:=by
  have h2:=aDN h0 (by grind);have h3:=Ly h0 (by grind);rw[bY]at hs;have e1:e<=(W:Rat)/10:=by
   have:=xT (a:=10*e) (b:=(W:Rat)) (by have:=aI (show 0<=(W:Rat)-1 by grind) (show 0<=(W:Rat) by grind);grind) (by grind);rw[bQ (by grind)]at this;grind
  have e2:=aI (show 0<=(W:Rat) by grind) (show 0<=1/2-sn x by grind);have e3:(s:Rat)<=3/5*(W:Rat):=by grind
  have e4:(0:Rat)<=(s:Rat):=by exact_mod_cast cEN _
  have e5:=cT e4 e3 e4 e3;have d:=(rT (s*s) (b:=W) (by omega)).1;rw[cFK]at d;have e6:(W:Rat)*(2*((s*s/W:Nat):Rat))<=(W:Rat)*(W:Rat):=by
   have:=aI (show 0<=(W:Rat) by grind) (show 0<=(W:Rat) by grind);grind
  have e7:=bP (show 0<(W:Rat) by grind) e6;exact_mod_cast e7
 have aBG:ab ((W:Rat)*((2*(s*c/W):Nat):Rat)-2*((s:Rat)*(c:Rat)))<=2*(W:Rat):=by
  obtain⟨d1,d2⟩:=rT (s*c) (b:=W) (by omega);rw[cFK]at d1 d2;rw[cFK,bY];have:((2:Nat):Rat)=2:=by norm_cast
  rw[this];constructor <;> grind
 have aVO:ab ((W:Rat)*((W-2*(s*s/W):Nat):Rat)-((W:Rat)*(W:Rat)-2*((s:Rat)*(s:Rat))))<=2*(W:Rat):=by
  obtain⟨d1,d2⟩:=rT (s*s) (b:=W) (by omega);have aVH:((W-2*(s*s/W):Nat):Rat)+2*((s*s/W:Nat):Rat)=(W:Rat):=by
   exact_mod_cast(show W-2*(s*s/W)+2*(s*s/W)=W by omega)
  rw[cFK]at d1 d2;generalize ((W-2*(s*s/W):Nat):Rat)=z at *;generalize ((s*s/W:Nat):Rat)=y at *;have:z=(W:Rat)-2*y:=by grind
  subst this;rw[bY];constructor <;> grind
 obtain⟨r1,r2⟩:=mV bVY aUW hs hc (by have:=aI bBN bBN;grind) bJU aBG aVO;exact⟨r1,r2,aXS⟩
theorem aFH{W:Nat}(hW:1<=W){E:Rat}(hE:100*(E*E)<=(W:Rat))(bJU:(8*E+4*(W:Rat))*vR<=1/4):∀(h:Nat) (x e:Rat) (s c:Nat),0<=x->((2^h:Nat):Rat)*x<=1->ab ((s:Rat)-W*sn x)<=e->ab ((c:Rat)-W*cs x)<=e->((4^h:Nat):Rat)*(e+2)<=E ->
  ab (((qD W h s c).1:Rat)-W*sn (((2^h:Nat):Rat)*x))<=((4^h:Nat):Rat)*(e+2)-2/\ab (((qD W h s c).2:Rat)-W*cs (((2^h:Nat):Rat)*x))<=((4^h:Nat):Rat)*(e+2)-2:=by
 intro h
 induction h with
 |zero =>
  intro x e s c h0 h1 hs hc bHP;rw[cIJ,show((1:Nat):Rat)*x=x by grind];have:((1:Nat):Rat)=1:=by norm_cast
  rw[this];exact⟨by show ab ((s:Rat)-_)<=_;grind,by show ab ((c:Rat)-_)<=_;grind⟩
 |succ h ih =>
  intro x e s c h0 h1 hs hc bHP;rw[Kn]at h1;rw[aEF]at bHP;have bBN:0<=e:=cDS (aT _) hs;have g2:=Mh 2 h (by omega);have g4:=Mh 4 h (by omega);have aEM:x<=1/2:=by
   have:=aI (show 0<=((2^h:Nat):Rat)-1 by grind) h0;grind
  have aSF:e<=E:=by
   have:=aI (show 0<=((4^h:Nat):Rat)-1 by grind) (show 0<=e+2 by grind);grind
  have bOR:=cT bBN aSF bBN aSF;have aSE:=vF;have hsm2:=aI (show 0<=E-e by grind) (cDU aSE);obtain⟨r1,r2,_⟩:=aNI hW h0 aEM hs hc (by grind) (by grind);have:=ih (2*x) (4*e+4) _ _ (by grind) (by grind) r1 r2 (by grind);rw[yF,Kn,aEF,show 2*((2^h:Nat):Rat)*x=((2^h:Nat):Rat)*(2*x) by grind];refine⟨cDS this.1 ?_,cDS this.2 ?_⟩ <;> grind
theorem Lv{u W:Nat}(h:u<=W)(k:Nat):sq u W (k+1)<=sq u W k:=by
 rw[sq];refine bZJ (cGV _ _) ?_
 by_cases hW:W=0
 ·rw[hW,Nat.div_zero];omega
 ·exact Nat.div_le_of_le_mul (by rw[cDM];exact cAA _ h)
theorem aGG(u w f t c s k:Nat):Sj u w (f+1) t c s k=gX (t*u/w/(k+1)) fun t1=>gX (t1*u/w/(k+2)) fun t2=>gX (t2*u/w/(k+3)) fun t3=>gX (t3*u/w/(k+4)) fun t4=>gX (c+t-t2) fun c'=>gX (s+t1-t3) fun s'=>gX (k+4) fun k'=>Sj u w f t4 c' s' k':=rfl
theorem aQL{u W:Nat}(hu:u<=W):∀(f k t c s:Nat),k%4=0->t=sq u W k->(c:Rat)=sum (fun k=>cc k*(sq u W k:Rat)) k->(s:Rat)=sum (fun k=>ss k*(sq u W k:Rat)) k ->
  (Sj u W f t c s k).1=sq u W (k+4*f)/\(((Sj u W f t c s k).2.1:Nat):Rat)=sum (fun k=>cc k*(sq u W k:Rat)) (k+4*f)/\(((Sj u W f t c s k).2.2:Nat):Rat)=sum (fun k=>ss k*(sq u W k:Rat)) (k+4*f):=by
 intro f
 induction f with
 |zero=>intro k t c s _ h1 h2 h3;exact⟨h1,h2,h3⟩
 |succ f ih =>
  intro k t c s hk h1 h2 h3;have e:Sj u W (f+1) t c s k=Sj u W f (sq u W (k+4)) (c+sq u W k-sq u W (k+2)) (s+sq u W (k+1)-sq u W (k+3)) (k+4):=by
   rw[aGG,fT,fT,fT,fT,fT,fT,fT,h1];rfl
  have l1:sq u W (k+1)<=sq u W k:=Lv hu k;have l2:sq u W (k+2)<=sq u W (k+1):=Lv hu (k+1);have l3:sq u W (k+3)<=sq u W (k+2):=Lv hu (k+2);rw[e,show k+4*(f+1)=k+4+4*f by omega];have c0:cc k=1/\cc (k+1)=0/\cc (k+2)=-1/\cc (k+3)=0:=by
   unfold cc;refine⟨?_,?_,?_,?_⟩
   ·rw[if_pos hk]
   ·rw[bI,bI]
   ·rw[bI,aR]
   ·rw[bI,bI]
  have s0:ss k=0/\ss (k+1)=1/\ss (k+2)=0/\ss (k+3)=-1:=by
   unfold ss;refine⟨?_,?_,?_,?_⟩
   ·rw[bI,bI]
   ·rw[aR]
   ·rw[bI,bI]
   ·rw[bI,aR]
  refine ih (k+4) _ _ _ (by omega) rfl ?_ ?_
  ·rw[eB,eB,eB,eB,<-h2,c0.1,c0.2.1,c0.2.2.1,c0.2.2.2];have:((c+sq u W k-sq u W (k+2):Nat):Rat)+(sq u W (k+2):Rat)=(c:Rat)+(sq u W k:Rat):=by exact_mod_cast(show c+sq u W k-sq u W (k+2)+sq u W (k+2)=c+sq u W k by omega)
   grind
  ·rw[eB,eB,eB,eB,<-h3,s0.1,s0.2.1,s0.2.2.1,s0.2.2.2];have:((s+sq u W (k+1)-sq u W (k+3):Nat):Rat)+(sq u W (k+3):Rat)=(s:Rat)+(sq u W (k+1):Rat):=by exact_mod_cast(show s+sq u W (k+1)-sq u W (k+3)+sq u W (k+3)=s+sq u W (k+1) by omega)
   grind
set_option maxRecDepth 10000
def pi:Rat:=16*Oa 5-4*Oa 239
def aUM:Rat:=48*Oa 18+32*Oa 57-20*Oa 239
theorem gE{a b:Bool}(h:(a&&b)=true):a=true/\b=true:=by simpa using h
structure Vi(w:Nat)(Q:Nat):Prop where
 lo:(Q:Rat)<=((2^(w-64):Nat):Rat)*pi
 hi:((2^(w-64):Nat):Rat)*pi<(Q:Rat)+1
 bFE:ab (((2^w:Nat):Rat)*(pi-aUM))<=33554432
 top:Q/2^(w-104)=3454217652357
 bIJ:Mq Q 24
 aRG:Mq (2^(w-62)-1-Q) 24
 cos:ab (((2^w:Nat):Rat)*cs (pi/2))<=((2^250:Nat):Rat)
theorem Wd(w:Nat)(hw:64<=w):2^w=2^64*2^(w-64):=by rw[<-cDP];congr 1;omega
theorem aEG{u W:Nat}(hW:0<W):∃x:Rat,x*(W:Rat)=(u:Rat)/\0<=x:=by
 have h:(0:Rat)<(W:Rat):=by exact_mod_cast hW
 have h1:(W:Rat)≠0:=by grind
 refine⟨(u:Rat)/(W:Rat),cJZ h1,?_⟩;have hu:(0:Rat)<=(u:Rat):=by exact_mod_cast cEN _
 refine Rat.not_lt.1 fun hn=>?_
 have:=cEE h (show 0 < -((u:Rat)/(W:Rat)) by grind);have e:(u:Rat)/(W:Rat)*(W:Rat)=u:=cJZ h1;grind
theorem aFF{w:Nat}(hw:w<=1000000):((2^w:Nat):Rat)*vR<=1/1048576:=by
 have h1:=Da (n:=w+20) (by omega);have h2:=Ih w;have h3:=Ng w 20;have h4:hf 20=1/1048576:=by simp only[hf];grind
 have h5:(0:Rat)<=((2^w:Nat):Rat):=by exact_mod_cast cEN _
 have h6:=aI h5 (show 0<=hf (w+20)-vR by grind);rw[h3,h4]at h6;generalize ((2^w:Nat):Rat)=W at *;generalize hf w=H at *;clear h1 h3 h4;grind
theorem Wk{W E:Rat}(h:E<=W)(aSE:W*vR<=1/1048576):(8*E+4*W)*vR<=1/4:=by
 have:=aI (show 0<=W-E by grind) (cDU vF);grind
theorem aSX{W u P p x y:Rat}(hx:x*W=u)(hy:y=1267650600228229401496703205376*x)(v1:u*5070602400912917605986812821504<=P)(v2:P<u*5070602400912917605986812821504+5070602400912917605986812821504)(hp:ab (P-W*p)<=524288):ab (W*(p/2-2*y))<=10141204801825835211973625643008:=by
 rw[bY]at hp ⊢;subst hy;have:W*(p/2-2*(1267650600228229401496703205376*x))=W*p/2-2535301200456458802993406410752*u:=by rw[<-hx];grind
 rw[this];grind
theorem aZM{w P:Nat}(hw:1000<=w)(aUX:w<=1000000)(hP:P<3454217652358*2^(w-40)){p:Rat}(hp:ab ((P:Rat)-((2^w:Nat):Rat)*p)<=524288)(h:aWK P w=true):ab (((2^w:Nat):Rat)*cs (p/2))<=((2^250:Nat):Rat):=by
 unfold aWK at h;rw[fT,fT]at h;have aPU:0<2^w:=cD;have aIO:P/2^102*2^102<=P:=cJL P (2^102);have bBE:P<P/2^102*2^102+2^102:=cJM (cD);have bXF:2^w=2^40*2^(w-40):=by rw[<-cDP];congr 1;omega
 have bOL:P/2^102*2^100<=2^w:=by
  rw[show 2^102=4*2^100 from rfl,show 2^40=1099511627776 from rfl]at *;generalize 2^100=b at *;generalize 2^(w-40)=q at *;generalize P/(4*b)=u at *;have:u*(4*b)=4*(u*b):=by rw[cGH]
  omega
 obtain⟨x,hx,Ku⟩:=aEG (u:=P/2^102) aPU;have ht:=aQL (u:=P/2^102) (W:=2^w) (by omega) 320 0 (2^w) 0 0 rfl rfl (by simp only[sum];norm_cast) (by simp only[sum];norm_cast);generalize Sj (P/2^102) (2^w) 320 (2^w) 0 0 0=T at *;obtain⟨t,c,s⟩:=T;dsimp only at h ht;rw[bYP,show 4*320=1280 from rfl]at ht;obtain⟨ht0,bON,bGV⟩:=ht;obtain⟨z0,h⟩:=gE h;have z0:=bZB z0;rw[z0]at ht0;have hW:(0:Rat)<((2^w:Nat):Rat):=by exact_mod_cast aPU
 have bGU:((2^100:Nat):Rat)*x<=1:=by
  refine bP hW ?_;have h1:((P/2^102:Nat):Rat)*((2^100:Nat):Rat)<=((2^w:Nat):Rat):=by exact_mod_cast bOL
  grind
 have aEM:x<=1/2:=by
  have n1:((2^100:Nat):Rat)=1267650600228229401496703205376:=by norm_cast
  rw[n1]at bGU;grind
 have ec:=aJS aPU hx Ku aEM (n:=1280) (by omega) (by omega) ht0.symm;have es:=aJR aPU hx Ku aEM (n:=1280) (by omega) (by omega) ht0.symm;rw[<-bON]at ec;rw[<-bGV]at es;have aUQ:((1280:Nat):Rat)=1280:=by norm_cast
 rw[aUQ]at ec es;have aSE:=aFF aUX;have n4:((4^100:Nat):Rat)=1606938044258990275541962092341162602522202993782792835301376:=by norm_cast
 have bEX:(100000000000000000000000000000000000000000000000000000000000000000000000000000000000000000000000000000000000000000000000000000000000000000000000000000000000000000000000000000000000000000000000000000000:Rat)<=((2^w:Nat):Rat):=by
  have e:2^w=2^200*(2^200*(2^200*(2^200*2^(w-800)))):=by simp only[<-cDP];congr 1;omega
  have h1:100000000000000000000000000000000000000000000000000000000000000000000000000000000000000000000000000000000000000000000000000000000000000000000000000000000000000000000000000000000000000000000000000000000<=2^200*(2^200*(2^200*(2^200*1))):=cAL rfl;have h2:100000000000000000000000000000000000000000000000000000000000000000000000000000000000000000000000000000000000000000000000000000000000000000000000000000000000000000000000000000000000000000000000000000000<=2^w:=by
   rw[e];exact bZJ h1 (cBB _ (cBB _ (cBB _ (cBB _ (cD)))))
  exact_mod_cast h2
 have hepp:=vF;have hept:=Gn;have hd:=aFH (W:=2^w) aPU (E:=4499426523925172771517493858555255287062168382591819938843852800) (cDS (by grind) bEX) (Wk (cDS (by grind) bEX) aSE) 100 x 2564 s c Ku bGU (by grind) (by grind) (by rw[n4];grind);generalize qD (2^w) 100 s c=R at *;obtain⟨s',c'⟩:=R;dsimp only at h hd;obtain⟨k1,h⟩:=gE h;obtain⟨k2,k3⟩:=gE h;have k1:=cAL k1;have k2:=cAL k2;have sT:=hd.1;rw[n4]at sT;have bCY:((2^100:Nat):Rat)=1267650600228229401496703205376:=by norm_cast
 rw[bCY]at sT bGU;obtain⟨y,hy⟩:∃y:Rat,y=1267650600228229401496703205376*x:=⟨_,rfl⟩;rw[<-hy]at sT bGU;have aLL:0<=y:=by grind
 have bPK:=Rr (x:=y) (by rw[bQ aLL];grind);have bOC:2*(s':Rat)*(s':Rat)<=((2^w:Nat):Rat)*((2^w:Nat):Rat)+((2^w:Nat):Rat)*((2^240:Nat):Rat):=by
  rw[cDP]at k1;exact_mod_cast k1
 have bOB:((2^w:Nat):Rat)*((2^w:Nat):Rat)<=2*(s':Rat)*(s':Rat)+((2^w:Nat):Rat)*((2^240:Nat):Rat):=by
  rw[cDP]at k2;exact_mod_cast k2
 have bCX:((2^240:Nat):Rat)=1766847064778384329583297500742918515827483896875618958121606201292619776:=by norm_cast
 have bCW:((2^250:Nat):Rat)=1809251394333065553493296640760748560207343510400633813116524750123642650624:=by norm_cast
 rw[bCX]at bOC bOB;rw[bCW];have aET:ab (((2^w:Nat):Rat)*(p/2-2*y))<=10141204801825835211973625643008:=by
  have v1:((P/2^102:Nat):Rat)*((2^102:Nat):Rat)<=(P:Rat):=by exact_mod_cast aIO
  have v2:(P:Rat)<((P/2^102:Nat):Rat)*((2^102:Nat):Rat)+((2^102:Nat):Rat):=by exact_mod_cast bBE
  have bIP:((2^102:Nat):Rat)=5070602400912917605986812821504:=by norm_cast
  rw[bIP]at v1 v2;exact aSX hx hy v1 v2 hp
 generalize ((2^w:Nat):Rat)=W at *;have Pq:(0:Rat)<=(s':Rat):=by exact_mod_cast cEN _
 generalize (s':Rat)=S at *;clear hd k1 k2 k3 ec es bON bGV aUQ Ku aEM aIO bBE bOL bXF hx n4 bCY bCX bCW;have bWG:S<=W:=by
  refine Rat.not_lt.1 fun hn=>?_
  have:=cT (cDU hW) (cDU hn) (cDU hW) (cDU hn);have:=aI (cDU hW) (show 0<=W-1000000000000000000000000000000000000000000000000000000000000000000000000000000000000000000 by grind);grind
 have aVI:ab (W*cs (2*y))<=56539106072908298546665520023773392506479484700019806659891398441363832832:=by
  obtain⟨a,ha⟩:∃a,a=S-W*sn y:=⟨_,rfl⟩;rw[<-ha]at sT;have eS:W*sn y=S-a:=by grind
  have q1:=cT (aT S) (show ab S<=W by rwa [bQ Pq]) (aT a) sT;have q2:=cT (aT a) sT (aT a) sT;rw[<-dV]at q1 q2;have e2:W*(W*(1-2*(sn y*sn y)))=W*W-2*((S-a)*(S-a)):=by rw[<-eS];grind
  have w1:=aI (cDU hW) (cDU hW);rw[bY]at bPK q1 q2 ⊢;have w2:=aI w1 (show 0<=2*vR-(cs (2*y)-(1-2*(sn y*sn y))) by grind);have w3:=aI w1 (show 0<=2*vR+(cs (2*y)-(1-2*(sn y*sn y))) by grind);have w4:=aI (cDU hW) (show 0<=1/1048576-W*vR by grind);generalize cs (2*y)=C2 at *;generalize sn y=Sy at *;constructor
  ·refine bP hW ?_;grind
  ·refine bP hW ?_;grind
 have aMC:ab (p/2-2*y)<=1:=by
  have e3:ab (W*(p/2-2*y))=W*ab (p/2-2*y):=by rw[dV,bQ (cDU hW)]
  rw[e3]at aET;refine bP hW ?_;grind
 have aXO:ab (2*y)<=4:=by rw[bQ (by grind)];grind
 have bEY:=Es aXO (show ab (p/2-2*y)<=4 by grind);rw[show 2*y+(p/2-2*y)=p/2 by grind]at bEY;have b1:=aAG aMC;have b2:=aFO (show ab (p/2-2*y)<=4 by grind);have b3:=aDP aXO;have m1:=cT (aT _) aVI (aT _) b2;have m2:=cT (aT _) b3 (aT _) b1;have m3:W*ab (p/2-2*y)<=10141204801825835211973625643008:=by
  rw[dV,bQ (cDU hW)]at aET;exact aET
 rw[<-dV]at m1 m2;have m4:=aI (cDU hW) (show 0<=(1+vR)*ab (p/2-2*y)-ab (sn (2*y)*sn (p/2-2*y)) by grind);have m5:=aI (show 0<=1+vR by grind) (show 0<=10141204801825835211973625643008-W*ab (p/2-2*y) by grind);have l1:=xY (sn (2*y)*sn (p/2-2*y));have l2:=mJ (sn (2*y)*sn (p/2-2*y));have m6:=aI (cDU hW) (show 0<=ab (sn (2*y)*sn (p/2-2*y))-sn (2*y)*sn (p/2-2*y) by grind);have m7:=aI (cDU hW) (show 0<=ab (sn (2*y)*sn (p/2-2*y))+sn (2*y)*sn (p/2-2*y) by grind);rw[bY]at bEY m1 ⊢;have m8:=aI (cDU hW) (show 0<=vR-(cs (p/2)-(cs (2*y)*cs (p/2-2*y)-sn (2*y)*sn (p/2-2*y))) by grind);have m9:=aI (cDU hW) (show 0<=vR+(cs (p/2)-(cs (2*y)*cs (p/2-2*y)-sn (2*y)*sn (p/2-2*y))) by grind);generalize cs (2*y)=C2 at *;generalize sn (2*y)*sn (p/2-2*y)=SS at *;generalize ab SS=aS at *;generalize cs (p/2-2*y)=Cd at *;generalize ab (p/2-2*y)=dd at *;generalize cs (p/2)=X at *;clear bPK sT bOC bOB bWG aET aMC b1 b2 b3 aXO aVI;constructor <;> grind
theorem aMS{w:Nat}(hw:1000<=w)(aUX:w<=1000000)(h:aZQ w=true):∃Q,Vi w Q:=by
 unfold aZQ at h;have h5:=It (n:=5) (by omega) w 122 122 (by omega);have Uf:=It (n:=239) (by omega) w 66 66 (by omega);have bMF:=It (n:=18) (by omega) w 92 92 (by omega);have bMC:=It (n:=57) (by omega) w 78 78 (by omega);generalize Zu 5 w 122 122=A at *;generalize Zu 239 w 66 66=B at *;generalize Zu 18 w 92 92=C at *;generalize Zu 57 w 78 78=D at *;obtain⟨t5,s5⟩:=A;obtain⟨t239,nZ⟩:=B;obtain⟨t18,aPK⟩:=C;obtain⟨t57,aPJ⟩:=D;dsimp only at *;obtain⟨z5,h⟩:=gE h;obtain⟨aVX,h⟩:=gE h;obtain⟨bQZ,h⟩:=gE h;obtain⟨bQY,h⟩:=gE h;rw[fT,fT]at h;obtain⟨g1,h⟩:=gE h;obtain⟨g2,h⟩:=gE h;rw[fT]at h;obtain⟨q1,h⟩:=gE h;obtain⟨q2,h⟩:=gE h;obtain⟨q3,h⟩:=gE h;obtain⟨r1,h⟩:=gE h;obtain⟨r2,bJV⟩:=gE h;have g1:=cAL g1;have g2:=cAL g2;have q1:=bZB q1;have q2:=bZB q2;have q3:=bZB q3;have h5:=h5 (bZB z5);have Uf:=Uf (bZB aVX);have bMF:=bMF (bZB bQZ);have bMC:=bMC (bZB bQY);have aPX:ab (((16*s5-4*nZ:Nat):Rat)-((2^w:Nat):Rat)*pi)<=524288:=by
  have qI:4*nZ<=16*s5:=by
   refine cDK fun hn=>?_
   rw[show 16*s5-4*nZ=0 by omega]at q3;simp at q3
  have hc:((16*s5-4*nZ:Nat):Rat)+4*(nZ:Rat)=16*(s5:Rat):=by exact_mod_cast(show 16*s5-4*nZ+4*nZ=16*s5 by omega)
  have n1:((2*(122*122):Nat):Rat)=29768:=by norm_cast
  have n2:((2*(66*66):Nat):Rat)=8712:=by norm_cast
  rw[n1]at h5;rw[n2]at Uf;unfold pi;rw[bY]at *;generalize ((2^w:Nat):Rat)=W at *;grind
 have bPU:20*nZ<=48*aPK+32*aPJ->ab (((48*aPK+32*aPJ-20*nZ:Nat):Rat)-((2^w:Nat):Rat)*aUM)<=2097152:=by
  intro hle;have hc:((48*aPK+32*aPJ-20*nZ:Nat):Rat)+20*(nZ:Rat)=48*(aPK:Rat)+32*(aPJ:Rat):=by exact_mod_cast(show 48*aPK+32*aPJ-20*nZ+20*nZ=48*aPK+32*aPJ by omega)
  have n1:((2*(92*92):Nat):Rat)=16928:=by norm_cast
  have n3:((2*(78*78):Nat):Rat)=12168:=by norm_cast
  have n2:((2*(66*66):Nat):Rat)=8712:=by norm_cast
  rw[n1]at bMF;rw[n2]at Uf;rw[n3]at bMC;unfold aUM;rw[bY]at *;generalize ((2^w:Nat):Rat)=W at *;grind
 have hple:2^104<=16*s5-4*nZ:=by
  refine cDK fun hn=>?_
  have:(16*s5-4*nZ)/2^64<2^40:=cEF (by rw[<-cDP];exact hn);have h2:(16*s5-4*nZ)/2^64/2^(w-104)<=(16*s5-4*nZ)/2^64:=cGV _ _;omega
 have bLZ:20*nZ<=48*aPK+32*aPJ:=by omega
 have bPU:=bPU bLZ;generalize hP:16*s5-4*nZ=P at *;generalize 48*aPK+32*aPJ-20*nZ=G at *;have aHO:=Wd w (by omega);refine⟨P/2^64,?_,?_,?_,q3,aDV r1,aDV r2,?_⟩
 ·have:2^64*(P/2^64)<=P-2^40:=by
   have:=cJE (P-2^40) (2^64);rwa [q2]at this
  have h2:2^64*(P/2^64)+2^40<=P:=by omega
  have h3:((2^64:Nat):Rat)*((P/2^64:Nat):Rat)+((2^40:Nat):Rat)<=(P:Rat):=by exact_mod_cast h2
  rw[aHO,cFK,bY]at aPX;have n1:((2^64:Nat):Rat)=18446744073709551616:=by norm_cast
  have n2:((2^40:Nat):Rat)=1099511627776:=by norm_cast
  rw[n1]at aPX h3;rw[n2]at h3;refine bP (q:=18446744073709551616) (by grind) ?_;generalize ((2^(w-64):Nat):Rat)=W at *;grind
 ·have:P+2^40<2^64*(P/2^64+1):=by
   have:=cJN (P+2^40) (show 0<2^64 by omega);rwa [q1]at this
  have h3:(P:Rat)+((2^40:Nat):Rat)<((2^64:Nat):Rat)*(((P/2^64:Nat):Rat)+1):=by exact_mod_cast this
  rw[aHO,cFK,bY]at aPX;have n1:((2^64:Nat):Rat)=18446744073709551616:=by norm_cast
  have n2:((2^40:Nat):Rat)=1099511627776:=by norm_cast
  rw[n1]at aPX h3;rw[n2]at h3;refine qU (q:=18446744073709551616) (by grind) ?_;generalize ((2^(w-64):Nat):Rat)=W at *;grind
 ·have c1:(P:Rat)<=(G:Rat)+((2^24:Nat):Rat):=by exact_mod_cast g1
  have c2:(G:Rat)<=(P:Rat)+((2^24:Nat):Rat):=by exact_mod_cast g2
  have n1:((2^24:Nat):Rat)=16777216:=by norm_cast
  rw[n1]at c1 c2;rw[bY]at *;generalize ((2^w:Nat):Rat)=W at *;grind
 ·refine aZM hw aUX ?_ aPX bJV;have h1:P/2^64/2^(w-104)<3454217652358:=by omega
  have h2:P/2^64<2^(w-104)*3454217652358:=(cJO (cD)).1 h1 |> fun h=>by rwa [cDM]at h
  have h3:P<2^64*(2^(w-104)*3454217652358):=by
   have:=(cJO (show 0<2^64 by omega)).1 h2;rwa [cDM]at this
  have e:2^(w-40)=2^64*2^(w-104):=by rw[<-cDP];congr 1;omega
  rw[e,cDM,cDQ];exact h3
theorem bXL:aZQ 136064=true:=by kernel_rfl
theorem aEB:∃w,w=136064/\∃Q,Vi w Q:=⟨136064,rfl,aMS (by omega) (by omega) bXL⟩
def pw:Nat:=Classical.choose aEB
theorem Mf:pw=136064:=(Classical.choose_spec aEB).1
def pq:Nat:=Classical.choose (Classical.choose_spec aEB).2
theorem Ej:Vi pw pq:=Classical.choose_spec (Classical.choose_spec aEB).2
theorem iT:314159/100000<pi/\pi<314160/100000:=by
 have h:=Ej;have h1:=h.lo;have h2:=h.hi;have h3:=h.top;have e:2^(pw-64)=2^40*2^(pw-104):=by have:=Mf;rw[<-cDP];congr 1;omega
 have hp:0<2^(pw-104):=cD;have l1:=cJL pq (2^(pw-104));have l2:=cJM hp (a:=pq);rw[h3]at l1 l2;have bSW:(3454217652357:Rat)*((2^(pw-104):Nat):Rat)<=(pq:Rat):=by exact_mod_cast l1
 have bSU:(pq:Rat)+1<=(3454217652357:Rat)*((2^(pw-104):Nat):Rat)+((2^(pw-104):Nat):Rat):=by exact_mod_cast l2
 rw[e,cFK]at h1 h2;have n40:((2^40:Nat):Rat)=1099511627776:=by norm_cast
 rw[n40]at h1 h2;have hq:(0:Rat)<((2^(pw-104):Nat):Rat):=by exact_mod_cast hp
 generalize ((2^(pw-104):Nat):Rat)=W at *;generalize (pq:Rat)=Q at *;clear h h3 e hp l1 l2 n40;constructor
 ·refine qU hq ?_;grind
 ·refine qU hq ?_;grind
def Ep:Rat:=hf (pw-264)
theorem aFG:0<Ep:=wI _
theorem Kx:1048576*vR<=Ep:=by
 have h1:=Ng (pw-264) 20;have h4:hf 20=1/1048576:=by simp only[hf];grind
 have h2:=Da (n:=pw-264+20) (by rw[Mf];omega);rw[h1,h4]at h2;unfold Ep;grind
theorem Il{n:Nat}(h:n<=135800):Ep<=hf n:=aLZ (by rw[Mf];exact h)
theorem Yh:Ep<=1/1048576:=by
 have:=Il (n:=20) (by omega);simp only[hf]at this;grind
theorem Nu:16384*ab (cs (pi/2))<=Ep:=by
 have h:=Ej.cos;have e:2^pw=2^(pw-264)*(2^250*2^14):=by
  have:=Mf;have e0:pw=pw-264+250+14:=by omega
  conv=>lhs;rw[e0,cDP,cDP]
  exact cDQ _ _ _
 rw[dV,bQ (show(0:Rat)<=((2^pw:Nat):Rat) by exact_mod_cast cEN _),e,cFK,cFK]at h;have bNY:((2^14:Nat):Rat)=16384:=by norm_cast
 have h2:=Ih (pw-264);have hq:(0:Rat)<((2^250:Nat):Rat):=by exact_mod_cast(cD)
 rw[bNY]at h;unfold Ep;have hp:=wI (pw-264);generalize hf (pw-264)=H at *;generalize ((2^(pw-264):Nat):Rat)=W at *;generalize ((2^250:Nat):Rat)=B at *;generalize ab (cs (pi/2))=X at *;clear bNY e;have h3:B*(16384*(W*X))<=B*1:=by grind
 have h4:=bP hq h3;have:=aI (cDU hp) (show 0<=1-16384*(W*X) by grind);have h5:H*W*X=X:=by rw[h2];grind
 grind
theorem Wm:1024*ab (sn (pi/2)-1)<=Ep:=by
 obtain⟨p1,p2⟩:=iT;have a2:ab (pi/2)<=4:=by rw[bY];grind
 have h1:=aKP a2;have hc:=Nu;have he:=Kx;have het:=Yh;have hd:=Rb (x:=pi/4) (by rw[bY];grind);rw[show 2*(pi/4)=pi/2 by grind]at hd;have s1:=(Ax (x:=pi/4) (by grind) (by grind)).1;have c1:=(Gr (x:=pi/4) (by grind) (by grind)).1;have bRK:=cT (a:=0) (b:=pi/4) (c:=pi/4) (d:=pi/4) (by grind) (by grind) (by grind) (by grind);have q1:=cT (a:=pi/4) (b:=4/5) (c:=pi/4) (d:=4/5) (by grind) (by grind) (by grind) (by grind);have q2:=cT (a:=pi/4*(pi/4)) (b:=16/25) (c:=pi/4) (d:=4/5) (by grind) (by grind) (by grind) (by grind);have s2:1/2<=sn (pi/4):=by grind
 have c2:1/2<=cs (pi/4):=by grind
 have m:=cT (by grind) s2 (by grind) c2;have qI:1/4<=sn (pi/2):=by rw[bY]at hd;have:=Gn;grind
 have bQF:=cT (aT (cs (pi/2))) (show ab (cs (pi/2))<=Ep/16384 by grind) (aT (cs (pi/2))) (show ab (cs (pi/2))<=1/16384 by grind);rw[<-dV]at bQF;have l1:=xY (cs (pi/2)*cs (pi/2));have bOR:ab (sn (pi/2)*sn (pi/2)-1)<=Ep/16384:=by
  have:=bIC (cs (pi/2));rw[bY]at h1 ⊢;grind
 have e:sn (pi/2)*sn (pi/2)-1=(sn (pi/2)-1)*(sn (pi/2)+1):=by grind
 rw[e,dV,bQ (show 0<=sn (pi/2)+1 by grind)]at bOR;have m2:=aI (aT (sn (pi/2)-1)) (show 0<=sn (pi/2)+1-1 by grind);have m3:=aFG;clear e l1 bQF hd s1 c1 bRK q1 q2 m h1 hc a2;generalize ab (sn (pi/2)-1)=d at *;grind
theorem aVZ{x:Rat}(hx:ab x<=4):ab (sn (x+pi/2)-cs x)<=Ep:=by
 obtain⟨p1,p2⟩:=iT;have h:=aAE hx (show ab (pi/2)<=4 by rw[bY];grind);have hc:=Nu;have hs:=Wm;have he:=Kx;have het:=Gn;have aSE:=vF;have m1:=cT (aT _) (aDP hx) (aT _) (show ab (cs (pi/2))<=Ep/16384 by grind);have m2:=cT (aT _) (aFO hx) (aT _) (show ab (sn (pi/2)-1)<=Ep/1024 by grind);have m3:=aI (show 0<=Ep by grind) (show 0<=1/1048576-vR by grind);rw[<-dV]at m1 m2;rw[bY]at *;grind
theorem aWA{x:Rat}(hx:ab x<=4):ab (cs (x+pi/2)+sn x)<=Ep:=by
 obtain⟨p1,p2⟩:=iT;have h:=Es hx (show ab (pi/2)<=4 by rw[bY];grind);have hc:=Nu;have hs:=Wm;have he:=Kx;have het:=Gn;have aSE:=vF;have m1:=cT (aT _) (aFO hx) (aT _) (show ab (cs (pi/2))<=Ep/16384 by grind);have m2:=cT (aT _) (aDP hx) (aT _) (show ab (sn (pi/2)-1)<=Ep/1024 by grind);have m3:=aI (show 0<=Ep by grind) (show 0<=1/1048576-vR by grind);rw[<-dV]at m1 m2;rw[bY]at *;grind
def rs(k:Int)(s c:Rat):Rat:=if k%4=0 then s else if k%4=1 then c else if k%4=2 then -s else -c
def rc(k:Int)(s c:Rat):Rat:=if k%4=0 then c else if k%4=1 then -s else if k%4=2 then -c else s
def Sf(x:Rat)(k:Int):Rat:=rs k (sn (x-(k:Rat)*(pi/2))) (cs (x-(k:Rat)*(pi/2)))
def Cf(x:Rat)(k:Int):Rat:=rc k (sn (x-(k:Rat)*(pi/2))) (cs (x-(k:Rat)*(pi/2)))
theorem aJX{x:Rat}{k:Int}(h:ab (x-(k:Rat)*(pi/2))<=2):ab (Sf x (k+1)-Sf x k)<=Ep/\ab (Cf x (k+1)-Cf x k)<=Ep:=by
 obtain⟨p1,p2⟩:=iT;obtain⟨y,hy⟩:∃y,y=x-((k+1:Int):Rat)*(pi/2):=⟨_,rfl⟩;have hk:((k+1:Int):Rat)=(k:Rat)+1:=by norm_cast
 have e:x-(k:Rat)*(pi/2)=y+pi/2:=by rw[hy,hk];grind
 have bOF:ab y<=4:=by rw[bY]at *;grind
 have h1:=aVZ bOF;have h2:=aWA bOF;unfold Sf Cf;rw[<-hy,e];unfold rs rc;have hm:k%4=0\/k%4=1\/k%4=2\/k%4=3:=by omega
 have aSB:(k+1)%4=(k%4+1)%4:=by omega
 rw[aSB];rw[bY]at h1 h2;rcases hm with hm |hm |hm |hm <;> rw[hm] <;> simp <;> rw[bY,bY] <;> grind
end R
namespace R
def pF(q:Nat):Nat:=pq/2^(pw-64-q)
theorem aHF{x:Rat}{Q m:Nat}(h1:(Q:Rat)<=((2^m:Nat):Rat)*x)(h2:((2^m:Nat):Rat)*x<(Q:Rat)+1):((Q/2^m:Nat):Rat)<=x/\x<((Q/2^m:Nat):Rat)+1:=by
 have hp:0<2^m:=cD;obtain⟨d1,d2⟩:=rT Q hp;have hq:(0:Rat)<((2^m:Nat):Rat):=by exact_mod_cast hp
 have hs:(Q:Rat)+1<=((2^m:Nat):Rat)*((Q/2^m:Nat):Rat)+((2^m:Nat):Rat):=by
  have:=cJN Q hp;exact_mod_cast(show Q+1<=2^m*(Q/2^m)+2^m by rw[cDN,bYX]at this;omega)
 constructor
 ·exact bP hq (by grind)
 ·exact qU hq (by grind)
theorem Ga{q:Nat}(hq:q<=136000):(pF q:Rat)<=((2^q:Nat):Rat)*pi/\((2^q:Nat):Rat)*pi<(pF q:Rat)+1:=by
 have h:=Ej;have h1:=h.lo;have h2:=h.hi;have hw:=Mf;have e:2^(pw-64)=2^(pw-64-q)*2^q:=by rw[<-cDP];congr 1;omega
 rw[e,cFK,cJP]at h1 h2;exact aHF h1 h2
theorem aWU{q:Nat}(hq:q+24<=136000):16777216*(pF q:Rat)+1<=((2^(q+24):Nat):Rat)*pi/\((2^(q+24):Nat):Rat)*pi<16777216*(pF q:Rat)+16777215:=by
 obtain⟨h1,h2⟩:=Ga hq;have hw:=Mf;have e:pF q=pF (q+24)/2^24:=by
  unfold pF;rw[cEB,<-cDP];congr 2;omega
 have bPB:pF (q+24)%2^24≠2^24-1:=Rg Ej.bIJ _;have hx:pq<2^(pw-62):=by
  have h3:=Ej.top;have hp:0<2^(pw-104):=cD;have l2:=cJM hp (a:=pq);rw[h3]at l2;have e:2^(pw-62)=4398046511104*2^(pw-104):=by
   rw[show 4398046511104=2^42 from rfl,<-cDP];congr 1;omega
  omega
 have aSA:pF (q+24)%2^24≠0:=aHR hx (by omega) (Rg Ej.aRG _);have hd:=cDT (pF (q+24)) (2^24);rw[<-e]at hd;have l1:16777216*pF q+1<=pF (q+24):=by omega
 have bBG:=cAV (pF (q+24)) (show 0<2^24 by omega);have l2:pF (q+24)+1<=16777216*pF q+16777215:=by omega
 have bSW:(16777216:Rat)*(pF q:Rat)+1<=(pF (q+24):Rat):=by exact_mod_cast l1
 have bSU:(pF (q+24):Rat)+1<=(16777216:Rat)*(pF q:Rat)+16777215:=by exact_mod_cast l2
 grind
theorem aUO{q g X off:Nat}(hq:q+24<=136000)(hg:24<=g)(bDU:2*off<=2^(g-24))(hX:ab ((X:Rat)-((2^(q+g):Nat):Rat)*pi)<=(off:Rat)):off<=X/\(X-off)/2^g=pF q/\(X+off)/2^g=pF q:=by
 obtain⟨h1,h2⟩:=aWU hq;have e:2^(q+g)=2^(g-24)*2^(q+24):=by rw[<-cDP];congr 1;omega
 have eg:2^g=2^(g-24)*16777216:=by rw[show 16777216=2^24 from rfl,<-cDP];congr 1;omega
 rw[e,cFK,cJP,bY]at hX;have hG:(0:Rat)<=((2^(g-24):Nat):Rat):=by exact_mod_cast cEN _
 have ho:(2:Rat)*(off:Rat)<=((2^(g-24):Nat):Rat):=by exact_mod_cast bDU
 have m1:=aI hG (show 0<=((2^(q+24):Nat):Rat)*pi-(16777216*(pF q:Rat)+1) by grind);have bWN:(0:Rat)<((2^(g-24):Nat):Rat):=by exact_mod_cast cD
 have m2:=cEE bWN (show 0<16777216*(pF q:Rat)+16777215-((2^(q+24):Nat):Rat)*pi by grind);have r1:2^(g-24)*16777216*pF q+off<=X:=by
  have:((2^(g-24):Nat):Rat)*16777216*(pF q:Rat)+(off:Rat)<=(X:Rat):=by grind
  exact_mod_cast this
 have r2:X+off<2^(g-24)*16777216*(pF q+1):=by
  have:(X:Rat)+(off:Rat)<((2^(g-24):Nat):Rat)*16777216*((pF q:Rat)+1):=by grind
  exact_mod_cast this
 rw[eg];generalize 2^(g-24)*16777216=B at *;refine⟨by omega,?_,?_⟩
 ·refine cIZ ?_ ?_
  ·rw[cDM];omega
  ·rw[cDM];omega
 ·refine cIZ ?_ ?_
  ·rw[cDM];omega
  ·rw[cDM];omega
theorem aDL{u W:Nat}(h:2*u<=W)(hW:0<W):∀k,sq u W k*2^k<=W
 |0=>by simp[sq]
 |k+1=>by
  have ih:=aDL h hW k;have h1:sq u W (k+1)<=sq u W k/2:=by
   rw[sq];refine bZJ (cGV _ _) ?_;rw[cKA (by omega)];have h2:=cJL (sq u W k*u) W;have h3:sq u W k*u*2<=sq u W k*W:=by
    rw[cDQ];exact cBB _ (by omega)
   generalize sq u W k*u/W=z at *;have h4:z*2*W<=sq u W k*W:=by
    rw[cJF];omega
   exact Nat.le_of_mul_le_mul_right h4 hW
  have h2:sq u W (k+1)*2<=sq u W k:=by omega
  rw[cDL,cDM (2^k) 2,<-cDQ];exact bZJ (cAA _ h2) ih
theorem Sn{u w:Nat}(h:2*u<=2^w):sq u (2^w) (w+1)=0:=by
 have h1:=aDL h (cD) (w+1);refine Nat.eq_zero_of_not_pos fun hp=>?_
 have:1*2^(w+1)<=sq u (2^w) (w+1)*2^(w+1):=cAA _ hp;rw[cDL]at this h1;have:=cBM (n:=w) (show 0<2 by omega);omega
theorem Lx{u W m:Nat}(h:sq u W m=0):∀k,sq u W (m+k)=0
 |0=>h
 |k+1=>by rw[<-cCD,sq,Lx h k];simp
theorem Bo(h:Nat):4^h=2^(2*h):=by rw[cFD]
theorem aFS{T:Rat}(hT0:0<=T)(bWF:T<=1){w1 h u s0 c0:Nat}(aIO:(u:Rat)<=((2^w1:Nat):Rat)*T)(bBE:((2^w1:Nat):Rat)*T<(u:Rat)+1)(hh:1<=h)(hw:w1+h<=1000000)(bGS:4*h+50<=w1+h)
  (Pq:(s0:Rat)=sum (fun k=>ss k*(sq u (2^(w1+h)) k:Rat)) (w1+h+1)) (bHK:(c0:Rat)=sum (fun k=>cc k*(sq u (2^(w1+h)) k:Rat)) (w1+h+1)) :
  ab (((qD (2^(w1+h)) h s0 c0).1:Rat)-((2^(w1+h):Nat):Rat)*sn T)<=((4^h*(2*(w1+h)+10):Nat):Rat)/\ab (((qD (2^(w1+h)) h s0 c0).2:Rat)-((2^(w1+h):Nat):Rat)*cs T)<=((4^h*(2*(w1+h)+10):Nat):Rat):=by
 have aPU:0<2^(w1+h):=cD;have bEZ:(0:Rat)<((2^w1:Nat):Rat):=by exact_mod_cast cD
 have eW:((2^(w1+h):Nat):Rat)=((2^w1:Nat):Rat)*((2^h:Nat):Rat):=by rw[cDP,cFK]
 have g2:=Mh 2 h (by omega);have g2':(2:Rat)<=((2^h:Nat):Rat):=by
  exact_mod_cast(show 2<=2^h from cBN (n:=2) (by omega) hh)
 have bJO:u<=2^w1:=by
  have:=aI (cDU bEZ) (show 0<=1-T by grind);have:(u:Rat)<=((2^w1:Nat):Rat):=by grind
  exact_mod_cast this
 have bJR:2*u<=2^(w1+h):=by
  have e:2^(w1+h)=2^w1*2^h:=cDP _ _ _;have:2^w1*2<=2^w1*2^h:=cBB _ (cBN (n:=2) (by omega) hh);omega
 obtain⟨x,hx,Ku⟩:=aEG (u:=u) aPU;have bTD:((2^h:Nat):Rat)*x*((2^w1:Nat):Rat)=(u:Rat):=by rw[eW]at hx;grind
 have bDH:((2^h:Nat):Rat)*x<=1:=by
  have:(u:Rat)<=((2^w1:Nat):Rat):=by exact_mod_cast bJO
  refine bP bEZ ?_;grind
 have aEM:x<=1/2:=by
  have:=aI (show 0<=((2^h:Nat):Rat)-2 by grind) Ku;grind
 have hz:=Sn bJR;have ec:=aJS aPU hx Ku aEM (n:=w1+h+1) (by omega) (by omega) hz;have es:=aJR aPU hx Ku aEM (n:=w1+h+1) (by omega) (by omega) hz;rw[<-bHK]at ec;rw[<-Pq]at es;have hn:((w1+h+1:Nat):Rat)=((w1+h:Nat):Rat)+1:=by norm_cast
 have aPR:((w1+h:Nat):Rat)<=1000000:=by exact_mod_cast hw
 have aEP:(0:Rat)<=((w1+h:Nat):Rat):=by exact_mod_cast cEN _
 rw[hn]at ec es;have aSE:=aFF (w:=w1+h) (by omega);have e4:((4^h*(2*(w1+h)+10):Nat):Rat)=((4^h:Nat):Rat)*(2*((w1+h:Nat):Rat)+10):=by
  rw[cFK];congr 1;push_cast;grind
 have aML:((4^h:Nat):Rat)*((4^h:Nat):Rat)*1125899906842624<=((2^(w1+h):Nat):Rat):=by
  have:4^h*4^h*2^50<=2^(w1+h):=by
   rw[Bo,<-cDP,<-cDP];exact gO
  have bSL:(2^50:Nat)=1125899906842624:=by rfl
  rw[bSL]at this;exact_mod_cast this
 have g4:=Mh 4 h (by omega);have g42:((2^h:Nat):Rat)<=((4^h:Nat):Rat):=by exact_mod_cast Nat.pow_le_pow_left (show 2<=4 by omega) h
 have hq4:=aI (show 0<=((4^h:Nat):Rat) by grind) (show 0<=((4^h:Nat):Rat)-1 by grind);have hE:((4^h:Nat):Rat)*(2*((w1+h:Nat):Rat)+8)<=((4^h:Nat):Rat)*2097152:=by
  have:=aI (show 0<=((4^h:Nat):Rat) by grind) (show 0<=2097152-(2*((w1+h:Nat):Rat)+8) by grind);grind
 have bPV:0<=((4^h:Nat):Rat)*(2*((w1+h:Nat):Rat)+8):=aI (by grind) (by grind);have Bm:100*(((4^h:Nat):Rat)*(2*((w1+h:Nat):Rat)+8)*(((4^h:Nat):Rat)*(2*((w1+h:Nat):Rat)+8)))<=((2^(w1+h):Nat):Rat):=by
  refine cDS ?_ aML;have:=cT bPV hE bPV hE;grind
 have bBS:((4^h:Nat):Rat)*(2*((w1+h:Nat):Rat)+8)<=((2^(w1+h):Nat):Rat):=by
  refine cDS (cDS hE ?_) aML;grind
 have hd:=aFH (W:=2^(w1+h)) aPU Bm (Wk bBS aSE) h x (2*((w1+h:Nat):Rat)+6) s0 c0 Ku bDH (cDS es (by grind)) (cDS ec (by grind)) (by grind);have hT:ab T<=1:=by rw[bQ hT0];exact bWF
 have hX:ab (((2^h:Nat):Rat)*x)<=1:=by rw[bQ (aI (by grind) Ku)];exact bDH
 have l1:=Sp hX hT;have l2:=aBR hX hT;have hd0:0<=T-((2^h:Nat):Rat)*x:=by
  have:((2^w1:Nat):Rat)*(((2^h:Nat):Rat)*x)<=((2^w1:Nat):Rat)*T:=by grind
  have:=bP bEZ this;grind
 have bHJ:((2^(w1+h):Nat):Rat)*(T-((2^h:Nat):Rat)*x)<=((2^h:Nat):Rat):=by
  rw[eW];have:((2^w1:Nat):Rat)*(T-((2^h:Nat):Rat)*x)<=1:=by grind
  have:=aI (show 0<=((2^h:Nat):Rat) by grind) (show 0<=1-((2^w1:Nat):Rat)*(T-((2^h:Nat):Rat)*x) by grind);grind
 rw[bQ hd0]at l1 l2;have hW:(0:Rat)<=((2^(w1+h):Nat):Rat):=by exact_mod_cast cEN _
 obtain⟨r1,r2⟩:=hd;rw[e4];clear aIO bBE Bm bBS aML bTD hx eW ec es Pq bHK hz;generalize ((2^(w1+h):Nat):Rat)=W at *;generalize ((w1+h:Nat):Rat)=wr at *;generalize ((4^h:Nat):Rat)=F at *;generalize ((2^h:Nat):Rat)*x=y at *;generalize ((2^h:Nat):Rat)=H at *;rw[bY]at l1 l2 r1 r2;have m1:=aI hW (show 0<=2*(T-y)-(sn T-sn y) by grind);have m2:=aI hW (show 0<=2*(T-y)+(sn T-sn y) by grind);have m3:=aI hW (show 0<=(T-y+2*vR)-(cs T-cs y) by grind);have m4:=aI hW (show 0<=(T-y+2*vR)+(cs T-cs y) by grind);rw[bY,bY];refine⟨⟨?_,?_⟩,?_,?_⟩ <;> grind
end R
namespace R
def pz(e:Int):Rat:=if 0<=e then((2^e.toNat:Nat):Rat)else hf (-e).toNat
theorem iS(k:Nat):pz (k:Int)=((2^k:Nat):Rat):=by unfold pz;rw[aR,cCJ]
theorem vZ(k:Nat):pz (-(k:Int))=hf k:=by
 unfold pz
 by_cases h:k=0
 ·subst h;simp[hf]
 ·rw[bI,Int.neg_neg,cCJ]
theorem fA:pz 0=1:=by rw[show(0:Int)=((0:Nat):Int)from rfl,iS];norm_cast
theorem dK(e:Int):0<pz e:=by
 unfold pz;split
 ·exact_mod_cast cD
 ·exact wI _
theorem iM(e:Int):pz (e+1)=2*pz e:=by
 by_cases h:0<=e
 ·obtain⟨k,rfl⟩:=cDO h;rw[show(k:Int)+1=((k+1:Nat):Int) by omega,iS,iS,Kn]
 ·obtain⟨k,hk⟩:=cDO (show 0<=-e by omega);have e1:e=-(k:Int):=by omega
  subst e1;obtain⟨j,rfl⟩:∃j,k=j+1:=⟨k-1,by omega⟩;rw[show -((j+1:Nat):Int)+1=-(j:Int) by omega,vZ,vZ,hf];grind
theorem dZ(a:Int):∀k:Nat,pz (a+k)=pz a*((2^k:Nat):Rat)
 |0=>by rw[show a+((0:Nat):Int)=a by omega,cIJ];grind
 |k+1=>by
  rw[show a+((k+1:Nat):Int)=(a+k)+1 by omega,iM,dZ a k,Kn];grind
theorem iK(a b:Int):pz (a+b)=pz a*pz b:=by
 by_cases h:0<=b
 ·obtain⟨k,rfl⟩:=cDO h;rw[dZ,iS]
 ·obtain⟨k,hk⟩:=cDO (show 0<=-b by omega);have h1:=dZ (a+b) k;rw[show a+b+(k:Int)=a by omega]at h1;have e1:b=-(k:Int):=by omega
  have h2:=Ih k;rw[show pz b=hf k by rw[e1,vZ],h1];rw[cJP,Rat.mul_comm ((2^k:Nat):Rat),h2];grind
theorem cK{a b:Int}(h:a<=b):pz a<=pz b:=by
 obtain⟨k,hk⟩:=cDO (show 0<=b-a by omega);rw[show b=a+(k:Int) by omega,dZ];have h1:=dK a;have:=aI (cDU h1) (show 0<=((2^k:Nat):Rat)-1 by have:=Mh 2 k (by omega);grind);grind
theorem aUL(k:Nat):hf k=pz (-(k:Int)):=(vZ k).symm
theorem Ta(e:Int):pz e*pz (-e)=1:=by rw[<-iK,Int.add_right_neg,fA]
def qz(p:Int×Int):Rat:=(p.1:Rat)*pz p.2
theorem pO{p:Int×Int}(h:p.1=0):qz p=0:=by
 unfold qz;rw[h];have:((0:Int):Rat)=0:=by norm_cast
 rw[this];grind
theorem aDZ{p q:Int×Int}{g:Int}(hp:g<=p.2)(hq:g<=q.2):qz p<=qz q↔p.1*((2^(p.2-g).toNat:Nat):Int)<=q.1*((2^(q.2-g).toNat:Nat):Int):=by
 unfold qz;have e1:pz p.2=pz g*((2^(p.2-g).toNat:Nat):Rat):=by
  rw[<-dZ];congr 1;omega
 have e2:pz q.2=pz g*((2^(q.2-g).toNat:Nat):Rat):=by
  rw[<-dZ];congr 1;omega
 have hg:=dK g;have c1:((p.1*((2^(p.2-g).toNat:Nat):Int):Int):Rat)=(p.1:Rat)*((2^(p.2-g).toNat:Nat):Rat):=by push_cast;rfl
 have c2:((q.1*((2^(q.2-g).toNat:Nat):Int):Int):Rat)=(q.1:Rat)*((2^(q.2-g).toNat:Nat):Rat):=by push_cast;rfl
 rw[<-Rat.intCast_le_intCast,c1,c2,e1,e2];generalize ((2^(p.2-g).toNat:Nat):Rat)=x;generalize ((2^(q.2-g).toNat:Nat):Rat)=y;constructor
 ·intro h;exact bP hg (by grind)
 ·intro h;have:=aI (cDU hg) (show 0<=(q.1:Rat)*y-(p.1:Rat)*x by grind);grind
end R
namespace M
open Go AI W
def cI(p q:Int×Int):Int:=cZ (cB.pU p q) (cB.pT p q)
def bG(p:Int×Int):Int:=p.2+(bl p.1.natAbs:Nat)-1
abbrev uP:=Bool×List Int×Int×Bool×List Int×Int
def fO(s:uP):fB:=(s.1,s.2.1,s.2.2.1)
def fR(s:uP):fB:=(s.2.2.2.1,s.2.2.2.2.1,s.2.2.2.2.2)
def dW(s:uP):Prop:=aQ (fO s)/\aQ (fR s)/\cI (dv (fO s)) (dv (fR s))<=0
def Cr(a b:Int×Int):D:=.agg [.sc (.bool (isNeg a.1)),.ints .u64 (M6.dg a.1.natAbs),.sc (.int .i64 a.2),.sc (.bool (isNeg b.1)),.ints .u64 (M6.dg b.1.natAbs),.sc (.int .i64 b.2)]
def rB(a b:Int×Int):uP:=(isNeg a.1,M6.dg a.1.natAbs,a.2,isNeg b.1,M6.dg b.1.natAbs,b.2)
theorem mZ(a b:Int×Int):dv (fO (rB a b))=a:=fK a
theorem nA(a b:Int×Int):dv (fR (rB a b))=b:=fK b
theorem Cq{a b:Int×Int}(ha:nC a)(hb:nC b)(h:cI a b<=0):dW (rB a b):=by
 refine⟨eQ ha,eQ hb,?_⟩;rw[mZ,nA];exact h
theorem dW.Cr{s:uP}(h:dW s):M.Cr (dv (fO s)) (dv (fR s))=.agg [.sc (.bool s.1),.ints .u64 s.2.1,.sc (.int .i64 s.2.2.1),.sc (.bool s.2.2.2.1),.ints .u64 s.2.2.2.2.1,.sc (.int .i64 s.2.2.2.2.2)]:=by
 have h1:=h.1.Ln.cells;have h2:=h.2.1.Ln.cells;unfold M.Cr;have e1:(dv (fO s)).1=wv ((fO s).1,(fO s).2.1):=rfl;have e2:(dv (fR s)).1=wv ((fR s).1,(fR s).2.1):=rfl;rw[e1,e2,h1.1,h1.2,h2.1,h2.2];rfl
theorem aTD{a b:Int}:cZ a b<=0↔a<=b:=by unfold cZ;split <;> (try split) <;> omega
theorem aTE{a b:Int}:cZ a b=0↔a=b:=by unfold cZ;split <;> (try split) <;> omega
theorem Lg(p q:Int×Int):cB.iV p q<=p.2/\cB.iV p q<=q.2:=aRM
theorem mB{p q:Int×Int}:cI p q<=0↔R.qz p<=R.qz q:=by
 obtain⟨h1,h2⟩:=Lg p q;unfold cI;rw[aTD,R.aDZ h1 h2];rfl
theorem rU{p q:Int×Int}:0<cI p q↔R.qz q<R.qz p:=by
 have:=mB (p:=p) (q:=q);constructor
 ·intro h;refine Rat.not_le.1 fun hn=>?_;have:=this.2 hn;omega
 ·intro h;refine Int.not_le.1 fun hn=>?_;exact Rat.not_lt.2 (this.1 hn) h
theorem Im(p:Int×Int):cI p p<=0:=mB.2 cEZ
theorem qB(z e:Int):R.qz (bW z e)=(z:Rat)*R.pz e:=by
 by_cases hz:z=0
 ·subst hz;rw[iN,R.pO rfl];have:((0:Int):Rat)=0:=by norm_cast
  rw[this];grind
 ·obtain⟨h1,h2⟩:=xW (e:=e) hz;unfold R.qz;rw[h2]
  conv=>rhs;rw[h1]
  rw[Tb,R.dZ,cJA,cIW];grind
theorem rP(p:Int×Int):R.qz (-p.1,p.2)=- R.qz p:=by
 unfold R.qz;rw[cJG];grind
theorem Ef(p q:Int×Int):R.qz (cB.kI p q)=R.qz p+R.qz q:=by
 unfold cB.kI;split
 ·rename_i h;rw[R.pO h];grind
 ·split
  ·rename_i h;rw[R.pO h];grind
  ·obtain⟨h1,h2⟩:=Lg p q;rw[qB];unfold cB.pU cB.pT R.qz;have e1:R.pz p.2=R.pz (cB.iV p q)*((2^(p.2-cB.iV p q).toNat:Nat):Rat):=by rw[<-R.dZ];congr 1;omega
   have e2:R.pz q.2=R.pz (cB.iV p q)*((2^(q.2-cB.iV p q).toNat:Nat):Rat):=by rw[<-R.dZ];congr 1;omega
   rw[e1,e2,cKB,cJA,cJA,cIW,cIW];grind
end M
open Go.Value(int bool slice)
open AI.S(sc ints)
namespace W
open Go AI M
namespace aIB
def E:=mE [] 24 [] [(3,[0,1])] [3]
def aF:=bd f210
theorem aU:Nk E aF:=nk
def J3 a b:=lP E f210 aF 3 [iY a,bJ b]
theorem start a b:aG E f210 aF [D.s (ints u64 a),D.s (sc (int i64 b))]=letI A:=some [D.s (sc (bool false))];aC (decide (b<0)) A (aC (decide ((a.length:Int)<=i64.wrap (b.tdiv 64))) A (aIB.J3 a b)):=eJ aU
theorem fH a b:J3 a b=letI A:=b.tdiv 64;if 0<=i64.wrap A/\i64.wrap A<(a.length:Int)then if b.tmod 64<(0:Int)then none else some [D.s (sc (bool (gR BinOp.and u64 (a.getD (i64.wrap A).toNat 0/(↑((2:Nat)^min (b.tmod 64).toNat 64):Int)) 1==(1:Int))))]else none:=cJ aU
def sp(a:List Int)(i:Int):Prop×List D:=(M6.bM a/\a.length<=1099511627776/\-9223372036854775808<=i/\i<9223372036854775808,[.s (.sc (.bool (decide (0<=i)&&decide (M6.val a/2^i.toNat%2=1))))])
theorem aTM{x:Int}(h:0<=x)(h':x<18446744073709551616):gR .and .u64 x 1=x%2:=by
 rw[Zc h h' (by omega) (by omega)];have:x.toNat &&& 1=x.toNat%2:=Nat.and_one_is_mod _;show((x.toNat &&& 1:Nat):Int)=_;rw[this];omega
theorem spec:fF E f210 aF (pI .u64) (pN .i64) sp:=by
 rintro a i ⟨ha,hl,h1,h2⟩;refine(start a i).trans ?_;show _=some [D.s (.sc (.bool (decide (0<=i)&&decide (M6.val a/2^i.toNat%2=1))))]
 by_cases hn:i<0
 ·rw[aO hn,dqF (show ¬0<=i by omega),cDW]
 ·have t1:i.tdiv 64=i/64:=cFZ (by omega);have t2:i.tmod 64=i%64:=cGA (by omega);have e1:(i/64).toNat=i.toNat/64:=by omega
  have e2:(i%64).toNat=i.toNat%64:=by omega
  have ps:2^i.toNat=18446744073709551616^(i.toNat/64)*2^(i.toNat%64):=by
   rw[show(18446744073709551616:Nat)=2^64 from rfl,<-cFD,<-cDP];congr 1;omega
  rw[aM hn,dqT (show 0<=i by omega),cBO,t1,wrap_i64 (n:=i/64),ps,<-cEB]
  by_cases hz:(a.length:Int)<=i/64
  ·have hv:M6.val a/18446744073709551616^(i.toNat/64)=0:=by
    apply cEI;exact bZN (M6.cR ha) (gO)
   rw[aO hz,hv,Nat.zero_div];rfl
  ·have g:=ha.get (i.toNat/64);have hv:=M6.fD a (n:=i.toNat/64) (by omega);have hq:M6.val a/18446744073709551616^(i.toNat/64)=M6.val (a.drop (i.toNat/64)):=by
    rw[hv,cFB _ _ (cD),cEI (M6.fY ha _),bYP]
   rw[aM hz,fH,t1,t2,wrap_i64 (n:=i/64),aR,bI,e1,e2,hq,M6.gH];have em:min (i.toNat%64) 64=i.toNat%64:=by omega
   have jM:i.toNat%64<64:=cAV _ (by omega);rw[em];generalize i.toNat%64=k at *;generalize a.getD (i.toNat/64) 0=x at *;generalize M6.val (a.drop (i.toNat/64+1))=r at *;have hp:0<2^k:=cD;have e3:(x.toNat+18446744073709551616*r)/2^k%2=x.toNat/2^k%2:=by
    have:18446744073709551616*r=2^k*(2*(2^(63-k)*r)):=by
     rw[show(18446744073709551616:Nat)=2^64 from rfl,show 64=k+(1+(63-k))from by omega,cDP,cDP,cDQ,cDQ]
    rw[this,cFB _ _ hp];omega
   rw[e3];have ex:x/((2^k:Nat):Int)=((x.toNat/2^k:Nat):Int):=by
    obtain⟨n,rfl⟩:=cDO g.1;rw[<-cEA];rfl
   have hle:x.toNat/2^k<=x.toNat:=cGV _ _;rw[ex];clear ex e3 hq hv ps;generalize x.toNat/2^k=q at *;rw[aTM (by omega) (by omega)];congr 4
   by_cases h:q%2=1
   ·rw[dqT h];have:((q:Int)%2)=1:=by omega
    rw[this];rfl
   ·rw[dqF h];have:((q:Int)%2)=0:=by omega
    rw[this];rfl
def aJ:dO:=orc2 (pI .u64) (pN .i64) sp
theorem ok:OK 210 aJ:=(eI E aF aD func210).jZ rfl spec
end aIB
namespace qJ
def E:=mE [] 34 [] [] []
def aF:=bd f236
theorem aU:Nk E aF:=nk
theorem start a b c d e:aG E f236 aF [D.s (sc (int i64 a)),D.s (sc (bool b)),D.s (sc (bool c)),D.s (sc (bool d)),D.s (sc (int i64 e))]=letI B:=some [D.s (sc (bool d))];letI A:=some [D.s (sc (bool false))];aC (a==0) (aC b B A) (aC (a==1) (aC (!b) B A) (aC (decide (0<e)) (some [D.s (sc (bool true))]) (aC (e==0) (some [D.s (sc (bool c))]) A))):=eJ aU
def qH(w:Int)(neg bSD rest:Bool)(half:Int):Bool:=bif w==0 then neg&&rest else bif w==1 then !neg&&rest else(decide (0<half)||(half==0&&bSD))
def sp(a:Int)(b c d:Bool)(e:Int):Prop×List D:=(True,[.s (.sc (.bool (qH a b c d e)))])
theorem spec(a:Int)(b c d:Bool)(e:Int)(h:(sp a b c d e).1):aG E f236 aF [(pN .i64).put a,pB.put b,pB.put c,pB.put d,(pN .i64).put e]=some (sp a b c d e).2:=by
 refine(start a b c d e).trans ?_;show _=some [D.s (.sc (.bool (qH a b c d e)))];unfold qH aC;cases (a==0) <;> cases (a==1) <;> cases b <;> cases c <;> cases d <;> cases (decide (0<e)) <;> cases (e==0) <;> rfl
def aJ:dO:=orc5 (pN .i64) pB pB pB (pN .i64) sp
theorem ok:OK 236 aJ:=(eI E aF aD func236).bCS rfl spec
end qJ
namespace sJ
def E:=mE [] 7 [] [] []
def aF:=bd f117
theorem aU:Nk E aF:=nk
theorem start a:aG E f117 aF [D.s (sc (int u64 a))]=aC (a==0) (some [D.s (sc (slice none 0 0))]) (some [D.own 22 u64 [a]]):=eJ aU
def sp(w:Int):Prop×List D:=(0<=w/\w<18446744073709551616,[.s (.ints .u64 (M6.dg w.toNat))])
theorem spec:aTO E f117 aF (pN .u64) sp:=by
 intro w h;have e:=start w;obtain⟨h1,h2⟩:=h;unfold sp;simp only
 by_cases hz:w=0
 ·rw[dU hz]at e;subst hz;rw[show(0:Int).toNat=0 from rfl,M6.cL];exact⟨_,e,.cons (Df.nil _) .nil⟩
 ·rw[cP hz]at e;have:M6.dg w.toNat=[w]:=by
   rw[M6.oY (by omega),cIT (by omega),cEI (by omega),M6.cL];congr 1;omega
  rw[this];exact⟨_,e,.cons (Df.own _ _ _) .nil⟩
def aJ:dO:=orc1 (pN .u64) sp
theorem ok:OK 117 aJ:=(eI E aF aD func117).bGL rfl spec
end sJ
namespace Zh
def E:=mE [(210,aIB.aJ),(236,qJ.aJ),(123,Ci.aJ),(117,sJ.aJ),(124,wW.aJ)] 39 [24,36] [] []
def aF:=bd f211
theorem aU:Nk E aF:=nk
theorem start a b c d e:aG E f211 aF [D.s (sc (int i64 a)),D.s (sc (bool b)),D.s (ints u64 c),D.s (sc (bool d)),D.s (sc (int i64 e))]=letI C:=M6.val c+M6.val (M6.dg 1);letI B:=bif dP.oQ C then(0:Int)else(5:Int);letI A:=bif dP.oQ C then M6.dg C else [];letI F:=bif B==0 then zs b (M6.val A)else(0:Int);aN (M6.bM c/\c.length<=1099511627776/\(-9223372036854775808:Int)<=(0:Int)/\(0:Int)<(9223372036854775808:Int)) (aN True (aC (!qJ.qH a b (true&&decide (M6.val c/1%(2:Nat)=(1:Nat))) d e) (aN (M6.cO c/\c.length<=1099511627776) (some [D.agg [sc (bool (isNeg (zs b (M6.val c)))),ints u64 (M6.dg (zs b (M6.val c)).natAbs)],D.s (sc (int i64 0))])) (aN ((0:Int)<=(1:Int)/\(1:Int)<(18446744073709551616:Int)) (aN (M6.cO c/\M6.cO (M6.dg 1)/\c.length<=8192/\(M6.dg 1).length<=8192) (aN (M6.cO A/\A.length<=1099511627776) (some [D.agg [sc (bool (isNeg F)),ints u64 (M6.dg F.natAbs)],D.s (sc (int i64 B))])))))):=eJ aU
def sp(w:Int)(neg:Bool)(q:List Int)(rest:Bool)(half:Int):Prop×List D:=(M6.cO q/\q.length<=8192,
 wE (fit (M6.val q+bif qJ.qH w neg (decide (M6.val q%2=1)) rest half then 1 else 0)) (zs neg (M6.val q+bif qJ.qH w neg (decide (M6.val q%2=1)) rest half then 1 else 0)))
theorem spec(w:Int)(neg:Bool)(q:List Int)(rest:Bool)(half:Int)(h:(sp w neg q rest half).1):aG E f211 aF [(pN .i64).put w,pB.put neg,(pI .u64).put q,pB.put rest,(pN .i64).put half]=some (sp w neg q rest half).2:=by
 obtain⟨h1,h2⟩:=h;have hb:=De h1.iA h2;refine(start w neg q rest half).trans ?_;unfold sp
 try dsimp only
 rw[gP ⟨h1.iA,by omega,by omega,by omega⟩,gP trivial,Nat.div_one,cBO];cases hm:qJ.qH w neg (decide (M6.val q%2=1)) rest half with
 |false =>
  have hf:fit (M6.val q+0)=true:=dqT (by rw[bZO];omega);rw[cKD,bT,gP ⟨h1,by omega⟩,cond_false,hf];rfl
 |true =>
  have o1:=gI (n:=1) (k:=1) (eF.2 (by omega));rw[cAN,bF,gP ⟨by omega,by omega⟩,gP ⟨h1,M6.bA _,h2,by omega⟩,M6.bD,gP (Kq (fun h=>by rw[show dP.oQ _=_ from Cx]at h;exact zH h)),Kd,show dP.oQ _=_ from Cx,cond_true]
def aJ:dO:=orc5 (pN .i64) pB (pI .u64) pB (pN .i64) sp
theorem ok:OK 211 aJ:=(eI E aF (aA aIB.ok (aA qJ.ok (aA Ci.ok (aA sJ.ok (aA wW.ok aD))))) func211).bCS rfl spec
end Zh
namespace uB
def E:=mE [(112,gF.aJ),(115,Hf.aJ),(114,Fb.aJ),(210,aIB.aJ),(211,Zh.aJ)] 61 [23,58] [(9,[0,2,4,6,8,10]),(14,[0,4,6,8,10,11])] [9,14]
def aF:=bd f177
theorem aU:Nk E aF:=nk
def J9 a b c d e f g:=lP E f177 aF 9 [bJ a,bJ b,bK 2 27 [bC c,eR d],bK 3 27 [bC e,sc (slice none 0 0)],iY f,aGE g]
def aTT a b c d e f g:=lP E f177 aF 14 [bJ a,bK 1 27 [bC b,eR c],bK 2 27 [bC d,sc (slice none 0 0)],iY e,aGE f,bJ g]
theorem start a b d c:aG E f177 aF [D.s (sc (int i64 a)),D.agg [sc (bool b),ints u64 d],D.s (sc (int i64 c))]=letI A:=M6.dg (M6.val d/(2:Nat)^c.toNat);aC (decide (c<0)) (some [D.agg [sc (bool false),sc (slice none 0 0)],D.s (sc (int i64 1))]) (aN (d.length<=1099511627776) (aC (!gF.pW (b,d)) (some [D.agg [sc (bool false),sc (slice none 0 0)],D.s (sc (int i64 2))]) (aN (M6.cO d/\d.length<=8192/\0<=c/\c<4611686018427387904) (aC (decide (0<(d.length:Int))) (aN (M6.bM d/\d.length<=1099511627776) (uB.J9 a c b d false A (decide ((↑(tz (M6.val d)):Int)<c)))) (uB.J9 a c b d false A false))))):=eJ aU
theorem aOW a b c d e f g:J9 a b c d e f g=aN (M6.bM d/\d.length<=1099511627776/\(-9223372036854775808:Int)<=i64.wrap (b-1)/\i64.wrap (b-1)<9223372036854775808) (aC (decide (0<=i64.wrap (b-1))&&decide (M6.val d/(2:Nat)^(i64.wrap (b-1)).toNat%2=(1:Nat))) (aN (M6.bM d/\d.length<=1099511627776) (aC ((↑(tz (M6.val d)):Int)==i64.wrap (b-1)) (uB.aTT a c d e f g 0) (uB.aTT a c d e f g 1))) (uB.aTT a c d e f g (-1:Int))):=cJ aU
theorem Vl a b c d e f g:aTT a b c d e f g=letI A:=M6.val e+bif qJ.qH a b (decide (M6.val e%2=(1:Nat))) f g then(1:Nat)else(0:Nat);letI B:=bif fit A then zs b A else(0:Int);aN (M6.cO e/\e.length<=8192) (some [D.agg [sc (bool (isNeg B)),ints u64 (M6.dg B.natAbs)],D.s (sc (int i64 (bif fit A then(0:Int)else(5:Int))))]):=cJ aU
def aDW(v:Nat)(n:Int):Bool:=decide (v≠0)&&decide ((tz v:Int)<n)
def aEW(v:Nat)(n:Int):Int:=bif decide (0<=n-1)&&decide (v/2^(n-1).toNat%2=1)then(bif ((tz v:Int)==n-1)then 0 else 1)else -1
def Az(w:Int)(neg:Bool)(v:Nat)(n:Int):Nat:=v/2^n.toNat+bif qJ.qH w neg (decide (v/2^n.toNat%2=1)) (aDW v n) (aEW v n)then 1 else 0
def sp(w:Int)(x:Bool×List Int)(n:Int):Prop×List D:=(jA x/\0<=n/\n<4611686018427387904,wE (fit (Az w x.1 (M6.val x.2) n)) (zs x.1 (Az w x.1 (M6.val x.2) n)))
theorem spec:uQ E f177 aF (pN .i64) qQ (pN .i64) sp:=by
 rintro w x n ⟨hx,h0,h1⟩;refine(start w x.1 x.2 n).trans ?_;have l1:=hx.len;have f1:=gF.mS hx;have b1:=hx.bl;obtain⟨p,a⟩:=x;have n1:M6.cO a:=hx.1
 try dsimp only at *
 unfold sp
 try dsimp only
 have hq:=gI (n:=M6.val a/2^n.toNat) (k:=8192) (bZJ (gD (cGV _ _)) b1);have j14:∀(r:Bool) (hf:Int),aTT w p a false (M6.dg (M6.val a/2^n.toNat)) r hf=some (wE (fit (M6.val a/2^n.toNat+bif qJ.qH w p (decide (M6.val a/2^n.toNat%2=1)) r hf then 1 else 0)) (zs p (M6.val a/2^n.toNat+bif qJ.qH w p (decide (M6.val a/2^n.toNat%2=1)) r hf then 1 else 0))):=by
  intro r hf;rw[Vl,gP ⟨M6.bA _,hq⟩,M6.bD];rfl
 have wn:i64.wrap (n-1)=n-1:=by rw[wrap_i64]
 have j9:∀r:Bool,J9 w n p a false (M6.dg (M6.val a/2^n.toNat)) r=some (wE (fit (M6.val a/2^n.toNat+bif qJ.qH w p (decide (M6.val a/2^n.toNat%2=1)) r (aEW (M6.val a) n)then 1 else 0)) (zs p (M6.val a/2^n.toNat+bif qJ.qH w p (decide (M6.val a/2^n.toNat%2=1)) r (aEW (M6.val a) n)then 1 else 0))):=by
  intro r;rw[aOW,wn,gP ⟨n1.iA,by omega,by omega,by omega⟩,j14,j14,j14,gP ⟨n1.iA,by omega⟩];unfold aEW aC;cases (decide (0<=n-1)&&decide (M6.val a/2^(n-1).toNat%2=1))with
  |false=>rfl
  |true=>cases ((tz (M6.val a):Int)==n-1) <;> rfl
 have hz:=M6.cY n1;rw[aM,gP,f1,cAN,bF,gP ⟨n1,l1,h0,h1⟩,j9,j9,gP ⟨n1.iA,by omega⟩];unfold Az aDW
 by_cases h:M6.val a=0
 ·rw[aM (by have:=hz.2 h;omega),dqF (show ¬(M6.val a≠0) by omega),cDW]
 ·rw[aO (by have:a.length≠0:=fun hl=>h (hz.1 hl);omega),dqT (show(M6.val a≠0) by omega),cBO]
def aJ:dO:=orc3 (pN .i64) qQ (pN .i64) sp
theorem ok:OK 177 aJ:=(eI E aF (aA gF.ok (aA Hf.ok (aA Fb.ok (aA aIB.ok (aA Zh.ok aD))))) func177).Dn rfl spec
end uB
namespace lN
def E:=mE [(177,uB.aJ)] 11 [8] [] []
def aF:=bd f148
theorem aU:Nk E aF:=nk
theorem start a c b:aG E f148 aF [D.agg [sc (bool a),ints u64 c],D.s (sc (int i64 b))]=letI A:=uB.Az 0 a (M6.val c) b;letI B:=bif fit A then zs a A else(0:Int);aN (jA (a,c)/\0<=b/\b<4611686018427387904) (some [D.agg [sc (bool (isNeg B)),ints u64 (M6.dg B.natAbs)],D.s (sc (int i64 (bif fit A then(0:Int)else(5:Int))))]):=eJ aU
theorem Wr{v:Nat}{n:Int}(h:0<=n):uB.aDW v n=decide (v%2^n.toNat≠0):=by
 unfold uB.aDW
 by_cases hv:v=0
 ·subst hv;rw[dqF (by omega),cDW,cGG];rfl
 ·rw[dqT hv,cBO];have hs:=yU v hv;obtain⟨k,rfl⟩:=cDO h;rw[cCJ];generalize tz v=j at *
  by_cases hk:j<k
  ·have:v%2^k≠0:=by
    intro hm;have e1:v=2^k*(v/2^k):=by have:=cDT v (2^k);omega
    have e2:v/2^j=2*(2^(k-j-1)*(v/2^k)):=by
     have hp:2^k=2^j*(2*2^(k-j-1)):=by
      rw[<-Nat.pow_succ',<-cDP];congr 1;omega
     generalize v/2^k=t at e1 ⊢;rw[e1,hp,cDQ,Nat.mul_div_cancel_left _ (cBM (by decide)),cDQ]
    omega
   rw[dqT (by omega),dqT this]
  ·have:v%2^k=0:=by
    have hp:2^j=2^k*2^(j-k):=by rw[<-cDP];congr 1;omega
    have e1:v=2^j*(v/2^j):=by have:=cDT v (2^j);omega
    rw[e1,hp,cDQ,Nat.mul_mod_right]
   rw[dqF (by omega),dqF (by omega)]
theorem down{p:Bool}{v:Nat}{n:Int}(h:0<=n):zs p (uB.Az 0 p v n)=zs p v/((2^n.toNat:Nat):Int):=by
 unfold uB.Az qJ.qH;rw[Wr h,show((0:Int)==0)=true from rfl,cond_true];have hp:0<2^n.toNat:=cD;have hd:=cDT v (2^n.toNat);have hm:=cAV v hp;generalize 2^n.toNat=q at *;cases p with
 |false =>
  rw[cDW,cond_false,bZO];show((v/q:Nat):Int)=(v:Int)/(q:Int);rw[cEA]
 |true =>
  rw[cBO];show -(((v/q+bif decide (v%q≠0)then 1 else 0:Nat)):Int)=-(v:Int)/(q:Int)
  by_cases hz:v%q=0
  ·rw[dqF (by omega),cond_false,bZO];have e:-(v:Int)=(q:Int)*(-((v/q:Nat):Int)):=by
    rw[cHI,<-cEW];omega
   rw[e,Int.mul_ediv_cancel_left _ (by omega)]
  ·rw[dqT hz,cond_true];have e:-(v:Int)=((q-v%q:Nat):Int)+(q:Int)*(-((v/q+1:Nat):Int)):=by
    rw[cHI,<-cEW,cDN];omega
   rw[e,Int.add_mul_ediv_left _ _ (by omega),Int.ediv_eq_zero_of_lt (by omega) (by omega),Int.zero_add]
theorem small{p:Bool}{v:Nat}{n:Int}(h:0<=n)(hb:bl v<=524288):fit (uB.Az 0 p v n)=true:=by
 refine dqT (bZJ (gD ?_) hb);unfold uB.Az qJ.qH;rw[Wr h,show((0:Int)==0)=true from rfl,cond_true];have hp:0<2^n.toNat:=cD
 by_cases hz:v%2^n.toNat=0
 ·rw[dqF (by omega),cDY,cond_false];exact cGV _ _
 ·have h2:2<=2^n.toNat:=by
   refine cDK fun hc=>hz ?_
   rw[show 2^n.toNat=1 from by omega,Nat.mod_one]
  have:v/2^n.toNat<=v/2:=cJC h2 (by omega);have hv:v≠0:=fun h=>hz (by rw[h,cGG])
  have:(bif p&&decide (v%2^n.toNat≠0)then(1:Nat)else 0)<=1:=by cases p <;> cases decide (v%2^n.toNat≠0) <;> decide
  omega
def sp(x:Bool×List Int)(n:Int):Prop×List D:=(jA x/\0<=n/\n<4611686018427387904,[wD (wv x/((2^n.toNat:Nat):Int)),.s (.sc (.int .i64 0))])
theorem spec:fF E f148 aF qQ (pN .i64) sp:=by
 intro x n h;have h':=h;obtain⟨hx,h0,h1⟩:=h;refine(start x.1 x.2 n).trans ((gP h').trans ?_);unfold sp
 try dsimp only
 rw[small h0 hx.bl];show some (wE true _)=_;rw[down h0];rfl
def aJ:dO:=orc2 qQ (pN .i64) sp
theorem ok:OK 148 aJ:=(eI E aF (aA uB.ok aD) func148).jZ rfl spec
end lN
namespace Oz
def E:=mE [(177,uB.aJ)] 11 [8] [] []
def aF:=bd f212
theorem aU:Nk E aF:=nk
theorem start a c b:aG E f212 aF [D.agg [sc (bool a),ints u64 c],D.s (sc (int i64 b))]=letI A:=uB.Az 1 a (M6.val c) b;letI B:=bif fit A then zs a A else(0:Int);aN (jA (a,c)/\0<=b/\b<4611686018427387904) (some [D.agg [sc (bool (isNeg B)),ints u64 (M6.dg B.natAbs)],D.s (sc (int i64 (bif fit A then(0:Int)else(5:Int))))]):=eJ aU
theorem up{p:Bool}{v:Nat}{n:Int}(h:0<=n):zs p (uB.Az 1 p v n)=-(-(zs p v)/((2^n.toNat:Nat):Int)):=by
 have e1:zs p (uB.Az 1 p v n)=-(zs (!p) (uB.Az 0 (!p) v n)):=by
  unfold uB.Az qJ.qH zs;cases p <;> simp
 have e2:-(zs p v)=zs (!p) v:=by unfold zs;cases p <;> simp
 rw[e1,e2,lN.down h]
theorem small{p:Bool}{v:Nat}{n:Int}(h:0<=n)(hb:bl v<=524288):fit (uB.Az 1 p v n)=true:=by
 have e1:uB.Az 1 p v n=uB.Az 0 (!p) v n:=by
  unfold uB.Az qJ.qH;cases p <;> simp
 rw[e1];exact lN.small h hb
def sp(x:Bool×List Int)(n:Int):Prop×List D:=(jA x/\0<=n/\n<4611686018427387904,[wD (-(-(wv x)/((2^n.toNat:Nat):Int))),.s (.sc (.int .i64 0))])
theorem spec:fF E f212 aF qQ (pN .i64) sp:=by
 intro x n h;have h':=h;obtain⟨hx,h0,h1⟩:=h;refine(start x.1 x.2 n).trans ((gP h').trans ?_);unfold sp
 try dsimp only
 rw[small h0 hx.bl];show some (wE true _)=_;rw[up h0];rfl
def aJ:dO:=orc2 qQ (pN .i64) sp
theorem ok:OK 212 aJ:=(eI E aF (aA uB.ok aD) func212).jZ rfl spec
end Oz
namespace lG
def E:=mE [(148,lN.aJ),(212,Oz.aJ)] 22 [] [] []
def aF:=bd f178
theorem aU:Nk E aF:=nk
theorem start a d b c:aG E f178 aF [D.agg [sc (bool a),ints u64 d],D.s (sc (int i64 b)),D.s (sc (bool c))]=letI B:=jA (a,d)/\0<=b/\b<4611686018427387904;letI A:=(↑((2:Nat)^b.toNat):Int);aC c (aN B (some [D.agg [sc (bool (isNeg (-(-wv (a,d)/A)))),ints u64 (M6.dg (-(-wv (a,d)/A)).natAbs)]])) (aN B (some [D.agg [sc (bool (isNeg (wv (a,d)/A))),ints u64 (M6.dg (wv (a,d)/A).natAbs)]])):=eJ aU
def rD(up:Bool)(z:Int)(n:Nat):Int:=bif up then -(-z/((2^n:Nat):Int))else z/((2^n:Nat):Int)
theorem aFJ(up:Bool)(z:Int)(n:Nat):(rD up z n).natAbs<=z.natAbs:=by
 unfold rD;cases up with
 |false=>exact qL (cBM (by decide))
 |true =>
  rw[cond_true,cGD];have:=qL (z:=-z) (cBM (n:=n) (show 0<2 by decide));rwa [cGD]at this
def sp(x:Bool×List Int)(n:Int)(up:Bool):Prop×List D:=(jA x/\(0<=n/\n<4611686018427387904),[wD (rD up (wv x) n.toNat)])
theorem spec:uQ E f178 aF qQ (pN .i64) pB sp:=by
 rintro x n up ⟨h1,h2⟩;refine(start x.1 x.2 n up).trans ?_;cases up with
 |true=>rw[bT,gP ⟨h1,h2⟩];rfl
 |false=>rw[bF,gP ⟨h1,h2⟩];rfl
def aJ:dO:=orc3 qQ (pN .i64) pB sp
theorem ok:OK 178 aJ:=(eI E aF (aA lN.ok (aA Oz.ok aD)) func178).Dn rfl spec
end lG
namespace dC
def E:=mE [(127,yL.aJ),(63,mH.aJ),(178,lG.aJ)] 33 [20,30] [] []
def aF:=bd f166
theorem aU:Nk E aF:=nk
theorem start a e b c d:aG E f166 aF [D.agg [sc (bool a),ints u64 e],D.s (sc (int i64 b)),D.s (sc (int i64 c)),D.s (sc (bool d))]=letI H:=wv (a,e);letI C:=bif jR H b then bW H b else((0:Int),(0:Int));letI B:=(↑(bl (M6.val e)):Int);letI G:=lG.rD d H (i64.wrap (B-c)).toNat;letI F:=b+i64.wrap (B-c);letI I:=i64.wrap F;aN (M6.bM e/\e.length<=1099511627776) (aC (decide (i64.wrap (B-c)<=0)) (aN (jA (a,e)/\(-9223372036854775808:Int)<=b/\b<9223372036854775808) (aB (isNeg C.fst) fun f=>aB (M6.dg C.fst.natAbs) fun g=>aB C.snd fun h=>aB (bif jR H b then(0:Int)else(5:Int)) fun i=>some [D.agg [sc (bool f),ints u64 g,sc (int i64 h)],D.s (sc (int i64 i))])) (aN (jA (a,e)/\0<=i64.wrap (B-c)/\i64.wrap (B-c)<4611686018427387904) (aB (isNeg G) fun j=>aB (M6.dg G.natAbs) fun k=>letI A:=bif jR (wv (j,k)) I then bW (wv (j,k)) I else((0:Int),(0:Int));aN (jA (j,k)/\(-9223372036854775808:Int)<=i64.wrap F/\i64.wrap F<9223372036854775808) (aB (isNeg A.fst) fun l=>aB (M6.dg A.fst.natAbs) fun m=>aB A.snd fun n=>aB (bif jR (wv (j,k)) I then(0:Int)else(5:Int)) fun o=>some [D.agg [sc (bool l),ints u64 m,sc (int i64 n)],D.s (sc (int i64 o))])))):=eJ aU
def pM(up:Bool)(z e p:Int):Int×Int:=if(bl z.natAbs:Int)-p<=0 then(z,e)else(lG.rD up z ((bl z.natAbs:Int)-p).toNat,e+((bl z.natAbs:Int)-p))
def sp(x:Bool×List Int)(e p:Int)(up:Bool):Prop×List D:=(jA x/\(-4611686018427387904<=e/\e<4611686018427387904)/\1<=p/\p<=70000,dE (jR (pM up (wv x) e p).1 (pM up (wv x) e p).2) (bW (pM up (wv x) e p).1 (pM up (wv x) e p).2))
theorem spec:Zg E f166 aF qQ (pN .i64) (pN .i64) pB sp:=by
 rintro x e p up ⟨hw,he,hp⟩;have hb:=hw.bl;have hl:=hw.len;have ha:=iX x;refine(start x.1 x.2 e p up).trans ?_;unfold sp pM
 try dsimp only
 rw[gP ⟨hw.1.iA,by omega⟩,aE,ha,wrap_i64 (n:=(bl (M6.val x.2):Int)-p) (by omega) (by omega)];have hx:wv (x.1,x.2)=wv x:=rfl
 by_cases hn:(bl (M6.val x.2):Int)-p<=0
 ·rw[aO hn,if_pos hn,gP ⟨hw,by omega,by omega⟩];simp only[aE];rfl
 ·have aHC:=lG.aFJ up (wv x) ((bl (M6.val x.2):Int)-p).toNat;have Xm:jA (isNeg (lG.rD up (wv x) ((bl (M6.val x.2):Int)-p).toNat),M6.dg (lG.rD up (wv x) ((bl (M6.val x.2):Int)-p).toNat).natAbs):=iF (bZJ (gD aHC) (by rw[ha];exact hb));rw[aM hn,if_neg hn,gP ⟨hw,by omega,by omega⟩];simp only[aE];rw[wrap_i64 (n:=e+((bl (M6.val x.2):Int)-p)) (by omega) (by omega)];rw[gP ⟨Xm,by omega,by omega⟩,tQ];rfl
def aJ:dO:=orc4 qQ (pN .i64) (pN .i64) pB sp
theorem ok:OK 166 aJ:=(eI E aF (aA yL.ok (aA mH.ok (aA lG.ok aD))) func166).aUP rfl spec
end dC
end W
namespace M6
open Go M
def oP(n v:Nat):List Int:=dg v ++ cAQ (n-(dg v).length) 0
theorem lB{n v:Nat}:val (oP n v)=v:=by
 unfold oP;rw[iJ,iD,bD];omega
theorem mA{n v:Nat}:bM (oP n v):=lS.2 ⟨cA _,gU _⟩
theorem iG{n v:Nat}(h:v<18446744073709551616^n):(oP n v).length=n:=by
 have:=cU h;unfold oP;rw[bZQ,cIX];omega
theorem oX {a : List Int} {n v : Nat} (h : bM a) (hl : a.length = n) (hv : val a = v) : a = oP n v := by
  subst hl; subst hv
  obtain ⟨k, hk⟩ := Er h
  unfold oP
  have : a.length = (dg (val a)).length + k := by conv => lhs; rw [hk]
                                                  simp
  rw [this, Nat.add_sub_cancel_left]
  exact hk
theorem aMQ{n:Nat}:oP n 0=cAQ n 0:=by simp[oP,cL]
theorem aMR{n v:Nat}:(oP n v).take (dg v).length=dg v:=by
 unfold oP;exact List.take_left
theorem lW{a:List Int}{j:Nat}(hj:j<a.length)(d:Int):val (a.set j d)+18446744073709551616^j*(a.getD j 0).toNat=val a+18446744073709551616^j*d.toNat:=by
 have h1:=fD (a.set j d) (n:=j) (by simp;omega);have h2:=fD a (n:=j) (by omega);rw[nW hj,cJB (bYN j)]at h1;rw[gH (a:=a) j]at h2;rw[h1,h2,cDN,cDN];omega
theorem qC{m n:Nat}(h:m<=n):18446744073709551616^m<=18446744073709551616^n:=cBN (by omega) h
theorem Bc{a:List Int}(h:cO a):∀k,cO (a.drop k)
 |0=>h
 |k+1=>by
  match a,h with
  | [],h=>simpa using h
  |d :: a,h=>exact Bc (Mo h) k
theorem mN{a:List Int}(h:bM a)(k:Nat):val (a.take k)=val a%18446744073709551616^k:=by
 by_cases hk:k<=a.length
 ·rw[fD a hk,cKE,cIT (fY h k)]
 ·rw[cC (by omega),cIT];exact bZN (cR h) (qC (by omega))
theorem iP{a:List Int}(h:bM a)(k:Nat):val (a.drop k)=val a/18446744073709551616^k:=by
 by_cases hk:k<=a.length
 ·have h1:=fD a hk;have h2:=fY h k;rw[h1,cFB _ _ (cD),cEI h2,bYP]
 ·rw[cJQ (by omega),cEI]
  ·rfl
  ·exact bZN (cR h) (qC (by omega))
theorem qO(v o n:Nat):v=v%18446744073709551616^o+18446744073709551616^o*(v/18446744073709551616^o%18446744073709551616^n)+18446744073709551616^(o+n)*(v/18446744073709551616^(o+n)):=by
 have h1:=cIV v (18446744073709551616^o);have h2:=cIV (v/18446744073709551616^o) (18446744073709551616^n);rw[cEB,<-cDP]at h2
 conv=>lhs;rw[<-h1,<-h2]
 rw[cDN,<-cDQ,<-cDP];omega
theorem Ao{v v' o n X c:Nat}(h1:v'%18446744073709551616^o=v%18446744073709551616^o)(h2:v'/18446744073709551616^(o+n)=v/18446744073709551616^(o+n))(h:v'+18446744073709551616^o*X=v+18446744073709551616^(o+n)*c) :
  v'/18446744073709551616^o%18446744073709551616^n+X=v/18446744073709551616^o%18446744073709551616^n+18446744073709551616^n*c:=by
 have e1:=qO v o n;have e2:=qO v' o n;rw[h1,h2]at e2;apply Nat.eq_of_mul_eq_mul_left (cBM (n:=o) (by omega:0<18446744073709551616));have e3:18446744073709551616^(o+n)*c=18446744073709551616^o*(18446744073709551616^n*c):=by rw[cDP,cDQ]
 rw[e3]at h;rw[cDN,cDN];omega
theorem Dy(v o n:Nat):v/18446744073709551616^o%18446744073709551616^n<18446744073709551616^n:=cAV _ (cD)
theorem Ap{z z':List Int}(hd:bM z)(Bl:bM z'){o n:Nat}(h1:z'.take o=z.take o)(h2:z'.drop (o+n)=z.drop (o+n)):val z'%18446744073709551616^o=val z%18446744073709551616^o/\val z'/18446744073709551616^(o+n)=val z/18446744073709551616^(o+n):=by
 rw[<-mN hd,<-mN Bl,h1,<-iP hd,<-iP Bl,h2];exact⟨rfl,rfl⟩
end M6
namespace W
open Go AI M
namespace pA
def E:=mE [] 8 [] [] []
def aF:=bd f198
theorem aU:Nk E aF:=nk
theorem start a:aG E f198 aF [D.s (ints u64 a)]=aC (decide (8192<(a.length:Int))) (some [D.s (sc (slice none 0 0)),D.s (sc (int i64 5))]) (some [D.s (ints u64 a),D.s (sc (int i64 0))]):=eJ aU
def can(a b:List Int):Prop:=Contract prog base.glob 199 [(pI .u64).put a,(pI .u64).put b] [.own gV .u64 (M6.dg (M6.val a*M6.val b))]
def less(n:Nat):Prop:=∀c d:List Int,M6.cO c->M6.cO d->c.length+d.length<n->can c d
def prec:dO:=orc2 (pI .u64) (pI .u64) fun a b=>(can a b,[.own gV .u64 (M6.dg (M6.val a*M6.val b))])
theorem Km:nR prog base.glob 199 prec:=by
 intro ds g rs hd hg;unfold prec orc2 at hd;split at hd
 ·split at hd
  ·rename_i x y hx hy;have hd:=Option.some.inj hd;have e1:g=can x y:=(Prod.mk.inj hd).1.symm;have e2:=(Prod.mk.inj hd).2;subst e1;rw[<-e2];exact⟨Contract.bGO (show Contract _ _ _ _ _ from hg) ((pI .u64).le hx) ((pI .u64).le hy),wJ (c:=(f199.body).getD .skip) func199 rfl rfl⟩
  ·cases hd
 ·cases hd
def Lr(a:List Int):Bool:=decide (a.length<=8192)
def sp(a:List Int):Prop×List D:=(True,[.s (.ints .u64 (bif Lr a then a else [])),.s (.sc (.int .i64 (bif Lr a then 0 else 5)))])
theorem spec:aTO E f198 aF (pI .u64) sp:=by
 intro a _;have e:=start a;unfold sp Lr;simp only
 by_cases hc:a.length<=8192
 ·rw[aM]at e;rw[dqT hc];exact⟨_,e,iZ.refl _⟩
 ·rw[aO]at e;rw[dqF hc];exact⟨_,e,.cons (Df.nil _) (iZ.refl _)⟩
def aJ:dO:=orc1 (pI .u64) sp
theorem ok:OK 198 aJ:=(eI E aF aD func198).bGL rfl spec
end pA
namespace Ox
def E:=mE [] 51 [] [] []
def aF:=bd f252
theorem aU:Nk E aF:=nk
theorem start a b:aG E f252 aF [D.s (sc (int u64 a)),D.s (sc (int u64 b))]=letI A:=u64.wrap (a/4294967296*gR BinOp.and u64 b 4294967295)+u64.wrap (gR BinOp.and u64 a 4294967295*gR BinOp.and u64 b 4294967295)/4294967296;some [D.s (sc (int u64 (u64.wrap (u64.wrap (u64.wrap (a/4294967296*(b/4294967296))+u64.wrap A/4294967296)+u64.wrap (gR BinOp.and u64 (u64.wrap A) 4294967295+u64.wrap (gR BinOp.and u64 a 4294967295*(b/4294967296)))/4294967296)))),D.s (sc (int u64 (u64.wrap (a*b))))]:=eJ aU
def sp(a b:Int):Prop×List D:=(0<=a/\a<18446744073709551616/\0<=b/\b<18446744073709551616,[.s (.sc (.int .u64 (a*b/18446744073709551616))),.s (.sc (.int .u64 (a*b%18446744073709551616)))])
theorem spec:fF E f252 aF (pN .u64) (pN .u64) sp:=by
 rintro a b ⟨ha,bHL,hb,xO⟩;refine(start a b).trans ?_;simp only[sp];have m1:gR .and .u64 a 4294967295=a%4294967296:=kR ha bHL;have m2:gR .and .u64 b 4294967295=b%4294967296:=kR hb xO;rw[m1,m2];have bd:∀x y:Int,0<=x->x<=4294967295->0<=y->y<=4294967295->0<=x*y/\x*y<=18446744065119617025:=fun x y h1 h2 h3 h4 =>
  ⟨cKF h1 h3,by have:=Int.mul_le_mul h2 h4 h3 (by omega:(0:Int)<=4294967295);omega⟩
 have bRU:=bd (a/4294967296) (b/4294967296) (by omega) (by omega) (by omega) (by omega);have aWS:=bd (a/4294967296) (b%4294967296) (by omega) (by omega) (by omega) (by omega);have q01:=bd (a%4294967296) (b/4294967296) (by omega) (by omega) (by omega) (by omega);have aRA:=bd (a%4294967296) (b%4294967296) (by omega) (by omega) (by omega) (by omega);have e:a*b=(a/4294967296)*(b/4294967296)*18446744073709551616+((a/4294967296)*(b%4294967296)+(a%4294967296)*(b/4294967296))*4294967296+(a%4294967296)*(b%4294967296):=by
  conv=>lhs;rw[<-cHK a 4294967296,<-cHK b 4294967296]
  generalize a/4294967296=x;generalize a%4294967296=y;generalize b/4294967296=z;generalize b%4294967296=t;grind
 have e0:u64.wrap (a*b)=a*b%18446744073709551616:=gG _;rw[e0];generalize a*b=ab at *;generalize (a/4294967296)*(b/4294967296)=bIH at *;generalize (a/4294967296)*(b%4294967296)=aWV at *;generalize (a%4294967296)*(b/4294967296)=bII at *;generalize (a%4294967296)*(b%4294967296)=aWW at *;rw[wrap_u64 (n:=aWW),wrap_u64 (n:=bIH),wrap_u64 (n:=bII),wrap_u64 (n:=aWV)];rw[wrap_u64 (n:=aWV+aWW/4294967296),kR (w:=aWV+aWW/4294967296) (by omega) (by omega)];rw[wrap_u64 (n:=(aWV+aWW/4294967296)%4294967296+bII),wrap_u64 (n:=bIH+(aWV+aWW/4294967296)/4294967296),wrap_u64];have:bIH+(aWV+aWW/4294967296)/4294967296+((aWV+aWW/4294967296)%4294967296+bII)/4294967296=ab/18446744073709551616:=by omega
 rw[this]
def aJ:dO:=orc2 (pN .u64) (pN .u64) sp
theorem ok:OK 252 aJ:=(eI E aF aD func252).jZ rfl spec
end Ox
namespace Ju
def E:Env:={ ({ base with C:=callsOf [(252,Ox.aJ)],n0:=1,io:=[0] })with nt:=71,own:=[],keep:=fun k=>(tlook [(5,[0,1,2,6,7,13,14,18,19]),(1,[0,1,2,13,14])] k).getD [],cut:=tlook [] }
def aF:=bd f248
theorem aU:Nk E aF:=nk
def L1(a:List Int)(b:Nat)(c:Nat) d f g h:=nU E f248 aF 1 [(A.any,some { e:=(22:Nat),cont:=oH.ints u64 a }),(A.v (V.one (L.view 0 b c)),none),iY d,iY f,bJ g,bJ h]
def L5(a:List Int)(b:Nat)(c:Nat) d f g h x7 i j k:=nU E f248 aF 5 [(A.any,some { e:=(22:Nat),cont:=oH.ints u64 a }),(A.v (V.one (L.view 0 b c)),none),iY d,iY f,bJ g,dR h,bJ x7,bJ i,bJ j,bJ k]
theorem start al ao an b c:aG E f248 aF [D.io gV u64 al ao an,D.s (ints u64 b),D.s (ints u64 c)]=Ju.L1 al ao an b c (c.length:Int) 0:=eJ aU
theorem Sd a b c d e f g:L1 a b c d e f g=aC (decide (g<f)) (Ju.L5 a b c d e g 0 f g (d.length:Int) 0) (some [D.io 22 u64 a 0 0]):=lJ aU
theorem Dx a b c d e f g h i j k:L5 a b c d e f g h i j k=letI C:=(d.length:Int);letI B:=b+(i64.wrap (k+f)).toNat;letI A:=d.getD k.toNat 0*e.getD f.toNat 0%(18446744073709551616:Int)+g+0;letI F:=a.getD B 0+A%18446744073709551616+(0:Int);aC (decide (k<j)) (if 0<=k/\k<C then if 0<=f/\f<(e.length:Int)then aN (0<=d.getD k.toNat 0/\d.getD k.toNat 0<(18446744073709551616:Int)/\0<=e.getD f.toNat 0/\e.getD f.toNat 0<(18446744073709551616:Int)) (aN (0<=d.getD k.toNat 0*e.getD f.toNat 0%(18446744073709551616:Int)/\0<=g/\(0:Int)<=(0:Int)/\(0:Int)<=(1:Int)) (if 0<=i64.wrap (k+f)/\i64.wrap (k+f)<(c:Int)then aN (0<=a.getD B 0/\0<=A%18446744073709551616/\(0:Int)<=(0:Int)/\(0:Int)<=(1:Int)) (if 0<=i64.wrap (k+f)/\i64.wrap (k+f)<(c:Int)then Ju.L5 (a.set B (F%18446744073709551616)) b c d e f (u64.wrap (u64.wrap (d.getD k.toNat 0*e.getD f.toNat 0/(18446744073709551616:Int)+A/18446744073709551616)+F/18446744073709551616)) h i j (i64.wrap (k+1))else none)else none))else none else none) (if 0<=i64.wrap (f+C)/\i64.wrap (f+C)<(c:Int)then Ju.L1 (a.set (b+(i64.wrap (f+C)).toNat) g) b c d e h (i64.wrap (i+1))else none):=lJ aU
def sp(x:List Int×Nat×Nat)(a b:List Int):Prop×List D:=(M6.bM x.1/\x.2.1=0/\x.2.2=x.1.length/\M6.bM a/\M6.bM b/\x.1.length=a.length+b.length/\x.1.length<=1099511627776/\M6.val x.1=0,
 [.io gV .u64 (M6.oP x.1.length (M6.val a*M6.val b)) 0 0])
theorem bCZ{x c:Int}{p:Nat}(hp:p<=340282366920938463426481119284349108225)(h0:0<=x)(h1:x<18446744073709551616)(h2:0<=c)(h3:c<18446744073709551616) :
  (0<=(p:Int)/18446744073709551616+((p:Int)%18446744073709551616+c+0)/18446744073709551616/\(p:Int)/18446744073709551616+((p:Int)%18446744073709551616+c+0)/18446744073709551616<18446744073709551616) /\
  (0<=(p:Int)/18446744073709551616+((p:Int)%18446744073709551616+c+0)/18446744073709551616+(x+((p:Int)%18446744073709551616+c+0)%18446744073709551616+0)/18446744073709551616/\(p:Int)/18446744073709551616+((p:Int)%18446744073709551616+c+0)/18446744073709551616+(x+((p:Int)%18446744073709551616+c+0)%18446744073709551616+0)/18446744073709551616<18446744073709551616) /\
  ((x+((p:Int)%18446744073709551616+c+0)%18446744073709551616+0)%18446744073709551616).toNat+18446744073709551616*((p:Int)/18446744073709551616+((p:Int)%18446744073709551616+c+0)/18446744073709551616+(x+((p:Int)%18446744073709551616+c+0)%18446744073709551616+0)/18446744073709551616).toNat=x.toNat+p+c.toNat:=by
 omega
theorem bIQ{i j u X Y:Nat}:18446744073709551616^j*((u+18446744073709551616^i*X)*Y)=18446744073709551616^j*(u*Y)+18446744073709551616^(i+j)*(X*Y):=by
 rw[bZH,cDN,cDP];congr 1;rw[cDQ,<-cDQ (18446744073709551616^j),cDM (18446744073709551616^j)]
theorem bYH{a b:List Int}{N j V:Nat}(hN:N<=1099511627776)(ha:M6.bM a)(hb:M6.bM b)(hj:j<b.length)(bLU:a.length+b.length=N):∀(r i:Nat) (z:List Int) (c:Int),i+r=a.length->z.length=N->M6.bM z->0<=c->c<18446744073709551616->z.getD (a.length+j) 0=0 ->
  M6.val z+18446744073709551616^(i+j)*c.toNat=V+18446744073709551616^j*(M6.val (a.take i)*(b.getD j 0).toNat) ->
  ∃z',L5 z 0 N a b j c b.length j a.length i=L1 z' 0 N a b b.length ((j+1:Nat):Int)/\z'.length=N/\M6.bM z'/\M6.val z'=V+18446744073709551616^j*(M6.val a*(b.getD j 0).toNat):=by
 intro r
 induction r with
 |zero =>
  intro i z c hi hz hd h0 h1 bDF hv;have w1:i64.wrap ((j:Int)+(a.length:Int))=((a.length+j:Nat):Int):=by rw[wrap_i64];omega
  have w2:i64.wrap ((j:Int)+1)=((j+1:Nat):Int):=by rw[wrap_i64];omega
  have bKS:i=a.length:=by omega
  subst bKS;refine⟨z.set (a.length+j) c,?_,by simp[hz],M6.kM hd ⟨h0,h1⟩,?_⟩
  ·rw[Dx,aM,w1,aR,cCJ,bYP,w2]
  ·have hs:=M6.lW (a:=z) (j:=a.length+j) (by omega) c;rw[bDF]at hs;rw[cFF]at hv;simp at hs;rw[hs];exact hv
 |succ r ih =>
  intro i z c hi hz hd h0 h1 bDF hv;have g:=hd.get (i+j);have ga:=ha.get i;have gb:=hb.get j;have w1:i64.wrap ((i:Int)+(j:Int))=((i+j:Nat):Int):=by rw[wrap_i64];omega
  have w2:i64.wrap ((i:Int)+1)=((i+1:Nat):Int):=by rw[wrap_i64];omega
  obtain⟨X,hX⟩:=cDO ga.1;obtain⟨Y,hY⟩:=cDO gb.1;have bHM:X*Y<=340282366920938463426481119284349108225:=by
   have h2:X<=18446744073709551615:=by omega
   have h3:Y<=18446744073709551615:=by omega
   have:=cIS h2 h3;omega
  rw[Dx,aO,aR,aR,w1,w2];simp only[cCJ,bYP];have hs:=fun d=>M6.lW (a:=z) (j:=i+j) (by omega) d
  rw[show a.getD i 0*b.getD j 0=((X*Y:Nat):Int)from by rw[hX,hY];simp];obtain⟨k1,k2,k3⟩:=bCZ bHM g.1 g.2 h0 h1;rw[gP ⟨ga.1,ga.2,gb.1,gb.2⟩,gP ⟨by omega,by omega,by omega,by omega⟩,aR,gP ⟨by omega,by omega,by omega,by omega⟩,aR];rw[wrap_u64 k1.1 k1.2,wrap_u64 k2.1 k2.2];refine ih (i+1) _ _ (by omega) (by simp[hz]) (M6.kM hd (by omega)) k2.1 k2.2 (by
   rw[cDR,List.getElem?_set_ne (by omega),<-cDR];exact bDF) ?_
  rw[M6.bR,bIQ,show i+1+j=(i+j)+1 from by omega,cDL,cDQ];have hs:=hs ((z.getD (i+j) 0+(((X*Y:Nat):Int)%18446744073709551616+c+0)%18446744073709551616+0)%18446744073709551616);rw[hX,hY,cCJ,cCJ];rw[hY,cCJ]at hv;generalize ((z.getD (i+j) 0+(((X*Y:Nat):Int)%18446744073709551616+c+0)%18446744073709551616+0)%18446744073709551616)=d at *;generalize ((X*Y:Nat):Int)/18446744073709551616+(((X*Y:Nat):Int)%18446744073709551616+c+0)/18446744073709551616+(z.getD (i+j) 0+(((X*Y:Nat):Int)%18446744073709551616+c+0)%18446744073709551616+0)/18446744073709551616=c' at *;generalize X*Y=q at *;generalize 18446744073709551616^(i+j)=B at *;generalize M6.val (z.set (i+j) d)=W at *;generalize (z.getD (i+j) 0).toNat=x at *;generalize 18446744073709551616^j*(M6.val (a.take i)*Y)=U at *;have e2:B*d.toNat+B*(18446744073709551616*c'.toNat)=B*x+B*q+B*c.toNat:=by
   rw[<-cDN,k3,cDN,cDN]
  omega
theorem aQC{z:List Int}(hd:M6.bM z){k:Nat}(h:M6.val z<18446744073709551616^k):z.getD k 0=0:=by
 have h1:=M6.iP hd k;rw[cEI h,M6.gH]at h1;have:=hd.get k;omega
theorem bNC{a b:List Int}{N:Nat}(hN:N<=1099511627776)(ha:M6.bM a)(hb:M6.bM b)(bLU:a.length+b.length=N):∀(r j:Nat) (z:List Int),j+r=b.length->z.length=N->M6.bM z->M6.val z=M6.val a*M6.val (b.take j) ->
  L1 z 0 N a b b.length j=some [.io gV .u64 (M6.oP N (M6.val a*M6.val b)) 0 0]:=by
 intro r
 induction r with
 |zero =>
  intro j z hj hz hd hv;rw[Sd,aM];rw[M6.cC (by omega)]at hv;rw[M6.oX hd hz hv]
 |succ r ih =>
  intro j z hj hz hd hv;rw[Sd,aO];have jM:M6.val z<18446744073709551616^(a.length+j):=by
   rw[hv,cDP];exact cGW (M6.cR ha) (M6.fY hb j)
  obtain⟨z',h1,h2,h3,h4⟩:=bYH hN ha hb (show j<b.length by omega) bLU a.length 0 z 0 (by omega) hz hd (by omega) (by omega) (aQC hd jM) (V:=M6.val z) (by simp[M6.val]);have h1:L5 z 0 N a b j 0 b.length j a.length 0=L1 z' 0 N a b b.length ((j+1:Nat):Int):=h1;rw[h1];refine ih (j+1) z' (by omega) h2 h3 ?_;rw[h4,hv,M6.bR,cDN];congr 1;rw[<-cDQ,<-cDQ,cDM (18446744073709551616^j)]
theorem spec(x:List Int×Nat×Nat)(a b:List Int)(h:(sp x a b).1):aG E f248 aF [(Ek gV .u64).put x,(pI .u64).put a,(pI .u64).put b]=some (sp x a b).2/\∃rs oR,(sp x a b).2=rs ++ [.io gV .u64 oR 0 0]/\oR.length=x.1.length:=by
 obtain⟨xl,xo,xn⟩:=x;obtain⟨hd,ho,hn,ha,hb,hl,hN,hv⟩:=h;simp only at hd ho hn hl hN hv;subst ho;subst hn;refine⟨(start xl 0 xl.length a b).trans ?_,[],_,rfl,M6.iG ?_⟩
 ·exact bNC hN ha hb hl.symm b.length 0 xl (by omega) rfl hd (by simp[hv,M6.val])
 ·show _<18446744073709551616^xl.length;rw[hl,cDP];exact cGW (M6.cR ha) (M6.cR hb)
def aJ:dO:=orc3 (Ek gV .u64) (pI .u64) (pI .u64) sp
theorem fnok:nS prog E 248 f248 aF:=wK qP mixed (lT _ rfl (aA Ox.ok aD) (oD)) func248 rfl rfl rfl rfl rfl
theorem ok:sG prog base.glob 248 aJ:=fnok.Dn rfl spec
end Ju
namespace Cc
def E:=mE [] 22 [] [(2,[0,3])] []
def aF:=bd f226
theorem aU:Nk E aF:=nk
def L2 a b:=nU E f226 aF 2 [iY a,bJ b]
theorem start a:aG E f226 aF [D.s (ints u64 a)]=Cc.L2 a (a.length:Int):=eJ aU
theorem lE a b:L2 a b=letI B:=(a.length:Int);letI A:=ints u64 (cEH 0 (cEG b.toNat a));aC (decide (0<b)) (if 0<=i64.wrap (b-1)/\i64.wrap (b-1)<B then aC (a.getD (i64.wrap (b-1)).toNat 0==(0:Int)) (Cc.L2 a (i64.wrap (b-1))) (if(0:Int)<=(0:Int)/\0<=b/\b<=b/\b<=B then some [D.s A]else none)else none) (if(0:Int)<=(0:Int)/\0<=b/\b<=b/\b<=B then some [D.s A]else none):=lJ aU
def sp(a:List Int):Prop×List D:=(M6.bM a/\a.length<=1099511627776,[.s (.ints .u64 (M6.dg (M6.val a)))])
theorem L{xs:List Int}(hd:M6.bM xs)(hl:xs.length<=4398046511104):∀n:Nat,n<=xs.length->L2 xs n=some [D.s (.ints .u64 (M6.dg (M6.val (xs.take n))))]
 |0,h=>by
  rw[lE,aM,aR];simp[M6.val,M6.cL]
 |n+1,h=>by
  rw[lE];have e:i64.wrap (((n+1:Nat):Int)-1)=(n:Int):=by rw[wrap_i64];omega
  rw[e,aO,aR,cCJ]
  by_cases hz:xs.getD n 0=0
  ·rw[dU hz,L hd hl n (by omega),M6.mW (by omega),hz];simp
  ·rw[cP hz,aR,cCJ,cER];have:M6.cO (xs.take (n+1)):=M6.Bb (hd.take _) fun d hg=>by
    rw[M6.getLast_take (by omega)]at hg;cases hg;exact hz
   rw[<-this]
theorem spec:iH E f226 aF (pI .u64) sp:=by
 rintro a ⟨hd,hl⟩;refine(start a).trans ?_;rw[L hd (by omega) a.length (bYN _),cFF];rfl
def aJ:dO:=orc1 (pI .u64) sp
theorem ok:OK 226 aJ:=(eI E aF aD func226).oV rfl spec
end Cc
namespace sF
def E:Env:={ ({ base with n0:=1,io:=[0] })with nt:=55,own:=[],keep:=fun k=>(tlook [(7,[0,6,8]),(2,[0,1,2,6,10,11])] k).getD [],cut:=tlook [] }
def aF:=bd f265
theorem aU:Nk E aF:=nk
def L2(a:List Int)(b:Nat)(c:Nat) d f g h x7:=nU E f265 aF 2 [(A.any,some { e:=(22:Nat),cont:=oH.ints u64 a }),(A.v (V.one (L.view 0 b c)),none),iY d,bJ f,dR g,bJ h,bJ x7]
def L7(a:List Int)(b:Nat)(c:Nat) d f:=nU E f265 aF 7 [(A.any,some { e:=(22:Nat),cont:=oH.ints u64 a }),(A.v (V.one (L.view 0 b c)),none),dR d,bJ f]
theorem start al ao an b c:aG E f265 aF [D.io gV u64 al ao an,D.s (ints u64 b),D.s (sc (int i64 c))]=sF.L2 al ao an b c 0 (b.length:Int) 0:=eJ aU
theorem lE a b c d e f g h:L2 a b c d e f g h=letI A:=b+(i64.wrap (e+h)).toNat;letI B:=a.getD A 0+d.getD h.toNat 0+f;aC (decide (h<g)) (if 0<=i64.wrap (e+h)/\i64.wrap (e+h)<(c:Int)then if 0<=h/\h<(d.length:Int)then aN (0<=a.getD A 0/\0<=d.getD h.toNat 0/\0<=f/\f<=1) (if 0<=i64.wrap (e+h)/\i64.wrap (e+h)<(c:Int)then sF.L2 (a.set A (B%18446744073709551616)) b c d e (B/18446744073709551616) g (i64.wrap (h+1))else none)else none else none) (sF.L7 a b c f (i64.wrap (e+(d.length:Int)))):=lJ aU
theorem yN a b c d e:L7 a b c d e=letI B:=b+e.toNat;letI A:=a.getD B 0+(0:Int)+d;aC (decide (0<d)) (if 0<=e/\e<(c:Int)then aN (0<=a.getD B 0/\(0:Int)<=(0:Int)/\0<=d/\d<=1) (if 0<=e/\e<(c:Int)then sF.L7 (a.set B (A%18446744073709551616)) b c (A/18446744073709551616) (i64.wrap (e+1))else none)else none) (some [D.io 22 u64 a 0 0]):=lJ aU
def sp(x:List Int×Nat×Nat)(b:List Int)(k:Int):Prop×List D:=(M6.bM x.1/\x.2.1=0/\x.2.2=x.1.length/\M6.bM b/\0<=k/\k.toNat+b.length<=x.1.length/\x.1.length<=1099511627776/\M6.val x.1+M6.val b*18446744073709551616^k.toNat<18446744073709551616^x.1.length,
 [.io gV .u64 (M6.oP x.1.length (M6.val x.1+M6.val b*18446744073709551616^k.toNat)) 0 0])
theorem bMY{T N:Nat}(hN:N<=1099511627776)(hT:T<18446744073709551616^N):∀(r j:Nat) (z:List Int) (c:Int),j+r=N+1->z.length=N->M6.bM z->0<=c->c<=1->M6.val z+18446744073709551616^j*c.toNat=T ->
  L7 z 0 N c j=some [.io gV .u64 (M6.oP N T) 0 0]:=by
 intro r
 induction r with
 |zero =>
  intro j z c hj hz hd h0 h1 hv;have hc:c=0:=by
   have h2:=M6.qC (show N<=j by omega);rcases cJR 0 c with h3 |h3
   ·have:c=1:=by omega
    subst this;simp at hv;omega
   ·omega
  subst hc;rw[yN,aM];simp at hv;rw[M6.oX hd hz hv]
 |succ r ih =>
  intro j z c hj hz hd h0 h1 hv
  by_cases hc:c=0
  ·subst hc;rw[yN,aM];simp at hv;rw[M6.oX hd hz hv]
  ·have aYS:c=1:=by omega
   subst aYS;have bUS:j<N:=by
    rcases bZC j N with h |h
    ·exact h
    ·have h2:=M6.qC h;simp at hv;omega
   have g:=hd.get j;have w2:i64.wrap ((j:Int)+1)=((j+1:Nat):Int):=by rw[wrap_i64];omega
   rw[yN,aO,aR,bYP,cCJ,gP ⟨g.1,by omega,by omega,by omega⟩,aR,w2];refine ih (j+1) _ _ (by omega) (by simp[hz]) (M6.kM hd (by omega)) (by omega) (by omega) ?_;have hs:=M6.lW (a:=z) (j:=j) (by omega) ((z.getD j 0+0+1)%18446744073709551616);rw[cDL,cDQ];generalize z.getD j 0=x at *;generalize M6.val (z.set j _)=V at *;generalize 18446744073709551616^j=B at *;have e:((x+0+1)%18446744073709551616).toNat+18446744073709551616*((x+0+1)/18446744073709551616).toNat=x.toNat+1:=by omega
   have e2:B*((x+0+1)%18446744073709551616).toNat+B*(18446744073709551616*((x+0+1)/18446744073709551616).toNat)=B*x.toNat+B:=by
    rw[<-cDN,e,cDN,bYX]
   simp at hv;omega
theorem bNA{b:List Int}{V N k:Nat}(hN:N<=1099511627776)(hb:M6.bM b)(hk:k+b.length<=N)(hT:V+M6.val b*18446744073709551616^k<18446744073709551616^N):∀(r i:Nat) (z:List Int) (c:Int),i+r=b.length->z.length=N->M6.bM z->0<=c->c<=1 ->
  M6.val z+18446744073709551616^(k+i)*c.toNat=V+M6.val (b.take i)*18446744073709551616^k ->
  L2 z 0 N b k c b.length i=some [.io gV .u64 (M6.oP N (V+M6.val b*18446744073709551616^k)) 0 0]:=by
 intro r
 induction r with
 |zero =>
  intro i z c hi hz hd h0 h1 hv;have w1:i64.wrap ((k:Int)+(b.length:Int))=((k+b.length:Nat):Int):=by rw[wrap_i64];omega
  rw[lE,aM,w1];have aLV:i=b.length:=by omega
  subst aLV;rw[cFF]at hv;exact bMY hN hT (N+1-(k+b.length)) (k+b.length) z c (by omega) hz hd h0 h1 hv
 |succ r ih =>
  intro i z c hi hz hd h0 h1 hv;have g:=hd.get (k+i);have g2:=hb.get i;have w1:i64.wrap ((k:Int)+(i:Int))=((k+i:Nat):Int):=by rw[wrap_i64];omega
  have w2:i64.wrap ((i:Int)+1)=((i+1:Nat):Int):=by rw[wrap_i64];omega
  rw[lE,aO,w1,aR,aR,bYP,cCJ,cCJ,gP ⟨g.1,g2.1,h0,h1⟩,aR,w2];refine ih (i+1) _ _ (by omega) (by simp[hz]) (M6.kM hd (by omega)) (by omega) (by omega) ?_;have hs:=M6.lW (a:=z) (j:=k+i) (by omega) ((z.getD (k+i) 0+b.getD i 0+c)%18446744073709551616);have e0:M6.val (b.take (i+1))*18446744073709551616^k=M6.val (b.take i)*18446744073709551616^k+18446744073709551616^(k+i)*(b.getD i 0).toNat:=by
   rw[M6.bR,bZH,cDP];congr 1;rw[cJF,cDM (18446744073709551616^i)]
  rw[e0,show k+(i+1)=(k+i)+1 from by omega,cDL,cDQ];generalize z.getD (k+i) 0=x at *;generalize b.getD i 0=y at *;generalize M6.val (z.set (k+i) _)=W at *;generalize 18446744073709551616^(k+i)=B at *;generalize M6.val (b.take i)*18446744073709551616^k=U at *;have e:((x+y+c)%18446744073709551616).toNat+18446744073709551616*((x+y+c)/18446744073709551616).toNat=x.toNat+y.toNat+c.toNat:=by omega
  have e2:B*((x+y+c)%18446744073709551616).toNat+B*(18446744073709551616*((x+y+c)/18446744073709551616).toNat)=B*x.toNat+B*y.toNat+B*c.toNat:=by
   rw[<-cDN,e,cDN,cDN]
  omega
theorem spec(x:List Int×Nat×Nat)(b:List Int)(k:Int)(h:(sp x b k).1):aG E f265 aF [(Ek gV .u64).put x,(pI .u64).put b,(pN .i64).put k]=some (sp x b k).2/\∃rs oR,(sp x b k).2=rs ++ [.io gV .u64 oR 0 0]/\oR.length=x.1.length:=by
 obtain⟨xl,xo,xn⟩:=x;obtain⟨hd,ho,hn,hb,hk,aIQ,hl,hT⟩:=h;simp only at hd ho hn hb hk aIQ hl hT;subst ho;subst hn;obtain⟨k,rfl⟩:=cDO hk;rw[cCJ]at aIQ hT;refine⟨(start xl 0 xl.length b k).trans ?_,[],_,rfl,M6.iG hT⟩;have:=bNA hl hb aIQ hT b.length 0 xl 0 (by omega) rfl hd (by omega) (by omega) (by simp[M6.val]);exact this
def aJ:dO:=orc3 (Ek gV .u64) (pI .u64) (pN .i64) sp
theorem fnok:nS prog E 265 f265 aF:=wK qP mixed (lT _ rfl aD (oD)) func265 rfl rfl rfl rfl rfl
theorem ok:sG prog base.glob 265 aJ:=fnok.Dn rfl spec
end sF
namespace Iy
def E:Env:={ ({ base with C:=rW [(265,sF.aJ)] (callsOf [(226,Cc.aJ),(199,pA.prec)]),ioF:=Mw [(265,sF.aJ)],n0:=1,io:=[0] })with nt:=34,own:=[],keep:=fun k=>(tlook [(1,[0,1,2,6])] k).getD [],cut:=tlook [] }
def aF:=bd f249
theorem aU:Nk E aF:=nk
def L1(a:List Int)(b:Nat)(c:Nat) d f g:=nU E f249 aF 1 [(A.any,some { e:=(22:Nat),cont:=oH.ints u64 a }),(A.v (V.one (L.view 0 b c)),none),iY d,iY f,bJ g]
theorem start al ao an b c:aG E f249 aF [D.io gV u64 al ao an,D.s (ints u64 b),D.s (ints u64 c)]=Iy.L1 al ao an b c 0:=eJ aU
theorem Sd a b c d e f:L1 a b c d e f=letI C:=(d.length:Int);letI B:=f+(e.length:Int);letI A:=cEH f.toNat (cEG (if C<i64.wrap B then C else i64.wrap B).toNat d);aC (decide (f<C)) (if 0<=f/\(f<=if C<i64.wrap B then C else i64.wrap B)/\((if C<i64.wrap B then C else i64.wrap B)<=if C<i64.wrap B then C else i64.wrap B)/\(if C<i64.wrap B then C else i64.wrap B)<=C then aN (M6.bM A/\A.length<=1099511627776) (aB (M6.dg (M6.val A)) fun g=>aN (pA.can g e) (aB (M6.dg (M6.val g*M6.val e)) fun h=>aN (M6.bM a/\b=0/\c=a.length/\M6.bM h/\0<=f/\f.toNat+h.length<=a.length/\a.length<=1099511627776/\M6.val a+M6.val h*(18446744073709551616:Nat)^f.toNat<(18446744073709551616:Nat)^a.length) (aB (M6.oP a.length (M6.val a+M6.val h*(18446744073709551616:Nat)^f.toNat)) fun i=>Iy.L1 i b c d e (i64.wrap B))))else none) (some [D.io 22 u64 a 0 0]):=lJ aU
def sp(x:List Int×Nat×Nat)(a b:List Int):Prop×List D:=(M6.bM x.1/\x.2.1=0/\x.2.2=x.1.length/\M6.cO a/\M6.cO b/\x.1.length=a.length+b.length/\x.1.length<=549755813888/\M6.val x.1=0/\0<b.length/\2*b.length<=a.length/\pA.less (a.length+b.length),
 [.io gV .u64 (M6.oP x.1.length (M6.val a*M6.val b)) 0 0])
theorem bNC{a b:List Int}{N:Nat}(hN:N<=549755813888)(ha:M6.cO a)(hb:M6.cO b)(bLU:N=a.length+b.length)(h0:0<b.length)(h2:2*b.length<=a.length)(hc:pA.less (a.length+b.length)):∀(r at_:Nat) (z:List Int),a.length<=at_+r->at_<=N->z.length=N->M6.bM z->M6.val z=M6.val (a.take at_)*M6.val b ->
  L1 z 0 N a b at_=some [.io gV .u64 (M6.oP N (M6.val a*M6.val b)) 0 0]:=by
 intro r
 induction r with
 |zero =>
  intro t z hr ht hz hd hv;rw[Sd,aM];rw[M6.cC (by omega)]at hv;rw[M6.oX hd hz hv]
 |succ r ih =>
  intro t z hr ht hz hd hv
  by_cases jM:t<a.length
  ·have w:i64.wrap ((t:Int)+(b.length:Int))=((t+b.length:Nat):Int):=by rw[wrap_i64];omega
   obtain⟨e,he⟩:∃e:Nat,e=min a.length (t+b.length):=⟨_,rfl⟩;have bUX:(if(a.length:Int)<((t+b.length:Nat):Int)then(a.length:Int)else((t+b.length:Nat):Int))=(e:Int):=by split <;> omega
   have aAY:((a.take e).drop t).length=e-t:=by rw[List.length_drop,cBD];omega
   have bOY:M6.bM ((a.take e).drop t):=(ha.iA.take _).drop _;have bKC:=M6.cR bOY;rw[aAY]at bKC;have Po:M6.val (a.take e)=M6.val (a.take t)+18446744073709551616^t*M6.val ((a.take e).drop t):=by
    have:=M6.fD (a.take e) (n:=t) (by rw[cBD];omega);rw[List.take_take,show min t e=t from by omega]at this;exact this
   have bPO:=M6.cR hb.iA;have jU:=M6.fY ha.iA e;have h1:M6.val ((a.take e).drop t)*M6.val b<18446744073709551616^(e-t+b.length):=by
    rw[cDP];exact cGW bKC bPO
   have h3:M6.val (a.take e)*M6.val b<18446744073709551616^N:=by
    have:M6.val (a.take e)*M6.val b<18446744073709551616^(e+b.length):=by
     rw[cDP];exact cGW jU bPO
    exact bZN this (M6.qC (by omega))
   have h4:M6.val z+M6.val ((a.take e).drop t)*M6.val b*18446744073709551616^t=M6.val (a.take e)*M6.val b:=by
    rw[hv,Po,bZH];congr 1;rw[cDM (18446744073709551616^t),cJF]
   rw[Sd,aO,w,bUX,if_pos ⟨by omega,by omega,by omega,by omega⟩];simp only[cCJ];rw[gP ⟨bOY,by omega⟩,aE,gP (hc _ _ (M6.bA _) hb (by have:=M6.cU bKC;omega)),aE,M6.bD,M6.bD];have Jn:=M6.cU h1;rw[gP ⟨hd,by trivial,by omega,M6.cA _,by omega,by omega,by omega,by rw[h4,hz];exact h3⟩,aE,hz,h4];refine ih (t+b.length) _ (by omega) (by omega) (M6.iG h3) M6.mA ?_;rw[M6.lB];congr 1
   by_cases bEV:t+b.length<=a.length
   ·rw[he,Nat.min_eq_right bEV]
   ·rw[he,cEQ (by omega),cFF,M6.cC (by omega)]
  ·rw[Sd,aM];rw[M6.cC (by omega)]at hv;rw[M6.oX hd hz hv]
theorem spec(x:List Int×Nat×Nat)(a b:List Int)(h:(sp x a b).1):aG E f249 aF [(Ek gV .u64).put x,(pI .u64).put a,(pI .u64).put b]=some (sp x a b).2/\∃rs oR,(sp x a b).2=rs ++ [.io gV .u64 oR 0 0]/\oR.length=x.1.length:=by
 obtain⟨xl,xo,xn⟩:=x;obtain⟨hd,ho,hn,ha,hb,hl,hN,hv,h0,h2,hc⟩:=h;simp only at hd ho hn hl hN hv;subst ho;subst hn;refine⟨(start xl 0 xl.length a b).trans ?_,[],_,rfl,M6.iG ?_⟩
 ·exact bNC hN ha hb hl h0 h2 hc a.length 0 xl (by omega) (by omega) rfl hd (by simp[hv,M6.val])
 ·show _<18446744073709551616^xl.length;rw[hl,cDP];exact cGW (M6.cR ha.iA) (M6.cR hb.iA)
def aJ:dO:=orc3 (Ek gV .u64) (pI .u64) (pI .u64) sp
theorem fnok:nS prog E 249 f249 aF:=wK qP mixed (mU _ _ rfl rfl (nN sF.ok wY) (aA Cc.ok (aA pA.Km aD)) (oD)) func249 rfl rfl rfl rfl rfl
theorem ok:sG prog base.glob 249 aJ:=fnok.Dn rfl spec
end Iy
namespace bAG
def E:=mE [(226,Cc.aJ)] 29 [16,21] [] []
def aF:=bd f266
theorem aU:Nk E aF:=nk
theorem start a b:aG E f266 aF [D.s (ints u64 a),D.s (sc (int i64 b))]=letI C:=cEH 0 (cEG b.toNat a);letI A:=(a.length:Int);letI F:=cEG A.toNat a;letI B:=cEH 0 F;aC (decide (A<=b)) (if(0:Int)<=(0:Int)/\0<=A/\A<=A/\A<=A then aN (M6.bM B/\B.length<=1099511627776) (some [D.s (ints u64 (M6.dg (M6.val B))),D.s (sc (slice none 0 0))])else none) (if(0:Int)<=(0:Int)/\0<=b/\b<=b/\b<=A then aN (M6.bM C/\C.length<=1099511627776) (if 0<=b/\b<=A/\A<=A/\A<=A then some [D.s (ints u64 (M6.dg (M6.val C))),D.s (ints u64 (cEH b.toNat F))]else none)else none):=eJ aU
def sp(a:List Int)(k:Int):Prop×List D:=(M6.cO a/\a.length<=1099511627776/\0<=k,[.s (.ints .u64 (M6.dg (M6.val a%18446744073709551616^k.toNat))),.s (.ints .u64 (M6.dg (M6.val a/18446744073709551616^k.toNat)))])
theorem spec:Om E f266 aF (pI .u64) (pN .i64) sp:=by
 rintro a k ⟨ha,hl,h0⟩;obtain⟨k,rfl⟩:=cDO h0;simp only[sp,cCJ];have aGV:=start a (k:Int)
 by_cases hk:a.length<=k
 ·rw[aO,aR,cCJ,cFF,cER,gP ⟨ha.iA,hl⟩]at aGV;refine⟨_,aGV,?_⟩;have h1:M6.val a<18446744073709551616^k:=bZN (M6.cR ha.iA) (M6.qC hk);rw[cIT h1,cEI h1,M6.cL];exact .cons (.refl _) (.cons (.nil _) .nil)
 ·rw[aM,aR,cCJ,cCJ,cER,gP ⟨ha.iA.take _,by rw[cBD];omega⟩,aR,cFF,M6.mN ha.iA]at aGV;refine⟨_,aGV,?_⟩;have h2:a.drop k=M6.dg (M6.val a/18446744073709551616^k):=by
   rw[<-M6.iP ha.iA];exact M6.Bc ha k
  rw[h2];exact .refl _
def aJ:dO:=orc2 (pI .u64) (pN .i64) sp
theorem ok:OK 266 aJ:=(eI E aF (aA Cc.ok aD) func266).aIW rfl spec
end bAG
namespace PSum
def E:Env:={ ({ base with C:=rW [(265,sF.aJ)] (callsOf [(226,Cc.aJ)]),ioF:=Mw [(265,sF.aJ)] })with nt:=25,own:=[24],keep:=fun k=>(tlook [] k).getD [],cut:=tlook [(3,[0,1])] }
def aF:=bd f267
theorem aU:Nk E aF:=nk
def J3 a b:=lP E f267 aF 3 [iY a,iY b]
theorem start a b:aG E f267 aF [D.s (ints u64 a),D.s (ints u64 b)]=aC (decide ((a.length:Int)<(b.length:Int))) (PSum.J3 b a) (PSum.J3 a b):=eJ aU
theorem fH a b:J3 a b=letI F:=(a.length:Int);letI G:=F+(1:Int);letI B:=i64.wrap G;letI A:=cEG B.toNat a ++ cEH (min a.length B.toNat) (cAQ B.toNat (0:Int));letI C:=M6.oP A.length (M6.val A+M6.val b*1);if 0<=i64.wrap G/\i64.wrap G<=i64.wrap G/\i64.wrap G<=8796093022208 then aN (M6.bM A/\(0:Nat)=(0:Nat)/\B.toNat=A.length/\M6.bM b/\(0:Int)<=(0:Int)/\(0:Nat)+b.length<=A.length/\A.length<=1099511627776/\M6.val A+M6.val b*1<(18446744073709551616:Nat)^A.length) (aN (M6.bM C/\C.length<=1099511627776) (some [D.s (ints u64 (M6.dg (M6.val C)))]))else none:=cJ aU
def sp(a b:List Int):Prop×List D:=(M6.cO a/\M6.cO b/\a.length<=549755813888/\b.length<=549755813888,[.s (.ints .u64 (M6.dg (M6.val a+M6.val b)))])
theorem aTC{a:List Int}{n:Nat}:cEG (a.length+n) a ++ cEH (min a.length (a.length+n)) (cAQ (a.length+n) (0:Int))=a ++ cAQ n 0:=by
 rw[cFV (by omega),cJS];congr 2;omega
theorem J{a b:List Int}(ha:M6.cO a)(hb:M6.cO b)(hl:a.length<=549755813888)(aSI:b.length<=a.length):J3 a b=some [.s (.ints .u64 (M6.dg (M6.val a+M6.val b)))]:=by
 have w:i64.wrap ((a.length:Int)+1)=((a.length+1:Nat):Int):=by rw[wrap_i64];omega
 have h1:=M6.cR ha.iA;have h2:=M6.cR hb.iA;have h3:=M6.qC aSI;have aRV:M6.val a+M6.val b<18446744073709551616^(a.length+1):=by rw[cDL];omega
 have hv:M6.val (a ++ cAQ 1 0)=M6.val a:=by rw[M6.iJ,M6.iD];omega
 rw[fH,w,cCJ,aTC,aR,hv,bYX,bZQ,cIX,
  gP ⟨M6.lS.2 ⟨ha.iA,M6.gU _⟩,rfl,rfl,hb.iA,by omega,by omega,by omega,aRV⟩,gP ⟨M6.mA,by rw[M6.iG aRV];omega⟩,M6.lB]
theorem spec:fF E f267 aF (pI .u64) (pI .u64) sp:=by
 rintro a b ⟨ha,hb,h1,h2⟩;refine(start a b).trans ?_
 by_cases hl:a.length<b.length
 ·rw[aO,J hb ha h2 (by omega),cEL];rfl
 ·rw[aM,J ha hb h1 (by omega)];rfl
def aJ:dO:=orc2 (pI .u64) (pI .u64) sp
theorem fnok:tJ prog E 267 f267 aF:=Yb qP mixed (mU _ _ rfl rfl (nN sF.ok wY) (aA Cc.ok aD) (oD)) func267 rfl rfl rfl
theorem ok:nR prog base.glob 267 aJ:=fnok.jZ rfl spec
end PSum
namespace Jt
def E:Env:={ ({ base with n0:=1,io:=[0] })with nt:=47,own:=[],keep:=fun k=>(tlook [(7,[0,4,6]),(2,[0,1,4,8,9])] k).getD [],cut:=tlook [] }
def aF:=bd f268
theorem aU:Nk E aF:=nk
def L2(a:List Int)(b:Nat)(c:Nat) d f g h:=nU E f268 aF 2 [(A.any,some { e:=(22:Nat),cont:=oH.ints u64 a }),(A.v (V.one (L.view 0 b c)),none),iY d,dR f,bJ g,bJ h]
def L7(a:List Int)(b:Nat)(c:Nat) d f:=nU E f268 aF 7 [(A.any,some { e:=(22:Nat),cont:=oH.ints u64 a }),(A.v (V.one (L.view 0 b c)),none),dR d,bJ f]
theorem start al ao an b:aG E f268 aF [D.io gV u64 al ao an,D.s (ints u64 b)]=Jt.L2 al ao an b 0 (b.length:Int) 0:=eJ aU
theorem lE a b c d e f g:L2 a b c d e f g=letI A:=b+g.toNat;aC (decide (g<f)) (if 0<=g/\g<(c:Int)then if 0<=g/\g<(d.length:Int)then aN (0<=a.getD A 0/\0<=d.getD g.toNat 0/\d.getD g.toNat 0<(18446744073709551616:Int)/\0<=e/\e<=1) (if 0<=g/\g<(c:Int)then Jt.L2 (a.set A ((a.getD A 0-d.getD g.toNat 0-e)%18446744073709551616)) b c d (if a.getD A 0<d.getD g.toNat 0+e then(1:Int)else(0:Int)) f (i64.wrap (g+1))else none)else none else none) (Jt.L7 a b c e (d.length:Int)):=lJ aU
theorem yN a b c d e:L7 a b c d e=letI A:=b+e.toNat;aC (decide (0<d)) (if 0<=e/\e<(c:Int)then aN (0<=a.getD A 0/\(0:Int)<=(0:Int)/\(0:Int)<(18446744073709551616:Int)/\0<=d/\d<=1) (if 0<=e/\e<(c:Int)then Jt.L7 (a.set A ((a.getD A 0-(0:Int)-d)%18446744073709551616)) b c (if a.getD A 0<(0:Int)+d then(1:Int)else(0:Int)) (i64.wrap (e+1))else none)else none) (some [D.io 22 u64 a 0 0]):=lJ aU
def sp(x:List Int×Nat×Nat)(b:List Int):Prop×List D:=(M6.bM x.1/\x.2.1=0/\x.2.2=x.1.length/\M6.bM b/\b.length<=x.1.length/\x.1.length<=1099511627776/\M6.val b<=M6.val x.1,
 [.io gV .u64 (M6.oP x.1.length (M6.val x.1-M6.val b)) 0 0])
theorem bMY{V W N:Nat}(hN:N<=1099511627776)(hT:W<=V):∀(r j:Nat) (z:List Int) (c:Int),j+r=N+1->z.length=N->M6.bM z->0<=c->c<=1->M6.val z+W=V+18446744073709551616^j*c.toNat ->
  L7 z 0 N c j=some [.io gV .u64 (M6.oP N (V-W)) 0 0]:=by
 intro r
 induction r with
 |zero =>
  intro j z c hj hz hd h0 h1 hv;have hc:c=0:=by
   have h2:=M6.qC (show N<=j by omega);have h3:=M6.cR hd;rw[hz]at h3;rcases cJR 0 c with h4 |h4
   ·have:c=1:=by omega
    subst this;simp at hv;omega
   ·omega
  subst hc;rw[yN,aM];simp at hv;rw[M6.oX hd hz (v:=V-W) (by omega)]
 |succ r ih =>
  intro j z c hj hz hd h0 h1 hv
  by_cases hc:c=0
  ·subst hc;rw[yN,aM];simp at hv;rw[M6.oX hd hz (v:=V-W) (by omega)]
  ·have aYS:c=1:=by omega
   subst aYS;have bUS:j<N:=by
    rcases bZC j N with h |h
    ·exact h
    ·have h2:=M6.qC h;have h3:=M6.cR hd;rw[hz]at h3;simp at hv;omega
   have g:=hd.get j;have w2:i64.wrap ((j:Int)+1)=((j+1:Nat):Int):=by rw[wrap_i64];omega
   rw[yN,aO,aR,bYP,cCJ,gP ⟨g.1,by omega,by omega,by omega,by omega⟩,aR,w2];refine ih (j+1) _ _ (by omega) (by simp[hz]) (M6.kM hd (by omega)) (by split <;> omega) (by split <;> omega) ?_;have hs:=M6.lW (a:=z) (j:=j) (by omega) ((z.getD j 0-0-1)%18446744073709551616);rw[cDL,cDQ];generalize z.getD j 0=x at *;generalize M6.val (z.set j _)=U at *;generalize 18446744073709551616^j=B at *;have e:((x-0-1)%18446744073709551616).toNat+1=x.toNat+18446744073709551616*(if x<0+1 then(1:Int)else 0).toNat:=by split <;> omega
   have e2:B*((x-0-1)%18446744073709551616).toNat+B=B*x.toNat+B*(18446744073709551616*(if x<0+1 then(1:Int)else 0).toNat):=by
    rw[<-cDN,<-e,cDN,bYX]
   simp at hv;omega
theorem bNA{b:List Int}{V N:Nat}(hN:N<=1099511627776)(hb:M6.bM b)(hk:b.length<=N)(hT:M6.val b<=V):∀(r i:Nat) (z:List Int) (c:Int),i+r=b.length->z.length=N->M6.bM z->0<=c->c<=1 ->
  M6.val z+M6.val (b.take i)=V+18446744073709551616^i*c.toNat ->
  L2 z 0 N b c b.length i=some [.io gV .u64 (M6.oP N (V-M6.val b)) 0 0]:=by
 intro r
 induction r with
 |zero =>
  intro i z c hi hz hd h0 h1 hv;rw[lE,aM];have aLV:i=b.length:=by omega
  subst aLV;rw[cFF]at hv;exact bMY hN hT (N+1-b.length) b.length z c (by omega) hz hd h0 h1 hv
 |succ r ih =>
  intro i z c hi hz hd h0 h1 hv;have g:=hd.get i;have g2:=hb.get i;have w2:i64.wrap ((i:Int)+1)=((i+1:Nat):Int):=by rw[wrap_i64];omega
  rw[lE,aO,aR,aR,bYP,cCJ,gP ⟨g.1,g2.1,g2.2,h0,h1⟩,aR,w2];refine ih (i+1) _ _ (by omega) (by simp[hz]) (M6.kM hd (by omega)) (by split <;> omega) (by split <;> omega) ?_;have hs:=M6.lW (a:=z) (j:=i) (by omega) ((z.getD i 0-b.getD i 0-c)%18446744073709551616);rw[M6.bR,cDL,cDQ];generalize z.getD i 0=x at *;generalize b.getD i 0=y at *;generalize M6.val (z.set i _)=W at *;generalize 18446744073709551616^i=B at *;generalize M6.val (b.take i)=U at *;have e:((x-y-c)%18446744073709551616).toNat+y.toNat+c.toNat=x.toNat+18446744073709551616*(if x<y+c then(1:Int)else 0).toNat:=by split <;> omega
  have e2:B*((x-y-c)%18446744073709551616).toNat+B*y.toNat+B*c.toNat=B*x.toNat+B*(18446744073709551616*(if x<y+c then(1:Int)else 0).toNat):=by
   rw[<-cDN,<-cDN,e,cDN]
  omega
theorem spec(x:List Int×Nat×Nat)(b:List Int)(h:(sp x b).1):aG E f268 aF [(Ek gV .u64).put x,(pI .u64).put b]=some (sp x b).2/\∃rs oR,(sp x b).2=rs ++ [.io gV .u64 oR 0 0]/\oR.length=x.1.length:=by
 obtain⟨xl,xo,xn⟩:=x;obtain⟨hd,ho,hn,hb,aIQ,hl,hT⟩:=h;simp only at hd ho hn hb aIQ hl hT;subst ho;subst hn;refine⟨(start xl 0 xl.length b).trans ?_,[],_,rfl,M6.iG (by have:=M6.cR hd;simp only;omega)⟩;have:=bNA hl hb aIQ hT b.length 0 xl 0 (by omega) rfl hd (by omega) (by omega) (by simp[M6.val]);exact this
def aJ:dO:=orc2 (Ek gV .u64) (pI .u64) sp
theorem fnok:nS prog E 268 f268 aF:=wK qP mixed (lT _ rfl aD (oD)) func268 rfl rfl rfl rfl rfl
theorem ok:sG prog base.glob 268 aJ:=fnok.jZ rfl spec
end Jt
namespace Lj
def E:Env:={ ({ base with C:=rW [(265,sF.aJ),(268,Jt.aJ)] (callsOf [(226,Cc.aJ),(266,bAG.aJ),(267,PSum.aJ),(199,pA.prec)]),ioF:=Mw [(265,sF.aJ),(268,Jt.aJ)],n0:=1,io:=[0] })with nt:=62,own:=[42],keep:=fun k=>(tlook [] k).getD [],cut:=tlook [] }
def aF:=bd f250
theorem aU:Nk E aF:=nk
theorem start al ao an b c:aG E f250 aF [D.io gV u64 al ao an,D.s (ints u64 b),D.s (ints u64 c)]=letI B:=i64.wrap ((b.length:Int)+(1:Int));letI H:=B.tdiv 2;letI F:=i64.wrap ((2:Int)*i64.wrap H);letI C:=i64.wrap H;aN (M6.cO b/\b.length<=1099511627776/\0<=i64.wrap H) (aB (M6.dg (M6.val b%(18446744073709551616:Nat)^C.toNat)) fun a=>aB (M6.dg (M6.val b/(18446744073709551616:Nat)^C.toNat)) fun d=>aN (M6.cO c/\c.length<=1099511627776/\0<=i64.wrap H) (aB (M6.dg (M6.val c%(18446744073709551616:Nat)^C.toNat)) fun e=>aB (M6.dg (M6.val c/(18446744073709551616:Nat)^C.toNat)) fun f=>aN (pA.can a e) (aB (M6.dg (M6.val a*M6.val e)) fun g=>letI A:=cEG ao al ++ (cEG an g ++ cEH (ao+min g.length an) al);aN (pA.can d f) (aB (M6.dg (M6.val d*M6.val f)) fun h=>aN (M6.cO a/\M6.cO d/\a.length<=549755813888/\d.length<=549755813888) (aB (M6.dg (M6.val a+M6.val d)) fun i=>aN (M6.cO e/\M6.cO f/\e.length<=549755813888/\f.length<=549755813888) (aB (M6.dg (M6.val e+M6.val f)) fun j=>aN (pA.can i j) (aB (M6.dg (M6.val i*M6.val j)) fun k=>aN (M6.bM k/\(0:Nat)=(0:Nat)/\k.length=k.length/\M6.bM g/\g.length<=k.length/\k.length<=1099511627776/\M6.val g<=M6.val k) (aB (M6.oP k.length (M6.val k-M6.val g)) fun l=>aN (M6.bM l/\(0:Nat)=(0:Nat)/\k.length=l.length/\M6.bM h/\h.length<=l.length/\l.length<=1099511627776/\M6.val h<=M6.val l) (aB (M6.oP l.length (M6.val l-M6.val h)) fun m=>letI G:=M6.dg (M6.val m);if u64=u64/\ao+an<=al.length then aN (M6.bM m/\m.length<=1099511627776) (aN (M6.bM A/\ao=0/\an=A.length/\M6.bM G/\0<=i64.wrap H/\C.toNat+G.length<=A.length/\A.length<=1099511627776/\M6.val A+M6.val G*(18446744073709551616:Nat)^C.toNat<(18446744073709551616:Nat)^A.length) (aB (M6.oP A.length (M6.val A+M6.val G*(18446744073709551616:Nat)^C.toNat)) fun n=>aN (M6.bM n/\ao=0/\an=n.length/\M6.bM h/\0<=i64.wrap ((2:Int)*i64.wrap H)/\F.toNat+h.length<=n.length/\n.length<=1099511627776/\M6.val n+M6.val h*(18446744073709551616:Nat)^F.toNat<(18446744073709551616:Nat)^n.length) (aB (M6.oP n.length (M6.val n+M6.val h*(18446744073709551616:Nat)^F.toNat)) fun o=>some [D.io 22 u64 o 0 0])))else none))))))))):=eJ aU
def sp(x:List Int×Nat×Nat)(a b:List Int):Prop×List D:=(M6.bM x.1/\x.2.1=0/\x.2.2=x.1.length/\M6.cO a/\M6.cO b/\x.1.length=a.length+b.length/\x.1.length<=274877906944/\M6.val x.1=0/\4<=b.length/\b.length<=a.length/\pA.less (a.length+b.length),
 [.io gV .u64 (M6.oP x.1.length (M6.val a*M6.val b)) 0 0])
theorem aXJ(a0 a1 b0 b1 K:Nat):(a0+K*a1)*(b0+K*b1)=a0*b0+(a0*b1+a1*b0)*K+a1*b1*(K*K):=by grind
theorem bIW(a0 a1 b0 b1:Nat):(a0+a1)*(b0+b1)=a0*b0+a1*b1+(a0*b1+a1*b0):=by grind
theorem Aq{v n k:Nat}(h:v<18446744073709551616^n):v/18446744073709551616^k<18446744073709551616^(n-k):=by
 apply cEF;rw[<-cDP];exact bZN h (M6.qC (by omega))
theorem aED{v k N:Nat}(hk:k<=N)(h:v*18446744073709551616^k<18446744073709551616^N):v<18446744073709551616^(N-k):=by
 have e:18446744073709551616^N=18446744073709551616^(N-k)*18446744073709551616^k:=by rw[<-cDP];congr 1;omega
 rw[e]at h;exact Nat.lt_of_mul_lt_mul_right h
theorem spec(x:List Int×Nat×Nat)(a b:List Int)(h:(sp x a b).1):aG E f250 aF [(Ek gV .u64).put x,(pI .u64).put a,(pI .u64).put b]=some (sp x a b).2/\∃rs oR,(sp x a b).2=rs ++ [.io gV .u64 oR 0 0]/\oR.length=x.1.length:=by
 obtain⟨xl,xo,xn⟩:=x;obtain⟨hd,ho,hn,ha,hb,hl,hN,hv,h4,aSI,hc⟩:=h;simp only at hd ho hn hl hN hv;subst ho;subst hn;have aEX:=M6.cR ha.iA;have bFC:=M6.cR hb.iA;have bFD:M6.val a*M6.val b<18446744073709551616^xl.length:=by rw[hl,cDP];exact cGW aEX bFC
 refine⟨(start xl 0 xl.length a b).trans ?_,[],_,rfl,M6.iG bFD⟩;obtain⟨k,hk⟩:∃k:Nat,k=(a.length+1)/2:=⟨_,rfl⟩;have w:i64.wrap ((i64.wrap ((a.length:Int)+1)).tdiv 2)=(k:Int):=by
  rw[wrap_i64 (n:=(a.length:Int)+1),cFZ (by omega),wrap_i64];omega
 have w2:i64.wrap (2*(k:Int))=((2*k:Nat):Int):=by rw[wrap_i64];omega
 have Dp:xl=cAQ xl.length 0:=by
  have:=M6.oX hd rfl hv;rw[M6.aMQ]at this;exact this
 rw[w,w2,gP ⟨ha,by omega,by omega⟩];simp only[aE,cCJ];have a0l:=M6.cU (cAV (M6.val a) (cBM (n:=k) (by omega:0<18446744073709551616)));have b0l:=M6.cU (cAV (M6.val b) (cBM (n:=k) (by omega:0<18446744073709551616)));have a1l:=M6.cU (Aq (k:=k) aEX);have b1l:=M6.cU (Aq (k:=k) bFC);have hA:=cIV (M6.val a) (18446744073709551616^k);have hB:=cIV (M6.val b) (18446744073709551616^k);have ea0:M6.val a%18446744073709551616^k<18446744073709551616^k:=cAV _ (cD);have eb0:M6.val b%18446744073709551616^k<18446744073709551616^k:=cAV _ (cD);have ea1:M6.val a/18446744073709551616^k<18446744073709551616^k:=bZN (Aq aEX) (M6.qC (by omega));have eb1:M6.val b/18446744073709551616^k<18446744073709551616^k:=bZN (Aq bFC) (M6.qC (by omega));generalize M6.val a%18446744073709551616^k=a0 at *;generalize M6.val a/18446744073709551616^k=a1 at *;generalize M6.val b%18446744073709551616^k=b0 at *;generalize M6.val b/18446744073709551616^k=b1 at *;have s6:a0+a1<18446744073709551616^(k+1):=by rw[cDL];omega
 have s7:b0+b1<18446744073709551616^(k+1):=by rw[cDL];omega
 have s6l:=M6.cU s6;have s7l:=M6.cU s7;have aEO:=aXJ a0 a1 b0 b1 (18446744073709551616^k);rw[hA,hB]at aEO;have hmid:=bIW a0 a1 b0 b1;have s8:(a0+a1)*(b0+b1)<18446744073709551616^(2*(k+1)):=by
  rw[Nat.two_mul,cDP];exact cGW s6 s7
 have s8l:=M6.cU s8;have bWM:18446744073709551616^k*18446744073709551616^k=18446744073709551616^(2*k):=by rw[<-cDP,Nat.two_mul]
 rw[bWM]at aEO;have low:a0*b0<=(a0+a1)*(b0+b1):=by omega
 have bKG:=M6.kB low;have bIR:a1*b1<=(a0+a1)*(b0+b1):=by omega
 have bKF:=M6.kB bIR;rw[gP ⟨hb,by omega,by omega⟩,gP (hc _ _ (M6.bA _) (M6.bA _) (by omega)),gP (hc _ _ (M6.bA _) (M6.bA _) (by omega)),gP ⟨M6.bA _,M6.bA _,by omega,by omega⟩,gP ⟨M6.bA _,M6.bA _,by omega,by omega⟩];simp only[M6.bD];have f9:(a0+a1)*(b0+b1)-a0*b0<18446744073709551616^(M6.dg ((a0+a1)*(b0+b1))).length:=by
  have:=M6.oO (n:=(a0+a1)*(b0+b1));omega
 have bWV:=M6.iG f9;rw[gP (hc _ _ (M6.bA _) (M6.bA _) (by omega)),gP ⟨M6.cA _,by trivial,by trivial,M6.cA _,bKG,by omega,low⟩,bWV,M6.lB,
  gP ⟨M6.mA,by trivial,by trivial,M6.cA _,bKF,by omega,by omega⟩]
 have bXI:(a0+a1)*(b0+b1)-a0*b0-a1*b1=a0*b1+a1*b0:=by omega
 rw[bXI];have f10:a0*b1+a1*b0<18446744073709551616^(M6.dg ((a0+a1)*(b0+b1))).length:=by
  have:=M6.oO (n:=(a0+a1)*(b0+b1));omega
 have aAZ:a0*b0<18446744073709551616^xl.length:=by omega
 have bPD:=M6.cU aAZ;have bEU:cEG 0 xl ++ (cEG xl.length (M6.dg (a0*b0)) ++ cEH (0+min (M6.dg (a0*b0)).length xl.length) xl)=M6.oP xl.length (a0*b0):=by
  rw[cCO,cCP,cFV bPD,bYP,cEQ bPD]
  conv=>lhs;rw[Dp,cJS]
  rfl
 rw[bEU,if_pos ⟨by trivial,by omega⟩,gP ⟨M6.mA,by rw[M6.iG f10];omega⟩,M6.lB,M6.lB,M6.iG aAZ];have bUH:(a0*b1+a1*b0)*18446744073709551616^k<18446744073709551616^xl.length:=by omega
 have bBG:=M6.cU (aED (by omega) bUH);have bDN:a0*b0+(a0*b1+a1*b0)*18446744073709551616^k<18446744073709551616^xl.length:=by omega
 rw[gP ⟨M6.mA,by trivial,by trivial,M6.cA _,by omega,by omega,by omega,bDN⟩,M6.iG bDN,M6.lB];have bUY:a1*b1*18446744073709551616^(2*k)<18446744073709551616^xl.length:=by omega
 have hhl:=M6.cU (aED (by omega) bUY);rw[gP ⟨M6.mA,by trivial,by trivial,M6.cA _,by omega,by omega,by omega,by rw[<-aEO];exact bFD⟩,<-aEO];rfl
def aJ:dO:=orc3 (Ek gV .u64) (pI .u64) (pI .u64) sp
theorem fnok:nS prog E 250 f250 aF:=wK qP mixed (mU _ _ rfl rfl (nN sF.ok (nN Jt.ok wY)) (aA Cc.ok (aA bAG.ok (aA PSum.ok (aA pA.Km aD)))) (oD)) func250 rfl rfl rfl rfl rfl
theorem ok:sG prog base.glob 250 aJ:=fnok.Dn rfl spec
end Lj
namespace Sb
def E:Env:={ ({ base with C:=rW [(248,Ju.aJ),(249,Iy.aJ),(250,Lj.aJ)] (callsOf []),ioF:=Mw [(248,Ju.aJ),(249,Iy.aJ),(250,Lj.aJ)],n0:=1,io:=[0] })with nt:=36,own:=[],keep:=fun k=>(tlook [] k).getD [],cut:=tlook [(3,[0,1,2])] }
def aF:=bd f225
theorem aU:Nk E aF:=nk
def J3(a:List Int)(b:Nat)(c:Nat) d f:=lP E f225 aF 3 [(A.any,some { e:=(22:Nat),cont:=oH.ints u64 a }),(A.v (V.one (L.view 0 b c)),none),iY d,iY f]
theorem start al ao an b c:aG E f225 aF [D.io gV u64 al ao an,D.s (ints u64 b),D.s (ints u64 c)]=aC (decide ((b.length:Int)<(c.length:Int))) (Sb.J3 al ao an c b) (Sb.J3 al ao an b c):=eJ aU
theorem fH a b c d e:J3 a b c d e=letI B:=d.length+e.length;letI A:=some [D.io 22 u64 (M6.oP a.length (M6.val d*M6.val e)) 0 0];aC (decide ((e.length:Int)<(40:Int))) (aN (M6.bM a/\b=0/\c=a.length/\M6.bM d/\M6.bM e/\a.length=d.length+e.length/\a.length<=1099511627776/\M6.val a=0) A) (aC (decide (i64.wrap ((2:Int)*(e.length:Int))<=(d.length:Int))) (aN (M6.bM a/\b=0/\c=a.length/\M6.cO d/\M6.cO e/\a.length=d.length+e.length/\a.length<=549755813888/\M6.val a=0/\0<e.length/\(2:Nat)*e.length<=d.length/\pA.less B) A) (aN (M6.bM a/\b=0/\c=a.length/\M6.cO d/\M6.cO e/\a.length=d.length+e.length/\a.length<=274877906944/\M6.val a=0/\4<=e.length/\e.length<=d.length/\pA.less B) A)):=cJ aU
def sp(x:List Int×Nat×Nat)(a b:List Int):Prop×List D:=(M6.bM x.1/\x.2.1=0/\x.2.2=x.1.length/\M6.cO a/\M6.cO b/\x.1.length=a.length+b.length/\x.1.length<=274877906944/\M6.val x.1=0/\pA.less (a.length+b.length),
 [.io gV .u64 (M6.oP x.1.length (M6.val a*M6.val b)) 0 0])
theorem J{z a b:List Int}(hd:M6.bM z)(ha:M6.cO a)(hb:M6.cO b)(hl:z.length=a.length+b.length)(hN:z.length<=274877906944)(hv:M6.val z=0)(hc:pA.less (a.length+b.length))(aSI:b.length<=a.length) :
  J3 z 0 z.length a b=some [.io gV .u64 (M6.oP z.length (M6.val a*M6.val b)) 0 0]:=by
 have w:i64.wrap (2*(b.length:Int))=((2*b.length:Nat):Int):=by rw[wrap_i64];omega
 rw[fH,w]
 by_cases h1:b.length<40
 ·rw[aO,gP ⟨hd,rfl,rfl,ha.iA,hb.iA,hl,by omega,hv⟩]
 ·rw[aM]
  by_cases h2:2*b.length<=a.length
  ·rw[aO,gP ⟨hd,rfl,rfl,ha,hb,hl,by omega,hv,by omega,h2,hc⟩]
  ·rw[aM,gP ⟨hd,rfl,rfl,ha,hb,hl,by omega,hv,by omega,aSI,hc⟩]
theorem spec(x:List Int×Nat×Nat)(a b:List Int)(h:(sp x a b).1):aG E f225 aF [(Ek gV .u64).put x,(pI .u64).put a,(pI .u64).put b]=some (sp x a b).2/\∃rs oR,(sp x a b).2=rs ++ [.io gV .u64 oR 0 0]/\oR.length=x.1.length:=by
 obtain⟨xl,xo,xn⟩:=x;obtain⟨hd,ho,hn,ha,hb,hl,hN,hv,hc⟩:=h;simp only at hd ho hn hl hN hv;subst ho;subst hn;refine⟨(start xl 0 xl.length a b).trans ?_,[],_,rfl,M6.iG ?_⟩
 ·by_cases jM:a.length<b.length
  ·rw[aO,J hd hb ha (by omega) hN hv (by rw[cEL];exact hc) (by omega),cDM];rfl
  ·rw[aM,J hd ha hb hl hN hv hc (by omega)];rfl
 ·show _<18446744073709551616^xl.length;rw[hl,cDP];exact cGW (M6.cR ha.iA) (M6.cR hb.iA)
def aJ:dO:=orc3 (Ek gV .u64) (pI .u64) (pI .u64) sp
theorem fnok:nS prog E 225 f225 aF:=wK qP mixed (mU _ _ rfl rfl (nN Ju.ok (nN Iy.ok (nN Lj.ok wY))) aD (oD)) func225 rfl rfl rfl rfl rfl
theorem ok:sG prog base.glob 225 aJ:=fnok.Dn rfl spec
end Sb
namespace Ix
def E:Env:={ ({ base with n0:=1,io:=[0] })with nt:=22,own:=[],keep:=fun k=>(tlook [(2,[0,3])] k).getD [],cut:=tlook [] }
def aF:=bd f226
theorem aU:Nk E aF:=nk
def L2(a:List Int)(b:Nat)(c:Nat) d:=nU E f226 aF 2 [(A.any,some { e:=(22:Nat),cont:=oH.ints u64 a }),(A.v (V.one (L.view 0 b c)),none),bJ d]
theorem start al ao an:aG E f226 aF [D.io gV u64 al ao an]=Ix.L2 al ao an (an:Int):=eJ aU
theorem lE a b c d:L2 a b c d=aC (decide (0<d)) (if 0<=i64.wrap (d-1)/\i64.wrap (d-1)<(c:Int)then aC (a.getD (b+(i64.wrap (d-1)).toNat) 0==(0:Int)) (Ix.L2 a b c (i64.wrap (d-1))) (if(0:Int)<=(0:Int)/\0<=d/\d<=d/\d<=(c:Int)then some [D.back 0 (b+0) (d.toNat-0),D.io 22 u64 a 0 0]else none)else none) (if(0:Int)<=(0:Int)/\0<=d/\d<=d/\d<=(c:Int)then some [D.back 0 (b+0) (d.toNat-0),D.io 22 u64 a 0 0]else none):=lJ aU
def sp(x:List Int×Nat×Nat):Prop×List D:=(M6.bM x.1/\x.2.1=0/\x.2.2=x.1.length/\x.1.length<=1099511627776,[.back 0 0 (M6.dg (M6.val x.1)).length,.io gV .u64 x.1 0 0])
theorem L{xs:List Int}(hd:M6.bM xs)(hl:xs.length<=4398046511104):∀n:Nat,n<=xs.length->L2 xs 0 xs.length n=some [.back 0 0 (M6.dg (M6.val (xs.take n))).length,.io gV .u64 xs 0 0]
 |0,h=>by
  rw[lE,aM,aR];simp[M6.val,M6.cL]
 |n+1,h=>by
  rw[lE];have e:i64.wrap (((n+1:Nat):Int)-1)=(n:Int):=by rw[wrap_i64];omega
  rw[e,aO,aR,cCJ,bYP]
  by_cases hz:xs.getD n 0=0
  ·rw[dU hz,L hd hl n (by omega),M6.mW (by omega),hz];simp
  ·rw[cP hz,aR,cCJ];have:M6.cO (xs.take (n+1)):=M6.Bb (hd.take _) fun d hg=>by
    rw[M6.getLast_take (by omega)]at hg;cases hg;exact hz
   have hlen:(xs.take (n+1)).length=n+1:=by rw[cBD];omega
   rw[<-this,hlen];rfl
theorem spec(x:List Int×Nat×Nat)(h:(sp x).1):aG E f226 aF [(Ek gV .u64).put x]=some (sp x).2/\∃rs oR,(sp x).2=rs ++ [.io gV .u64 oR 0 0]/\oR.length=x.1.length:=by
 obtain⟨xl,xo,xn⟩:=x;obtain⟨hd,ho,hn,hl⟩:=h;simp only at hd ho hn hl;subst ho;subst hn;refine⟨(start xl 0 xl.length).trans ?_,[_],xl,rfl,rfl⟩;rw[L hd (by omega) xl.length (bYN _),cFF];rfl
def aJ:dO:=orc1 (Ek gV .u64) sp
theorem fnok:nS prog E 226 f226 aF:=wK qP mixed (lT _ rfl aD (oD)) func226 rfl rfl rfl rfl rfl
theorem ok:sG prog base.glob 226 aJ:=fnok.oV rfl spec
end Ix
namespace Ow
def E:Env:={ ({ base with C:=rW [(225,Sb.aJ),(226,Ix.aJ)] (callsOf []),ioF:=Mw [(225,Sb.aJ),(226,Ix.aJ)] })with nt:=18,own:=[17],keep:=fun k=>(tlook [] k).getD [],cut:=tlook [] }
def aF:=bd f199
theorem aU:Nk E aF:=nk
theorem start a b:aG E f199 aF [D.s (ints u64 a),D.s (ints u64 b)]=letI F:=(a.length:Int);letI G:=F+(b.length:Int);letI C:=i64.wrap G;letI A:=cAQ C.toNat (0:Int);letI B:=M6.oP A.length (M6.val a*M6.val b);if 0<=i64.wrap G/\i64.wrap G<=i64.wrap G/\i64.wrap G<=8796093022208 then aN (M6.bM A/\(0:Nat)=(0:Nat)/\C.toNat=A.length/\M6.cO a/\M6.cO b/\A.length=a.length+b.length/\A.length<=274877906944/\M6.val A=0/\pA.less (a.length+b.length)) (aN (M6.bM B/\(0:Nat)=(0:Nat)/\C.toNat=B.length/\B.length<=1099511627776) (some [D.own 22 u64 (cEG (M6.dg (M6.val B)).length B)]))else none:=eJ aU
theorem eval{a b:List Int}(ha:M6.cO a)(hb:M6.cO b)(hN:a.length+b.length<=274877906944)(hc:pA.less (a.length+b.length)):aG E f199 aF [(pI .u64).put a,(pI .u64).put b]=some [.own gV .u64 (M6.dg (M6.val a*M6.val b))]:=by
 refine(start a b).trans ?_;have w:i64.wrap ((a.length:Int)+(b.length:Int))=((a.length+b.length:Nat):Int):=by rw[wrap_i64];omega
 have bFD:M6.val a*M6.val b<18446744073709551616^(a.length+b.length):=by rw[cDP];exact cGW (M6.cR ha.iA) (M6.cR hb.iA)
 rw[w,aR];simp only[cCJ,cIX];rw[gP ⟨M6.gU _,by trivial,by trivial,ha,hb,by trivial,hN,M6.iD _,hc⟩,gP ⟨M6.mA,by trivial,(M6.iG bFD).symm,by rw[M6.iG bFD];omega⟩,M6.lB,M6.aMR]
theorem fnok:tJ prog E 199 f199 aF:=Yb qP mixed (mU _ _ rfl rfl (nN Sb.ok (nN Ix.ok wY)) aD (oD)) func199 rfl rfl rfl
theorem all(n:Nat)(hn:n<=274877906944):pA.less (n+1):=by
 induction n with
 |zero =>
  intro a b ha hb hl;refine fn_contract fnok.ty fnok.calls fnok.mix fnok.fnc fnok.body fnok.nt fnok.io (by exact cAL rfl) (eval ha hb (by omega) fun c d _ _ h=>by omega)
 |succ n ih =>
  intro a b ha hb hl;have ih:=ih (by omega);refine fn_contract fnok.ty fnok.calls fnok.mix fnok.fnc fnok.body fnok.nt fnok.io (by exact cAL rfl) (eval ha hb (by omega) fun c d hc hd h=>ih c d hc hd (by omega))
def sp(a b:List Int):Prop×List D:=(M6.cO a/\M6.cO b/\a.length+b.length<=274877906944,[.own gV .u64 (M6.dg (M6.val a*M6.val b))])
theorem spec:fF E f199 aF (pI .u64) (pI .u64) sp:=by
 rintro a b ⟨ha,hb,hN⟩;exact eval ha hb hN fun c d hc hd h=>all (a.length+b.length) hN c d hc hd (by omega)
def aJ:dO:=orc2 (pI .u64) (pI .u64) sp
theorem ok:nR prog base.glob 199 aJ:=fnok.jZ rfl spec
end Ow
namespace aOJ
def E:=mE [(167,iC.aJ),(199,Ow.aJ),(198,pA.aJ)] 20 [17] [] []
def aF:=bd f154
theorem aU:Nk E aF:=nk
theorem start a b:aG E f154 aF [D.s (ints u64 a),D.s (ints u64 b)]=letI A:=some [D.s (sc (slice none 0 0)),D.s (sc (int i64 2))];aN (a.length<=1099511627776) (aC (!iC.qR a) A (aN (b.length<=1099511627776) (aC (!iC.qR b) A (aN (M6.cO a/\M6.cO b/\a.length+b.length<=274877906944) (aB (M6.dg (M6.val a*M6.val b)) fun c=>aN True (aB (bif pA.Lr c then c else []) fun d=>aB (bif pA.Lr c then(0:Int)else(5:Int)) fun e=>some [D.s (ints u64 d),D.s (sc (int i64 e))])))))):=eJ aU
def sp(a b:List Int):Prop×List D:=(M6.cO a/\M6.cO b/\a.length<=8192/\b.length<=8192,[.s (.ints .u64 (bif dP.oQ (M6.val a*M6.val b)then M6.dg (M6.val a*M6.val b)else [])),.s (.sc (.int .i64 (bif dP.oQ (M6.val a*M6.val b)then 0 else 5)))])
theorem spec:fF E f154 aF (pI .u64) (pI .u64) sp:=by
 rintro a b ⟨ha,hb,h1,h2⟩;refine(start a b).trans ?_;simp only[aE];rw[gP,gP,iC.pP ha h1,iC.pP hb h2,cAN,bF,bF,gP ⟨ha,hb,by omega⟩,gP trivial];rfl
def aJ:dO:=orc2 (pI .u64) (pI .u64) sp
theorem ok:OK 154 aJ:=(eI E aF (aA iC.ok (aA Ow.ok (aA pA.ok aD))) func154).jZ rfl spec
end aOJ
namespace aID
def E:=mE [(112,gF.aJ),(154,aOJ.aJ),(123,Ci.aJ)] 35 [32] [(3,[2,3,4])] [3]
def aF:=bd f99
theorem aU:Nk E aF:=nk
def J3 a b c d e:=lP E f99 aF 3 [bK 0 27 [bC a,eR b],bK 1 27 [bC c,eR d],bK 2 27 [bC e,sc (slice none 0 0)]]
theorem start a b c d:aG E f99 aF [D.agg [sc (bool a),ints u64 b],D.agg [sc (bool c),ints u64 d]]=letI A:=some [D.agg [sc (bool false),sc (slice none 0 0)],D.s (sc (int i64 2))];aN (b.length<=1099511627776) (aC (!gF.pW (a,b)) A (aN (d.length<=1099511627776) (aC (!gF.pW (c,d)) A (aID.J3 a b c d false)))):=eJ aU
theorem fH a b c d e:J3 a b c d e=letI F:=M6.val b*M6.val d;letI B:=bif dP.oQ F then(0:Int)else(5:Int);letI A:=bif dP.oQ F then M6.dg F else [];letI C:=bif B==0 then zs (a !=c) (M6.val A)else(0:Int);aN (M6.cO b/\M6.cO d/\b.length<=8192/\d.length<=8192) (aN (M6.cO A/\A.length<=1099511627776) (some [D.agg [sc (bool (isNeg C)),ints u64 (M6.dg C.natAbs)],D.s (sc (int i64 B))])):=cJ aU
def sp(x y:Bool×List Int):Prop×List D:=(jA x/\jA y,wE (fit (wv x*wv y).natAbs) (wv x*wv y))
theorem spec:fF E f99 aF qQ qQ sp:=by
 rintro x y ⟨hx,hy⟩;refine(start x.1 x.2 y.1 y.2).trans ?_;have l1:=hx.len;have l2:=hy.len;have f1:=gF.mS hx;have f2:=gF.mS hy;have hs:wv x*wv y=zs (x.1 !=y.1) (M6.val x.2*M6.val y.2):=by
  unfold wv zs;cases x.1 <;> cases y.1 <;> simp[Int.neg_mul,cHI]
 rw[gP,f1,cAN,bF,gP,f2,cAN,bF,fH,gP ⟨hx.1,hy.1,l1,l2⟩,gP (Kq (fun h=>by rw[show dP.oQ _=_ from Cx]at h;exact zH h)),Kd,show dP.oQ _=_ from Cx];unfold sp
 try dsimp only
 rw[hs,nM]
def aJ:dO:=orc2 qQ qQ sp
theorem ok:OK 99 aJ:=(eI E aF (aA gF.ok (aA aOJ.ok (aA Ci.ok aD))) func99).jZ rfl spec
end aID
namespace bZ
def E:=mE [(61,oU.aJ),(99,aID.aJ),(63,mH.aJ)] 38 [22,35] [(3,[2,3,4])] [3]
def aF:=bd f41
theorem aU:Nk E aF:=nk
def J3 a b c d e f g h:=lP E f41 aF 3 [bK 0 29 [bC a,eR b,cV c],bK 1 29 [bC d,eR e,cV f],bK 2 29 [bC g,sc (slice none 0 0),cV h]]
theorem start a b c d e f:aG E f41 aF [D.agg [sc (bool a),ints u64 b,sc (int i64 c)],D.agg [sc (bool d),ints u64 e,sc (int i64 f)]]=aN (aQ (a,b,c)) (aN (aQ (d,e,f)) (bZ.J3 a b c d e f false 0)):=eJ aU
theorem fH a b c d e f g h:J3 a b c d e f g h=letI F:=wv (a,b)*wv (d,e);letI C:=i64.wrap (c+f);letI B:=bif fit F.natAbs then wv (a,b)*wv (d,e)else(0:Int);aN (jA (a,b)/\jA (d,e)) (aB (isNeg B) fun i=>aB (M6.dg B.natAbs) fun j=>letI A:=bif jR (wv (i,j)) C then bW (wv (i,j)) C else((0:Int),(0:Int));aB (bif fit F.natAbs then(0:Int)else(5:Int)) fun k=>aC (k !=0) (some [D.agg [sc (bool false),sc (slice none 0 0),sc (int i64 0)],D.s (sc (int i64 k))]) (aN (jA (i,j)/\(-9223372036854775808:Int)<=i64.wrap (c+f)/\i64.wrap (c+f)<9223372036854775808) (aB (isNeg A.fst) fun l=>aB (M6.dg A.fst.natAbs) fun m=>aB A.snd fun n=>aB (bif jR (wv (i,j)) C then(0:Int)else(5:Int)) fun o=>some [D.agg [sc (bool l),ints u64 m,sc (int i64 n)],D.s (sc (int i64 o))]))):=cJ aU
def jJ(p q:Int×Int):Bool:=fit (p.1*q.1).natAbs&&jR (p.1*q.1) (p.2+q.2)
def cX(p q:Int×Int):Int×Int:=bW (p.1*q.1) (p.2+q.2)
def sp(x y:fB):Prop×List D:=(aQ x/\aQ y,dE (jJ (dv x) (dv y)) (cX (dv x) (dv y)))
theorem spec:Om E f41 aF jQ jQ sp:=by
 rintro x y ⟨hx,hy⟩;have ex:=hx.2.1;have ey:=hy.2.1;have s:=start x.1 x.2.1 x.2.2 y.1 y.2.1 y.2.2;have w:i64.wrap (x.2.2+y.2.2)=x.2.2+y.2.2:=wrap_i64;rw[gP hx,gP hy,fH]at s;simp only[aE]at s;have hz:wv (x.1,x.2.1)*wv (y.1,y.2.1)=(dv x).1*(dv y).1:=rfl;rw[gP ⟨hx.Ln,hy.Ln⟩,hz]at s;have h2:x.2.2+y.2.2=(dv x).2+(dv y).2:=rfl;unfold sp jJ cX
 try dsimp only
 cases hf:fit ((dv x).1*(dv y).1).natAbs with
 |false =>
  rw[hf]at s;rw[cDW];refine⟨_,s,mH.uH _⟩
 |true =>
  rw[hf,cond_true,cond_true,gA rfl,w,gP ⟨iF (zH hf),by omega,by omega⟩,tQ,h2]at s;rw[cBO];exact⟨_,s,iZ.refl _⟩
def aJ:dO:=orc2 jQ jQ sp
theorem ok:OK 41 aJ:=(eI E aF (aA oU.ok (aA aID.ok (aA mH.ok aD))) func41).aIW rfl spec
end bZ
namespace Cl
def E:=mE [] 9 [] [] []
def aF:=bd f164
theorem aU:Nk E aF:=nk
theorem start a:aG E f164 aF [D.s (sc (int i64 a))]=aC (decide (1<=a)) (some [D.s (sc (bool (decide (a<=70000))))]) (some [D.s (sc (bool false))]):=eJ aU
def sp(p:Int):Prop×List D:=(True,[.s (.sc (.bool (decide (1<=p)&&decide (p<=70000))))])
theorem spec:iH E f164 aF (pN .i64) sp:=by
 intro p h;refine(start p).trans ?_;unfold sp aC;cases (decide ((1:Int)<=p)) <;> cases (decide (p<=(70000:Int))) <;> rfl
def aJ:dO:=orc1 (pN .i64) sp
theorem ok:OK 164 aJ:=(eI E aF aD func164).oV rfl spec
end Cl
namespace aOK
def E:=mE [(174,Ce.aJ)] 18 [] [] []
def aF:=bd f205
theorem aU:Nk E aF:=nk
theorem start a:aG E f205 aF [D.s (ints u64 a)]=letI B:=M6.dg (M6.val a);letI A:=(B.length:Int);aN (M6.bM a/\a.length<=1099511627776) (aC (decide (8192<A)) (some [D.s (sc (slice none 0 0)),D.s (sc (int i64 5))]) (if 0<=A/\A<=A/\A<=(8796093022208:Int)then some [D.own 22 u64 (cEG A.toNat B ++ cEH (min B.length A.toNat) (cAQ A.toNat (0:Int))),D.s (sc (int i64 0))]else none)):=eJ aU
def sp(a:List Int):Prop×List D:=(M6.bM a/\a.length<=1099511627776,[.s (.ints .u64 (bif dP.oQ (M6.val a)then M6.dg (M6.val a)else [])),.s (.sc (.int .i64 (bif dP.oQ (M6.val a)then 0 else 5)))])
theorem spec:aTO E f205 aF (pI .u64) sp:=by
 intro a h;have hl:=M6.lZ h.1;have h2:=h.2;have e:=(start a).trans (gP h);unfold sp dP.oQ;simp only;generalize M6.dg (M6.val a)=d at *
 by_cases hc:d.length<=8192
 ·rw[aM,if_pos ⟨by omega,by omega,by omega⟩]at e;rw[dqT hc];refine⟨_,e,.cons ?_ (iZ.refl _)⟩;simp only[cCJ,cFF,Nat.min_self,cond_true];have:cEH d.length (cAQ d.length (0:Int))=[]:=List.drop_eq_nil_of_le (by simp);rw[this,cEK];exact Df.own _ _ _
 ·rw[aO]at e;rw[dqF hc];exact⟨_,e,.cons (Df.nil _) (iZ.refl _)⟩
def aJ:dO:=orc1 (pI .u64) sp
theorem ok:OK 205 aJ:=(eI E aF (aA Ce.ok aD) func205).bGL rfl spec
end aOK
namespace aOM
def E:=mE [(176,Hh.aJ)] 6 [] [] []
def aF:=bd f207
theorem aU:Nk E aF:=nk
theorem start a:aG E f207 aF [D.s (sc (int u64 a))]=aN (0<=a/\a<18446744073709551616) (some [D.s (sc (int i64 (i64.wrap ((64:Int)-(↑(bl a.toNat):Int)))))]):=eJ aU
def sp(a:Int):Prop×List D:=(0<=a/\a<18446744073709551616,[.s (.sc (.int .i64 (64-(bl a.toNat:Int))))])
theorem spec:iH E f207 aF (pN .u64) sp:=by
 intro a h;refine(start a).trans ((gP h).trans ?_);obtain⟨h1,h2⟩:=h;have:bl a.toNat<=64:=eF.2 (by omega);rw[wrap_i64];rfl
def aJ:dO:=orc1 (pN .u64) sp
theorem ok:OK 207 aJ:=(eI E aF (aA Hh.ok aD) func207).oV rfl spec
end aOM
namespace uC
def E:=mE [(207,aOM.aJ)] 135 [] [(24,[2,8,9,10,14,15,16,17,18]),(17,[2,8,9,10,11,13,14,15,16]),(3,[0,1,2]),(5,[0,1,2]),(18,[2,8,9,10,11,13,14,15,16]),(21,[2,8,9,10,11,13,14,15]),(25,[2,8,9,10,14,15,16,17,18]),(28,[2,8,14,15,17,18])] [3,5,18,21,25,28]
def aF:=bd f232
theorem aU:Nk E aF:=nk
def J3 a b c:=lP E f232 aF 3 [dR a,dR b,dR c]
def J5 a b c:=lP E f232 aF 5 [dR a,dR b,dR c]
def aVS a b c d e f g h i:=nU E f232 aF 17 [dR a,dR b,dR c,dR d,dR e,dR f,dR g,dR h,dR i]
def bNJ a b c d e f g h i:=lP E f232 aF 18 [dR a,dR b,dR c,dR d,dR e,dR f,dR g,dR h,dR i]
def bGI a b c d e f g h:=lP E f232 aF 21 [dR a,dR b,dR c,dR d,dR e,dR f,dR g,dR h]
def bGE a b c d e f g h i:=nU E f232 aF 24 [dR a,dR b,dR c,dR d,dR e,dR f,dR g,dR h,dR i]
def bNI a b c d e f g h i:=lP E f232 aF 25 [dR a,dR b,dR c,dR d,dR e,dR f,dR g,dR h,dR i]
def bGH a b c d e f:=lP E f232 aF 28 [dR a,dR b,dR c,dR d,dR e,dR f]
theorem start a b c:aG E f232 aF [D.s (sc (int u64 a)),D.s (sc (int u64 b)),D.s (sc (int u64 c))]=aC (c==0) none (uC.J3 a b c):=eJ aU
theorem fH a b c:J3 a b c=aC (decide (c<=a)) none (uC.J5 a b c):=cJ aU
theorem aOX a b c:J5 a b c=letI C:=(↑(bl c.toNat):Int);letI H:=u64.wrap ((64:Int)-C);letI B:=b/(↑((2:Nat)^min (u64.wrap ((64:Int)-u64.wrap ((64:Int)-C))).toNat 64):Int);letI A:=(↑((2:Nat)^min H.toNat 64):Int);letI G:=gR BinOp.or u64 (u64.wrap (a*A)) B;letI F:=u64.wrap (c*A)/4294967296;aC (a==0) (if c=0 then none else if c=0 then none else some [D.s (sc (int u64 (u64.wrap (b.tdiv c)))),D.s (sc (int u64 (b.tmod c)))]) (aN (0<=c/\c<18446744073709551616) (if u64.wrap ((64:Int)-C)<0 then none else if u64.wrap ((64:Int)-C)<0 then none else if u64.wrap ((64:Int)-u64.wrap ((64:Int)-C))<0 then none else if u64.wrap ((64:Int)-C)<0 then none else if u64.wrap (c*A)/4294967296=(0:Int)then none else uC.aVS (u64.wrap (c*A)) H F (gR BinOp.and u64 (u64.wrap (c*A)) 4294967295) G (u64.wrap (b*A)/4294967296) (gR BinOp.and u64 (u64.wrap (b*A)) 4294967295) (u64.wrap (G.tdiv F)) (u64.wrap (gR BinOp.or u64 (u64.wrap (a*A)) B-u64.wrap (u64.wrap (G.tdiv F)*F))))):=cJ aU
theorem bAM a b c d e f g h i:aVS a b c d e f g h i=letI A:=uC.bNJ a b c d e f g h i;aC (decide (4294967296<=h)) A (aC (decide (u64.wrap (u64.wrap ((4294967296:Int)*i)+f)<u64.wrap (h*d))) A (uC.bGI a b c d e f g h)):=lJ aU
theorem bAR a b c d e f g h i:bNJ a b c d e f g h i=aC (decide (4294967296<=u64.wrap (i+c))) (uC.bGI a b c d e f g (u64.wrap (h-1))) (uC.aVS a b c d e f g (u64.wrap (h-1)) (u64.wrap (i+c))):=cJ aU
theorem bAQ a b c d e f g h:bGI a b c d e f g h=letI A:=u64.wrap (u64.wrap (e*4294967296)+f)-u64.wrap (h*a);letI B:=u64.wrap A;if c=0 then none else uC.bGE a b c d g h (u64.wrap (u64.wrap A-u64.wrap (u64.wrap (B.tdiv c)*c))) B (u64.wrap (B.tdiv c)):=cJ aU
theorem bAL a b c d e f g h i:bGE a b c d e f g h i=letI A:=uC.bNI a b c d e f g h i;aC (decide (4294967296<=i)) A (aC (decide (u64.wrap (u64.wrap ((4294967296:Int)*g)+e)<u64.wrap (i*d))) A (uC.bGH a b e f h i)):=lJ aU
theorem bAP a b c d e f g h i:bNI a b c d e f g h i=aC (decide (4294967296<=u64.wrap (g+c))) (uC.bGH a b e f h (u64.wrap (i-1))) (uC.bGE a b c d e f (u64.wrap (g+c)) h (u64.wrap (i-1))):=cJ aU
theorem bAO a b c d e f:bGH a b c d e f=if b<0 then none else some [D.s (sc (int u64 (u64.wrap (u64.wrap (d*4294967296)+f)))),D.s (sc (int u64 (u64.wrap (u64.wrap (u64.wrap (e*4294967296)+c)-u64.wrap (f*a))/(↑((2:Nat)^min b.toNat 64):Int))))]:=cJ aU
theorem aIV{n:Nat}(h:n<18446744073709551616):u64.wrap (n:Int)=(n:Int):=wrap_u64 (cIA _) (Int.ofNat_lt.2 h)
theorem loop{y1 y0 u u1:Nat}(aLK:2147483648<=y1)(aXP:y1<4294967296)(aLL:y0<4294967296)(hu:u<y1*4294967296+y0)(aIO:u1<4294967296)
  (Lf Jf:Int->Int->Option (List D)) (Kf:Int->Option (List D))
  (hL:∀q r,Lf q r=aC (decide (4294967296<=q)) (Jf q r) (aC (decide (u64.wrap (u64.wrap (4294967296*r)+(u1:Int))<u64.wrap (q*(y0:Int)))) (Jf q r) (Kf q)))
  (hJ:∀q r,Jf q r=aC (decide (4294967296<=u64.wrap (r+(y1:Int)))) (Kf (u64.wrap (q-1))) (Lf (u64.wrap (q-1)) (u64.wrap (r+(y1:Int))))) :
  ∀(q r:Nat),u=q*y1+r->r<4294967296->u*4294967296+u1<(q+1)*(y1*4294967296+y0) ->
   Lf (q:Int) (r:Int)=Kf (((u*4294967296+u1)/(y1*4294967296+y0):Nat):Int):=by
 have hy:0<y1*4294967296+y0:=by omega
 intro q
 induction q with
 |zero =>
  intro r h1 h2 h3;have h0:(u*4294967296+u1)/(y1*4294967296+y0)=0:=cEI (by omega);rw[hL,aM,h0,show(((0:Nat):Int)*(y0:Int))=0 from by omega,wrap_u64 (n:=0),aM ?_];rw[wrap_u64 (n:=4294967296*(r:Int)),wrap_u64];omega
 |succ q ih =>
  intro r h1 h2 h3;have hq:q<=4294967296:=by
   refine cDK fun hc=>?_
   have:4294967297*y1<=q*y1:=cAA _ hc;rw[bZH]at h1;omega
  have w1:u64.wrap (((q+1:Nat):Int)-1)=(q:Int):=by rw[wrap_u64];omega
  have w2:u64.wrap ((r:Int)+(y1:Int))=((r+y1:Nat):Int):=by rw[wrap_u64];omega
  have hle:(q+1)*y0<=4294967297*4294967295:=cIS (by omega) (by omega);have w3:u64.wrap (((q+1:Nat):Int)*(y0:Int))=(((q+1)*y0:Nat):Int):=by
   rw[<-cEW];exact wrap_u64
  have w4:u64.wrap (u64.wrap (4294967296*(r:Int))+(u1:Int))=((4294967296*r+u1:Nat):Int):=by
   rw[wrap_u64 (n:=4294967296*(r:Int)),wrap_u64];omega
  have ex:(q+1)*(y1*4294967296+y0)=(q*y1+y1)*4294967296+(q+1)*y0:=by
   rw[cDN,<-cDQ,bZH q 1 y1,cCQ]
  have bWY:q*(y1*4294967296+y0)=(q*y1)*4294967296+q*y0:=by
   rw[cDN,<-cDQ]
  have aBG:u=q*y1+(r+y1):=by rw[bZH]at h1;omega
  have aHC:u*4294967296+u1<(q+1)*(y1*4294967296+y0)->Jf ((q+1:Nat):Int) r=Kf (((u*4294967296+u1)/(y1*4294967296+y0):Nat):Int):=by
   intro hT;rw[hJ,w1,w2]
   by_cases hc:4294967296<=r+y1
   ·have aPQ:q*y0<=4294967296*4294967295:=cIS hq (by omega);have:(u*4294967296+u1)/(y1*4294967296+y0)=q:=by
     refine cIZ ?_ hT;rw[bWY,aBG];omega
    rw[aO,this]
   ·rw[aM];exact ih (r+y1) aBG (by omega) hT
  rw[hL,w3,w4]
  by_cases hb:4294967296<=q+1
  ·rw[aO];apply aHC;have:4294967296*(y1*4294967296+y0)<=(q+1)*(y1*4294967296+y0):=cAA _ hb;omega
  ·rw[aM]
   by_cases hc:4294967296*r+u1<(q+1)*y0
   ·rw[aO];apply aHC;rw[ex];omega
   ·have:(u*4294967296+u1)/(y1*4294967296+y0)=q+1:=by
     refine cIZ ?_ h3;rw[ex,aBG];rw[bZH (q*y1)];omega
    rw[aM,this]
theorem bCG(P b Q:Int):u64.wrap (u64.wrap (u64.wrap P+b)-u64.wrap Q)=u64.wrap (P+b-Q):=by
 rw[gG,gG,gG,gG,gG];omega
theorem bDA{u u1 y:Nat}(hy:0<y)(bJH:y<=18446744073709551616):u64.wrap ((u:Int)*4294967296+(u1:Int)-(((u*4294967296+u1)/y:Nat):Int)*(y:Int))=(((u*4294967296+u1)%y:Nat):Int):=by
 have h:=cDT (u*4294967296+u1) y;have hm:=cAV (u*4294967296+u1) hy;rw[<-cEW,cDM _ y];generalize y*((u*4294967296+u1)/y)=z at *;generalize (u*4294967296+u1)%y=m at *;rw[wrap_u64];omega
theorem bDC{y1 y0 u u1 u0 s:Nat}(aLK:2147483648<=y1)(aXP:y1<4294967296)(aLL:y0<4294967296)(hu:u<y1*4294967296+y0)(aIO:u1<4294967296)(aUZ:u0<4294967296)(hs:s<=63) :
  aVS ((y1*4294967296+y0:Nat):Int) s y1 y0 u u1 u0 ((u/y1:Nat):Int) ((u%y1:Nat):Int) =
   some [D.s (.sc (.int .u64 (((u*18446744073709551616+(u1*4294967296+u0))/(y1*4294967296+y0):Nat):Int))),D.s (.sc (.int .u64 (((u*18446744073709551616+(u1*4294967296+u0))%(y1*4294967296+y0)/2^s:Nat):Int)))]:=by
 have hy:0<y1*4294967296+y0:=by omega
 have aJZ:∀v:Nat,∀w:Nat,w<4294967296->v*4294967296+w<(v/y1+1)*(y1*4294967296+y0):=by
  intro v w hw;have h:=cDT v y1;have hm:=cAV v (show 0<y1 by omega);have:(v/y1+1)*(y1*4294967296+y0)=(y1*(v/y1)+y1)*4294967296+(v/y1+1)*y0:=by
   rw[cDN,<-cDQ,bZH,cCQ,cDM y1]
  rw[this];omega
 have dm:∀v:Nat,v=v/y1*y1+v%y1:=by
  intro v;rw[cDM];exact(cDT v y1).symm
 obtain⟨Y,hY⟩:∃Y:Int,Y=((y1*4294967296+y0:Nat):Int):=⟨_,rfl⟩;rw[<-hY];have l1:aVS Y s y1 y0 u u1 u0 ((u/y1:Nat):Int) ((u%y1:Nat):Int)=bGI Y s y1 y0 u u1 u0 (((u*4294967296+u1)/(y1*4294967296+y0):Nat):Int) :=
  loop aLK aXP aLL hu aIO (aVS Y s y1 y0 u u1 u0) (bNJ Y s y1 y0 u u1 u0) (bGI Y s y1 y0 u u1 u0) (fun q r=>bAM ..) (fun q r=>bAR ..) (u/y1) (u%y1) (dm u) (by have:=cAV u (show 0<y1 by omega);omega) (aJZ u u1 aIO)
 refine l1.trans ?_;rw[bAQ,bI,bCG];have m1:=bDA (u:=u) (u1:=u1) hy (by omega);rw[<-hY]at m1;rw[m1];obtain⟨q1,Tx⟩:∃q1,(u*4294967296+u1)/(y1*4294967296+y0)=q1:=⟨_,rfl⟩;rw[Tx];have hv:=cAV (u*4294967296+u1) hy;have hT:=cDT (u*4294967296+u1) (y1*4294967296+y0);rw[Tx]at hT;obtain⟨v,bTH⟩:∃v,(u*4294967296+u1)%(y1*4294967296+y0)=v:=⟨_,rfl⟩;rw[bTH]at hv hT ⊢;have hd:v/y1<=v:=cGV _ _;have w5:u64.wrap ((v:Int).tdiv (y1:Int))=((v/y1:Nat):Int):=by
  rw[cFZ (by omega),<-cEA];exact aIV (by omega)
 have w6:u64.wrap ((v:Int)-u64.wrap (((v/y1:Nat):Int)*(y1:Int)))=((v%y1:Nat):Int):=by
  have:=dm v;have hm:=cAV v (show 0<y1 by omega);rw[<-cEW];generalize v/y1*y1=z at *;generalize v%y1=m at *;rw[wrap_u64 (n:=(z:Int)),wrap_u64];omega
 have l2:bGE Y s y1 y0 u0 q1 ((v%y1:Nat):Int) v ((v/y1:Nat):Int)=bGH Y s u0 q1 v (((v*4294967296+u0)/(y1*4294967296+y0):Nat):Int) :=
  loop aLK aXP aLL hv aUZ (fun q r=>bGE Y s y1 y0 u0 q1 r v q) (fun q r=>bNI Y s y1 y0 u0 q1 r v q) (bGH Y s u0 q1 v) (fun q r=>bAL ..) (fun q r=>bAP ..) (v/y1) (v%y1) (dm v) (by have:=cAV v (show 0<y1 by omega);omega) (aJZ v u0 aUZ)
 rw[w5,w6,l2];rw[bAO,bI,bCG];have m2:=bDA (u:=v) (u1:=u0) hy (by omega);rw[<-hY]at m2;rw[m2];have hw:=cAV (v*4294967296+u0) hy;have hT0:=cDT (v*4294967296+u0) (y1*4294967296+y0);have aPQ:(v*4294967296+u0)/(y1*4294967296+y0)<4294967296:=cEF (by omega);have hq1':q1<4294967296:=by rw[<-Tx];exact cEF (by omega)
 obtain⟨q0,bTX⟩:∃q0,(v*4294967296+u0)/(y1*4294967296+y0)=q0:=⟨_,rfl⟩;obtain⟨w,bTF⟩:∃w,(v*4294967296+u0)%(y1*4294967296+y0)=w:=⟨_,rfl⟩;rw[bTX]at hT0 aPQ ⊢;rw[bTF]at hT0 hw ⊢;have key:u*18446744073709551616+(u1*4294967296+u0)=(y1*4294967296+y0)*(q1*4294967296+q0)+w:=by
  rw[cDN,<-cDQ];generalize (y1*4294967296+y0)*q1=A at *;generalize (y1*4294967296+y0)*q0=C at *;omega
 rw[key,cHZ hy,cEI hw,cKH,cIT hw,bZO,cCJ,show min s 64=s from by omega];have w7:u64.wrap (u64.wrap ((q1:Int)*4294967296)+(q0:Int))=((q1*4294967296+q0:Nat):Int):=by
  rw[wrap_u64 (n:=(q1:Int)*4294967296),wrap_u64];omega
 rw[w7,<-cEA]
def sp(a b c:Int):Prop×List D:=((0<=a/\a<c)/\(0<=b/\b<18446744073709551616)/\c<18446744073709551616,[.s (.sc (.int .u64 (((a.toNat*18446744073709551616+b.toNat)/c.toNat:Nat):Int))),.s (.sc (.int .u64 (((a.toNat*18446744073709551616+b.toNat)%c.toNat:Nat):Int)))])
theorem spec:uQ E f232 aF (pN .u64) (pN .u64) (pN .u64) sp:=by
 rintro a b c ⟨⟨h1,h2⟩,⟨h3,h4⟩,h5⟩;refine(start a b c).trans ?_;obtain⟨x,rfl⟩:=cDO h1;obtain⟨l,rfl⟩:=cDO h3;obtain⟨y,rfl⟩:=cDO (show 0<=c by omega);show _=some [D.s (.sc (.int .u64 ((((x:Int).toNat*18446744073709551616+(l:Int).toNat)/(y:Int).toNat:Nat):Int))),D.s (.sc (.int .u64 ((((x:Int).toNat*18446744073709551616+(l:Int).toNat)%(y:Int).toNat:Nat):Int)))];rw[cCJ,cCJ,cCJ,cP,fH,aM,aOX]
 by_cases hx:x=0
 ·subst hx;have hd:l/y<=l:=cGV _ _;rw[dU (a:=((0:Nat):Int)) (b:=0) rfl,bI,bI,cFZ (by omega),cGA (by omega),<-cEA,<-cFC,aIV (by omega),cGE,bYP]
 ·have aLL:y≠0:=by omega
  have bLM:=mY aLL;have hb64:bl y<=64:=eF.2 (by omega);have Ai:=Rx aLL;have jM:=wX y;obtain⟨s,hs⟩:∃s,s=64-bl y:=⟨_,rfl⟩;have bJZ:s<=63:=by omega
  have w1:u64.wrap (64-(bl y:Int))=(s:Int):=by rw[wrap_u64];omega
  have w2:u64.wrap (64-(s:Int))=((64-s:Nat):Int):=by rw[wrap_u64];omega
  have aHO:2^(64-s)*2^s=18446744073709551616:=by rw[<-cDP,show 64-s+s=64 from by omega]
  have bFJ:2^(bl y-1)*2^s=9223372036854775808:=by rw[<-cDP,show bl y-1+s=63 from by omega]
  have Ty:0<2^s:=cD;have hyp:y+1<=2^(64-s):=by rw[show 64-s=bl y from by omega];omega
  have bJG:(y+1)*2^s<=18446744073709551616:=by rw[<-aHO];exact cAA _ hyp
  have hyp2:9223372036854775808<=y*2^s:=by rw[<-bFJ];exact cAA _ Ai
  have bBC:(x+1)*2^s<=y*2^s:=cAA _ (by omega);rw[bZH,cCQ]at bJG bBC;have wy:u64.wrap ((y:Int)*((2^s:Nat):Int))=((y*2^s:Nat):Int):=by rw[<-cEW];exact wrap_u64
  have wx:u64.wrap ((x:Int)*((2^s:Nat):Int))=((x*2^s:Nat):Int):=by rw[<-cEW];exact wrap_u64
  have wl:u64.wrap ((l:Int)*((2^s:Nat):Int))=((l*2^s%18446744073709551616:Nat):Int):=by rw[<-cEW,gG];omega
  have Vv:l/2^(64-s)<2^s:=by
   apply cEF;rw[aHO];omega
  have aXU:=Hq l s (by omega);have bNM:gR .or .u64 ((x*2^s:Nat):Int) (((l/2^(64-s):Nat)):Int)=((x*2^s+l/2^(64-s):Nat):Int):=by
   have:=Te (n:=x) Vv;rw[aRC (by omega) (by omega) (by omega) (by omega),cCJ,cCJ,Nat.or_comm,cDM x,this,cEL]
  have bCH:∀z:Nat,z<18446744073709551616->gR .and .u64 (z:Int) 4294967295=((z%4294967296:Nat):Int):=by
   intro z hz;rw[kR (by omega) (by omega)];omega
  rw[cP,gP ⟨by omega,by omega⟩,cCJ,w1,w2,bI,bI,bI,bI,
   cCJ,cCJ,show min s 64=s from by omega,show min (64-s) 64=64-s from by omega,wy,wx,wl,<-cEA l,bNM]
  have hu:x*2^s+l/2^(64-s)<y*2^s:=by omega
  have hU:(x*18446744073709551616+l)*2^s=(x*2^s+l/2^(64-s))*18446744073709551616+l*2^s%18446744073709551616:=by
   rw[bZH,aXU,cJF];omega
  have bUJ:l*2^s%18446744073709551616<18446744073709551616:=cAV _ (by omega);have hdiv:(x*18446744073709551616+l)/y=((x*2^s+l/2^(64-s))*18446744073709551616+l*2^s%18446744073709551616)/(y*2^s):=by
   rw[<-hU,cHG _ _ Ty]
  have bEC:(x*18446744073709551616+l)%y=((x*2^s+l/2^(64-s))*18446744073709551616+l*2^s%18446744073709551616)%(y*2^s)/2^s:=by
   rw[<-hU,cHH,cIL _ Ty]
  rw[hdiv,bEC];clear hdiv bEC hU bNM wl wx wy aXU Vv bBC;generalize x*2^s+l/2^(64-s)=U at *;generalize y*2^s=Y at *;generalize l*2^s%18446744073709551616=V at *;have k:=bDC (y1:=Y/4294967296) (y0:=Y%4294967296) (u:=U) (u1:=V/4294967296) (u0:=V%4294967296) (s:=s) (by omega) (by omega) (by omega) (by omega) (by omega) (by omega) bJZ;rw[show Y/4294967296*4294967296+Y%4294967296=Y from by omega,show V/4294967296*4294967296+V%4294967296=V from by omega]at k;have bVW:(Y:Int)/4294967296=((Y/4294967296:Nat):Int):=by omega
  have bPS:(V:Int)/4294967296=((V/4294967296:Nat):Int):=by omega
  have hd:U/(Y/4294967296)<=U:=cGV _ _;have bBP:=cDT U (Y/4294967296);have q1:u64.wrap ((U:Int).tdiv ((Y/4294967296:Nat):Int))=((U/(Y/4294967296):Nat):Int):=by
   rw[cFZ (by omega),<-cEA];exact aIV (by omega)
  have r1:u64.wrap ((U:Int)-u64.wrap (((U/(Y/4294967296):Nat):Int)*((Y/4294967296:Nat):Int)))=((U%(Y/4294967296):Nat):Int):=by
   rw[<-cEW,cDM];generalize Y/4294967296*(U/(Y/4294967296))=z at *;generalize U%(Y/4294967296)=m at *;rw[wrap_u64 (n:=(z:Int)),wrap_u64];omega
  rw[bVW,bPS,bI,bCH _ (by omega),bCH _ bUJ,q1,r1];exact k
def aJ:dO:=orc3 (pN .u64) (pN .u64) (pN .u64) sp
theorem ok:OK 232 aJ:=(eI E aF (aA aOM.ok aD) func232).Dn rfl spec
end uC
namespace pD
def E:=mE [(167,iC.aJ),(171,dP.aJ),(232,uC.aJ)] 45 [34,40] [(8,[0,1,7,8,9])] []
def aF:=bd f206
theorem aU:Nk E aF:=nk
def L8 a b (c:Nat) (d:List Int) e f:=nU E f206 aF 8 [iY a,dR b,Dg 2 c 22 d,dR e,bJ f]
theorem start a b:aG E f206 aF [D.s (ints u64 a),D.s (sc (int u64 b))]=letI B:=sc (slice none 0 0);letI A:=(a.length:Int);aN (a.length<=1099511627776) (aC (!iC.qR a) (some [D.s B,D.s (sc (int u64 0)),D.s (sc (int i64 2))]) (aC (b==0) (some [D.s B,D.s (sc (int u64 0)),D.s (sc (int i64 4))]) (if 0<=A/\A<=A/\A<=(8796093022208:Int)then pD.L8 a b A.toNat (cAQ A.toNat (0:Int)) 0 (i64.wrap (A-(1:Int)))else none))):=eJ aU
theorem yM a b c d e f:L8 a b c d e f=letI A:=e.toNat*18446744073709551616+(a.getD f.toNat 0).toNat;aC (decide (0<=f)) (if 0<=f/\f<(a.length:Int)then aN ((0<=e/\e<b)/\(0<=a.getD f.toNat 0/\a.getD f.toNat 0<(18446744073709551616:Int))/\b<18446744073709551616) (if 0<=f/\f<(c:Int)then pD.L8 a b c (d.set f.toNat (↑(A/b.toNat):Int)) (↑(A%b.toNat):Int) (i64.wrap (f-1))else none)else none) (aN (M6.bM d/\d.length<=1099511627776) (some [D.s (ints u64 (bif dP.oQ (M6.val d)then M6.dg (M6.val d)else [])),D.s (sc (int u64 e)),D.s (sc (int i64 0))])):=lJ aU
theorem L{a:List Int}{b:Nat}(ha:M6.cO a)(hl:a.length<=8192)(hb0:0<b)(hb:b<18446744073709551616):∀(i:Nat) (Q:List Int),i+Q.length=a.length->M6.bM Q->M6.val Q=M6.val (a.drop i)/b ->
  L8 a b a.length (cAQ i 0 ++ Q) ((M6.val (a.drop i)%b:Nat):Int) ((i:Int)-1)=some [D.s (.ints .u64 (M6.dg (M6.val a/b))),D.s (.sc (.int .u64 ((M6.val a%b:Nat):Int))),D.s (.sc (.int .i64 0))]:=by
 intro i
 induction i with
 |zero =>
  intro Q hi hd hv;have Xm:dP.oQ (M6.val a/b)=true:=by
   refine dqT ?_;rw[cER]at hv;rw[<-hv];have:=M6.lZ hd;omega
  rw[cER]at hv ⊢;rw[List.replicate_zero,cCP,yM,aM,gP ⟨hd,by omega⟩,hv,Xm];rfl
 |succ i ih =>
  intro Q hi hd hv;have g:=ha.iA.get i;have hm:=cAV (M6.val (a.drop (i+1))) hb0;have bBP:=cDT (M6.val (a.drop (i+1))) b;have w:i64.wrap ((i:Int)-1)=(i:Int)-1:=by rw[wrap_i64]
  have hs:(cAQ i (0:Int) ++ 0 :: Q).set i ((((M6.val (a.drop (i+1))%b)*18446744073709551616+(a.getD i 0).toNat)/b:Nat):Int)=cAQ i 0 ++ (((((M6.val (a.drop (i+1))%b)*18446744073709551616+(a.getD i 0).toNat)/b:Nat):Int) :: Q):=Ht (by simp) _ _ _;have hN:M6.val (a.drop i)=b*(18446744073709551616*(M6.val (a.drop (i+1))/b))+((M6.val (a.drop (i+1))%b)*18446744073709551616+(a.getD i 0).toNat):=by
   rw[M6.gH,cGH];generalize b*(M6.val (a.drop (i+1))/b)=z at *;omega
  have hq:((M6.val (a.drop (i+1))%b)*18446744073709551616+(a.getD i 0).toNat)/b<18446744073709551616:=by
   apply cEF;have:(M6.val (a.drop (i+1))%b+1)*18446744073709551616<=b*18446744073709551616:=cAA _ hm;omega
  have aVH:(0:Int)<=((M6.val (a.drop (i+1))%b:Nat):Int)/\((M6.val (a.drop (i+1))%b:Nat):Int)<(b:Int):=⟨cIA _,Int.ofNat_lt.2 hm⟩;have aVE:=ih (((((M6.val (a.drop (i+1))%b)*18446744073709551616+(a.getD i 0).toNat)/b:Nat):Int) :: Q) (by rw[List.length_cons];omega) (M6.kF.2 ⟨⟨cIA _,Int.ofNat_lt.2 hq⟩,hd⟩) (by
    show(((((M6.val (a.drop (i+1))%b)*18446744073709551616+(a.getD i 0).toNat)/b:Nat):Int)).toNat+18446744073709551616*M6.val Q=_;rw[cCJ,hN,cHZ hb0,hv,cEL])
  rw[yM,show(((i+1:Nat):Int)-1)=(i:Int)from by omega,aO,if_pos ⟨by omega,by omega⟩,cCJ,gP ⟨aVH,g,by omega⟩,if_pos ⟨by omega,by omega⟩,cCJ,cCJ,w,List.replicate_succ',cAI,cFG,hs];rw[hN,cKH]at aVE;exact aVE
def sp(a:List Int)(n:Int):Prop×List D:=(M6.cO a/\a.length<=8192/\0<n/\n<18446744073709551616,[.s (.ints .u64 (M6.dg (M6.val a/n.toNat))),.s (.sc (.int .u64 ((M6.val a%n.toNat:Nat):Int))),.s (.sc (.int .i64 0))])
theorem spec:fF E f206 aF (pI .u64) (pN .u64) sp:=by
 rintro a n ⟨ha,hl,h0,h1⟩;obtain⟨b,rfl⟩:=cDO (show 0<=n by omega);refine(start a b).trans ?_;show _=some [D.s (.ints .u64 (M6.dg (M6.val a/(b:Int).toNat))),D.s (.sc (.int .u64 ((M6.val a%(b:Int).toNat:Nat):Int))),D.s (.sc (.int .i64 0))];have w:i64.wrap ((a.length:Int)-1)=(a.length:Int)-1:=by rw[wrap_i64]
 rw[cCJ,cCJ,gP,iC.pP ha hl,cAN,bF,cP,if_pos ⟨by omega,by omega,by omega⟩,w];have:=L (b:=b) ha hl (by omega) (by omega) a.length [] (by simp) M6.lC (by simp[M6.val]);rw[cEK,List.drop_length]at this;simp only[M6.val,cGG]at this;exact this
def aJ:dO:=orc2 (pI .u64) (pN .u64) sp
theorem ok:OK 206 aJ:=(eI E aF (aA iC.ok (aA dP.ok (aA uC.ok aD))) func206).jZ rfl spec
end pD
namespace Bw
def E:=mE [] 43 [] [(7,[1,7,8,19,20])] []
def aF:=bd f208
theorem aU:Nk E aF:=nk
def L7 a (b:Nat) (c:List Int) d e f:=nU E f208 aF 7 [bJ a,Dg 1 b 22 c,dR d,bJ e,bJ f]
theorem start a b c:aG E f208 aF [D.s (ints u64 a),D.s (sc (int i64 b)),D.s (sc (int i64 c))]=letI A:=cEG c.toNat a ++ cEH (min a.length c.toNat) (cAQ c.toNat (0:Int));if 0<=c/\c<=c/\c<=8796093022208 then aC (b==0) (some [D.own 22 u64 A]) (Bw.L7 b c.toNat A 0 (c.toNat:Int) 0)else none:=eJ aU
theorem yN a b c d e f:L7 a b c d e f=aC (decide (f<e)) (if 0<=f/\f<(b:Int)then if a<0 then none else if 0<=f/\f<(b:Int)then if i64.wrap ((64:Int)-a)<0 then none else if 0<=f/\f<(b:Int)then Bw.L7 a b (c.set f.toNat (gR BinOp.or u64 (u64.wrap (c.getD f.toNat 0*(↑((2:Nat)^min a.toNat 64):Int))) d)) (c.getD f.toNat 0/(↑((2:Nat)^min (i64.wrap ((64:Int)-a)).toNat 64):Int)) e (i64.wrap (f+1))else none else none else none) (some [D.own 22 u64 c]):=lJ aU
def sp(a:List Int)(s n:Int):Prop×List D:=(M6.bM a/\0<=s/\s<64/\0<=n/\a.length<=n.toNat/\n<=549755813888/\M6.val a*2^s.toNat<18446744073709551616^n.toNat,[.own gV .u64 (M6.oP n.toNat (M6.val a*2^s.toNat))])
theorem L{A:List Int}{s n:Nat}(hA:M6.bM A)(bMA:A.length=n)(hn:n<=549755813888)(Pq:0<s)(hs:s<64)(hT:M6.val A*2^s<18446744073709551616^n):∀(r i:Nat) (P:List Int) (c:Int),i+r=n->P.length=i->M6.bM P->0<=c->c<((2^s:Nat):Int) ->
  M6.val P+18446744073709551616^i*c.toNat=M6.val (A.take i)*2^s ->
  L7 s n (P ++ A.drop i) c n i=some [.own gV .u64 (M6.oP n (M6.val A*2^s))]:=by
 have Ty:2^s<2^64:=cFE (by omega) hs;intro r
 induction r with
 |zero =>
  intro i P c hi hP hd h0 h1 hv;have aBB:i=n:=by omega
  subst aBB;rw[M6.cC (by omega)]at hv;have hc:c=0:=by
   rcases cJR 0 c with h |h
   ·have h2:18446744073709551616^i*1<=18446744073709551616^i*c.toNat:=cBB _ (by omega);omega
   ·omega
  subst hc;simp at hv;rw[yN,aM,cJQ (by omega),cEK,M6.oX hd hP hv]
 |succ r ih =>
  intro i P c hi hP hd h0 h1 hv;have g:=hA.get i;have w1:i64.wrap ((i:Int)+1)=((i+1:Nat):Int):=by rw[wrap_i64];omega
  have w3:i64.wrap (64-(s:Int))=((64-s:Nat):Int):=by rw[wrap_i64];omega
  have m1:min s 64=s:=by omega
  have m2:min (64-s) 64=64-s:=by omega
  have aMA:A.drop i=A.getD i 0 :: A.drop (i+1):=by
   rw[List.drop_eq_getElem_cons (by omega)];simp[cDR,List.getElem?_eq_getElem (show i<A.length by omega)]
  obtain⟨x,hx⟩:=cDO g.1;have jM:x*2^s%18446744073709551616<18446744073709551616:=cAV _ (by omega);have Vv:u64.wrap ((x:Int)*((2^s:Nat):Int))=((x*2^s%18446744073709551616:Nat):Int):=by
   rw[gG,<-cEW,cFC];rfl
  have aRV:c.toNat+x*2^s%18446744073709551616<18446744073709551616:=by
   rw[Kg x s hs];have hm:x%2^(64-s)<2^(64-s):=cAV _ (cD);have e:(18446744073709551616:Nat)=2^s*2^(64-s):=by rw[<-cDP,show s+(64-s)=64 from by omega]
   have h3:2^s*(x%2^(64-s)+1)<=2^s*2^(64-s):=cBB _ hm;rw[<-e,cDN]at h3;omega
  have bDT:gR .or .u64 ((x*2^s%18446744073709551616:Nat):Int) c=c+((x*2^s%18446744073709551616:Nat):Int):=by
   rw[aRC (by omega) (by omega) h0 (by omega),cCJ,Nat.or_comm,Kg x s hs,Te (by omega)];omega
  have Uc:x/2^(64-s)<2^s:=by
   apply cEF;rw[<-cDP,show 64-s+s=64 from by omega];omega
  rw[aMA,yN,aO,aR,bI,aR,w3,bI,aR,w1,cCJ,cCJ,cCJ,m1,m2,Ii hP,Ht hP,hx,Vv,bDT];have aXU:=Hq x s hs;have:=ih (i+1) (P ++ [c+((x*2^s%18446744073709551616:Nat):Int)]) ((x/2^(64-s):Nat):Int) (by omega) (by simp[hP]) (M6.kV hd ⟨by omega,by omega⟩) (by omega) (by omega) (by
   rw[M6.kT,hP,M6.bR,hx,cCJ,cCJ,cDL,cDQ,bZH];have e1:(c+(((x*2^s%18446744073709551616:Nat)):Int)).toNat=c.toNat+x*2^s%18446744073709551616:=by omega
   rw[e1];have e2:18446744073709551616^i*(c.toNat+x*2^s%18446744073709551616)+18446744073709551616^i*(18446744073709551616*(x/2^(64-s)))=18446744073709551616^i*c.toNat+18446744073709551616^i*x*2^s:=by
    rw[cDQ,<-cDN,<-cDN];congr 1;omega
   omega)
  rw[cAI,cFG,cEA]at this;exact this
theorem spec:uQ E f208 aF (pI .u64) (pN .i64) (pN .i64) sp:=by
 rintro a s n ⟨hd,Pq,hs,aEP,hl,hn,hT⟩;obtain⟨s,rfl⟩:=cDO Pq;obtain⟨n,rfl⟩:=cDO aEP;simp only[sp,cCJ]at hl hT ⊢;refine(start a s n).trans ?_;have hA:cEG n a ++ cEH (min a.length n) (cAQ n (0:Int))=a ++ cAQ (n-a.length) 0:=by
  rw[cFV hl,cJS,cEQ hl]
 have aEX:M6.val (a ++ cAQ (n-a.length) 0)=M6.val a:=by rw[M6.iJ,M6.iD];omega
 have bPW:M6.bM (a ++ cAQ (n-a.length) 0):=M6.lS.2 ⟨hd,M6.gU _⟩;have bMA:(a ++ cAQ (n-a.length) 0).length=n:=by simp;omega
 rw[aR,cCJ,hA]
 by_cases hz:s=0
 ·subst hz;rw[dU (by rfl),cIJ,bYX,M6.oX bPW bMA aEX]
 ·rw[cP];have hp:0<((2^s:Nat):Int):=by
   have:0<2^s:=cD;omega
  have:=L (s:=s) bPW bMA (by omega) (by omega) (by omega) (by rw[aEX];exact hT) n 0 [] 0 (by omega) rfl M6.lC (by omega) hp (by simp[M6.val]);rw[cCP,cER,aEX]at this;exact this
def aJ:dO:=orc3 (pI .u64) (pN .i64) (pN .i64) sp
theorem ok:OK 208 aJ:=(eI E aF aD func208).Dn rfl spec
end Bw
namespace aCF
def E:=mE [(232,uC.aJ)] 20 [16] [] []
def aF:=bd f233
theorem aU:Nk E aF:=nk
theorem start a b c:aG E f233 aF [D.s (sc (int u64 a)),D.s (sc (int u64 b)),D.s (sc (int u64 c))]=aC (decide (c<=a)) (some [D.s (sc (int u64 18446744073709551615))]) (aN ((0<=a/\a<c)/\(0<=b/\b<18446744073709551616)/\c<18446744073709551616) (some [D.s (sc (int u64 (↑((a.toNat*18446744073709551616+b.toNat)/c.toNat):Int)))])):=eJ aU
def sp(a b c:Int):Prop×List D:=(0<=a/\0<=b/\b<18446744073709551616/\c<18446744073709551616,[.s (.sc (.int .u64 (if c<=a then 18446744073709551615 else(((a.toNat*18446744073709551616+b.toNat)/c.toNat:Nat):Int))))])
theorem spec:uQ E f233 aF (pN .u64) (pN .u64) (pN .u64) sp:=by
 rintro a b c ⟨h1,h2,h3,h4⟩;refine(start a b c).trans ?_;simp only[sp]
 by_cases hc:c<=a
 ·rw[aO hc,if_pos hc]
 ·rw[aM hc,if_neg hc,gP ⟨⟨h1,by omega⟩,⟨h2,h3⟩,h4⟩]
def aJ:dO:=orc3 (pN .u64) (pN .u64) (pN .u64) sp
theorem ok:OK 233 aJ:=(eI E aF (aA uC.ok aD) func233).Dn rfl spec
end aCF
namespace uU
def E:Env:={ ({ base with C:=callsOf [(252,Ox.aJ)],n0:=1,io:=[0] })with nt:=66,own:=[45,61],keep:=fun k=>(tlook [(3,[0,1,2,7,8,14,15])] k).getD [],cut:=tlook [] }
def aF:=bd f234
theorem aU:Nk E aF:=nk
def L3(a:List Int)(b:Nat)(c:Nat) d f g h x7 i:=nU E f234 aF 3 [(A.any,some { e:=(22:Nat),cont:=oH.ints u64 a }),(A.v (V.one (L.view 0 b c)),none),iY d,dR f,dR g,dR h,bJ x7,bJ i]
theorem start al ao an b c:aG E f234 aF [D.io gV u64 al ao an,D.s (ints u64 b),D.s (sc (int u64 c))]=uU.L3 al ao an b c 0 0 (b.length:Int) 0:=eJ aU
theorem pE a b c d e f g h i:L3 a b c d e f g h i=letI C:=b+i.toNat;letI B:=(d.length:Int);letI F:=b+B.toNat;letI A:=d.getD i.toNat 0*e%18446744073709551616+f+0;aC (decide (i<h)) (if 0<=i/\i<B then aN (0<=d.getD i.toNat 0/\d.getD i.toNat 0<(18446744073709551616:Int)/\0<=e/\e<18446744073709551616) (aN (0<=d.getD i.toNat 0*e%18446744073709551616/\0<=f/\(0:Int)<=(0:Int)/\(0:Int)<=(1:Int)) (if 0<=i/\i<(c:Int)then aN (0<=a.getD C 0/\0<=A%18446744073709551616/\A%18446744073709551616<(18446744073709551616:Int)/\0<=g/\g<=1) (if 0<=i/\i<(c:Int)then uU.L3 (a.set C ((a.getD C 0-A%18446744073709551616-g)%18446744073709551616)) b c d e (u64.wrap (d.getD i.toNat 0*e/18446744073709551616+A/18446744073709551616)) (if a.getD C 0<A%18446744073709551616+g then(1:Int)else(0:Int)) h (i64.wrap (i+1))else none)else none))else none) (if 0<=B/\B<(c:Int)then aN (0<=a.getD F 0/\0<=f/\f<18446744073709551616/\0<=g/\g<=1) (if 0<=B/\B<(c:Int)then some [D.s (sc (int u64 (if a.getD F 0<f+g then(1:Int)else(0:Int)))),D.io 22 u64 (a.set F ((a.getD F 0-f-g)%18446744073709551616)) 0 0]else none)else none):=lJ aU
def Fh(v o n X:Nat):Nat:=if v/18446744073709551616^o%18446744073709551616^n<X then 1 else 0
def sp(x:List Int×Nat×Nat)(b:List Int)(w:Int):Prop×List D:=(M6.bM x.1/\x.2.2=b.length+1/\x.2.1+x.2.2<=x.1.length/\M6.bM b/\x.1.length<=1099511627776/\0<=w/\w<18446744073709551616,
 [.s (.sc (.int .u64 (Fh (M6.val x.1) x.2.1 x.2.2 (M6.val b*w.toNat)))),.io gV .u64 (M6.oP x.1.length (M6.val x.1+18446744073709551616^(x.2.1+x.2.2)*Fh (M6.val x.1) x.2.1 x.2.2 (M6.val b*w.toNat)-18446744073709551616^x.2.1*(M6.val b*w.toNat))) 0 0])
theorem fin{a z':List Int}{o n X c N:Nat}(aYS:c<=1)(hd:M6.bM a)(Bl:M6.bM z')(hl:z'.length=N)(h1:z'.take o=a.take o)(h2:z'.drop (o+n)=a.drop (o+n))(h:M6.val z'+18446744073709551616^o*X=M6.val a+18446744073709551616^(o+n)*c) :
  c=Fh (M6.val a) o n X/\z'=M6.oP N (M6.val a+18446744073709551616^(o+n)*Fh (M6.val a) o n X-18446744073709551616^o*X):=by
 obtain⟨k1,k2⟩:=M6.Ap hd Bl h1 h2;have e:=M6.Ao k1 k2 h;have jM:=M6.Dy (M6.val z') o n;have hc:c=Fh (M6.val a) o n X:=by
  unfold Fh;have:c=0\/c=1:=by omega
  rcases this with rfl |rfl
  ·rw[bI]
  ·rw[aR]
 subst hc;exact⟨rfl,M6.oX Bl hl (by omega)⟩
theorem bCK{x C s:Int}{p:Nat}(hp:p<=340282366920938463426481119284349108225)(h0:0<=x)(h1:x<18446744073709551616)(h2:0<=C)(h3:C<18446744073709551616)(h4:0<=s)(h5:s<=1) :
  (0<=(p:Int)/18446744073709551616+((p:Int)%18446744073709551616+C+0)/18446744073709551616/\(p:Int)/18446744073709551616+((p:Int)%18446744073709551616+C+0)/18446744073709551616<18446744073709551616) /\
  ((x-((p:Int)%18446744073709551616+C+0)%18446744073709551616-s)%18446744073709551616).toNat+p+C.toNat+s.toNat=x.toNat+18446744073709551616*(((p:Int)/18446744073709551616+((p:Int)%18446744073709551616+C+0)/18446744073709551616).toNat+(if x<((p:Int)%18446744073709551616+C+0)%18446744073709551616+s then(1:Int)else 0).toNat):=by
 split <;> omega
theorem L{a b:List Int}{o:Nat}{w:Int}(hN:a.length<=1099511627776)(ha:M6.bM a)(hb:M6.bM b)(ho:o+(b.length+1)<=a.length)(aAV:0<=w)(bGT:w<18446744073709551616):∀(r i:Nat) (z:List Int) (C s:Int),i+r=b.length->z.length=a.length->M6.bM z->0<=C->C<18446744073709551616->0<=s->s<=1->z.take o=a.take o->z.drop (o+(b.length+1))=a.drop (o+(b.length+1)) ->
  M6.val z+18446744073709551616^o*(M6.val (b.take i)*w.toNat)=M6.val a+18446744073709551616^(o+i)*(C.toNat+s.toNat) ->
  L3 z o (b.length+1) b w C s b.length i=some [.s (.sc (.int .u64 (Fh (M6.val a) o (b.length+1) (M6.val b*w.toNat)))),.io gV .u64 (M6.oP a.length (M6.val a+18446744073709551616^(o+(b.length+1))*Fh (M6.val a) o (b.length+1) (M6.val b*w.toNat)-18446744073709551616^o*(M6.val b*w.toNat))) 0 0]:=by
 intro r
 induction r with
 |zero =>
  intro i z C s hi hz hd h0 h1 h2 h3 ht Qb hv;have aLV:i=b.length:=by omega
  subst aLV;rw[cFF]at hv;have g:=hd.get (o+b.length);rw[pE,aM,aR,cCJ,gP ⟨g.1,h0,h1,h2,h3⟩,aR];have hs:=M6.lW (a:=z) (j:=o+b.length) (by omega) ((z.getD (o+b.length) 0-C-s)%18446744073709551616);have hf:=fin (a:=a) (z':=z.set (o+b.length) ((z.getD (o+b.length) 0-C-s)%18446744073709551616)) (o:=o) (n:=b.length+1) (X:=M6.val b*w.toNat) (c:=(if z.getD (o+b.length) 0<C+s then(1:Int)else 0).toNat) (N:=a.length) (by split <;> omega) ha (M6.kM hd (by omega)) (by simp[hz]) (by rw[cJB (by omega)];exact ht) (by rw[cJH (by omega)];exact Qb) (by
   rw[<-cCD o,cDL,cDQ];generalize z.getD (o+b.length) 0=x at *;generalize M6.val (z.set (o+b.length) _)=W at *;generalize 18446744073709551616^(o+b.length)=P at *;have e:((x-C-s)%18446744073709551616).toNat+(C.toNat+s.toNat)=x.toNat+18446744073709551616*(if x<C+s then(1:Int)else 0).toNat:=by split <;> omega
   have e2:P*((x-C-s)%18446744073709551616).toNat+P*(C.toNat+s.toNat)=P*x.toNat+P*(18446744073709551616*(if x<C+s then(1:Int)else 0).toNat):=by
    rw[<-cDN,e,cDN]
   omega)
  rw[<-hf.2,<-hf.1,cKI (by split <;> omega)]
 |succ r ih =>
  intro i z C s hi hz hd h0 h1 h2 h3 ht Qb hv;have g:=hd.get (o+i);have g2:=hb.get i;have w2:i64.wrap ((i:Int)+1)=((i+1:Nat):Int):=by rw[wrap_i64];omega
  obtain⟨X,hX⟩:=cDO g2.1;obtain⟨Y,hY⟩:=cDO aAV;have bHM:X*Y<=340282366920938463426481119284349108225:=by
   have h2:X<=18446744073709551615:=by omega
   have h3:Y<=18446744073709551615:=by omega
   have:=cIS h2 h3;omega
  obtain⟨k1,k2⟩:=bCK bHM g.1 g.2 h0 h1 h2 h3;rw[pE,aO,aR,w2];simp only[cCJ];have hq:b.getD i 0*w=((X*Y:Nat):Int):=by rw[hX,hY];simp
  rw[gP ⟨g2.1,g2.2,aAV,bGT⟩];simp only[hq];rw[gP ⟨by omega,by omega,by omega,by omega⟩,aR,gP ⟨g.1,by omega,by omega,h2,h3⟩,aR,wrap_u64 k1.1 k1.2];refine ih (i+1) _ _ (if z.getD (o+i) 0<(((X*Y:Nat):Int)%18446744073709551616+C+0)%18446744073709551616+s then(1:Int)else 0) (by omega) (by simp[hz]) (M6.kM hd (by omega)) k1.1 k1.2 (by split <;> omega) (by split <;> omega) (by rw[cJB (by omega)];exact ht) (by rw[cJH (by omega)];exact Qb) ?_;have hs:=M6.lW (a:=z) (j:=o+i) (by omega) ((z.getD (o+i) 0-(((X*Y:Nat):Int)%18446744073709551616+C+0)%18446744073709551616-s)%18446744073709551616);have e0:18446744073709551616^o*(M6.val (b.take (i+1))*w.toNat)=18446744073709551616^o*(M6.val (b.take i)*w.toNat)+18446744073709551616^(o+i)*(X*Y):=by
   rw[M6.bR,hX,hY,cCJ,cCJ,bZH,cDN,cDP,cDQ,cDQ]
  rw[e0,show o+(i+1)=(o+i)+1 from by omega,cDL,cDQ];generalize ((z.getD (o+i) 0-(((X*Y:Nat):Int)%18446744073709551616+C+0)%18446744073709551616-s)%18446744073709551616)=d at *;generalize (((X*Y:Nat):Int)/18446744073709551616+(((X*Y:Nat):Int)%18446744073709551616+C+0)/18446744073709551616).toNat=C' at *;generalize (if z.getD (o+i) 0<(((X*Y:Nat):Int)%18446744073709551616+C+0)%18446744073709551616+s then(1:Int)else 0).toNat=s' at *;generalize X*Y=q at *;generalize 18446744073709551616^(o+i)=P at *;generalize M6.val (z.set (o+i) d)=W at *;generalize (z.getD (o+i) 0).toNat=x at *;generalize 18446744073709551616^o*(M6.val (b.take i)*w.toNat)=U at *;have e2:P*d.toNat+P*q+P*(C.toNat+s.toNat)=P*x+P*(18446744073709551616*(C'+s')):=by
   rw[<-cDN,<-cDN,<-cDN];congr 1;omega
  omega
theorem bound{v o n N X:Nat}(hv:v<18446744073709551616^N)(bOZ:o+n<=N)(hX:X<18446744073709551616^n):v+18446744073709551616^(o+n)*Fh v o n X-18446744073709551616^o*X<18446744073709551616^N:=by
 have e1:=M6.qO v o n;have hW:=M6.Dy v o n;have hT:v/18446744073709551616^(o+n)<18446744073709551616^(N-(o+n)):=by
  apply cEF;rw[<-cDP,show o+n+(N-(o+n))=N from by omega];exact hv
 have hL:v%18446744073709551616^o<18446744073709551616^o:=cAV _ (cD);have s2:18446744073709551616^(o+n)*(v/18446744073709551616^(o+n)+1)<=18446744073709551616^N:=by
  have:=cBB (18446744073709551616^(o+n)) hT;rw[<-cDP,show o+n+(N-(o+n))=N from by omega]at this;exact this
 rw[cDN]at s2;unfold Fh;generalize v/18446744073709551616^o%18446744073709551616^n=W at *;generalize v%18446744073709551616^o=L at *;generalize v/18446744073709551616^(o+n)=T at *;split
 ·rename_i jM;have:18446744073709551616^o*(W+1)<=18446744073709551616^o*X:=cBB _ jM;rw[cDN]at this;omega
 ·omega
theorem spec(x:List Int×Nat×Nat)(b:List Int)(w:Int)(h:(sp x b w).1):aG E f234 aF [(Ek gV .u64).put x,(pI .u64).put b,(pN .u64).put w]=some (sp x b w).2/\∃rs oR,(sp x b w).2=rs ++ [.io gV .u64 oR 0 0]/\oR.length=x.1.length:=by
 obtain⟨xl,o,n⟩:=x;obtain⟨hd,hn,ho,hb,hN,aAV,bGT⟩:=h;simp only at hd hn ho hN;subst hn;refine⟨(start xl o (b.length+1) b w).trans ?_,[_],_,rfl,M6.iG (bound (M6.cR hd) ho ?_)⟩
 ·exact L hN hd hb ho aAV bGT b.length 0 xl 0 0 (by omega) rfl hd (by omega) (by omega) (by omega) (by omega) rfl rfl (by simp[M6.val])
 ·rw[cDL];exact cGW (M6.cR hb) (by omega)
def aJ:dO:=orc3 (Ek gV .u64) (pI .u64) (pN .u64) sp
theorem fnok:nS prog E 234 f234 aF:=wK qP mixed (lT _ rfl (aA Ox.ok aD) (oD)) func234 rfl rfl rfl rfl rfl
theorem ok:sG prog base.glob 234 aJ:=fnok.Dn rfl spec
end uU
namespace Aj
def E:Env:={ ({ base with n0:=1,io:=[0] })with nt:=44,own:=[24,39],keep:=fun k=>(tlook [(3,[0,1,5,8,9])] k).getD [],cut:=tlook [] }
def aF:=bd f235
theorem aU:Nk E aF:=nk
def L3(a:List Int)(b:Nat)(c:Nat) d f g h:=nU E f235 aF 3 [(A.any,some { e:=(22:Nat),cont:=oH.ints u64 a }),(A.v (V.one (L.view 0 b c)),none),iY d,dR f,bJ g,bJ h]
theorem start al ao an b:aG E f235 aF [D.io gV u64 al ao an,D.s (ints u64 b)]=Aj.L3 al ao an b 0 (b.length:Int) 0:=eJ aU
theorem pE a b c d e f g:L3 a b c d e f g=letI G:=b+g.toNat;letI B:=a.getD G 0+d.getD g.toNat 0+e;letI A:=(d.length:Int);letI F:=b+A.toNat;letI C:=a.getD F 0+(0:Int)+e;aC (decide (g<f)) (if 0<=g/\g<(c:Int)then if 0<=g/\g<A then aN (0<=a.getD G 0/\0<=d.getD g.toNat 0/\0<=e/\e<=1) (if 0<=g/\g<(c:Int)then Aj.L3 (a.set G (B%18446744073709551616)) b c d (B/18446744073709551616) f (i64.wrap (g+1))else none)else none else none) (if 0<=A/\A<(c:Int)then aN (0<=a.getD F 0/\(0:Int)<=(0:Int)/\0<=e/\e<=1) (if 0<=A/\A<(c:Int)then some [D.s (sc (int u64 (C/18446744073709551616))),D.io 22 u64 (a.set F (C%18446744073709551616)) 0 0]else none)else none):=lJ aU
def Hk(v o n X:Nat):Nat:=(v/18446744073709551616^o%18446744073709551616^n+X)/18446744073709551616^n
def sp(x:List Int×Nat×Nat)(b:List Int):Prop×List D:=(M6.bM x.1/\x.2.2=b.length+1/\x.2.1+x.2.2<=x.1.length/\M6.bM b/\x.1.length<=1099511627776,
 [.s (.sc (.int .u64 (Hk (M6.val x.1) x.2.1 x.2.2 (M6.val b)))),.io gV .u64 (M6.oP x.1.length (M6.val x.1+18446744073709551616^x.2.1*M6.val b-18446744073709551616^(x.2.1+x.2.2)*Hk (M6.val x.1) x.2.1 x.2.2 (M6.val b))) 0 0])
theorem fin{a z':List Int}{o n X c N:Nat}(hd:M6.bM a)(Bl:M6.bM z')(hl:z'.length=N)(h1:z'.take o=a.take o)(h2:z'.drop (o+n)=a.drop (o+n))(h:M6.val z'+18446744073709551616^(o+n)*c=M6.val a+18446744073709551616^o*X) :
  c=Hk (M6.val a) o n X/\z'=M6.oP N (M6.val a+18446744073709551616^o*X-18446744073709551616^(o+n)*Hk (M6.val a) o n X):=by
 obtain⟨k1,k2⟩:=M6.Ap hd Bl h1 h2;have e:=M6.Ao k1.symm k2.symm h.symm;have jM:=M6.Dy (M6.val z') o n;have hc:c=Hk (M6.val a) o n X:=by
  unfold Hk;rw[e];rw[cFB _ _ (cD),cEI jM,bYP]
 subst hc;exact⟨rfl,M6.oX Bl hl (by omega)⟩
theorem L{a b:List Int}{o:Nat}(hN:a.length<=1099511627776)(ha:M6.bM a)(hb:M6.bM b)(ho:o+(b.length+1)<=a.length):∀(r i:Nat) (z:List Int) (c:Int),i+r=b.length->z.length=a.length->M6.bM z->0<=c->c<=1->z.take o=a.take o->z.drop (o+(b.length+1))=a.drop (o+(b.length+1)) ->
  M6.val z+18446744073709551616^(o+i)*c.toNat=M6.val a+18446744073709551616^o*M6.val (b.take i) ->
  L3 z o (b.length+1) b c b.length i=some [.s (.sc (.int .u64 (Hk (M6.val a) o (b.length+1) (M6.val b)))),.io gV .u64 (M6.oP a.length (M6.val a+18446744073709551616^o*M6.val b-18446744073709551616^(o+(b.length+1))*Hk (M6.val a) o (b.length+1) (M6.val b))) 0 0]:=by
 intro r
 induction r with
 |zero =>
  intro i z c hi hz hd h0 h1 ht Qb hv;have aLV:i=b.length:=by omega
  subst aLV;rw[cFF]at hv;have g:=hd.get (o+b.length);rw[pE,aM,aR,cCJ,gP ⟨g.1,by omega,h0,h1⟩,aR];have hs:=M6.lW (a:=z) (j:=o+b.length) (by omega) ((z.getD (o+b.length) 0+0+c)%18446744073709551616);have hf:=fin (a:=a) (z':=z.set (o+b.length) ((z.getD (o+b.length) 0+0+c)%18446744073709551616)) (o:=o) (n:=b.length+1) (X:=M6.val b) (c:=((z.getD (o+b.length) 0+0+c)/18446744073709551616).toNat) (N:=a.length) ha (M6.kM hd (by omega)) (by simp[hz]) (by rw[cJB (by omega)];exact ht) (by rw[cJH (by omega)];exact Qb) (by
   rw[<-cCD o,cDL,cDQ];generalize z.getD (o+b.length) 0=x at *;generalize M6.val (z.set (o+b.length) _)=W at *;generalize 18446744073709551616^(o+b.length)=P at *;have e:((x+0+c)%18446744073709551616).toNat+18446744073709551616*((x+0+c)/18446744073709551616).toNat=x.toNat+c.toNat:=by omega
   have e2:P*((x+0+c)%18446744073709551616).toNat+P*(18446744073709551616*((x+0+c)/18446744073709551616).toNat)=P*x.toNat+P*c.toNat:=by
    rw[<-cDN,e,cDN]
   omega)
  rw[<-hf.2,<-hf.1,cKI (by omega)]
 |succ r ih =>
  intro i z c hi hz hd h0 h1 ht Qb hv;have g:=hd.get (o+i);have g2:=hb.get i;have w2:i64.wrap ((i:Int)+1)=((i+1:Nat):Int):=by rw[wrap_i64];omega
  rw[pE,aO,aR,aR,cCJ,gP ⟨g.1,g2.1,h0,h1⟩,aR,w2];refine ih (i+1) _ _ (by omega) (by simp[hz]) (M6.kM hd (by omega)) (by omega) (by omega) (by rw[cJB (by omega)];exact ht) (by rw[cJH (by omega)];exact Qb) ?_;have hs:=M6.lW (a:=z) (j:=o+i) (by omega) ((z.getD (o+i) 0+b.getD i 0+c)%18446744073709551616);rw[M6.bR,cDN,<-cDQ,<-cDP,show o+(i+1)=(o+i)+1 from by omega,cDL,cDQ];generalize z.getD (o+i) 0=x at *;generalize b.getD i 0=y at *;generalize M6.val (z.set (o+i) _)=W at *;generalize 18446744073709551616^(o+i)=P at *;generalize 18446744073709551616^o*M6.val (b.take i)=U at *;have e:((x+y+c)%18446744073709551616).toNat+18446744073709551616*((x+y+c)/18446744073709551616).toNat=x.toNat+y.toNat+c.toNat:=by omega
  have e2:P*((x+y+c)%18446744073709551616).toNat+P*(18446744073709551616*((x+y+c)/18446744073709551616).toNat)=P*x.toNat+P*y.toNat+P*c.toNat:=by
   rw[<-cDN,e,cDN,cDN]
  omega
theorem bound{v o n N X:Nat}(hv:v<18446744073709551616^N)(bOZ:o+n<=N):v+18446744073709551616^o*X-18446744073709551616^(o+n)*Hk v o n X<18446744073709551616^N:=by
 have e1:=M6.qO v o n;unfold Hk;generalize hW:v/18446744073709551616^o%18446744073709551616^n=W at *;have h2:=cIV (W+X) (18446744073709551616^n);have h3:(W+X)%18446744073709551616^n<18446744073709551616^n:=cAV _ (cD);generalize (W+X)/18446744073709551616^n=c at *;generalize (W+X)%18446744073709551616^n=M at *;have hL:v%18446744073709551616^o<18446744073709551616^o:=cAV _ (cD);have hT:v/18446744073709551616^(o+n)<18446744073709551616^(N-(o+n)):=by
  apply cEF;rw[<-cDP,show o+n+(N-(o+n))=N from by omega];exact hv
 generalize v%18446744073709551616^o=L at *;generalize v/18446744073709551616^(o+n)=T at *;have e3:18446744073709551616^(o+n)*c=18446744073709551616^o*(18446744073709551616^n*c):=by rw[cDP,cDQ]
 have e4:18446744073709551616^o*(W+X)=18446744073709551616^o*M+18446744073709551616^o*(18446744073709551616^n*c):=by rw[<-h2,cDN]
 rw[cDN]at e4;have e5:v+18446744073709551616^o*X-18446744073709551616^(o+n)*c=L+18446744073709551616^o*M+18446744073709551616^(o+n)*T:=by omega
 rw[e5];have s1:L+18446744073709551616^o*M<18446744073709551616^(o+n):=by
  have:18446744073709551616^o*(M+1)<=18446744073709551616^o*18446744073709551616^n:=cBB _ h3;rw[<-cDP,cDN]at this;omega
 have s2:18446744073709551616^(o+n)*(T+1)<=18446744073709551616^N:=by
  have:=cBB (18446744073709551616^(o+n)) hT;rw[<-cDP,show o+n+(N-(o+n))=N from by omega]at this;exact this
 rw[cDN]at s2;omega
theorem spec(x:List Int×Nat×Nat)(b:List Int)(h:(sp x b).1):aG E f235 aF [(Ek gV .u64).put x,(pI .u64).put b]=some (sp x b).2/\∃rs oR,(sp x b).2=rs ++ [.io gV .u64 oR 0 0]/\oR.length=x.1.length:=by
 obtain⟨xl,o,n⟩:=x;obtain⟨hd,hn,ho,hb,hN⟩:=h;simp only at hd hn ho hN;subst hn;refine⟨(start xl o (b.length+1) b).trans ?_,[_],_,rfl,M6.iG (bound (M6.cR hd) ho)⟩;exact L hN hd hb ho b.length 0 xl 0 (by omega) rfl hd (by omega) (by omega) rfl rfl (by simp[M6.val])
def aJ:dO:=orc2 (Ek gV .u64) (pI .u64) sp
theorem fnok:nS prog E 235 f235 aF:=wK qP mixed (lT _ rfl aD (oD)) func235 rfl rfl rfl rfl rfl
theorem ok:sG prog base.glob 235 aJ:=fnok.jZ rfl spec
end Aj
namespace Gy
def E:Env:={ ({ base with C:=rW [(234,uU.aJ),(235,Aj.aJ)] (callsOf [(233,aCF.aJ)]),ioF:=Mw [(234,uU.aJ),(235,Aj.aJ)],n0:=1,io:=[0] })with nt:=72,own:=[],keep:=fun k=>(tlook [(10,[0,1,5,6,7,8,9]),(4,[0,1,5,6,7])] k).getD [],cut:=tlook [] }
def aF:=bd f209
theorem aU:Nk E aF:=nk
def L4(a:List Int)(b:Nat)(c:Nat) d f (g:Nat) (h:List Int) x7:=nU E f209 aF 4 [(A.any,some { e:=(22:Nat),cont:=oH.ints u64 a }),(A.v (V.one (L.view 0 b c)),none),iY d,bJ f,Dg 4 g 22 h,bJ x7]
def Ja(a:List Int)(b:Nat)(c:Nat) d f (g:Nat) (h:List Int) x7 i (j:Nat) (k:Nat):=nU E f209 aF 10 [(A.any,some { e:=(22:Nat),cont:=oH.ints u64 a }),(A.v (V.one (L.view 0 b c)),none),iY d,bJ f,Dg 4 g 22 h,bJ x7,dR i,(A.v (V.one (L.view 0 j k)),none)]
theorem start al ao an b:aG E f209 aF [D.io gV u64 al ao an,D.s (ints u64 b)]=letI B:=(an:Int);letI A:=(b.length:Int);if 0<=i64.wrap (B-A)/\i64.wrap (B-A)<=i64.wrap (B-A)/\i64.wrap (B-A)<=8796093022208 then Gy.L4 al ao an b A (i64.wrap (B-A)).toNat (cAQ (i64.wrap (B-A)).toNat (0:Int)) (i64.wrap (i64.wrap (B-A)-1))else none:=eJ aU
theorem mG a b c d e f g h:L4 a b c d e f g h=letI N:=b+h.toNat;letI K:=i64.wrap (e-1);letI H:=i64.wrap (h+e)+1;letI G:=i64.wrap (h+e)-1;letI F:=b+(i64.wrap (h+e)).toNat;letI B:=b+(i64.wrap G).toNat;letI A:=i64.wrap H;letI C:=A.toNat-h.toNat;aC (decide (0<=h)) (if 0<=i64.wrap (h+e)/\i64.wrap (h+e)<(c:Int)then if 0<=i64.wrap G/\i64.wrap G<(c:Int)then if 0<=i64.wrap (e-1)/\i64.wrap (e-1)<(d.length:Int)then aN (0<=a.getD F 0/\0<=a.getD B 0/\a.getD B 0<(18446744073709551616:Int)/\d.getD K.toNat 0<(18446744073709551616:Int)) (aB (if d.getD K.toNat 0<=a.getD F 0 then(18446744073709551615:Int)else(↑(((a.getD F 0).toNat*18446744073709551616+(a.getD B 0).toNat)/(d.getD K.toNat 0).toNat):Int)) fun i=>letI I:=M6.val d*i.toNat;if 0<=h/\h<=i64.wrap H/\i64.wrap H<=(c:Int)then aN (M6.bM a/\A.toNat-h.toNat=d.length+1/\b+h.toNat+C<=a.length/\M6.bM d/\a.length<=1099511627776/\0<=i/\i<18446744073709551616) (aB (↑(uU.Fh (M6.val a) N C I):Int) fun j=>aB (M6.oP a.length (M6.val a+(18446744073709551616:Nat)^(b+h.toNat+C)*uU.Fh (M6.val a) N C I-(18446744073709551616:Nat)^N*I)) fun k=>aC (j==0) (if 0<=h/\h<(f:Int)then Gy.L4 k b c d e f (g.set h.toNat i) (i64.wrap (h-1))else none) (Gy.Ja k b c d e f g h i N C))else none)else none else none else none) (some [D.own 22 u64 g,D.io 22 u64 a 0 0]):=lJ aU
theorem tI a b c d e f g h i j k:Ja a b c d e f g h i j k=aN (M6.bM a/\k=d.length+1/\j+k<=a.length/\M6.bM d/\a.length<=1099511627776) (aB (↑(Aj.Hk (M6.val a) j k (M6.val d)):Int) fun l=>aB (M6.oP a.length (M6.val a+(18446744073709551616:Nat)^j*M6.val d-(18446744073709551616:Nat)^(j+k)*Aj.Hk (M6.val a) j k (M6.val d))) fun m=>aC (l==1) (if 0<=h/\h<(f:Int)then Gy.L4 m b c d e f (g.set h.toNat (u64.wrap (i-1))) (i64.wrap (h-1))else none) (Gy.Ja m b c d e f g h (u64.wrap (i-1)) j k)):=lJ aU
def sp(x:List Int×Nat×Nat)(b:List Int):Prop×List D:=(M6.bM x.1/\x.2.1=0/\x.2.2=x.1.length/\M6.bM b/\0<b.length/\b.length<=x.1.length/\x.1.length<=549755813888/\M6.val x.1/18446744073709551616^(x.1.length-b.length)<M6.val b,
 [.own gV .u64 (M6.oP (x.1.length-b.length) (M6.val x.1/M6.val b)),.io gV .u64 (M6.oP x.1.length (M6.val x.1%M6.val b)) 0 0])
theorem digit{z:List Int}(hd:M6.bM z)(k:Nat):(z.getD k 0).toNat=M6.val z/18446744073709551616^k%18446744073709551616:=by
 rw[<-M6.iP hd,M6.gH];have:=hd.get k;omega
theorem yT{v j n:Nat}(h:v/18446744073709551616^j<18446744073709551616^n):v/18446744073709551616^j%18446744073709551616^n=v/18446744073709551616^j:=cIT h
theorem minus{v j R X:Nat}(hR:R=v/18446744073709551616^j)(hX:X<=R):(v-18446744073709551616^j*X)/18446744073709551616^j=R-X/\18446744073709551616^j*X<=v:=by
 have h1:=cIV v (18446744073709551616^j);have h2:v%18446744073709551616^j<18446744073709551616^j:=cAV _ (cD);rw[<-hR]at h1;obtain⟨D,rfl⟩:=bZS hX;rw[cDN]at h1;have h3:v-18446744073709551616^j*X=v%18446744073709551616^j+18446744073709551616^j*D:=by omega
 rw[h3,cFB _ _ (cD),cEI h2];omega
theorem plus{v j n R X:Nat}(hR:R=v/18446744073709551616^j)(hX:R<X)(aMJ:X<=18446744073709551616^n):(v+18446744073709551616^(j+n)-18446744073709551616^j*X)/18446744073709551616^j%18446744073709551616^n=R+18446744073709551616^n-X:=by
 have h1:=cIV v (18446744073709551616^j);have h2:v%18446744073709551616^j<18446744073709551616^j:=cAV _ (cD);rw[<-hR]at h1;have h4:18446744073709551616^j*(R+18446744073709551616^n)=18446744073709551616^j*R+18446744073709551616^(j+n):=by rw[cDN,cDP]
 obtain⟨D,hD⟩:∃D,R+18446744073709551616^n=X+D:=bZS (by omega);rw[hD,cDN]at h4;have h3:v+18446744073709551616^(j+n)-18446744073709551616^j*X=v%18446744073709551616^j+18446744073709551616^j*D:=by omega
 rw[h3,cFB _ _ (cD),cEI h2,bYP,cIT (by omega)];omega
theorem aJF{R V n:Nat}{hi lo d:Int}(hn:0<n)(hV:V<18446744073709551616^n)(aZA:R<18446744073709551616*V)(Uc:hi.toNat=R/18446744073709551616^n)(Vv:lo.toNat=R/18446744073709551616^(n-1)%18446744073709551616)(hd:d.toNat=V/18446744073709551616^(n-1))(h0:0<=hi) :
  R/V<=(if d<=hi then(18446744073709551615:Int)else(((hi.toNat*18446744073709551616+lo.toNat)/d.toNat:Nat):Int)).toNat/\(0<=if d<=hi then(18446744073709551615:Int)else(((hi.toNat*18446744073709551616+lo.toNat)/d.toNat:Nat):Int))/\(if d<=hi then(18446744073709551615:Int)else(((hi.toNat*18446744073709551616+lo.toNat)/d.toNat:Nat):Int))<18446744073709551616:=by
 by_cases hc:d<=hi
 ·rw[if_pos hc];refine⟨?_,by omega,by omega⟩;have:R/V<18446744073709551616:=by
   apply cEF;rw[cDM];exact aZA
  show R/V<=18446744073709551615;omega
 ·rw[if_neg hc];obtain⟨k,rfl⟩:∃k,n=k+1:=⟨n-1,by omega⟩;rw[Nat.add_sub_cancel]at Vv hd;have e1:hi.toNat*18446744073709551616+lo.toNat=R/18446744073709551616^k:=by
   rw[Uc,Vv,cDL,<-cEB];omega
  have bVL:0<d.toNat:=by omega
  have jM:hi.toNat<d.toNat:=by omega
  refine⟨?_,cIA _,?_⟩
  ·rw[cCJ,e1,cEB];apply cJC
   ·rw[hd];exact cJE _ _
   ·exact Nat.mul_pos (cD) bVL
  ·have hlo2:lo.toNat<18446744073709551616:=by rw[Vv];exact cAV _ (by omega)
   have:(hi.toNat*18446744073709551616+lo.toNat)/d.toNat<18446744073709551616:=by
    apply cEF;have:(hi.toNat+1)*18446744073709551616<=d.toNat*18446744073709551616:=cAA _ jM;omega
   exact Int.ofNat_lt.2 this
theorem bNG{u b qs:List Int}{L j R q:Nat}(hL:L<=549755813888)(hu:u.length=L)(hd:M6.bM u)(hb:M6.bM b)(hj:j+(b.length+1)<=L)(hR:R=M6.val u/18446744073709551616^j)(aBF:R<18446744073709551616^(b.length+1))(hV:0<M6.val b)(hq:q=R/M6.val b)(hqs:qs.length=L-b.length):∀(k w:Nat),w=q+(k+1)->w<18446744073709551616 ->
  Ja (M6.oP L (M6.val u+18446744073709551616^(j+(b.length+1))-18446744073709551616^j*(M6.val b*w))) 0 L b b.length (L-b.length) qs j w j (b.length+1)=L4 (M6.oP L (M6.val u-18446744073709551616^j*(M6.val b*q))) 0 L b b.length (L-b.length) (qs.set j (q:Int)) ((j:Int)-1):=by
 have aPV:=M6.cR hb;have aVB:M6.val b*q<=R:=by rw[hq];exact cJE _ _
 have aGW:R<M6.val b*(q+1):=by rw[hq];exact cJN _ hV
 have aPP:=M6.cR hd;rw[hu]at aPP;intro k
 induction k with
 |zero =>
  intro w hw bBD;subst hw;have aMJ:M6.val b*(q+(0+1))<=18446744073709551616^(b.length+1):=by
   rw[cDL];exact cIS (by omega) (by omega)
  have aAY:=plus (n:=b.length+1) hR (X:=M6.val b*(q+(0+1))) aGW aMJ;have aYU:M6.val u+18446744073709551616^(j+(b.length+1))-18446744073709551616^j*(M6.val b*(q+(0+1)))<18446744073709551616^L:=by
   have:=uU.bound aPP hj (X:=M6.val b*(q+(0+1))) (by rw[cDL];exact cGW aPV (by omega));unfold uU.Fh at this;rw[yT (by rw[<-hR];exact aBF),<-hR,if_pos aGW,bYX]at this;exact this
  have aBC:Aj.Hk (M6.val u+18446744073709551616^(j+(b.length+1))-18446744073709551616^j*(M6.val b*(q+(0+1)))) j (b.length+1) (M6.val b)=1:=by
   unfold Aj.Hk;rw[aAY];have e:R+18446744073709551616^(b.length+1)-M6.val b*(q+(0+1))+M6.val b=18446744073709551616^(b.length+1)*1+(R-M6.val b*q):=by
    rw[cDN]at aMJ ⊢;omega
   have jM:R-M6.val b*q<18446744073709551616^(b.length+1):=by omega
   rw[e,cHZ (cD),cEI jM]
  have w1:u64.wrap (((q+(0+1):Nat):Int)-1)=(q:Int):=by rw[wrap_u64];omega
  have w2:i64.wrap ((j:Int)-1)=(j:Int)-1:=by rw[wrap_i64]
  rw[tI,aE,aE,M6.iG aYU,M6.lB,aBC,gP ⟨M6.mA,by trivial,hj,hb,by omega⟩,dU (by rfl),aR,w1,w2,cCJ];congr 1;congr 1;have e1:18446744073709551616^j*(M6.val b*(q+(0+1)))=18446744073709551616^j*(M6.val b*q)+18446744073709551616^j*M6.val b:=by rw[cDN,cDN];simp
  have e2:=(minus hR aVB).2;have e3:18446744073709551616^j*M6.val b<=18446744073709551616^(j+(b.length+1)):=by
   rw[cDP,cDL];exact cBB _ (by omega)
  omega
 |succ k ih =>
  intro w hw bBD;subst hw;have aLR:R<M6.val b*(q+(k+1)):=bZN aGW (cBB _ (by omega));have Xk:M6.val b*(q+(k+1+1))=M6.val b*(q+(k+1))+M6.val b:=by rw[<-cCD q,Nat.mul_succ]
  have aMJ:M6.val b*(q+(k+1+1))<=18446744073709551616^(b.length+1):=by
   rw[cDL];exact cIS (by omega) (by omega)
  have aAY:=plus (n:=b.length+1) hR (X:=M6.val b*(q+(k+1+1))) (by omega) aMJ;have aYU:M6.val u+18446744073709551616^(j+(b.length+1))-18446744073709551616^j*(M6.val b*(q+(k+1+1)))<18446744073709551616^L:=by
   have:=uU.bound aPP hj (X:=M6.val b*(q+(k+1+1))) (by rw[cDL];exact cGW aPV (by omega));unfold uU.Fh at this;rw[yT (by rw[<-hR];exact aBF),<-hR,aR,bYX]at this;exact this
  have aBC:Aj.Hk (M6.val u+18446744073709551616^(j+(b.length+1))-18446744073709551616^j*(M6.val b*(q+(k+1+1)))) j (b.length+1) (M6.val b)=0:=by
   unfold Aj.Hk;rw[aAY];exact cEI (by omega)
  have w1:u64.wrap (((q+(k+1+1):Nat):Int)-1)=((q+(k+1):Nat):Int):=by rw[wrap_u64];omega
  rw[tI,aE,aE,M6.iG aYU,M6.lB,aBC,gP ⟨M6.mA,by trivial,hj,hb,by omega⟩,cP (by decide),w1];have e4:M6.val u+18446744073709551616^(j+(b.length+1))-18446744073709551616^j*(M6.val b*(q+(k+1+1)))+18446744073709551616^j*M6.val b-18446744073709551616^(j+(b.length+1))*0=M6.val u+18446744073709551616^(j+(b.length+1))-18446744073709551616^j*(M6.val b*(q+(k+1))):=by
   have e1:18446744073709551616^j*(M6.val b*(q+(k+1+1)))=18446744073709551616^j*(M6.val b*(q+(k+1)))+18446744073709551616^j*M6.val b:=by rw[Xk,cDN]
   have e3:18446744073709551616^j*(M6.val b*(q+(k+1+1)))<=18446744073709551616^(j+(b.length+1)):=by
    rw[cDP];exact cBB _ aMJ
   omega
  rw[e4];exact ih _ rfl (by omega)
theorem aQE{α R:Type}{x:α}{k:α->Option R}{r:Option R}(Q:α->Prop)(hx:Q x)(hk:∀w,Q w->k w=r):aB x k=r:=hk x hx
theorem bYI{b:List Int}{L U0:Nat}(hL:L<=549755813888)(hb:M6.bM b)(hn:0<b.length)(hbL:b.length<=L):∀(t:Nat) (u qs:List Int),t<=L-b.length->u.length=L->M6.bM u->qs.length=L-b.length->M6.bM qs->M6.val u/18446744073709551616^t<M6.val b->U0=M6.val u+M6.val b*(18446744073709551616^t*M6.val (qs.drop t)) ->
  L4 u 0 L b b.length (L-b.length) qs ((t:Int)-1)=some [.own gV .u64 (M6.oP (L-b.length) (U0/M6.val b)),.io gV .u64 (M6.oP L (U0%M6.val b)) 0 0]:=by
 have aPV:=M6.cR hb;intro t
 induction t with
 |zero =>
  intro u qs _ hu hd hq aYP jM hU;rw[cIJ,Nat.div_one]at jM;rw[cIJ,cCQ,cER]at hU;rw[mG,aM];have e1:U0/M6.val b=M6.val qs:=by rw[hU,cFB _ _ (by omega),cEI jM,bYP]
  have e2:U0%M6.val b=M6.val u:=by rw[hU,cKE,cIT jM]
  rw[M6.oX hd hu e2.symm,M6.oX aYP hq e1.symm]
 |succ j ih =>
  intro u qs hj hu hd hq aYP jM hU;obtain⟨R,hR⟩:∃R,R=M6.val u/18446744073709551616^j:=⟨_,rfl⟩;have hV:0<M6.val b:=cFA (cEN _) jM;have aZA:R<18446744073709551616*M6.val b:=by
   rw[cDL,<-cEB,<-hR]at jM;rw[cDM];exact(cJO (by omega)).1 jM
  have aBF:R<18446744073709551616^(b.length+1):=by rw[cDL];omega
  obtain⟨q,aRX⟩:∃q,q=R/M6.val b:=⟨_,rfl⟩;have aVB:M6.val b*q<=R:=by rw[aRX];exact cJE _ _
  have bTZ:q<18446744073709551616:=by
   rw[aRX];apply cEF;rw[cDM];exact aZA
  have aPP:=M6.cR hd;rw[hu]at aPP;have bNW:L4 (M6.oP L (M6.val u-18446744073709551616^j*(M6.val b*q))) 0 L b b.length (L-b.length) (qs.set j (q:Int)) ((j:Int)-1)=some [.own gV .u64 (M6.oP (L-b.length) (U0/M6.val b)),.io gV .u64 (M6.oP L (U0%M6.val b)) 0 0]:=by
   obtain⟨m1,m2⟩:=minus hR aVB;refine ih _ _ (by omega) (M6.iG (by omega)) M6.mA (by simp[hq]) (M6.kM aYP ⟨by omega,by omega⟩) ?_ ?_
   ·rw[M6.lB,m1];have h1:=cIV R (M6.val b);have h2:=cAV R hV;rw[<-aRX]at h1;omega
   ·rw[M6.lB,M6.nW (by omega),cCJ,hU,cDL];have e1:M6.val b*(18446744073709551616^j*(q+18446744073709551616*M6.val (qs.drop (j+1))))=18446744073709551616^j*(M6.val b*q)+M6.val b*(18446744073709551616^j*18446744073709551616*M6.val (qs.drop (j+1))):=by
     rw[cDN,cDN,cGH,cDQ (18446744073709551616^j)]
    rw[e1];omega
  have hx:((j+1:Nat):Int)-1=(j:Int):=by omega
  have w1:i64.wrap ((j:Int)+(b.length:Int))=((j+b.length:Nat):Int):=by rw[wrap_i64];omega
  have w2:i64.wrap (((j+b.length:Nat):Int)-1)=((j+b.length-1:Nat):Int):=by rw[wrap_i64];omega
  have w3:i64.wrap ((b.length:Int)-1)=((b.length-1:Nat):Int):=by rw[wrap_i64];omega
  have w4:i64.wrap (((j+b.length:Nat):Int)+1)=((j+b.length+1:Nat):Int):=by rw[wrap_i64];omega
  have w5:i64.wrap ((j:Int)-1)=(j:Int)-1:=by rw[wrap_i64]
  have e5:j+b.length+1-j=b.length+1:=by omega
  have g1:=hd.get (j+b.length);have g2:=hd.get (j+b.length-1);have g3:=hb.get (b.length-1);have Uc:(u.getD (j+b.length) 0).toNat=R/18446744073709551616^b.length:=by
   rw[digit hd,cDP,<-cEB,<-hR,cIT];apply cEF;rw[cDL]at aBF;exact aBF
  have Vv:(u.getD (j+b.length-1) 0).toNat=R/18446744073709551616^(b.length-1)%18446744073709551616:=by
   rw[digit hd,show j+b.length-1=j+(b.length-1)from by omega,cDP,<-cEB,<-hR]
  have aMC:(b.getD (b.length-1) 0).toNat=M6.val b/18446744073709551616^(b.length-1):=by
   rw[digit hb,cIT];apply cEF;rw[<-cDL,show(b.length-1).succ=b.length from by omega];exact aPV
  have ht:=aJF hn aPV aZA Uc Vv aMC g1.1;rw[hx,mG,aO,w1,w2,w3,w4,aR,aR,aR,cCJ,cCJ,cCJ,bYP,bYP,gP ⟨g1.1,g2.1,g2.2,g3.2⟩];refine aQE (fun w:Int=>R/M6.val b<=w.toNat/\0<=w/\w<18446744073709551616) ht ?_;rintro w ⟨Ai,h0,h1⟩;obtain⟨w,rfl⟩:=cDO h0;rw[cCJ]at Ai;rw[aR];simp only[cCJ,bYP,e5];rw[hu,gP ⟨hd,by trivial,by omega,hb,by omega,h0,h1⟩,aE,aE]
  by_cases hc:M6.val b*w<=R
  ·have ho:uU.Fh (M6.val u) j (b.length+1) (M6.val b*w)=0:=by
    unfold uU.Fh;rw[yT (by rw[<-hR];exact aBF),<-hR,bI]
   have bOH:w=q:=by
    have:w<=R/M6.val b:=by rw[cKA hV,cDM];exact hc
    omega
   subst bOH;rw[ho,dU (by rfl),aR,Nat.mul_zero,bZO,w5];exact bNW
  ·have ho:uU.Fh (M6.val u) j (b.length+1) (M6.val b*w)=1:=by
    unfold uU.Fh;rw[yT (by rw[<-hR];exact aBF),<-hR,aR]
   have bOH:q<w:=by
    rcases bZC q w with h |h
    ·exact h
    ·exact absurd (bZJ (cBB _ h) aVB) hc
   rw[ho,cP (by decide),bYX];rw[bNG hL hu hd hb (by omega) hR aBF hV aRX hq (w-q-1) w (by omega) (by omega)];exact bNW
theorem spec(x:List Int×Nat×Nat)(b:List Int)(h:(sp x b).1):aG E f209 aF [(Ek gV .u64).put x,(pI .u64).put b]=some (sp x b).2/\∃rs oR,(sp x b).2=rs ++ [.io gV .u64 oR 0 0]/\oR.length=x.1.length:=by
 obtain⟨xl,xo,xn⟩:=x;obtain⟨hd,ho,hn,hb,h0,aMH,hL,jM⟩:=h;simp only at hd ho hn aMH hL jM;subst ho;subst hn;refine⟨(start xl 0 xl.length b).trans ?_,[_],_,rfl,M6.iG ?_⟩
 ·have w1:i64.wrap ((xl.length:Int)-(b.length:Int))=((xl.length-b.length:Nat):Int):=by rw[wrap_i64];omega
  have w2:i64.wrap (((xl.length-b.length:Nat):Int)-1)=((xl.length-b.length:Nat):Int)-1:=by rw[wrap_i64]
  rw[w1,w2,aR,cCJ];refine bYI hL hb h0 aMH (xl.length-b.length) xl _ (bYN _) rfl hd (by simp) (M6.gU _) jM ?_;rw[cJQ (by simp)];simp[M6.val]
 ·show _<18446744073709551616^xl.length;exact cFA (Nat.mod_le _ _) (M6.cR hd)
def aJ:dO:=orc2 (Ek gV .u64) (pI .u64) sp
theorem fnok:nS prog E 209 f209 aF:=wK qP mixed (mU _ _ rfl rfl (nN uU.ok (nN Aj.ok wY)) (aA aCF.ok aD) (oD)) func209 rfl rfl rfl rfl rfl
theorem ok:sG prog base.glob 209 aJ:=fnok.jZ rfl spec
end Gy
namespace Cb
def E:Env:={ ({ base with C:=rW [(209,Gy.aJ)] (callsOf [(167,iC.aJ),(125,Ch.aJ),(205,aOK.aJ),(206,pD.aJ),(117,sJ.aJ),(207,aOM.aJ),(208,Bw.aJ),(115,Hf.aJ)]),ioF:=Mw [(209,Gy.aJ)] })with nt:=98,own:=[37,49,55,68,76,88,93],keep:=fun k=>(tlook [] k).getD [],cut:=tlook [(3,[0,1])] }
def aF:=bd f165
theorem aU:Nk E aF:=nk
def J3 a b:=lP E f165 aF 3 [iY a,iY b]
theorem start a b:aG E f165 aF [D.s (ints u64 a),D.s (ints u64 b)]=letI B:=sc (slice none 0 0);letI A:=some [D.s B,D.s B,D.s (sc (int i64 2))];aN (a.length<=1099511627776) (aC (!iC.qR a) A (aN (b.length<=1099511627776) (aC (!iC.qR b) A (Cb.J3 a b)))):=eJ aU
theorem fH a b:J3 a b=letI K:=sc (int i64 0);letI H:=(a.length:Int);letI O:=H+(1:Int);letI G:=sc (slice none 0 0);letI C:=i64.wrap O;letI A:=(b.length:Int);letI N:=A-(1:Int);letI F:=i64.wrap N;aC (A==(0:Int)) (some [D.s G,D.s G,D.s (sc (int i64 4))]) (aN (M6.bM a/\M6.bM b/\a.length<=1099511627776/\b.length<=1099511627776) (aC (decide (iW (M6.val a) (M6.val b)<0)) (aN (M6.bM a/\a.length<=1099511627776) (aB (bif dP.oQ (M6.val a)then M6.dg (M6.val a)else []) fun c=>some [D.s G,D.s (ints u64 c),D.s K])) (aC (A==(1:Int)) (if(0:Int)<=(0:Int)/\0<A then aN (M6.cO a/\a.length<=8192/\0<b.getD 0 0/\b.getD 0 0<(18446744073709551616:Int)) (aB (M6.dg (M6.val a/(b.getD 0 0).toNat)) fun d=>aB (↑(M6.val a%(b.getD 0 0).toNat):Int) fun e=>aN (0<=e/\e<18446744073709551616) (some [D.s (ints u64 d),D.s (ints u64 (M6.dg e.toNat)),D.s K]))else none) (if 0<=i64.wrap N/\i64.wrap N<A then aN (0<=b.getD F.toNat 0/\b.getD F.toNat 0<(18446744073709551616:Int)) (aB ((64:Int)-(↑(bl (b.getD F.toNat 0).toNat):Int)) fun f=>aN (M6.bM a/\0<=f/\f<64/\0<=i64.wrap O/\a.length<=C.toNat/\i64.wrap O<=549755813888/\M6.val a*(2:Nat)^f.toNat<(18446744073709551616:Nat)^C.toNat) (aB (M6.oP C.toNat (M6.val a*(2:Nat)^f.toNat)) fun g=>aN (M6.bM b/\0<=f/\f<64/\0<=A/\b.length<=A.toNat/\A<=(549755813888:Int)/\M6.val b*(2:Nat)^f.toNat<(18446744073709551616:Nat)^A.toNat) (aB (M6.oP A.toNat (M6.val b*(2:Nat)^f.toNat)) fun h=>letI P:=g.length-h.length;letI I:=(h.length:Int);aN (M6.bM g/\(0:Nat)=(0:Nat)/\g.length=g.length/\M6.bM h/\0<h.length/\h.length<=g.length/\g.length<=549755813888/\M6.val g/(18446744073709551616:Nat)^P<M6.val h) (aB (M6.oP P (M6.val g/M6.val h)) fun i=>aB (M6.oP g.length (M6.val g%M6.val h)) fun j=>letI B:=cEG (I.toNat-0) (cEH 0 j);if(0:Int)<=(0:Int)/\0<=I/\I<=(g.length:Int)then aN (M6.bM B/\B.length<=1099511627776) (aB (bif dP.oQ (M6.val B)then M6.dg (M6.val B)else []) fun k=>aN (M6.cO k/\k.length<=8192/\0<=f/\f<4611686018427387904) (aB (M6.dg (M6.val k/(2:Nat)^f.toNat)) fun l=>aN (M6.bM i/\i.length<=1099511627776) (aB (bif dP.oQ (M6.val i)then M6.dg (M6.val i)else []) fun m=>some [D.s (ints u64 m),D.s (ints u64 l),D.s K])))else none))))else none)))):=cJ aU
def sp(a b:List Int):Prop×List D:=(M6.cO a/\a.length<=8192/\M6.cO b/\1<=b.length/\b.length<=8192,[.s (.ints .u64 (M6.dg (M6.val a/M6.val b))),.s (.ints .u64 (M6.dg (M6.val a%M6.val b))),.s (.sc (.int .i64 0))])
theorem aAP{n k:Nat}(h:n<18446744073709551616^k)(hk:k<=8192):dP.oQ n=true:=dqT (by have:=M6.cU h;omega)
theorem spec:Om E f165 aF (pI .u64) (pI .u64) sp:=by
 rintro a b ⟨ha,hl,hb,h1,aMH⟩;have e:=start a b;have g:=hb.iA.get 0;have hz:M6.val b≠0:=fun h=>by have:=(M6.cY hb).2 h;omega
 rw[gP,iC.pP ha hl,cAN,bF,gP,iC.pP hb (by omega),cAN,bF,fH,cP,gP ⟨ha.iA,hb.iA,by omega,by omega⟩]at e;unfold sp;simp only
 by_cases hc:M6.val a<M6.val b
 ·have Xm:dP.oQ (M6.val a)=true:=aAP (M6.cR ha.iA) hl;rw[aO (by unfold iW;rw[if_pos hc];omega),gP ⟨ha.iA,by omega⟩,aE,Xm]at e;rw[cEI hc,cIT hc,M6.cL];exact⟨_,e,.cons (Df.nil _) (iZ.refl _)⟩
 have hm:=cAV (M6.val a) (show 0<M6.val b by omega);rw[aM (by unfold iW;rw[if_neg hc];split <;> omega)]at e
 by_cases Qa:b.length=1
 ·have hv:M6.val b=(b.getD 0 0).toNat:=by
   have:=M6.bR (a:=b) 0;rw[M6.cC (by omega)]at this;simpa [M6.val] using this
  rw[dU,if_pos ⟨by omega,by omega⟩,gP ⟨ha,by omega,by omega,by omega⟩,<-hv,aE,aE,gP ⟨cIA _,by generalize M6.val a%M6.val b=m at *;omega⟩,cCJ]at e;exact⟨_,e,iZ.refl _⟩
 ·have w1:i64.wrap ((b.length:Int)-1)=((b.length-1:Nat):Int):=by rw[wrap_i64];omega
  have w2:i64.wrap ((a.length:Int)+1)=((a.length+1:Nat):Int):=by rw[wrap_i64];omega
  have gt:=hb.iA.get (b.length-1);have aXR:b.getD (b.length-1) 0≠0:=by
   have:=M6.getLast_take (a:=b) (n:=b.length-1) (by omega);rw[show b.length-1+1=b.length from by omega,cFF]at this;exact hb.top this
  have aUY:=M6.bR (a:=b) (b.length-1);rw[show b.length-1+1=b.length from by omega,cFF]at aUY;have bJN:=M6.fY hb.iA (b.length-1);obtain⟨x,hx⟩:=cDO gt.1;have Ku:x≠0:=by omega
  have bVR:bl x<=64:=eF.2 (by omega);have bLM:=mY Ku;have bGQ:=wX x;obtain⟨s,hs⟩:∃s:Nat,s=64-bl x:=⟨_,rfl⟩;have ws:(64-(bl x:Int))=(s:Int):=by omega
  have aEX:=M6.cR ha.iA;have bFC:=M6.cR hb.iA;have Ty:2^s<18446744073709551616:=by
   have:2^s<2^64:=cFE (by omega) (by omega);omega
  have Na:0<2^s:=cD;have bHQ:M6.val a*2^s<18446744073709551616^(a.length+1):=by rw[cDL];exact cGW aEX Ty
  have bBU:M6.val b*2^s<18446744073709551616^b.length:=by
   have h2:(x+1)*2^s<=2^bl x*2^s:=cAA _ bGQ;rw[<-cDP,show bl x+s=64 from by omega]at h2;have h3:M6.val b+1<=18446744073709551616^(b.length-1)*(x+1):=by
    rw[aUY,hx,cCJ,cDN];omega
   have h4:(M6.val b+1)*2^s<=18446744073709551616^(b.length-1)*(x+1)*2^s:=cAA _ h3;have h5:18446744073709551616^(b.length-1)*((x+1)*2^s)<=18446744073709551616^(b.length-1)*2^64:=cBB _ h2;have h6:18446744073709551616^(b.length-1)*2^64=18446744073709551616^b.length:=by
    conv=>rhs;rw[show b.length=(b.length-1)+1 from by omega,cDL]
   rw[h6]at h5;rw[cDQ]at h4;rw[bZH]at h4;omega
  have bKM:b.length<=a.length:=by
   rcases bZC a.length b.length with h |h
   ·exact absurd (M6.oB ha.iA hb h) hc
   ·exact h
  have Ai:18446744073709551616^(b.length-1)<=M6.val b:=by
   rw[aUY,hx,cCJ];have:18446744073709551616^(b.length-1)*1<=18446744073709551616^(b.length-1)*x:=cBB _ (by omega);omega
  have Rl:M6.val a*2^s/18446744073709551616^(a.length+1-b.length)<M6.val b*2^s:=by
   apply cEF;have h1:18446744073709551616^(a.length+1-b.length)*18446744073709551616^(b.length-1)<=18446744073709551616^(a.length+1-b.length)*M6.val b:=cBB _ Ai;rw[<-cDP,show a.length+1-b.length+(b.length-1)=a.length from by omega]at h1;rw[<-cDQ];exact cGU (bZN aEX h1) Na
  have hQ:M6.val a*2^s/(M6.val b*2^s)=M6.val a/M6.val b:=cHG _ _ Na;have hR:M6.val a*2^s%(M6.val b*2^s)=M6.val a%M6.val b*2^s:=cHH _ _ _;have bHN:M6.val a%M6.val b*2^s<18446744073709551616^b.length:=Nat.lt_trans (cGU hm Na) bBU;have hRl2:M6.val a%M6.val b*2^s<18446744073709551616^(a.length+1):=bZN bHN (M6.qC (by omega));have bWH:M6.val a/M6.val b<18446744073709551616^a.length:=cFA (cGV _ _) aEX;have bLT:M6.val a/M6.val b<18446744073709551616^(a.length+1-b.length):=by
   apply cEF;have h1:18446744073709551616^(b.length-1)*18446744073709551616^(a.length+1-b.length)<=M6.val b*18446744073709551616^(a.length+1-b.length):=cAA _ Ai;rw[<-cDP,show b.length-1+(a.length+1-b.length)=a.length from by omega]at h1;omega
  have bDL:M6.val ((M6.oP (a.length+1) (M6.val a%M6.val b*2^s)).take b.length)=M6.val a%M6.val b*2^s:=by
   rw[M6.mN M6.mA,M6.lB,cIT bHN]
  rw[cP,w1,w2,aR,cCJ,cCJ,cCJ,gP gt,hx,cCJ,ws,aE,cCJ,
   gP ⟨ha.iA,by omega,by omega,by omega,by omega,by omega,bHQ⟩,aE,gP ⟨hb.iA,by omega,by omega,by omega,bYN _,by omega,bBU⟩,aE,
   M6.iG bHQ,M6.iG bBU,M6.lB,M6.lB,cCJ,gP ⟨M6.mA,rfl,rfl,M6.mA,by omega,by omega,by omega,Rl⟩,aE,aE,hQ,hR,
   aR,cER,Nat.sub_zero,bDL,gP ⟨M6.mA.take _,by rw[cBD];omega⟩,aAP bHN aMH,cond_true,aE,
   gP ⟨M6.bA _,by have:=M6.cU bHN;omega,by omega,by omega⟩,M6.bD,cIL _ Na,aE,gP ⟨M6.mA,by rw[M6.iG bLT];omega⟩,M6.lB,aAP bWH hl,cond_true,aE]at e
  exact⟨_,e,iZ.refl _⟩
def aJ:dO:=orc2 (pI .u64) (pI .u64) sp
theorem fnok:tJ prog E 165 f165 aF:=Yb qP mixed (mU _ _ rfl rfl (nN Gy.ok wY) (aA iC.ok (aA Ch.ok (aA aOK.ok (aA pD.ok (aA sJ.ok (aA aOM.ok (aA Bw.ok (aA Hf.ok aD)))))))) (oD)) func165 rfl rfl rfl
theorem ok:nR prog base.glob 165 aJ:=fnok.aIW rfl spec
end Cb
namespace dG
def E:=mE [(164,Cl.aJ),(61,oU.aJ),(68,pV.aJ),(127,yL.aJ),(122,mI.aJ),(165,Cb.aJ),(117,sJ.aJ),(124,wW.aJ),(166,dC.aJ)] 122 [119] [(9,[2,3,4,5,8]),(15,[2,3,4,5,8,10,13]),(16,[2,3,4,5,8,10,16])] [9,15,16]
def aF:=bd f111
theorem aU:Nk E aF:=nk
def J9 a b c d e f g h i j:=lP E f111 aF 9 [bJ a,aGE b,bK 2 29 [bC c,eR d,cV e],bK 3 29 [bC f,eR g,cV h],bK 4 29 [bC i,sc (slice none 0 0),cV j]]
def aIF a b c d e f g h i j k l:=lP E f111 aF 15 [bJ a,aGE b,bK 2 29 [bC c,eR d,cV e],bK 3 29 [bC f,eR g,cV h],bK 4 29 [bC i,sc (slice none 0 0),cV j],bJ k,iY l]
def aTS a b c d e f g h i j k l m:=lP E f111 aF 16 [bJ a,aGE b,bK 2 29 [bC c,eR d,cV e],bK 3 29 [bC f,eR g,cV h],bK 4 29 [bC i,sc (slice none 0 0),cV j],bJ k,bK 6 27 [bC l,eR m]]
theorem start a b e f g h c d:aG E f111 aF [D.agg [sc (bool a),ints u64 b,sc (int i64 e)],D.agg [sc (bool f),ints u64 g,sc (int i64 h)],D.s (sc (int i64 c)),D.s (sc (bool d))]=letI F:=int i64 0;letI C:=bool false;letI B:=slice none 0 0;letI A:=some [D.agg [sc C,sc B,sc F],D.s (sc (int i64 5))];aN True (aB (decide (1<=c)&&decide (c<=70000)) fun i=>aC (!i) (some [D.agg [sc C,sc B,sc F],D.s (sc (int i64 1))]) (aN (aQ (a,b,e)) (aN (aQ (f,g,h)) (aN True (aB ((g.length:Int)==(0:Int)) fun j=>aC j (some [D.agg [sc C,sc B,sc F],D.s (sc (int i64 4))]) (aC (decide (4096<(b.length:Int))) A (aC (decide (4096<(g.length:Int))) A (dG.J9 c d a b e f g h false 0)))))))):=eJ aU
theorem aOW a b c d e f g h i j:J9 a b c d e f g h i j=letI A:=i64.wrap (i64.wrap (a+2)+(↑(bl (M6.val g)):Int))-(↑(bl (M6.val d)):Int);aN (M6.bM g/\g.length<=1099511627776) (aN (M6.bM d/\d.length<=1099511627776) (aN (M6.cO d/\d.length<=8192/\(0<=if i64.wrap A>(0:Int)then i64.wrap A else(0:Int))/\(if i64.wrap A>(0:Int)then i64.wrap A else(0:Int))<4611686018427387904) (aB (bif mI.kU (M6.val d) (if i64.wrap A>(0:Int)then i64.wrap A else(0:Int)).toNat then M6.dg (M6.val d*(2:Nat)^(if i64.wrap A>(0:Int)then i64.wrap A else(0:Int)).toNat)else []) fun k=>aN (M6.cO k/\k.length<=8192/\M6.cO g/\1<=g.length/\g.length<=8192) (aB (M6.dg (M6.val k/M6.val g)) fun l=>aB (M6.dg (M6.val k%M6.val g)) fun m=>aN (M6.cO l/\l.length<=8192/\(0:Int)<=(1:Int)/\(1:Int)<(4611686018427387904:Int)) (aB (bif mI.kU (M6.val l) 1 then M6.dg (M6.val l*2)else []) fun n=>letI B:=M6.val n+M6.val (M6.dg 1);aC (decide (0<(m.length:Int))) (aN ((0:Int)<=(1:Int)/\(1:Int)<(18446744073709551616:Int)) (aN (M6.cO n/\M6.cO (M6.dg 1)/\n.length<=8192/\(M6.dg 1).length<=8192) (aB (bif dP.oQ B then M6.dg B else []) fun o=>dG.aIF a b c d e f g h i j (if i64.wrap A>(0:Int)then i64.wrap A else(0:Int)) o))) (dG.aIF a b c d e f g h i j (if i64.wrap A>(0:Int)then i64.wrap A else(0:Int)) n)))))):=cJ aU
theorem Pb a b c d e f g h i j k l:aIF a b c d e f g h i j k l=aC (c !=f) (dG.aTS a b c d e f g h i j k (decide (0<(l.length:Int))) l) (dG.aTS a b c d e f g h i j k false l):=cJ aU
theorem aCM a b c d e f g h i j k l m:aTS a b c d e f g h i j k l m=letI C:=i64.wrap (i64.wrap (e-h)-k)-1;letI A:=dC.pM b (wv (l,m)) (i64.wrap C) a;letI B:=bif jR A.fst A.snd then bW A.fst A.snd else((0:Int),(0:Int));aN (jA (l,m)/\((-4611686018427387904:Int)<=i64.wrap C/\i64.wrap C<4611686018427387904)/\1<=a/\a<=70000) (aB (isNeg B.fst) fun n=>aB (M6.dg B.fst.natAbs) fun o=>aB B.snd fun p=>aB (bif jR A.fst A.snd then(0:Int)else(5:Int)) fun q=>some [D.agg [sc (bool n),ints u64 o,sc (int i64 p)],D.s (sc (int i64 q))]):=cJ aU
def Dm(p:Int)(a b:Nat):Nat:=(p+2+(bl b:Nat)-(bl a:Nat)).toNat
def Wt(a b s:Nat):Nat:=a*2^s/b*2+if a*2^s%b=0 then 0 else 1
def bCO(p:Int)(x y:Int×Int):Int×Int:=(zs (isNeg x.1 !=isNeg y.1) (Wt x.1.natAbs y.1.natAbs (Dm p x.1.natAbs y.1.natAbs)),x.2-y.2-(Dm p x.1.natAbs y.1.natAbs:Nat)-1)
def vY(up:Bool)(p:Int)(x y:Int×Int):Int×Int:=dC.pM up (bCO p x y).1 (bCO p x y).2 p
def sp(x y:fB)(p:Int)(up:Bool):Prop×List D:=(aQ x/\aQ y/\(dv y).1≠0/\x.2.1.length<=4096/\y.2.1.length<=4096/\1<=p/\p<=70000,dE (jR (vY up p (dv x) (dv y)).1 (vY up p (dv x) (dv y)).2) (bW (vY up p (dv x) (dv y)).1 (vY up p (dv x) (dv y)).2))
theorem aQD(n:Bool)(q:Nat):wv (n&&decide (0<((M6.dg q).length:Int)),M6.dg q)=zs n q/\(bl q<=524288->jA (n&&decide (0<((M6.dg q).length:Int)),M6.dg q)):=by
 have hz:=M6.fZ (n:=q)
 by_cases h:q=0
 ·rw[dqF (by have:=hz.2 h;omega),cDY,h];refine⟨?_,fun _=>⟨M6.bA _,fun hf=>absurd hf (by simp),by rw[M6.cL];simp⟩⟩;unfold wv zs;rw[M6.bD];cases n <;> rfl
 ·rw[dqT (by have:=fun hl=>h (hz.1 hl);omega),Bool.and_true];refine⟨?_,fun hb=>⟨M6.bA _,fun _=>by rw[M6.bD];exact h,gI (k:=8192) (by omega)⟩⟩;unfold wv;rw[M6.bD]
theorem wM{a s n:Nat}(h:a≠0->bl a+s<=n):bl (a*2^s)<=n:=by
 by_cases h0:a=0
 ·subst h0;rw[cGE];exact bZJ (by decide) (cEN n)
 ·rw[cDM,Ny h0];have:=h h0;omega
theorem spec:Zg E f111 aF jQ jQ (pN .i64) pB sp:=by
 rintro x y p up ⟨hx,hy,h0,bUI,bKI,Ie,yS⟩;have ex:=hx.2.1;have ey:=hy.2.1;refine(start x.1 x.2.1 x.2.2 y.1 y.2.1 y.2.2 p up).trans ?_;have hv0:M6.val y.2.1≠0:=fun h=>h0 (aCU.2 h)
 have aSC:y.2.1.length≠0:=fun h=>hv0 ((M6.cY hy.Fi).1 h)
 have bx:=De hx.Fi.iA bUI;have bXM:=De hy.Fi.iA bKI
 have ax:(dv x).1.natAbs=M6.val x.2.1:=iX (x.1,x.2.1);have ay:(dv y).1.natAbs=M6.val y.2.1:=iX (y.1,y.2.1);have sx:isNeg (dv x).1=x.1:=hx.Ln.cells.1;have sy:isNeg (dv y).1=y.1:=hy.Ln.cells.1;have w1:i64.wrap (i64.wrap (i64.wrap (p+2)+(bl (M6.val y.2.1):Int))-(bl (M6.val x.2.1):Int))=p+2+(bl (M6.val y.2.1):Int)-(bl (M6.val x.2.1):Int):=by
  rw[wrap_i64 (n:=p+2),wrap_i64 (n:=p+2+(bl (M6.val y.2.1):Int)) (by omega) (by omega),wrap_i64]
 simp only[aE];rw[gP trivial,dqT Ie,dqT yS,cBO,cAN,bF,gP hx,gP hy,gP trivial,cP,aM,aM,aOW,w1];unfold sp vY bCO
 try dsimp only
 rw[ax,ay,sx,sy];have hs:(if p+2+(bl (M6.val y.2.1):Int)-(bl (M6.val x.2.1):Int)>0 then p+2+(bl (M6.val y.2.1):Int)-(bl (M6.val x.2.1):Int)else 0)=((Dm p (M6.val x.2.1) (M6.val y.2.1):Nat):Int):=by
  unfold Dm;split <;> omega
 rw[hs];have bTR:M6.val x.2.1≠0->bl (M6.val x.2.1)+Dm p (M6.val x.2.1) (M6.val y.2.1)<=332200:=fun _=>by unfold Dm;omega
 have hsl:Dm p (M6.val x.2.1) (M6.val y.2.1)<=332200:=by unfold Dm;omega
 generalize Dm p (M6.val x.2.1) (M6.val y.2.1)=s at *;have Bm:=wM bTR;have hX:mI.kU (M6.val x.2.1) s=true:=by rw[Iz.Kh];exact dqT (by omega)
 have lX:=gI (n:=M6.val x.2.1*2^s) (k:=8192) (by omega);have Tx:bl (M6.val x.2.1*2^s/M6.val y.2.1)<=332200:=bZJ (gD (cGV _ _)) Bm;have lQ:=gI (n:=M6.val x.2.1*2^s/M6.val y.2.1) (k:=8192) (by omega);have hQ:∀q,bl q<=332200->mI.kU q 1=true:=fun q hq=>by rw[Iz.Kh];exact dqT (by have:=wM (a:=q) (s:=1) (n:=332201) (fun _=>by omega);omega)
 rw[gP ⟨hy.Fi.iA,by omega⟩,gP ⟨hx.Fi.iA,by omega⟩,gP ⟨hx.Fi,hx.len,by omega,by omega⟩,cCJ];simp only[aE];rw[hX,cond_true,gP ⟨M6.bA _,lX,hy.Fi,by omega,hy.len⟩,M6.bD,gP ⟨M6.bA _,lQ,by omega,by omega⟩,M6.bD];have bTS:decide (0<(((M6.dg (M6.val x.2.1*2^s%M6.val y.2.1)).length:Nat):Int))=decide (M6.val x.2.1*2^s%M6.val y.2.1≠0):=by
  have:=M6.fZ (n:=M6.val x.2.1*2^s%M6.val y.2.1)
  by_cases h:M6.val x.2.1*2^s%M6.val y.2.1=0
  ·rw[dqF (by have:=this.2 h;omega),dqF (by omega)]
  ·rw[dqT (by have:=fun hl=>h (this.1 hl);omega),dqT h]
 rw[bTS];have j16:∀(b11:Bool) (q:Nat),bl q<=332202->wv (b11,M6.dg q)=zs (x.1 !=y.1) q->jA (b11,M6.dg q)->aTS p up x.1 x.2.1 x.2.2 y.1 y.2.1 y.2.2 false 0 s b11 (M6.dg q)=some (dE (jR (dC.pM up (zs (x.1 !=y.1) q) (x.2.2-y.2.2-(s:Int)-1) p).1 (dC.pM up (zs (x.1 !=y.1) q) (x.2.2-y.2.2-(s:Int)-1) p).2) (bW (dC.pM up (zs (x.1 !=y.1) q) (x.2.2-y.2.2-(s:Int)-1) p).1 (dC.pM up (zs (x.1 !=y.1) q) (x.2.2-y.2.2-(s:Int)-1) p).2)):=by
  intro b11 q hq hw Xm;have w2:i64.wrap (i64.wrap (i64.wrap (x.2.2-y.2.2)-(s:Int))-1)=x.2.2-y.2.2-(s:Int)-1:=by
   rw[wrap_i64 (n:=x.2.2-y.2.2),wrap_i64 (n:=x.2.2-y.2.2-(s:Int)),wrap_i64]
  rw[aCM,w2,gP ⟨Xm,⟨by omega,by omega⟩,Ie,yS⟩,hw];simp only[aE];rfl
 have j15:∀q,bl q<=332202->aIF p up x.1 x.2.1 x.2.2 y.1 y.2.1 y.2.2 false 0 s (M6.dg q)=some (dE (jR (dC.pM up (zs (x.1 !=y.1) q) (x.2.2-y.2.2-(s:Int)-1) p).1 (dC.pM up (zs (x.1 !=y.1) q) (x.2.2-y.2.2-(s:Int)-1) p).2) (bW (dC.pM up (zs (x.1 !=y.1) q) (x.2.2-y.2.2-(s:Int)-1) p).1 (dC.pM up (zs (x.1 !=y.1) q) (x.2.2-y.2.2-(s:Int)-1) p).2)):=by
  intro q hq;obtain⟨v1,v2⟩:=aQD (x.1 !=y.1) q;have v2:=v2 (by omega);rw[Pb];cases hn:x.1 !=y.1 with
  |true =>
   rw[hn]at v1 v2;rw[bT];have:=j16 _ q hq (by rw[hn];exact v1) v2;rw[hn]at this;exact this
  |false =>
   rw[hn]at v1 v2;rw[bF];have:=j16 _ q hq (by rw[hn];exact v1) v2;rw[hn]at this;exact this
 unfold Wt;generalize M6.val x.2.1*2^s/M6.val y.2.1=Q at *;have bWK:bl (Q*2)<=332201:=wM (s:=1) (fun _=>by omega);have bSS:=gI (n:=Q*2) (k:=8192) (by omega);have bWJ:bl (Q*2+1)<=332202:=by
  rw[eF]at bWK ⊢;rw[cDL];have:=cBM (n:=332201) (show 0<2 by omega);omega
 have one:=gI (n:=1) (k:=1) (eF.2 (by omega))
 by_cases hr:M6.val x.2.1*2^s%M6.val y.2.1=0
 ·rw[aM,if_pos hr,hQ _ Tx,cond_true,j15 _ (by omega)];rfl
 ·have bRY:dP.oQ (Q*2+1)=true:=by rw[show dP.oQ _=_ from Cx];exact dqT (by omega)
  rw[aO,if_neg hr,hQ _ Tx,cond_true,gP ⟨by omega,by omega⟩,gP ⟨M6.bA _,M6.bA _,bSS,by omega⟩,M6.bD,M6.bD,bRY,cond_true,j15 _ bWJ];rfl
def aJ:dO:=orc4 jQ jQ (pN .i64) pB sp
theorem ok:OK 111 aJ:=(eI E aF (aA Cl.ok (aA oU.ok (aA pV.ok (aA yL.ok (aA mI.ok (aA Cb.ok (aA sJ.ok (aA wW.ok (aA dC.ok aD))))))))) func111).aUP rfl spec
end dG
end W
namespace M
open Go AI W
def shD(up:Bool)(p:Int×Int)(n:Int):Int×Int:=bW (dC.pM up p.1 p.2 n).1 (dC.pM up p.1 p.2 n).2
def uE(up:Bool)(p:Int×Int)(n:Int):Bool:=jR (dC.pM up p.1 p.2 n).1 (dC.pM up p.1 p.2 n).2
theorem yG{z:Int}{k:Nat}:((z/((2^k:Nat):Int):Int):Rat)*((2^k:Nat):Rat)<=(z:Rat)/\(z:Rat)<(((z/((2^k:Nat):Int):Int):Rat)+1)*((2^k:Nat):Rat):=by
 have hp:(0:Int)<((2^k:Nat):Int):=by have:=cBM (n:=k) (show 0<2 by omega);omega
 have h1:=Int.ediv_mul_le z (show((2^k:Nat):Int)≠0 by omega);have h2:=Int.lt_ediv_add_one_mul_self z hp;constructor
 ·have:(((z/((2^k:Nat):Int))*((2^k:Nat):Int):Int):Rat)<=(z:Rat):=Rat.intCast_le_intCast.2 h1;rwa [cJA,cIW]at this
 ·have:(z:Rat)<(((z/((2^k:Nat):Int)+1)*((2^k:Nat):Int):Int):Rat):=Rat.intCast_lt_intCast.2 h2;rwa [cJA,cIW,cKB]at this
theorem aFI(up:Bool)(z:Int)(k:Nat):(up=false->(lG.rD up z k:Rat)*((2^k:Nat):Rat)<=(z:Rat)/\(z:Rat)<(lG.rD up z k:Rat)*((2^k:Nat):Rat)+((2^k:Nat):Rat))/\(up=true->(z:Rat)<=(lG.rD up z k:Rat)*((2^k:Nat):Rat)/\(lG.rD up z k:Rat)*((2^k:Nat):Rat)<(z:Rat)+((2^k:Nat):Rat)):=by
 constructor
 ·rintro rfl;obtain⟨h1,h2⟩:=yG (z:=z) (k:=k);unfold lG.rD;rw[cond_false];generalize ((z/((2^k:Nat):Int):Int):Rat)=q at *;constructor <;> grind
 ·rintro rfl;obtain⟨h1,h2⟩:=yG (z:=-z) (k:=k);unfold lG.rD;rw[cond_true,cJG];rw[cJG]at h1 h2;generalize ((-z/((2^k:Nat):Int):Int):Rat)=q at *;constructor <;> grind
theorem nY{p:Int×Int}(h:p.1≠0):R.pz (bG p)<=R.ab (R.qz p)/\R.ab (R.qz p)<R.pz (bG p+1):=by
 have hb:=mY (n:=p.1.natAbs) (by omega);have h1:2^(bl p.1.natAbs-1)<=p.1.natAbs:=tD.1 (by omega);have h2:=wX p.1.natAbs;have e:R.ab (R.qz p)=(p.1.natAbs:Rat)*R.pz p.2:=by
  unfold R.qz;rw[R.dV,R.bQ (cDU (R.dK p.2))];congr 1;unfold R.ab
  by_cases hz:0<=p.1
  ·rw[if_pos (by exact_mod_cast hz),<-cIW];congr 1;omega
  ·rw[if_neg (by intro hc;exact hz (by exact_mod_cast hc)),<-cIW,<-cJG];congr 1;omega
 have hp:=R.dK p.2;rw[e];unfold bG;constructor
 ·rw[show p.2+(bl p.1.natAbs:Int)-1=p.2+((bl p.1.natAbs-1:Nat):Int) by omega,R.dZ];have aBG:((2^(bl p.1.natAbs-1):Nat):Rat)<=(p.1.natAbs:Rat):=by exact_mod_cast h1
  have:=R.aI (cDU hp) (show 0<=(p.1.natAbs:Rat)-((2^(bl p.1.natAbs-1):Nat):Rat) by grind);grind
 ·rw[show p.2+(bl p.1.natAbs:Int)-1+1=p.2+(bl p.1.natAbs:Int) by omega,R.dZ];have aVO:(p.1.natAbs:Rat)<((2^bl p.1.natAbs:Nat):Rat):=by exact_mod_cast h2
  have:=cEE hp (show 0<((2^bl p.1.natAbs:Nat):Rat)-(p.1.natAbs:Rat) by grind);grind
theorem Hs(up:Bool)(p:Int×Int){n:Int}(aPR:1<=n):(up=false->R.qz (shD up p n)<=R.qz p/\R.qz p<=R.qz (shD up p n)+R.pz (1-n)*R.ab (R.qz p))/\(up=true->R.qz p<=R.qz (shD up p n)/\R.qz (shD up p n)<=R.qz p+R.pz (1-n)*R.ab (R.qz p)):=by
 have h0:0<=R.pz (1-n)*R.ab (R.qz p):=R.aI (cDU (R.dK _)) (R.aT _);unfold shD dC.pM;split
 ·have e:R.qz (bW p.1 p.2)=R.qz p:=qB p.1 p.2;dsimp only;rw[e];constructor <;> (intro _;constructor <;> grind)
 ·rename_i hn;obtain⟨k,hk⟩:=cDO (show 0<=(bl p.1.natAbs:Int)-n by omega);have Na:p.1≠0:=by
   intro hz;rw[hz]at hn;have hb:bl (0:Int).natAbs=0:=rfl;rw[hb]at hn;omega
  obtain⟨c1,c2⟩:=aFI up p.1 k;dsimp only;rw[hk,cCJ,qB,R.dZ];have qI:=R.dK p.2;have ht:=(nY Na).1;have e2:R.pz p.2*((2^k:Nat):Rat)<=R.pz (1-n)*R.ab (R.qz p):=by
   have e3:R.pz p.2*((2^k:Nat):Rat)=R.pz (1-n)*R.pz (bG p):=by
    rw[<-R.dZ,<-R.iK];congr 1;unfold bG;omega
   rw[e3];have:=R.aI (cDU (R.dK (1-n))) (show 0<=R.ab (R.qz p)-R.pz (bG p) by grind);grind
  have eq:R.qz p=(p.1:Rat)*R.pz p.2:=rfl;generalize R.pz (1-n)*R.ab (R.qz p)=X at *;rw[eq];generalize (lG.rD up p.1 k:Rat)=c at *;generalize ((2^k:Nat):Rat)=K at *;constructor
  ·intro hu;obtain⟨d1,d2⟩:=c1 hu;have m1:=R.aI (cDU qI) (show 0<=(p.1:Rat)-c*K by grind);have m2:=R.aI (cDU qI) (show 0<=c*K+K-(p.1:Rat) by grind);constructor <;> grind
  ·intro hu;obtain⟨d1,d2⟩:=c2 hu;have m1:=R.aI (cDU qI) (show 0<=c*K-(p.1:Rat) by grind);have m2:=R.aI (cDU qI) (show 0<=(p.1:Rat)+K-c*K by grind);constructor <;> grind
theorem Uu(n:Nat):bl (2^n)=n+1:=by
 have h1:=eF (n:=2^n) (k:=n+1);have h2:=tD (n:=2^n) (k:=n);have:2^n<2^(n+1):=cFE (by omega) (by omega);have:=h1.2 this;have:=h2.2 (bYN _);omega
theorem zB(z e:Int):bl (bW z e).1.natAbs<=bl z.natAbs:=gD (Xc z e)
theorem aBO(up:Bool)(z:Int)(k n:Nat)(h:bl z.natAbs<=n+k):bl (lG.rD up z k).natAbs<=n+1:=by
 have hz:=eF.1 h;rw[cDP]at hz;have hp:=cBM (n:=k) (show 0<2 by omega);have hn:=cBM (n:=n) (show 0<2 by omega);refine eF.2 ?_;rw[cDL];have fl:∀w:Int,w.natAbs<2^n*2^k->(w/((2^k:Nat):Int)).natAbs<=2^n:=by
  intro w hw;have h1:=cHK w ((2^k:Nat):Int);have h2:=cHL w (show((2^k:Nat):Int)≠0 by omega);have h3:=cHM w (show(0:Int)<((2^k:Nat):Int) by omega);have aUX:(w.natAbs:Int)<((2^n:Nat):Int)*((2^k:Nat):Int):=by exact_mod_cast hw
  generalize w/((2^k:Nat):Int)=q at *;generalize ((2^k:Nat):Int)=K at *;generalize hN:2^n=N at *
  by_cases hq:0<=q
  ·have:q<(N:Int):=by
    refine Int.not_le.1 fun hc=>?_
    have:=cJT hc (show 0<=K by omega);rw[Int.mul_comm K (N:Int)]at this;omega
   omega
  ·have:-(N:Int)<=q:=by
    refine Int.not_lt.1 fun hc=>?_
    have:=cJT (show q<=-(N:Int)-1 by omega) (show 0<=K by omega);rw[Int.mul_sub,cHI,Int.mul_one,Int.mul_comm K (N:Int)]at this;omega
   omega
 unfold lG.rD;cases up with
 |false =>
  rw[cond_false];have:=fl z hz;omega
 |true =>
  rw[cond_true,cGD];have:=fl (-z) (by rw[cGD];exact hz);omega
def bHS(p:Int×Int):Prop:=nC p/\p.2+(bl p.1.natAbs:Nat)<=1048000
theorem Rc{up:Bool}{p:Int×Int}{n:Int}(hp:bHS p)(hn:1<=n):uE up p n=true/\nC (shD up p n):=by
 obtain⟨⟨h1,h2,h3,h4⟩,h5⟩:=hp;unfold uE shD dC.pM;split
 ·dsimp only;have hi:jR p.1 p.2=true:=by
   unfold jR
   by_cases hz:p.1=0
   ·rw[dqT hz,cEJ]
   ·have ht:=Hn (n:=p.1.natAbs) (by have:=h4 hz;omega);rw[ht,dqF hz,cAO,dqT (show -1048576<=p.2+((0:Nat):Int) by omega),dqT (show p.2+((0:Nat):Int)<=1048576 by omega)];rfl
  exact⟨hi,jE hi h1⟩
 ·rename_i hk;dsimp only;have hc:=lG.aFJ up p.1 ((bl p.1.natAbs:Int)-n).toNat;have bPL:=aBO up p.1 ((bl p.1.natAbs:Int)-n).toNat n.toNat (by omega);generalize lG.rD up p.1 ((bl p.1.natAbs:Int)-n).toNat=c at *;have bVQ:bl c.natAbs<=bl p.1.natAbs:=gD hc;have bLG:c≠0->tz c.natAbs<bl c.natAbs:=fun h=>Qw (by omega)
  have hi:jR c (p.2+((bl p.1.natAbs:Int)-n))=true:=by
   unfold jR
   by_cases hz:c=0
   ·rw[dqT hz,cEJ]
   ·have:=bLG hz;rw[dqF hz,cAO,dqT (show -1048576<=p.2+((bl p.1.natAbs:Int)-n)+(tz c.natAbs:Int) by omega),dqT (show p.2+((bl p.1.natAbs:Int)-n)+(tz c.natAbs:Int)<=1048576 by omega)];rfl
  exact⟨hi,jE hi (bZJ bVQ h1)⟩
end M
namespace M
open Go AI W
theorem aKQ:nC (0,0):=⟨by decide,⟨by decide,by decide⟩,fun _=>rfl,fun h=>absurd rfl h⟩
theorem Cu{p q:Int×Int}(hp:nC p)(hq:nC q)(h:cB.jW p q=true):nC (cB.kI p q):=by
 unfold cB.kI;split
 ·exact hq
 ·split
  ·exact hp
  ·rename_i h1 h2;unfold cB.jW at h;rw[dqF h1,dqF h2,cAO,cAO,bYT,bYT,bYT]at h;exact jE h.2.2.2 (of_decide_eq_true h.2.2.1)
theorem nC.top{p:Int×Int}(h:nC p):-1048577<=bG p/\bG p<=1572864:=by
 obtain⟨h1,h2,_⟩:=h;unfold bG;omega
def aII(p:Int×Int):Int×Int:=((p.1.natAbs:Nat),1-(bl p.1.natAbs:Nat))
theorem aKR{p:Int×Int}(h:nC p)(h0:p.1≠0):nC (aII p):=by
 obtain⟨h1,h2,h3,h4⟩:=h;have:=h4 h0;unfold aII;refine⟨by dsimp only;rw[Int.natAbs_natCast];exact h1,by dsimp only;omega,fun h=>by dsimp only at h;omega,fun _=>by dsimp only;omega⟩
theorem Gs{p q:Int×Int}:cI p q=0↔R.qz p=R.qz q:=by
 obtain⟨h1,h2⟩:=Lg p q;have a:=R.aDZ (p:=p) (q:=q) h1 h2;have b:=R.aDZ (p:=q) (q:=p) h2 h1;unfold cI;rw[aTE];constructor
 ·intro h;exact cKJ (a.2 (Int.le_of_eq h)) (b.2 (Int.le_of_eq h.symm))
 ·intro h;exact Int.le_antisymm (a.1 (by rw[h];exact cEZ)) (b.1 (by rw[h];exact cEZ))
theorem zK{p q:Int×Int}:cI p q<0↔R.qz p<R.qz q:=by
 have h1:=mB (p:=p) (q:=q);have h3:=Gs (p:=p) (q:=q);constructor
 ·intro h;have:=h1.1 (by omega);refine Rat.not_le.1 fun hn=>?_
  have:=h3.2 (cKJ this hn);omega
 ·intro h;have a:=h1.2 (cDU h);have b:cI p q≠0:=fun hn=>Rat.lt_irrefl ((h3.1 hn)▸h)
  omega
theorem aJW{p q:Int×Int}(h:cI p q≠0):(cB.kI q (-p.1,p.2)).1≠0:=by
 intro h0;have h1:=Ef q (-p.1,p.2);rw[rP,R.pO h0]at h1;exact h (Gs.2 (by grind))
theorem Cm{p:Int×Int}(h:p.1=0):cI p (0,0)=0:=by
 rw[Gs,R.pO h,R.pO rfl]
theorem nC.Hy{p:Int×Int}(h:nC p):nC (-p.1,p.2):=by
 obtain⟨x1,x2,x3,x4⟩:=h;exact⟨by dsimp only;rw[cGD];exact x1,x2,fun h=>x3 (by dsimp only at h;omega),fun h=>by dsimp only at h ⊢;have:=x4 (by omega);omega⟩
theorem aQ.fJ{x:fB}(h:aQ x)(hb:bl (dv x).1.natAbs<=262144):x.2.1.length<=4096:=by
 have e:M6.dg (dv x).1.natAbs=x.2.1:=h.Ln.cells.2;rw[<-e];exact gI (k:=4096) (by omega)
def Jk(p q:Int×Int):Int×Int:=bif decide (cI q p<0)then q else p
def Eo(p q:Int×Int):Int×Int:=bif decide (0<cI q p)then q else p
theorem aAR(p q:Int×Int):Jk p q=p\/Jk p q=q:=by unfold Jk;cases decide (cI q p<0);exact Or.inl rfl;exact Or.inr rfl
theorem aBH(p q:Int×Int):Eo p q=p\/Eo p q=q:=by unfold Eo;cases decide (0<cI q p);exact Or.inl rfl;exact Or.inr rfl
theorem Tp(p q:Int×Int):R.qz (Jk p q)<=R.qz p/\R.qz (Jk p q)<=R.qz q:=by
 unfold Jk
 by_cases h:cI q p<0
 ·rw[dqT h,cond_true];exact⟨cDU (zK.1 h),cEZ⟩
 ·rw[dqF h,cond_false];exact⟨cEZ,Rat.not_lt.1 fun hn=>h (zK.2 hn)⟩
theorem aBI(p q:Int×Int):R.qz p<=R.qz (Eo p q)/\R.qz q<=R.qz (Eo p q):=by
 unfold Eo
 by_cases h:0<cI q p
 ·rw[dqT h,cond_true];exact⟨cDU (rU.1 h),cEZ⟩
 ·rw[dqF h,cond_false];exact⟨cEZ,Rat.not_lt.1 fun hn=>h (rU.2 hn)⟩
end M
namespace W
open Go AI M
namespace cG
def E:=mE [] 11 [] [] []
def aF:=bd f157
theorem aU:Nk E aF:=nk
theorem start a:aG E f157 aF [D.s (sc (int i64 a))]=letI A:=int i64 0;aC (a==32) (some [D.agg [sc (int i64 32),sc (int i64 24),sc (int i64 (-149:Int)),sc (int u64 2143289345)]]) (aC (a==64) (some [D.agg [sc (int i64 64),sc (int i64 53),sc (int i64 (-1074:Int)),sc (int u64 9221120237041090561)]]) (some [D.agg [sc A,sc A,sc A,sc (int u64 0)]])):=eJ aU
def sR(f:Int):Int×Int×Int×Int:=if f=32 then(32,24,-149,2143289345)else if f=64 then(64,53,-1074,9221120237041090561)else(0,0,0,0)
def bID(s:Int×Int×Int×Int):D:=.agg [.sc (.int .i64 s.1),.sc (.int .i64 s.2.1),.sc (.int .i64 s.2.2.1),.sc (.int .u64 s.2.2.2)]
def Qt(s:Int×Int×Int×Int):Prop:=s=(32,24,-149,2143289345)\/s=(64,53,-1074,9221120237041090561)
theorem two32:Qt (32,24,-149,2143289345):=.inl rfl
theorem Wd:Qt (64,53,-1074,9221120237041090561):=.inr rfl
def sp(f:Int):Prop×List D:=(True,[bID (sR f)])
theorem spec:iH E f157 aF (pN .i64) sp:=by
 intro f h;refine(start f).trans ?_;unfold sp sR
 try dsimp only
 by_cases h1:f=32
 ·rw[dU h1,if_pos h1];rfl
 ·rw[cP h1,if_neg h1]
  by_cases h2:f=64
  ·rw[dU h2,if_pos h2];rfl
  ·rw[cP h2,if_neg h2];rfl
def aJ:dO:=orc1 (pN .i64) sp
theorem ok:OK 157 aJ:=(eI E aF aD func157).oV rfl spec
end cG
namespace jK
def E:=mE [] 7 [] [] []
def aF:=bd f172
theorem aU:Nk E aF:=nk
theorem start a b c d:aG E f172 aF [D.agg [sc (int i64 a),sc (int i64 b),sc (int i64 c),sc (int u64 d)]]=if i64.wrap (a-1)<0 then none else some [D.s (sc (int u64 (u64.wrap ((1:Int)*(↑((2:Nat)^min (i64.wrap (a-1)).toNat 64):Int)))))]:=eJ aU
def kJ(s:Int×Int×Int×Int):Int:=if s.1=32 then 2147483648 else 9223372036854775808
def sp(s:Int×Int×Int×Int):Prop×List D:=(cG.Qt s,[.s (.sc (.int .u64 (kJ s)))])
theorem spec:iH E f172 aF (pG (.pair (sN .i64) (.pair (sN .i64) (.pair (sN .i64) (sN .u64))))) sp:=by
 intro s h;refine(start s.1 s.2.1 s.2.2.1 s.2.2.2).trans ?_;rcases h with rfl |rfl
 ·rfl
 ·rfl
def aJ:dO:=orc1 (pG (.pair (sN .i64) (.pair (sN .i64) (.pair (sN .i64) (sN .u64))))) sp
theorem ok:OK 172 aJ:=(eI E aF aD func172).oV rfl spec
end jK
namespace iE
def E:=mE [(157,cG.aJ),(172,jK.aJ)] 36 [] [(6,[1,4,8])] [6]
def aF:=bd f118
theorem aU:Nk E aF:=nk
def J6 a b c d e f g h i:=lP E f118 aF 6 [dR a,bK 1 90 [cV b,cV c,cV d,bCJ e],bK 2 90 [cV f,cV g,cV h,bCJ i]]
theorem start a b:aG E f118 aF [D.s (sc (int i64 a)),D.s (sc (int u64 b))]=letI A:=cG.sR a;letI G:=int i64 A.snd.fst;letI F:=int u64 A.snd.snd.snd;letI C:=int i64 A.snd.snd.fst;letI B:=iE.J6 b 0 0 0 0 A.fst A.snd.fst A.snd.snd.fst A.snd.snd.snd;aN True (aC (A.fst==0&&(A.snd.fst==0&&(A.snd.snd.fst==0&&(A.snd.snd.snd==0&&true)))) (some [D.agg [sc (int i64 A.fst),sc G,sc C,sc F],D.s (sc (bool false)),D.s (sc (int u64 0)),D.s (sc (int i64 1))]) (aC (decide (A.fst<64)) (if A.fst<0 then none else aC (b/(↑((2:Nat)^min A.fst.toNat 64):Int) !=(0:Int)) (some [D.agg [sc (int i64 A.fst),sc G,sc C,sc F],D.s (sc (bool false)),D.s (sc (int u64 0)),D.s (sc (int i64 2))]) B) B)):=eJ aU
theorem sW a b c d e f g h i:J6 a b c d e f g h i=letI A:=(f,g,h,i);aN (cG.Qt A) (aN (cG.Qt A) (some [D.agg [sc (int i64 f),sc (int i64 g),sc (int i64 h),sc (int u64 i)],D.s (sc (bool (gR BinOp.and u64 a (jK.kJ A) !=0))),D.s (sc (int u64 (gR BinOp.andNot u64 a (jK.kJ A)))),D.s (sc (int i64 0))])):=cJ aU
theorem Zb{a b:Int}(ha:0<=a)(bHL:a<18446744073709551616)(hb:0<=b)(xO:b<18446744073709551616):gR .andNot .u64 a b=((a.toNat &&& (2^64-(b.toNat+1)):Nat):Int):=by
 obtain⟨n,rfl⟩:=cDO ha;obtain⟨m,rfl⟩:=cDO hb;rw[wO];unfold bitsI0;simp only;have e:(BitVec.ofInt u64.bits (n:Int) &&& ~~~ BitVec.ofInt u64.bits (m:Int)).toNat=n &&& (2^64-(m+1)):=by
  show(BitVec.ofInt 64 (n:Int) &&& ~~~ BitVec.ofInt 64 (m:Int)).toNat=_;rw[BitVec.toNat_and,BitVec.toNat_not];have e1:(BitVec.ofInt 64 (n:Int)).toNat=n:=by simp;omega
  have e2:(BitVec.ofInt 64 (m:Int)).toNat=m:=by simp;omega
  rw[e1,e2];congr 1;omega
 have hle:n &&& (2^64-(m+1))<=n:=Nat.and_le_left;rw[e,wrap_u64];rfl
theorem Ru{n k:Nat}(hk:k<64)(h:n<2^(k+1)):n &&& (2^64-(2^k+1))=n%2^k:=by
 refine cJK fun i=>?_
 have hp:2^k<2^64:=cFE (by decide) hk;rw[cJI,cJY hp,cJD,cJU]
 by_cases h1:i<k
 ·have:¬k=i:=by omega
  have bMB:i<64:=by omega
  simp[h1,this,bMB]
 ·by_cases h2:i=k
  ·subst h2;simp
  ·have:n<2^i:=bZN h (cBN (by decide) (by omega));rw[cKL this];simp
theorem aDC{n k:Nat}(h:n<2^(k+1)):(n &&& 2^k)=if 2^k<=n then 2^k else 0:=by
 refine cJK fun i=>?_
 rw[cJI,cJU]
 by_cases h1:2^k<=n
 ·have ht:n.testBit k=true:=by
   rw[Nat.testBit_eq_decide_div_mod_eq];have:=cIZ (k:=1) (show 1*2^k<=n by omega) (show n<(1+1)*2^k by rw[cDL]at h;omega);rw[this];rfl
  rw[if_pos h1,cJU]
  by_cases hi:k=i
  ·subst hi;simp[ht]
  ·simp[hi]
 ·rw[if_neg h1,Nat.zero_testBit]
  by_cases hi:k=i
  ·subst hi;rw[cKL (by omega)];rfl
  ·simp[hi]
def lM(f b:Int):Bool:=decide (f=64)||decide (b<4294967296)
def sp(f b:Int):Prop×List D:=((f=32\/f=64)/\0<=b/\b<18446744073709551616,[cG.bID (cG.sR f),.s (.sc (.bool (lM f b&&decide (jK.kJ (cG.sR f)<=b)))),.s (.sc (.int .u64 (bif lM f b then b%jK.kJ (cG.sR f)else 0))),.s (.sc (.int .i64 (bif lM f b then 0 else 2)))])
theorem spec:fF E f118 aF (pN .i64) (pN .u64) sp:=by
 rintro f b ⟨hf,h0,h1⟩;obtain⟨n,rfl⟩:=cDO h0;refine(start f n).trans ((gP trivial).trans ?_);unfold sp
 try dsimp only
 rcases hf with rfl |rfl
 ·rw[show cG.sR 32=(32,24,-149,2143289345)from rfl]
  try dsimp only
  rw[Nz (by decide),aO (by decide),if_neg (by decide),show min (32:Int).toNat 64=32 from rfl,show jK.kJ (32,24,-149,2143289345)=2147483648 from rfl]
  by_cases hc:(n:Int)<4294967296
  ·have hp:lM 32 n=true:=by unfold lM;rw[dqT hc,Bool.or_true]
   have a1:gR .and .u64 (n:Int) 2147483648=if(2147483648:Int)<=n then 2147483648 else 0:=by
    rw[Zc (by omega) (by omega) (by omega) (by omega),cCJ];have:=aDC (n:=n) (k:=31) (by omega);rw[show(2147483648:Int).toNat=2^31 from rfl,this];split <;> split <;> first |rfl |omega
   have a2:gR .andNot .u64 (n:Int) 2147483648=(n:Int)%2147483648:=by
    rw[Zb (by omega) (by omega) (by omega) (by omega),cCJ,show(2147483648:Int).toNat=2^31 from rfl,Ru (by omega) (by omega)];omega
   rw[gA,sW,gP cG.two32,gP cG.two32,show jK.kJ (32,24,-149,2143289345)=2147483648 from rfl,a1,a2,hp]
   by_cases hd:(2147483648:Int)<=n
   ·rw[if_pos hd,dqT hd];rfl
   ·rw[if_neg hd,dqF hd];rfl
  ·have hp:lM 32 n=false:=by unfold lM;rw[dqF hc];rfl
   rw[oG,hp];rfl
 ·rw[show cG.sR 64=(64,53,-1074,9221120237041090561)from rfl]
  try dsimp only
  have hp:lM 64 n=true:=rfl;have a1:gR .and .u64 (n:Int) 9223372036854775808=if(9223372036854775808:Int)<=n then 9223372036854775808 else 0:=by
   rw[Zc (by omega) (by omega) (by omega) (by omega),cCJ];have:=aDC (n:=n) (k:=63) (by omega);rw[show(9223372036854775808:Int).toNat=2^63 from rfl,this];split <;> split <;> first |rfl |omega
  have a2:gR .andNot .u64 (n:Int) 9223372036854775808=(n:Int)%9223372036854775808:=by
   rw[Zb (by omega) (by omega) (by omega) (by omega),cCJ,show(9223372036854775808:Int).toNat=2^63 from rfl,Ru (by omega) (by omega)];omega
  rw[Nz (by decide),aM (by decide),sW,gP cG.Wd,gP cG.Wd,show jK.kJ (64,53,-1074,9221120237041090561)=9223372036854775808 from rfl,a1,a2,hp]
  by_cases hd:(9223372036854775808:Int)<=n
  ·rw[if_pos hd,dqT hd];rfl
  ·rw[if_neg hd,dqF hd];rfl
def aJ:dO:=orc2 (pN .i64) (pN .u64) sp
theorem ok:OK 118 aJ:=(eI E aF (aA cG.ok (aA jK.ok aD)) func118).jZ rfl spec
end iE
namespace gJ
def E:=mE [] 7 [] [] []
def aF:=bd f120
theorem aU:Nk E aF:=nk
theorem start a b c d:aG E f120 aF [D.agg [sc (int i64 a),sc (int i64 b),sc (int i64 c),sc (int u64 d)]]=if i64.wrap (b-1)<0 then none else some [D.s (sc (int u64 (u64.wrap ((1:Int)*(↑((2:Nat)^min (i64.wrap (b-1)).toNat 64):Int)))))]:=eJ aU
def tF(s:Int×Int×Int×Int):Int:=if s.1=32 then 8388608 else 4503599627370496
def sp(s:Int×Int×Int×Int):Prop×List D:=(cG.Qt s,[.s (.sc (.int .u64 (tF s)))])
theorem spec:iH E f120 aF (pG (.pair (sN .i64) (.pair (sN .i64) (.pair (sN .i64) (sN .u64))))) sp:=by
 intro s h;refine(start s.1 s.2.1 s.2.2.1 s.2.2.2).trans ?_;rcases h with rfl |rfl
 ·rfl
 ·rfl
def aJ:dO:=orc1 (pG (.pair (sN .i64) (.pair (sN .i64) (.pair (sN .i64) (sN .u64))))) sp
theorem ok:OK 120 aJ:=(eI E aF aD func120).oV rfl spec
end gJ
namespace yP
def E:=mE [(172,jK.aJ),(120,gJ.aJ)] 8 [] [] []
def aF:=bd f119
theorem aU:Nk E aF:=nk
theorem start a b c d:aG E f119 aF [D.agg [sc (int i64 a),sc (int i64 b),sc (int i64 c),sc (int u64 d)]]=letI A:=(a,b,c,d);aN (cG.Qt A) (aN (cG.Qt A) (some [D.s (sc (int u64 (u64.wrap (jK.kJ A-gJ.tF A))))])):=eJ aU
def Di(s:Int×Int×Int×Int):Int:=if s.1=32 then 2139095040 else 9218868437227405312
def sp(s:Int×Int×Int×Int):Prop×List D:=(cG.Qt s,[.s (.sc (.int .u64 (Di s)))])
theorem spec:iH E f119 aF (pG (.pair (sN .i64) (.pair (sN .i64) (.pair (sN .i64) (sN .u64))))) sp:=by
 intro s h;refine(start s.1 s.2.1 s.2.2.1 s.2.2.2).trans ((gP h).trans ((gP h).trans ?_));rcases h with rfl |rfl
 ·rfl
 ·rfl
def aJ:dO:=orc1 (pG (.pair (sN .i64) (.pair (sN .i64) (.pair (sN .i64) (sN .u64))))) sp
theorem ok:OK 119 aJ:=(eI E aF (aA jK.ok (aA gJ.ok aD)) func119).oV rfl spec
end yP
namespace Ac
def E:=mE [(120,gJ.aJ),(119,yP.aJ)] 23 [] [] []
def aF:=bd f144
theorem aU:Nk E aF:=nk
theorem start a c d e b:aG E f144 aF [D.agg [sc (int i64 a),sc (int i64 c),sc (int i64 d),sc (int u64 e)],D.s (sc (int u64 b))]=letI B:=(a,c,d,e);letI A:=cG.Qt B;aC (b==0) (some [D.s (sc (int i64 0))]) (aN A (aC (decide (b<gJ.tF B)) (some [D.s (sc (int i64 1))]) (aN A (aC (decide (b<yP.Di B)) (some [D.s (sc (int i64 2))]) (aN A (aC (b==yP.Di B) (some [D.s (sc (int i64 3))]) (some [D.s (sc (int i64 4))]))))))):=eJ aU
def zL(s:Int×Int×Int×Int)(n:Int):Int:=if n=0 then 0 else if n<gJ.tF s then 1 else if n<yP.Di s then 2 else if n=yP.Di s then 3 else 4
def sp(s:Int×Int×Int×Int)(n:Int):Prop×List D:=(cG.Qt s,[.s (.sc (.int .i64 (zL s n)))])
theorem spec:fF E f144 aF (pG (.pair (sN .i64) (.pair (sN .i64) (.pair (sN .i64) (sN .u64))))) (pN .u64) sp:=by
 intro s n h;obtain⟨s1,s2,s3,s4⟩:=s;have h:cG.Qt (s1,s2,s3,s4):=h;refine(start s1 s2 s3 s4 n).trans ?_;show _=some [D.s (.sc (.int .i64 (zL (s1,s2,s3,s4) n)))];unfold zL
 by_cases h1:n=0
 ·rw[dU h1,if_pos h1]
 ·rw[cP h1,if_neg h1,gP h]
  by_cases h2:n<gJ.tF (s1,s2,s3,s4)
  ·rw[aO h2,if_pos h2]
  ·rw[aM h2,if_neg h2,gP h]
   by_cases h3:n<yP.Di (s1,s2,s3,s4)
   ·rw[aO h3,if_pos h3]
   ·rw[aM h3,if_neg h3,gP h]
    by_cases h4:n=yP.Di (s1,s2,s3,s4)
    ·rw[dU h4,if_pos h4]
    ·rw[cP h4,if_neg h4]
def aJ:dO:=orc2 (pG (.pair (sN .i64) (.pair (sN .i64) (.pair (sN .i64) (sN .u64))))) (pN .u64) sp
theorem ok:OK 144 aJ:=(eI E aF (aA gJ.ok (aA yP.ok aD)) func144).jZ rfl spec
end Ac
namespace Pl
def E:=mE [(118,iE.aJ),(144,Ac.aJ)] 24 [13,23] [] []
def aF:=bd f91
theorem aU:Nk E aF:=nk
theorem start a b:aG E f91 aF [D.s (sc (int i64 a)),D.s (sc (int u64 b))]=letI C:=bif iE.lM a b then(0:Int)else(2:Int);letI A:=cG.sR a;letI B:=(A.fst,A.snd.fst,A.snd.snd.fst,A.snd.snd.snd);aN ((a=32\/a=64)/\0<=b/\b<18446744073709551616) (aC (C !=0) (some [D.s (sc (int i64 0)),D.s (sc (int i64 C))]) (aN (cG.Qt B) (some [D.s (sc (int i64 (Ac.zL B (bif iE.lM a b then b%jK.kJ A else(0:Int))))),D.s (sc (int i64 0))]))):=eJ aU
def sp(f b:Int):Prop×List D:=((f=32\/f=64)/\0<=b/\b<18446744073709551616,[.s (.sc (.int .i64 (bif iE.lM f b then Ac.zL (cG.sR f) (b%jK.kJ (cG.sR f))else 0))),.s (.sc (.int .i64 (bif iE.lM f b then 0 else 2)))])
theorem spec:fF E f91 aF (pN .i64) (pN .u64) sp:=by
 intro f b h;refine(start f b).trans ((gP h).trans ?_);unfold sp
 try dsimp only
 have ht:cG.Qt (cG.sR f):=by
  rcases h.1 with rfl |rfl
  ·exact .inl rfl
  ·exact .inr rfl
 cases hp:iE.lM f b with
 |false=>rfl
 |true =>
  try dsimp only[cond_true]
  rw[gA rfl,gP ht]
def aJ:dO:=orc2 (pN .i64) (pN .u64) sp
theorem ok:OK 91 aJ:=(eI E aF (aA iE.ok (aA Ac.ok aD)) func91).jZ rfl spec
end Pl
namespace dT
def E:=mE [(91,Pl.aJ)] 42 [26] [(3,[1])] [3]
def aF:=bd f35
theorem aU:Nk E aF:=nk
def J3 a:=lP E f35 aF 3 [dR a]
theorem start a b c:aG E f35 aF [D.s (sc (int i64 a)),D.s (sc (int u64 b)),D.s (sc (int i64 c))]=letI A:=some [D.s (sc (bool false)),D.s (sc (int i64 1))];aC (decide (a<1)) A (aC (decide (3<a)) A (aC (decide (c<1)) A (aC (decide (66000<c)) A (dT.J3 b)))):=eJ aU
theorem fH a:J3 a=letI A:=bif iE.lM 64 a then Ac.zL (cG.sR 64) (a%9223372036854775808)else(0:Int);letI B:=some [D.s (sc (bool (A==0))),D.s (sc (int i64 6))];aN (((64:Int)=(32:Int)\/(64:Int)=(64:Int))/\0<=a/\a<18446744073709551616) (aC (A==3) B (aC (A==4) B (some [D.s (sc (bool (A==0))),D.s (sc (int i64 (bif iE.lM 64 a then(0:Int)else(2:Int))))]))):=cJ aU
def Dq(b:Int):Int:=bif iE.lM 64 b then Ac.zL (cG.sR 64) (b%9223372036854775808)else 0
def Cn(fn b p:Int):Int:=if fn<1 then 1 else if 3<fn then 1 else if p<1 then 1 else if 66000<p then 1 else if Dq b=3 then 6 else if Dq b=4 then 6 else bif iE.lM 64 b then 0 else 2
def aCW(fn b p:Int):Bool:=if fn<1 then false else if 3<fn then false else if p<1 then false else if 66000<p then false else Dq b==0
def sp(fn b p:Int):Prop×List D:=(0<=b/\b<18446744073709551616,[.s (.sc (.bool (aCW fn b p))),.s (.sc (.int .i64 (Cn fn b p)))])
theorem spec:uQ E f35 aF (pN .i64) (pN .u64) (pN .i64) sp:=by
 intro fn b p h;refine(start fn b p).trans ?_;unfold sp Cn aCW;dsimp only
 by_cases c1:fn<1
 ·rw[aO c1,if_pos c1,if_pos c1]
 ·rw[aM c1,if_neg c1,if_neg c1]
  by_cases c2:3<fn
  ·rw[aO c2,if_pos c2,if_pos c2]
  ·rw[aM c2,if_neg c2,if_neg c2]
   by_cases c3:p<1
   ·rw[aO c3,if_pos c3,if_pos c3]
   ·rw[aM c3,if_neg c3,if_neg c3]
    by_cases c4:66000<p
    ·rw[aO c4,if_pos c4,if_pos c4]
    ·rw[aM c4,if_neg c4,if_neg c4,fH,gP ⟨Or.inr rfl,h.1,h.2⟩];show aC (Dq b==3) (some [_,_]) (aC (Dq b==4) (some [_,_]) (some [D.s (.sc (.bool (Dq b==0))),_]))=_
     by_cases c5:Dq b=3
     ·rw[dU c5,if_pos c5];rfl
     ·rw[cP c5,if_neg c5]
      by_cases c6:Dq b=4
      ·rw[dU c6,if_pos c6];rfl
      ·rw[cP c6,if_neg c6]
def aJ:dO:=orc3 (pN .i64) (pN .u64) (pN .i64) sp
theorem ok:OK 35 aJ:=(eI E aF (aA Pl.ok aD) func35).Dn rfl spec
end dT
namespace Ca
def E:=mE [(113,Kc.aJ)] 14 [10] [] []
def aF:=bd f62
theorem aU:Nk E aF:=nk
theorem start a b c d e f:aG E f62 aF [D.agg [sc (bool a),ints u64 b,sc (int i64 c)],D.agg [sc (bool d),ints u64 e,sc (int i64 f)]]=aN (aQ (a,b,c)/\aQ (d,e,f)) (some [D.s (sc (int i64 (cZ (cB.pU (dv (a,b,c)) (dv (d,e,f))) (cB.pT (dv (a,b,c)) (dv (d,e,f))))))]):=eJ aU
def sp(x y:fB):Prop×List D:=(aQ x/\aQ y,[.s (.sc (.int .i64 (cI (dv x) (dv y))))])
theorem spec:fF E f62 aF jQ jQ sp:=by
 intro x y h;exact(start x.1 x.2.1 x.2.2 y.1 y.2.1 y.2.2).trans (gP h)
def aJ:dO:=orc2 jQ jQ sp
theorem ok:OK 62 aJ:=(eI E aF (aA Kc.ok aD) func62).jZ rfl spec
end Ca
namespace sE
def E:=mE [(61,oU.aJ),(62,Ca.aJ)] 19 [] [] []
def aF:=bd f45
theorem aU:Nk E aF:=nk
theorem start a b c d e f:aG E f45 aF [D.agg [sc (bool a),ints u64 b,sc (int i64 c),sc (bool d),ints u64 e,sc (int i64 f)]]=aN (aQ (a,b,c)) (aN (aQ (d,e,f)) (aN (aQ (a,b,c)/\aQ (d,e,f)) (some [D.s (sc (bool (decide (cI (dv (a,b,c)) (dv (d,e,f))<=0))))]))):=eJ aU
def sp(s:uP):Prop×List D:=(dW s,[.s (.sc (.bool true))])
theorem spec:iH E f45 aF sP sp:=by
 rintro s ⟨h1,h2,h3⟩;refine(start s.1 s.2.1 s.2.2.1 s.2.2.2.1 s.2.2.2.2.1 s.2.2.2.2.2).trans ((gP h1).trans ((gP h2).trans ((gP ⟨h1,h2⟩).trans ?_)));show some [D.s (.sc (.bool (decide (cI (dv (fO s)) (dv (fR s))<=0))))]=_;rw[dqT h3];rfl
def aJ:dO:=orc1 sP sp
theorem ok:OK 45 aJ:=(eI E aF (aA oU.ok (aA Ca.ok aD)) func45).oV rfl spec
end sE
namespace aOH
def E:=mE [(121,Clone.aJ)] 10 [] [] []
def aF:=bd f156
theorem aU:Nk E aF:=nk
theorem start a b c:aG E f156 aF [D.agg [sc (bool a),ints u64 b,sc (int i64 c)]]=aN (b.length<=1099511627776) (some [D.agg [sc (bool a),ints u64 b,sc (int i64 c)]]):=eJ aU
def sp(x:fB):Prop×List D:=(x.2.1.length<=1099511627776,[.agg [.sc (.bool x.1),.ints .u64 x.2.1,.sc (.int .i64 x.2.2)]])
theorem spec:iH E f156 aF jQ sp:=by
 intro x h;exact(start x.1 x.2.1 x.2.2).trans (gP h)
def aJ:dO:=orc1 jQ sp
theorem ok:OK 156 aJ:=(eI E aF (aA Clone.ok aD) func156).oV rfl spec
end aOH
namespace Oo
def E:=mE [(156,aOH.aJ)] 10 [] [] []
def aF:=bd f105
theorem aU:Nk E aF:=nk
theorem start a b c d e f:aG E f105 aF [D.agg [sc (bool a),ints u64 b,sc (int i64 c),sc (bool d),ints u64 e,sc (int i64 f)]]=aN (b.length<=1099511627776) (aN (e.length<=1099511627776) (some [D.agg [sc (bool a),ints u64 b,sc (int i64 c),sc (bool d),ints u64 e,sc (int i64 f)]])):=eJ aU
def sp(s:uP):Prop×List D:=(s.2.1.length<=1099511627776/\s.2.2.2.2.1.length<=1099511627776,[.agg [.sc (.bool s.1),.ints .u64 s.2.1,.sc (.int .i64 s.2.2.1),.sc (.bool s.2.2.2.1),.ints .u64 s.2.2.2.2.1,.sc (.int .i64 s.2.2.2.2.2)]])
theorem spec:iH E f105 aF sP sp:=by
 intro s h;exact(start s.1 s.2.1 s.2.2.1 s.2.2.2.1 s.2.2.2.2.1 s.2.2.2.2.2).trans ((gP h.1).trans (gP h.2))
def aJ:dO:=orc1 sP sp
theorem ok:OK 105 aJ:=(eI E aF (aA aOH.ok aD) func105).oV rfl spec
end Oo
namespace aOI
def E:=mE [(45,sE.aJ),(105,Oo.aJ)] 16 [] [] []
def aF:=bd f92
theorem aU:Nk E aF:=nk
theorem start a b c d e f:aG E f92 aF [D.agg [sc (bool a),ints u64 b,sc (int i64 c)],D.agg [sc (bool d),ints u64 e,sc (int i64 f)]]=aN (dW (a,b,c,d,e,f)) (aN (b.length<=1099511627776/\e.length<=1099511627776) (some [D.agg [sc (bool a),ints u64 b,sc (int i64 c),sc (bool d),ints u64 e,sc (int i64 f)],D.s (sc (int i64 0))])):=eJ aU
def sp(x y:fB):Prop×List D:=(aQ x/\aQ y/\cI (dv x) (dv y)<=0,[.agg [.sc (.bool x.1),.ints .u64 x.2.1,.sc (.int .i64 x.2.2),.sc (.bool y.1),.ints .u64 y.2.1,.sc (.int .i64 y.2.2)],.s (.sc (.int .i64 0))])
theorem spec:fF E f92 aF jQ jQ sp:=by
 rintro x y ⟨h1,h2,h3⟩;have l1:=h1.len;have l2:=h2.len;exact(start x.1 x.2.1 x.2.2 y.1 y.2.1 y.2.2).trans ((gP ⟨h1,h2,h3⟩).trans (gP ⟨by omega,by omega⟩))
def aJ:dO:=orc2 jQ jQ sp
theorem ok:OK 92 aJ:=(eI E aF (aA sE.ok (aA Oo.ok aD)) func92).jZ rfl spec
end aOI
namespace Oq
def E:=mE [(92,aOI.aJ)] 9 [6] [] []
def aF:=bd f36
theorem aU:Nk E aF:=nk
theorem start a b c:aG E f36 aF [D.agg [sc (bool a),ints u64 b,sc (int i64 c)]]=aN (aQ (a,b,c)/\aQ (a,b,c)/\cI (dv (a,b,c)) (dv (a,b,c))<=0) (some [D.agg [sc (bool a),ints u64 b,sc (int i64 c),sc (bool a),ints u64 b,sc (int i64 c)],D.s (sc (int i64 0))]):=eJ aU
def sp(x:fB):Prop×List D:=(aQ x,[.agg [.sc (.bool x.1),.ints .u64 x.2.1,.sc (.int .i64 x.2.2),.sc (.bool x.1),.ints .u64 x.2.1,.sc (.int .i64 x.2.2)],.s (.sc (.int .i64 0))])
theorem spec:iH E f36 aF jQ sp:=by
 intro x h;exact(start x.1 x.2.1 x.2.2).trans (gP ⟨h,h,Im _⟩)
def aJ:dO:=orc1 jQ sp
theorem ok:OK 36 aJ:=(eI E aF (aA aOI.ok aD) func36).oV rfl spec
end Oq
namespace aTQ
def E:=mE [(117,sJ.aJ),(116,Fc.aJ)] 14 [] [] []
def aF:=bd f64
theorem aU:Nk E aF:=nk
theorem start a:aG E f64 aF [D.s (sc (int i64 a))]=letI B:=M6.dg (u64.wrap a).toNat;letI C:=zs false (M6.val B);letI A:=M6.dg (u64.wrap ((0:Int)-u64.wrap a)).toNat;letI F:=zs true (M6.val A);aC (decide (a<0)) (aN (0<=u64.wrap ((0:Int)-u64.wrap a)/\u64.wrap ((0:Int)-u64.wrap a)<18446744073709551616) (aN (M6.cO A/\A.length<=1099511627776) (some [D.agg [sc (bool (isNeg F)),ints u64 (M6.dg F.natAbs)]]))) (aN (0<=u64.wrap a/\u64.wrap a<18446744073709551616) (aN (M6.cO B/\B.length<=1099511627776) (some [D.agg [sc (bool (isNeg C)),ints u64 (M6.dg C.natAbs)]]))):=eJ aU
def sp(a:Int):Prop×List D:=(-9223372036854775808<=a/\a<9223372036854775808,[wD a])
theorem spec:iH E f64 aF (pN .i64) sp:=by
 rintro a ⟨h1,h2⟩;refine(start a).trans ?_;show _=some [wD a]
 by_cases hn:a<0
 ·have w1:u64.wrap (0-u64.wrap a)=(a.natAbs:Int):=by rw[gG,gG];omega
  have hl:=gI (n:=a.natAbs) (k:=1) (eF.2 (by omega));rw[aO hn,w1,cCJ,gP ⟨by omega,by omega⟩,gP ⟨M6.bA _,by omega⟩,M6.bD];have:zs true a.natAbs=a:=by show -(a.natAbs:Int)=a;omega
  rw[this];rfl
 ·have w1:u64.wrap a=(a.natAbs:Int):=by rw[gG];omega
  have hl:=gI (n:=a.natAbs) (k:=1) (eF.2 (by omega));rw[aM hn,w1,cCJ,gP ⟨by omega,by omega⟩,gP ⟨M6.bA _,by omega⟩,M6.bD];have:zs false a.natAbs=a:=by show((a.natAbs:Nat):Int)=a;omega
  rw[this];rfl
def aJ:dO:=orc1 (pN .i64) sp
theorem ok:OK 64 aJ:=(eI E aF (aA sJ.ok (aA Fc.ok aD)) func64).oV rfl spec
end aTQ
namespace aIG
def E:=mE [(64,aTQ.aJ),(63,mH.aJ)] 12 [] [] []
def aF:=bd f24
theorem aU:Nk E aF:=nk
theorem start a:aG E f24 aF [D.s (sc (int i64 a))]=letI B:=(isNeg a,M6.dg a.natAbs);letI A:=bif jR (wv B) 0 then bW (wv B) 0 else((0:Int),(0:Int));aN ((-9223372036854775808:Int)<=a/\a<9223372036854775808) (aN (jA B/\(-9223372036854775808:Int)<=(0:Int)/\(0:Int)<(9223372036854775808:Int)) (some [D.agg [sc (bool (isNeg A.fst)),ints u64 (M6.dg A.fst.natAbs),sc (int i64 A.snd)]])):=eJ aU
def sp(n:Int):Prop×List D:=(-9223372036854775808<=n/\n<9223372036854775808,[dD (bW n 0)])
theorem aRR{n:Int}(h:bl n.natAbs<=524288):jR n 0=true:=by
 unfold jR
 by_cases hz:n=0
 ·rw[dqT hz,cEJ]
 ·have:=Qw (n:=n.natAbs) (by omega);rw[dqT (show(-1048576<=0+(tz n.natAbs:Int)) by omega),dqT (show(0+(tz n.natAbs:Int)<=1048576) by omega),cBO,Bool.or_true]
theorem spec:iH E f24 aF (pN .i64) sp:=by
 rintro n ⟨h1,h2⟩;have hb:bl n.natAbs<=64:=eF.2 (by omega);refine(start n).trans ?_;rw[gP ⟨h1,h2⟩,gP ⟨iF (by omega),by omega,by omega⟩,tQ,aRR (by omega)];rfl
def aJ:dO:=orc1 (pN .i64) sp
theorem ok:OK 24 aJ:=(eI E aF (aA aTQ.ok (aA mH.ok aD)) func24).oV rfl spec
end aIG
namespace Ol
def E:=mE [(36,Oq.aJ),(24,aIG.aJ)] 12 [] [] []
def aF:=bd f193
theorem aU:Nk E aF:=nk
theorem start a:aG E f193 aF [D.s (sc (int i64 a))]=letI A:=bW a 0;letI C:=M6.dg A.fst.natAbs;letI B:=bool (isNeg A.fst);aN ((-9223372036854775808:Int)<=a/\a<9223372036854775808) (aN (aQ (isNeg A.fst,M6.dg A.fst.natAbs,A.snd)) (some [D.agg [sc B,ints u64 C,sc (int i64 A.snd),sc B,ints u64 C,sc (int i64 A.snd)]])):=eJ aU
def sp(n:Int):Prop×List D:=(-1000000<=n/\n<=1000000,[Cr (bW n 0) (bW n 0)])
theorem spec:iH E f193 aF (pN .i64) sp:=by
 rintro n ⟨h1,h2⟩;have hb:bl n.natAbs<=20:=eF.2 (by have:(2:Nat)^20=1048576:=rfl;omega);exact(start n).trans ((gP ⟨by omega,by omega⟩).trans (gP (eQ (jE (kZ (by decide) (by omega)) (by omega)))))
def aJ:dO:=orc1 (pN .i64) sp
theorem ok:OK 193 aJ:=(eI E aF (aA Oq.ok (aA aIG.ok aD)) func193).oV rfl spec
end Ol
namespace Ck
def E:=mE [(61,oU.aJ),(68,pV.aJ),(197,aPD.aJ)] 13 [12] [] []
def aF:=bd f153
theorem aU:Nk E aF:=nk
theorem start a b c:aG E f153 aF [D.agg [sc (bool a),ints u64 b,sc (int i64 c)]]=aN (aQ (a,b,c)) (aN True (aC ((b.length:Int)==(0:Int)) (some [D.s (sc (int i64 0)),D.s (sc (int i64 4))]) (aN (aQ (a,b,c)) (some [D.s (sc (int i64 (c+(↑(bl (M6.val b)):Int)-(1:Int)))),D.s (sc (int i64 0))])))):=eJ aU
def sp(x:fB):Prop×List D:=(aQ x,[.s (.sc (.int .i64 (if(dv x).1=0 then 0 else x.2.2+(bl (M6.val x.2.1):Nat)-1))),.s (.sc (.int .i64 (if(dv x).1=0 then 4 else 0)))])
theorem spec:iH E f153 aF jQ sp:=by
 intro x h;have h:aQ x:=h;refine(start x.1 x.2.1 x.2.2).trans ?_;have hz:=M6.cY h.Fi;have ha:=iX (x.1,x.2.1)
 try dsimp only at ha
 have hd:(dv x).1=wv (x.1,x.2.1):=rfl;unfold sp
 try dsimp only
 rw[gP h,gP trivial]
 by_cases h0:x.2.1.length=0
 ·have:(dv x).1=0:=by rw[hd];have:=hz.1 h0;omega
  rw[dU,if_pos this,if_pos this]
 ·have:(dv x).1≠0:=by rw[hd];have:=fun hv=>h0 (hz.2 hv);omega
  rw[cP,if_neg this,if_neg this,gP h]
def aJ:dO:=orc1 jQ sp
theorem ok:OK 153 aJ:=(eI E aF (aA oU.ok (aA pV.ok (aA aPD.ok aD))) func153).oV rfl spec
end Ck
namespace aPF
def E:=mE [(61,oU.aJ),(69,Ph.aJ),(68,pV.aJ)] 22 [] [] []
def aF:=bd f80
theorem aU:Nk E aF:=nk
theorem start a b c:aG E f80 aF [D.agg [sc (bool a),ints u64 b,sc (int i64 c)]]=aN (aQ (a,b,c)) (aN (b.length<=1099511627776) (aC (!a) (aN True (some [D.agg [sc (bool !(b.length:Int)==(0:Int)),ints u64 b,sc (int i64 c)],D.s (sc (int i64 0))])) (some [D.agg [sc (bool false),ints u64 b,sc (int i64 c)],D.s (sc (int i64 0))]))):=eJ aU
def sp(x:fB):Prop×List D:=(aQ x,dE true (-(dv x).1,(dv x).2))
theorem spec:iH E f80 aF jQ sp:=by
 intro x h;have h:aQ x:=h;have hl:=h.len;have hc:=h.Ln.cells;refine(start x.1 x.2.1 x.2.2).trans ?_;obtain⟨b,a,e⟩:=x
 try dsimp only at *
 unfold sp
 try dsimp only
 rw[gP h,gP];have hz:=M6.cY h.Fi;have ha:=iX (b,a)
 try dsimp only at ha hz
 have e1:dE true (-(dv (b,a,e)).1,(dv (b,a,e)).2)=[D.agg [.sc (.bool (isNeg (-(wv (b,a))))),.ints .u64 a,.sc (.int .i64 e)],.s (.sc (.int .i64 0))]:=by
  show [M.dD (-(wv (b,a)),e),_]=_;unfold M.dD
  try dsimp only
  rw[cGD,hc.2];rfl
 rw[e1];cases b with
 |true =>
  have:wv (true,a)=-(M6.val a:Int):=Sg (x:=(true,a)) rfl;rw[cAN,bF,fN.2 (by omega)]
 |false =>
  have hw:wv (false,a)=(M6.val a:Int):=Hm (x:=(false,a)) rfl;rw[cKD,bT,gP trivial]
  by_cases h0:a.length=0
  ·rw[beq_iff_eq.2 (show(a.length:Int)=0 by omega),fN.2 (by have:=hz.1 h0;omega)];rfl
  ·rw[beq_eq_false_iff_ne.2 (show(a.length:Int)≠0 by omega),jT.2 (by have:M6.val a≠0:=fun h=>h0 (hz.2 h);omega)];rfl
def aJ:dO:=orc1 jQ sp
theorem ok:OK 80 aJ:=(eI E aF (aA oU.ok (aA Ph.ok (aA pV.ok aD))) func80).oV rfl spec
end aPF
namespace aCR
def E:=mE [(80,aPF.aJ),(26,cB.aJ)] 22 [10,19] [] []
def aF:=bd f78
theorem aU:Nk E aF:=nk
theorem start a b c d e f:aG E f78 aF [D.agg [sc (bool a),ints u64 b,sc (int i64 c)],D.agg [sc (bool d),ints u64 e,sc (int i64 f)]]=letI G:=dv (a,b,c);letI F:=dv (d,e,f);letI C:=bif true then(-F.fst,F.snd)else((0:Int),(0:Int));letI A:=dv (isNeg C.fst,M6.dg C.fst.natAbs,C.snd);letI B:=bif cB.jW G A then cB.kI G A else((0:Int),(0:Int));aN (aQ (d,e,f)) (aN (aQ (a,b,c)/\aQ (isNeg (-F.fst),M6.dg (-F.fst).natAbs,F.snd)) (some [D.agg [sc (bool (isNeg B.fst)),ints u64 (M6.dg B.fst.natAbs),sc (int i64 B.snd)],D.s (sc (int i64 (bif cB.jW G A then(0:Int)else(5:Int))))])):=eJ aU
def sp(x y:fB):Prop×List D:=(aQ x/\aQ y,dE (cB.jW (dv x) (-(dv y).1,(dv y).2)) (cB.kI (dv x) (-(dv y).1,(dv y).2)))
theorem spec:fF E f78 aF jQ jQ sp:=by
 rintro x y ⟨hx,hy⟩;refine(start x.1 x.2.1 x.2.2 y.1 y.2.1 y.2.2).trans ?_;have hn:=eQ hy.pK.neg;have hv:=fK (-(dv y).1,(dv y).2);rw[gP hy,gP ⟨hx,hn⟩]
 try dsimp only[cond_true]at hv ⊢
 rw[hv];rfl
def aJ:dO:=orc2 jQ jQ sp
theorem ok:OK 78 aJ:=(eI E aF (aA aPF.ok (aA cB.ok aD)) func78).jZ rfl spec
end aCR
namespace Norm
def E:=mE [] 27 [] [(2,[0,3]),(4,[0,3])] [4]
def aF:=bd f134
theorem aU:Nk E aF:=nk
def L2 a b:=nU E f134 aF 2 [mP a,bJ b]
def J4 a b:=lP E f134 aF 4 [mP a,bJ b]
theorem start a:aG E f134 aF [D.s (ints u32 a)]=Norm.L2 a (a.length:Int):=eJ aU
theorem lE a b:L2 a b=aC (decide (0<b)) (if 0<=i64.wrap (b-1)/\i64.wrap (b-1)<(a.length:Int)then aC (a.getD (i64.wrap (b-1)).toNat 0==(0:Int)) (Norm.L2 a (i64.wrap (b-1))) (Norm.J4 a b)else none) (Norm.J4 a b):=lJ aU
theorem aOY a b:J4 a b=letI A:=cEH 0 (cEG b.toNat a);if 0<=b/\b<=b/\b<=8796093022208 then if(0:Int)<=(0:Int)/\0<=b/\b<=(a.length:Int)then some [D.own 156 u32 (cEG b.toNat A ++ cEH (min A.length b.toNat) (cAQ b.toNat (0:Int)))]else none else none:=cJ aU
theorem J{xs:List Int}{n:Nat}(h:n<=xs.length)(hl:xs.length<=4398046511104):J4 xs n=some [D.own kX .u32 (xs.take n)]:=by
 rw[aOY,aR,aR];simp only[cCJ];rw[aNP h]
theorem L{xs:List Int}(hd:bM xs)(hl:xs.length<=4398046511104):∀n:Nat,n<=xs.length->L2 xs n=some [D.own kX .u32 (dg (val (xs.take n)))]
 |0,h=>by
  rw[lE];simp only[aC,Int.natCast_zero,Int.lt_irrefl,decide_false,cond_false];rw[show((0:Int))=((0:Nat):Int)from rfl,J (by omega) hl];simp[val,cL]
 |n+1,h=>by
  rw[lE];have e:i64.wrap (((n+1:Nat):Int)-1)=(n:Int):=by rw[wrap_i64];omega
  rw[e];have e2:decide ((0:Int)<((n+1:Nat):Int))=true   := by simp
  simp only[aC,e2,cond_true,cCJ];rw[aR];cases hz:xs.getD n 0==0 with
  |true =>
   have hz:=eq_of_beq hz;simp only[cond_true];rw[L hd hl n (by omega),mW (by omega),hz];simp
  |false =>
   have hz:xs.getD n 0≠0:=by simpa using hz
   simp only[cond_false];rw[J h hl];have:cO (xs.take (n+1)):=Bb (hd.take _) fun d hg=>by
    rw[getLast_take (by omega)]at hg;cases hg;exact hz
   rw[<-this]
def sp(a:List Int):Prop×List D:=(bM a/\a.length<=4398046511104,[.own kX .u32 (dg (val a))])
theorem spec:iH E f134 aF (pI .u32) sp:=by
 rintro a ⟨hd,hl⟩;refine(start a).trans ?_;rw[L hd hl a.length (bYN _),cFF];rfl
def aJ:dO:=orc1 (pI .u32) sp
theorem ok:OK 134 aJ:=(eI E aF aD func134).oV rfl spec
end Norm
namespace wP
def E:=mE [(134,Norm.aJ)] 11 [10] [] []
def aF:=bd f142
theorem aU:Nk E aF:=nk
theorem start a:aG E f142 aF [D.s (sc (int u64 a))]=letI B:=a/4294967296;letI A:=gR BinOp.and u64 a 4294967295;aN (bM [u32.wrap A,u32.wrap B]/\[u32.wrap A,u32.wrap B].length<=4398046511104) (some [D.own 156 u32 (dg (val [u32.wrap A,u32.wrap B]))]):=eJ aU
def sp(w:Int):Prop×List D:=(0<=w/\w<18446744073709551616,[.own kX .u32 (dg w.toNat)])
theorem spec:iH E f142 aF (pN .u64) sp:=by
 rintro w ⟨h,h'⟩;refine(start w).trans ?_;rw[kR h h',wrap_u32,wrap_u32,aEY]
 ·unfold sp;congr 4;simp only[val];omega
 ·refine⟨?_,by simp⟩;rw[kF,kF];exact⟨by omega,by omega,lC⟩
def aJ:dO:=orc1 (pN .u64) sp
theorem ok:OK 142 aJ:=(eI E aF (aA Norm.ok aD) func142).oV rfl spec
end wP
namespace sL
def E:=mE [(134,Norm.aJ)] 46 [45] [(4,[0,1,7,8,9])] []
def aF:=bd f214
theorem aU:Nk E aF:=nk
def L4 a (b:Int) (c:Nat) (d:List Int) f g:=nU E f214 aF 4 [mP a,vA (sc (int u32 b)),(A.v (V.one (L.buf 2 c)),some { e:=(156:Nat),cont:=oH.ints u32 d }),dR f,bJ g]
theorem start a b c:aG E f214 aF [D.s (ints u32 a),D.s (sc (int u32 b)),D.s (sc (int u32 c))]=if(0:Int)<=(0:Int)/\0<=i64.wrap ((a.length:Int)+(1:Int))/\i64.wrap ((a.length:Int)+(1:Int))<=8796093022208 then sL.L4 a b 0 (cAQ 0 (0:Int)) (u64.wrap c) 0 else none:=eJ aU
theorem mG a b c d e f:L4 a b c d e f=letI C:=d ++ [u32.wrap e];letI B:=e+u64.wrap (u64.wrap (a.getD f.toNat 0)*u64.wrap b);letI A:=gR BinOp.and u64 (u64.wrap B) 4294967295;letI F:=d.length+[u32.wrap A].length;aC (decide (f<(a.length:Int))) (if 0<=f/\f<(a.length:Int)then if(0:Nat)<[u32.wrap A].length/\(F:Int)<=(8796093022208:Int)then sL.L4 a b F (d ++ [u32.wrap A]) (u64.wrap B/4294967296) (i64.wrap (f+1))else none else none) (if(0:Nat)<[u32.wrap e].length/\(↑(d.length+[u32.wrap e].length):Int)<=(8796093022208:Int)then aN (bM C/\C.length<=4398046511104) (some [D.own 156 u32 (dg (val C))])else none):=lJ aU
theorem L{a:List Int}{w:Int}(ha:bM a)(aPS:a.length<=1099511627776)(hw:0<=w)(aUX:w<4294967296){r:Nat}:∀(d i:Nat) (xs:List Int) (c:Int),bM xs->xs.length=i->0<=c->c<4294967296 ->
  i+d=a.length->val xs+4294967296^i*c.toNat=val (a.take i)*w.toNat+r ->
  L4 a w i xs c i=some [D.own kX .u32 (dg (val a*w.toNat+r))]:=by
 intro d
 induction d with
 |zero =>
  intro i xs c hx Dp h0 h1 hd hv;rw[mG,aM,if_pos ⟨by simp,by simp;omega⟩,wrap_u32,cHT h0 h1,gP ⟨kV hx ⟨h0,h1⟩,by simp;omega⟩,kT,Dp,hv,cC (by omega)]
 |succ d ih =>
  intro i xs c hx Dp h0 h1 hd hv;have g1:=ha.get i;have e':((i:Int)).toNat=i:=cCJ i;have hm:a.getD i 0*w<=4294967295*4294967295:=by
   have h1:a.getD i 0*w<=4294967295*w:=cAX (by omega) hw;have h2:(4294967295:Int)*w<=4294967295*4294967295:=cJT (by omega) (by omega);omega
  have aSA:0<=a.getD i 0*w:=cKF g1.1 hw;rw[mG,aO,aR,e',wrap_u64 (n:=a.getD i 0),wrap_u64 (n:=w),wrap_u64 (n:=a.getD i 0*w),wrap_u64,
   kR (by omega) (by omega),if_pos ⟨by simp,by simp;omega⟩,wrap_u32,cKM _ (Int.dvd_refl _),wrap_i64,Dp]
  show L4 a w (i+1) _ _ ((i+1:Nat):Int)=_;refine ih (i+1) _ _ (kV hx (by omega)) (by simp[Dp]) (by omega) (by omega) (by omega) ?_;rw[kT,bR,Dp,cDL,cDQ,bZH];have et:(a.getD i 0*w).toNat=(a.getD i 0).toNat*w.toNat:=Int.toNat_mul g1.1 hw;have e:4294967296*((c+a.getD i 0*w)/4294967296).toNat+((c+a.getD i 0*w)%4294967296).toNat=c.toNat+(a.getD i 0).toNat*w.toNat:=by rw[<-et];omega
  generalize a.getD i 0=x at *;generalize 4294967296^i=B at *;have e2:B*(4294967296*((c+x*w)/4294967296).toNat)+B*((c+x*w)%4294967296).toNat=B*c.toNat+B*(x.toNat*w.toNat):=by
   rw[<-cDN,e,cDN]
  rw[cDQ];omega
def sp(a:List Int)(w c:Int):Prop×List D:=(bM a/\a.length<=1099511627776/\(0<=w/\w<4294967296)/\(0<=c/\c<4294967296),[.own kX .u32 (dg (val a*w.toNat+c.toNat))])
theorem spec:uQ E f214 aF (pI .u32) (pN .u32) (pN .u32) sp:=by
 rintro a w c ⟨ha,h1,hw,hc⟩;refine(start a w c).trans ?_;rw[wrap_i64,if_pos ⟨by omega,by omega,by omega⟩,wrap_u64];exact L ha h1 hw.1 hw.2 a.length 0 [] c lC rfl hc.1 hc.2 (by omega) (by simp[val])
def aJ:dO:=orc3 (pI .u32) (pN .u32) (pN .u32) sp
theorem ok:OK 214 aJ:=(eI E aF (aA Norm.ok aD) func214).Dn rfl spec
end sL
namespace aQA
def E:=mE [(134,Norm.aJ),(214,sL.aJ)] 32 [14,31] [(3,[0,1])] [3]
def aF:=bd f181
theorem aU:Nk E aF:=nk
def J3 a b:=lP E f181 aF 3 [mP a,bJ b]
theorem start a b:aG E f181 aF [D.s (ints u32 a),D.s (sc (int i64 b))]=letI A:=aN (bM a/\a.length<=4398046511104) (some [D.own 156 u32 (dg (val a))]);aC (decide (b<=0)) A (aC ((a.length:Int)==(0:Int)) A (aQA.J3 a b)):=eJ aU
theorem fH a b:J3 a b=letI G:=b.tdiv 32;letI F:=i64.wrap (i64.wrap G+(a.length:Int))+1;letI C:=(↑((2:Nat)^min (b.tmod 32).toNat 32):Int);letI A:=val a*(u32.wrap ((1:Int)*C)).toNat+0;letI B:=cAQ (i64.wrap G).toNat (0:Int) ++ dg A;if 0<=i64.wrap G/\i64.wrap G<=i64.wrap F/\i64.wrap F<=8796093022208 then if b.tmod 32<(0:Int)then none else aN (bM a/\a.length<=1099511627776/\(0<=u32.wrap ((1:Int)*C)/\u32.wrap ((1:Int)*C)<4294967296)/\(0:Int)<=(0:Int)/\(0:Int)<(4294967296:Int)) (if 0<(dg A).length/\(↑((cAQ (i64.wrap G).toNat (0:Int)).length+(dg A).length):Int)<=(8796093022208:Int)then aN (bM B/\B.length<=4398046511104) (some [D.own 156 u32 (dg (val B))])else none)else none:=cJ aU
def sp(a:List Int)(n:Int):Prop×List D:=(cO a/\a.length<=1099511627776/\n<=1099511627776,[.own kX .u32 (dg (val a*2^n.toNat))])
theorem spec:fF E f181 aF (pI .u32) (pN .i64) sp:=by
 rintro a n ⟨ha,h1,h2⟩;refine(start a n).trans ?_;show _=some [D.own kX .u32 (dg (val a*2^n.toNat))]
 by_cases hn:n<=0
 ·rw[aO hn,gP ⟨ha.iA,by omega⟩,show n.toNat=0 from by omega,cIJ,bYX]
 ·rw[aM hn]
  by_cases hz:a.length=0
  ·have hv:=(cY ha).1 hz;rw[dU,gP ⟨ha.iA,by omega⟩,hv,cGE]
  ·have hv:val a≠0:=fun h=>hz ((cY ha).2 h)
   rw[cP,fH,aJP (by omega),aJK (by omega),wrap_i64 (n:=n/32),wrap_i64 (n:=n/32+a.length),wrap_i64,if_pos ⟨by omega,by omega,by omega⟩,bI,
    Lz (by omega) (by omega),cCJ]
   have e1:(n%32).toNat=n.toNat%32:=by omega
   have e2:(n/32).toNat=n.toNat/32:=by omega
   have hp:2^(n.toNat%32)<2^32:=cFE (by omega) (by omega);have Na:0<2^(n.toNat%32):=cD;rw[e1,e2,bZO];have hm:val a*2^(n.toNat%32)≠0:=Nat.mul_ne_zero hv (by omega);have bBG:(dg (val a*2^(n.toNat%32))).length<=a.length+1:=by
    apply cU;rw[cDL];exact Nat.mul_lt_mul_of_lt_of_lt (cR ha.iA) hp
   have aSA:(dg (val a*2^(n.toNat%32))).length≠0:=fun h=>hm (fZ.1 h)
   rw[gP ⟨ha.iA,h1,⟨by omega,by generalize 2^(n.toNat%32)=p at *;omega⟩,by omega,by omega⟩,if_pos ⟨by omega,by rw[cIX];omega⟩,
    gP ⟨lS.2 ⟨gU _,cA _⟩,by rw[bZQ,cIX];omega⟩,iJ,iD,cIX,bD,bYP,xV n.toNat,cGH]
def aJ:dO:=orc2 (pI .u32) (pN .i64) sp
theorem ok:OK 181 aJ:=(eI E aF (aA Norm.ok (aA sL.ok aD)) func181).jZ rfl spec
end aQA
namespace aCJ
def E:=mE [(142,wP.aJ),(181,aQA.aJ)] 6 [5] [] []
def aF:=bd f254
theorem aU:Nk E aF:=nk
theorem start a:aG E f254 aF [D.s (sc (int i64 a))]=aN ((0:Int)<=(1:Int)/\(1:Int)<(18446744073709551616:Int)) (aN (cO (dg 1)/\(dg 1).length<=1099511627776/\a<=1099511627776) (some [D.own 156 u32 (dg (val (dg 1)*(2:Nat)^a.toNat))])):=eJ aU
def sp(n:Int):Prop×List D:=(n<=1099511627776,[.own kX .u32 (dg (2^n.toNat))])
theorem spec:iH E f254 aF (pN .i64) sp:=by
 intro n h;refine(start n).trans ?_;rw[gP ⟨by omega,by omega⟩,gP ⟨bA _,by simp[dg],h⟩,bD];simp[sp]
def aJ:dO:=orc1 (pN .i64) sp
theorem ok:OK 254 aJ:=(eI E aF (aA wP.ok (aA aQA.ok aD)) func254).oV rfl spec
end aCJ
namespace pJ
def E:=mE [(134,Norm.aJ),(142,wP.aJ)] 46 [11,43] [(6,[0,1,6,7,8])] []
def aF:=bd f228
theorem aU:Nk E aF:=nk
def L6 a (b:Int) (c:Nat) (d:List Int) f g:=nU E f228 aF 6 [mP a,vA (sc (int u32 b)),(A.v (V.one (L.buf 2 c)),some { e:=(156:Nat),cont:=oH.ints u32 d }),dR f,bJ g]
theorem start a b:aG E f228 aF [D.s (ints u32 a),D.s (sc (int u32 b))]=letI A:=(a.length:Int);aC (b==0) (aN ((0:Int)<=(0:Int)/\(0:Int)<(18446744073709551616:Int)) (some [D.own 156 u32 (dg 0),D.s (sc (int u32 0))])) (if 0<=A/\A<=A/\A<=(8796093022208:Int)then pJ.L6 a b A.toNat (cAQ A.toNat (0:Int)) 0 (i64.wrap (A-(1:Int)))else none):=eJ aU
theorem qW a b c d e f:L6 a b c d e f=letI A:=u64.wrap (u64.wrap (e*4294967296)+u64.wrap (a.getD f.toNat 0));aC (decide (0<=f)) (if 0<=f/\f<(a.length:Int)then if u64.wrap b=0 then none else if 0<=f/\f<(c:Int)then if u64.wrap b=0 then none else pJ.L6 a b c (d.set f.toNat (u32.wrap (u64.wrap (A.tdiv (u64.wrap b))))) (A.tmod (u64.wrap b)) (i64.wrap (f-1))else none else none) (aN (bM d/\d.length<=4398046511104) (some [D.own 156 u32 (dg (val d)),D.s (sc (int u32 (u32.wrap e)))])):=lJ aU
theorem L{a:List Int}{w:Int}(ha:bM a)(aPS:a.length<=1099511627776)(hw:0<w)(aUX:w<4294967296):∀(n:Nat) (q:List Int) (l:Int),bM q->q.length=a.length->0<=l->l<w->n<=a.length ->
  L6 a w a.length q l ((n:Int)-1)=some [D.own kX .u32 (dg ((l.toNat*4294967296^n+val (a.take n))/w.toNat+4294967296^n*val (q.drop n))),D.s (.sc (.int .u32 (((l.toNat*4294967296^n+val (a.take n))%w.toNat:Nat):Int)))]:=by
 intro n
 induction n with
 |zero =>
  intro q l hq bGZ h0 h1 hn;rw[qW,aM,gP ⟨hq,by omega⟩,wrap_u32];simp only[cIJ,bYX,cCO,val,bZO,cER,cCQ];rw[cEI (by omega),bYP,cIT (by omega)];have e0:l%4294967296=(l.toNat:Int):=by omega
  rw[e0]
 |succ n ih =>
  intro q l hq bGZ h0 h1 hn;have g1:=ha.get n;have e:(((n+1:Nat):Int)-1)=(n:Int):=by omega
  have e':((n:Int)).toNat=n:=cCJ n;have hu:wrap_u64 (n:=w)=wrap_u64 (n:=w):=rfl;rw[e,qW,aO,aR,e',wrap_u64 (n:=w),bI,aR,bI,wrap_u64 (n:=l*4294967296),
   wrap_u64 (n:=a.getD n 0),wrap_u64 (n:=l*4294967296+a.getD n 0),wrap_i64]
  have Pq:0<=l*4294967296+a.getD n 0:=by omega
  rw[cFZ Pq,cGA Pq];have bOW:(l*4294967296+a.getD n 0)/w<4294967296:=Int.ediv_lt_of_lt_mul hw (by
   have:(l+1)*4294967296<=w*4294967296:=cAX (by omega) (by omega);omega)
  have aPQ:0<=(l*4294967296+a.getD n 0)/w:=Int.ediv_nonneg Pq (by omega);have aSA:=cHL (l*4294967296+a.getD n 0) (show w≠0 by omega);have bPB:=cHM (l*4294967296+a.getD n 0) hw;rw[wrap_u64 aPQ (by omega),wrap_u32,cHT aPQ bOW,ih _ _ (kM hq ⟨aPQ,bOW⟩) (by simpa using bGZ) aSA bPB (by omega),nW (by omega),bR];have bGS:0<w.toNat:=by omega
  have d1:((l*4294967296+a.getD n 0)/w).toNat=(l.toNat*4294967296+(a.getD n 0).toNat)/w.toNat:=by
   rw[Wf Pq (by omega)];congr 1;omega
  have d2:((l*4294967296+a.getD n 0)%w).toNat=(l.toNat*4294967296+(a.getD n 0).toNat)%w.toNat:=by
   rw[We Pq (by omega)];congr 1;omega
  rw[d1,d2,cDL];generalize (a.getD n 0).toNat=x at *;generalize l.toNat=l at *;generalize val (a.take n)=v at *;generalize 4294967296^n=B at *;have e3:l*(B*4294967296)+(v+B*x)=(l*4294967296+x)*B+v:=by
   rw[bZH,cDM B 4294967296,<-cDQ,cDM B x];omega
  rw[e3,aNF bGS,aKY (l:=l) (B:=4294967296) (d:=x),cDN,cDQ,cCD]
def sp(a:List Int)(w:Int):Prop×List D:=(bM a/\a.length<=1099511627776/\(0<w/\w<4294967296),[.own kX .u32 (dg (val a/w.toNat)),.s (.sc (.int .u32 ((val a%w.toNat:Nat):Int)))])
theorem spec:fF E f228 aF (pI .u32) (pN .u32) sp:=by
 rintro a w ⟨ha,h1,hw⟩;refine(start a w).trans ?_;rw[cP,if_pos ⟨by omega,by omega,by omega⟩,wrap_i64,cCJ,L ha h1 hw.1 hw.2 a.length _ 0 (gU _) (by simp) (by omega) (by omega) (bYN _)];simp[sp,val]
def aJ:dO:=orc2 (pI .u32) (pN .u32) sp
theorem ok:OK 228 aJ:=(eI E aF (aA Norm.ok (aA wP.ok aD)) func228).jZ rfl spec
end pJ
namespace Add
def E:=mE [(134,Norm.aJ)] 63 [62] [(4,[0,1,5,6,7]),(6,[0,1,5,6,7]),(8,[0,1,5,6,7]),(10,[0,1,5,6,7])] [6,8,10]
def aF:=bd f141
theorem aU:Nk E aF:=nk
def L4 a b (c:Nat) (d:List Int) f g:=nU E f141 aF 4 [mP a,mP b,(A.v (V.one (L.buf 2 c)),some { e:=(156:Nat),cont:=oH.ints u32 d }),dR f,bJ g]
def J6 a b (c:Nat) (d:List Int) f g:=lP E f141 aF 6 [mP a,mP b,(A.v (V.one (L.buf 2 c)),some { e:=(156:Nat),cont:=oH.ints u32 d }),dR f,bJ g]
def J8 a b (c:Nat) (d:List Int) f g:=lP E f141 aF 8 [mP a,mP b,(A.v (V.one (L.buf 2 c)),some { e:=(156:Nat),cont:=oH.ints u32 d }),dR f,bJ g]
def aCN a b (c:Nat) (d:List Int) f g:=lP E f141 aF 10 [mP a,mP b,(A.v (V.one (L.buf 2 c)),some { e:=(156:Nat),cont:=oH.ints u32 d }),dR f,bJ g]
theorem start a b:aG E f141 aF [D.s (ints u32 a),D.s (ints u32 b)]=letI A:=if(b.length:Int)>(a.length:Int)then(b.length:Int)else(a.length:Int);if(0:Int)<=(0:Int)/\0<=i64.wrap (A+1)/\i64.wrap (A+1)<=8796093022208 then Add.L4 a b 0 (cAQ 0 (0:Int)) 0 0 else none:=eJ aU
theorem mG a b c d e f:L4 a b c d e f=letI A:=Add.J6 a b c d e f;aC (decide (f<(a.length:Int))) A (aC (decide (f<(b.length:Int))) A (aC (decide (0<e)) A (aN (bM d/\d.length<=4398046511104) (some [D.own 156 u32 (dg (val d))])))):=lJ aU
theorem sW a b c d e f:J6 a b c d e f=aC (decide (f<(a.length:Int))) (if 0<=f/\f<(a.length:Int)then Add.J8 a b c d (u64.wrap (e+u64.wrap (a.getD f.toNat 0))) f else none) (Add.J8 a b c d e f):=cJ aU
theorem Al a b c d e f:J8 a b c d e f=aC (decide (f<(b.length:Int))) (if 0<=f/\f<(b.length:Int)then Add.aCN a b c d (u64.wrap (e+u64.wrap (b.getD f.toNat 0))) f else none) (Add.aCN a b c d e f):=cJ aU
theorem Pc a b c d e f:aCN a b c d e f=letI A:=gR BinOp.and u64 e 4294967295;letI B:=d.length+[u32.wrap A].length;if(0:Nat)<[u32.wrap A].length/\(B:Int)<=(8796093022208:Int)then Add.L4 a b B (d ++ [u32.wrap A]) (e/4294967296) (i64.wrap (f+1))else none:=cJ aU
theorem step{a b xs:List Int}{c:Int}{i:Nat}(ha:bM a)(hb:bM b)(Dp:xs.length=i)(hi:i<4398046511104)(h0:0<=c)(h1:c<=1)(hc:i<a.length\/i<b.length\/0<c) :
  L4 a b i xs c i=L4 a b (i+1) (xs ++ [(c+a.getD i 0+b.getD i 0)%4294967296]) ((c+a.getD i 0+b.getD i 0)/4294967296) ((i+1:Nat):Int):=by
 have g1:=ha.get i;have g2:=hb.get i;have e':((i:Int)).toNat=i:=cCJ i;have bFB:∀s:Int,0<=s->s<18446744073709551616->aCN a b i xs s i=L4 a b (i+1) (xs ++ [s%4294967296]) (s/4294967296) ((i+1:Nat):Int):=by
  intro s hs sT;rw[Pc,kR hs sT,if_pos ⟨by simp,by simp;omega⟩,wrap_u32,cKM _ (Int.dvd_refl _),wrap_i64,Dp];rfl
 have bPT:∀s:Int,0<=s->s<8589934592->J8 a b i xs s i=aCN a b i xs (s+b.getD i 0) i:=by
  intro s hs sT;rw[Al]
  by_cases h:i<b.length
  ·rw[aO,aR,e',wrap_u64 (n:=b.getD i 0),wrap_u64]
  ·rw[aM,getD_none (a:=b) (by omega),cJV]
 have bLX:J6 a b i xs c i=L4 a b (i+1) (xs ++ [(c+a.getD i 0+b.getD i 0)%4294967296]) ((c+a.getD i 0+b.getD i 0)/4294967296) ((i+1:Nat):Int):=by
  rw[sW]
  by_cases h:i<a.length
  ·rw[aO,aR,e',wrap_u64 (n:=a.getD i 0),wrap_u64,bPT _ (by omega) (by omega),bFB _ (by omega) (by omega)]
  ·rw[aM,getD_none (a:=a) (by omega),cJV,bPT _ (by omega) (by omega),bFB _ (by omega) (by omega)]
 rw[mG]
 by_cases h:i<a.length
 ·rw[aO,bLX]
 ·rw[aM]
  by_cases h':i<b.length
  ·rw[aO,bLX]
  ·rw[aM,aO,bLX]
theorem L{a b:List Int}(ha:bM a)(hb:bM b)(aPS:a.length<=1099511627776)(bKK:b.length<=1099511627776):∀(d i:Nat) (xs:List Int) (c:Int),bM xs->xs.length=i->0<=c->c<=1 ->
  i+d=max a.length b.length+1->(d=0->c=0)->val xs+4294967296^i*c.toNat=val (a.take i)+val (b.take i) ->
  L4 a b i xs c i=some [D.own kX .u32 (dg (val a+val b))]:=by
 intro d
 induction d with
 |zero =>
  intro i xs c hx Dp h0 h1 hd hc hv;have hc:=hc rfl;subst hc;rw[mG,aM,aM,aM,gP ⟨hx,by omega⟩];rw[cC (by omega),cC (by omega)]at hv;simp at hv;rw[hv]
 |succ d ih =>
  intro i xs c hx Dp h0 h1 hd hc hv
  by_cases bHE:i<a.length\/i<b.length\/0<c
  ·have g1:=ha.get i;have g2:=hb.get i;rw[step ha hb Dp (by omega) h0 h1 bHE];refine ih (i+1) _ _ (kV hx (by omega)) (by simp[Dp]) (by omega) (by omega) (by omega) (fun hd0=>?_) ?_
   ·have:¬i<a.length:=by omega
    have:¬i<b.length:=by omega
    rw[getD_none (a:=a) (by omega),getD_none (a:=b) (by omega)];omega
   ·rw[kT,bR,bR,Dp,cDL,cDQ];generalize a.getD i 0=x at *;generalize b.getD i 0=y at *;generalize 4294967296^i=B at *;have e:4294967296*((c+x+y)/4294967296).toNat+((c+x+y)%4294967296).toNat=c.toNat+x.toNat+y.toNat:=by omega
    have e2:B*(4294967296*((c+x+y)/4294967296).toNat)+B*((c+x+y)%4294967296).toNat=B*c.toNat+B*x.toNat+B*y.toNat:=by
     rw[<-cDN,e,cDN,cDN]
    omega
  ·have:c=0:=by omega
   subst this;rw[mG,aM,aM,aM,gP ⟨hx,by omega⟩];rw[cC (by omega),cC (by omega)]at hv;simp at hv;rw[hv]
def sp(a b:List Int):Prop×List D:=(bM a/\bM b/\a.length<=1099511627776/\b.length<=1099511627776,[.own kX .u32 (dg (val a+val b))])
theorem spec:fF E f141 aF (pI .u32) (pI .u32) sp:=by
 rintro a b ⟨ha,hb,h1,h2⟩;refine(start a b).trans ?_;rw[if_pos]
 ·exact L ha hb h1 h2 (max a.length b.length+1) 0 [] 0 lC rfl (by omega) (by omega) (by omega) (fun _=>rfl) (by simp[val])
 ·refine⟨by omega,?_,?_⟩ <;> rw[wrap_i64 ?_ ?_] <;> split <;> omega
def aJ:dO:=orc2 (pI .u32) (pI .u32) sp
theorem ok:OK 141 aJ:=(eI E aF (aA Norm.ok aD) func141).jZ rfl spec
end Add
namespace aPG
def E:=mE [] 41 [] [(6,[0,1,5])] []
def aF:=bd f237
theorem aU:Nk E aF:=nk
def L6 a b c:=nU E f237 aF 6 [mP a,mP b,bJ c]
theorem start a b:aG E f237 aF [D.s (ints u32 a),D.s (ints u32 b)]=letI A:=(a.length:Int);aC (A !=(b.length:Int)) (aC (decide (A<(b.length:Int))) (some [D.s (sc (int i64 (-1:Int)))]) (some [D.s (sc (int i64 1))])) (aPG.L6 a b (i64.wrap (A-(1:Int)))):=eJ aU
theorem qW a b c:L6 a b c=aC (decide (0<=c)) (if 0<=c/\c<(a.length:Int)then if 0<=c/\c<(b.length:Int)then aC (decide (a.getD c.toNat 0<b.getD c.toNat 0)) (some [D.s (sc (int i64 (-1:Int)))]) (if 0<=c/\c<(a.length:Int)then if 0<=c/\c<(b.length:Int)then aC (decide (b.getD c.toNat 0<a.getD c.toNat 0)) (some [D.s (sc (int i64 1))]) (aPG.L6 a b (i64.wrap (c-1)))else none else none)else none else none) (some [D.s (sc (int i64 0))]):=lJ aU
theorem L{a b:List Int}(ha:bM a)(hb:bM b)(hl:a.length=b.length)(hm:a.length<=4398046511104):∀n:Nat,n<=a.length->L6 a b ((n:Int)-1)=some [D.s (.sc (.int .i64 (iW (val (a.take n)) (val (b.take n)))))]
 |0,_=>by
  rw[qW,aM];simp[iW,val]
 |n+1,h=>by
  have e:(((n+1:Nat):Int)-1)=(n:Int):=by omega
  have e':((n:Int)).toNat=n:=cCJ n;rw[e,qW,aO,aR,aR,aR,aR,e',wrap_i64,L ha hb hl hm n (by omega)];have h1:=ha.get n;have h2:=hb.get n;have l1:=fY ha n;have l2:=fY hb n;rw[bR,bR];generalize a.getD n 0=x at *;generalize b.getD n 0=y at *;generalize val (a.take n)=u at *;generalize val (b.take n)=v at *;generalize 4294967296^n=B at *
  by_cases aPO:x<y
  ·rw[aO aPO];have:B*x.toNat+B<=B*y.toNat:=by
    have:B*(x.toNat+1)<=B*y.toNat:=cBB _ (by omega);rw[cDN]at this;omega
   unfold iW;rw[aR]
  ·rw[aM aPO]
   by_cases bJE:y<x
   ·rw[aO bJE];have:B*y.toNat+B<=B*x.toNat:=by
     have:B*(y.toNat+1)<=B*x.toNat:=cBB _ (by omega);rw[cDN]at this;omega
    unfold iW;rw[bI,aR]
   ·rw[aM bJE];have:x=y:=by omega
    subst this;rw[Yt]
def sp(a b:List Int):Prop×List D:=(cO a/\cO b/\a.length<=4398046511104/\b.length<=4398046511104,[.s (.sc (.int .i64 (iW (val a) (val b))))])
theorem spec:fF E f237 aF (pI .u32) (pI .u32) sp:=by
 rintro a b ⟨ha,hb,h1,h2⟩;refine(start a b).trans ?_;show _=some [D.s (.sc (.int .i64 (iW (val a) (val b))))]
 by_cases hl:a.length=b.length
 ·rw[gA,wrap_i64,L ha.iA hb.iA hl h1 a.length (bYN _),cC (bYN _),cC (by omega)]
 ·rw[oG]
  by_cases jM:a.length<b.length
  ·have:=oB ha.iA hb jM;rw[aO];unfold iW;rw[if_pos this]
  ·have:=oB hb.iA ha (by omega);rw[aM];unfold iW;rw[bI,if_pos this]
def aJ:dO:=orc2 (pI .u32) (pI .u32) sp
theorem ok:OK 237 aJ:=(eI E aF aD func237).jZ rfl spec
end aPG
namespace Sub
def E:=mE [(134,Norm.aJ),(142,wP.aJ),(237,aPG.aJ)] 55 [14,54] [(6,[0,1,5,6,7]),(11,[0,1,5,7,8])] [11]
def aF:=bd f238
theorem aU:Nk E aF:=nk
def L6 a b (c:Nat) (d:List Int) f g:=nU E f238 aF 6 [mP a,mP b,(A.v (V.one (L.buf 2 c)),some { e:=(156:Nat),cont:=oH.ints u32 d }),dR f,bJ g]
def Pr a b (c:Nat) (d:List Int) f g:=lP E f238 aF 11 [mP a,mP b,(A.v (V.one (L.buf 2 c)),some { e:=(156:Nat),cont:=oH.ints u32 d }),bJ f,dR g]
theorem start a b:aG E f238 aF [D.s (ints u32 a),D.s (ints u32 b)]=aN (cO a/\cO b/\a.length<=4398046511104/\b.length<=4398046511104) (aC (decide (iW (val a) (val b)<=0)) (aN ((0:Int)<=(0:Int)/\(0:Int)<(18446744073709551616:Int)) (some [D.own 156 u32 (dg 0)])) (if(0:Int)<=(0:Int)/\0<=(a.length:Int)/\(a.length:Int)<=(8796093022208:Int)then Sub.L6 a b 0 (cAQ 0 (0:Int)) 0 0 else none)):=eJ aU
theorem qW a b c d e f:L6 a b c d e f=aC (decide (f<(a.length:Int))) (aC (decide (f<(b.length:Int))) (if 0<=f/\f<(b.length:Int)then Sub.Pr a b c d f (u64.wrap (e+u64.wrap (b.getD f.toNat 0)))else none) (Sub.Pr a b c d f e)) (aN (bM d/\d.length<=4398046511104) (some [D.own 156 u32 (dg (val d))])):=lJ aU
theorem Aa a b c d e f:Pr a b c d e f=letI C:=a.getD e.toNat 0;letI B:=u64.wrap (u64.wrap C-f);letI G:=d.length+[u32.wrap B].length;letI A:=u64.wrap (u64.wrap (u64.wrap C+4294967296)-f);letI F:=d.length+[u32.wrap A].length;if 0<=e/\e<(a.length:Int)then aC (decide (u64.wrap C<f)) (if(0:Nat)<[u32.wrap A].length/\(F:Int)<=(8796093022208:Int)then Sub.L6 a b F (d ++ [u32.wrap A]) 1 (i64.wrap (e+1))else none) (if(0:Nat)<[u32.wrap B].length/\(G:Int)<=(8796093022208:Int)then Sub.L6 a b G (d ++ [u32.wrap B]) 0 (i64.wrap (e+1))else none)else none:=cJ aU
theorem step{a b xs:List Int}{o:Int}{i:Nat}(ha:bM a)(hb:bM b)(Dp:xs.length=i)(hi:i<a.length)(aPS:a.length<=4398046511104)(h0:0<=o)(h1:o<=1) :
  L6 a b i xs o i=L6 a b (i+1) (xs ++ [(a.getD i 0-(o+b.getD i 0))%4294967296]) (if a.getD i 0<o+b.getD i 0 then 1 else 0) ((i+1:Nat):Int):=by
 have g1:=ha.get i;have g2:=hb.get i;have e':((i:Int)).toNat=i:=cCJ i;have hJ:∀t:Int,0<=t->t<=4294967296->Pr a b i xs i t=L6 a b (i+1) (xs ++ [(a.getD i 0-t)%4294967296]) (if a.getD i 0<t then 1 else 0) ((i+1:Nat):Int):=by
  intro t ht bGY;rw[Aa,aR,e',wrap_u64 (n:=a.getD i 0),wrap_u64 (n:=a.getD i 0+4294967296)]
  by_cases h:a.getD i 0<t
  ·rw[aO h,if_pos ⟨by simp,by simp;omega⟩,if_pos h,wrap_u64 (n:=a.getD i 0+4294967296-t),wrap_u32,wrap_i64,Dp,show(a.getD i 0+4294967296-t)%4294967296=(a.getD i 0-t)%4294967296 from by omega];rfl
  ·rw[aM h,if_pos ⟨by simp,by simp;omega⟩,if_neg h,wrap_u64 (n:=a.getD i 0-t),wrap_u32,wrap_i64,Dp];rfl
 rw[qW,aO]
 by_cases h:i<b.length
 ·rw[aO,aR,e',wrap_u64 (n:=b.getD i 0),wrap_u64,hJ _ (by omega) (by omega)]
 ·rw[aM,getD_none (a:=b) (by omega),cJV,hJ _ (by omega) (by omega)]
theorem L{a b:List Int}(ha:bM a)(hb:bM b)(aPS:a.length<=4398046511104)(aMH:b.length<=a.length)(aSI:val b<=val a):∀(d i:Nat) (xs:List Int) (o:Int),bM xs->xs.length=i->0<=o->o<=1 ->
  i+d=a.length->val xs+val (b.take i)=val (a.take i)+4294967296^i*o.toNat ->
  L6 a b i xs o i=some [D.own kX .u32 (dg (val a-val b))]:=by
 intro d
 induction d with
 |zero =>
  intro i xs o hx Dp h0 h1 hd hv;rw[qW,aM,gP ⟨hx,by omega⟩];rw[cC (by omega),cC (by omega)]at hv;have aXQ:=cR hx;rw[Dp]at aXQ;have:o=0:=by
   by_cases ho:o=0
   ·exact ho
   ·exfalso;have:o=1:=by omega
    subst this;have h1:(1:Int).toNat=1:=rfl;rw[h1,bYX]at hv;omega
  subst this;simp at hv;rw[show val xs=val a-val b from by omega]
 |succ d ih =>
  intro i xs o hx Dp h0 h1 hd hv;have g1:=ha.get i;have g2:=hb.get i;rw[step ha hb Dp (by omega) aPS h0 h1];refine ih (i+1) _ _ (kV hx (by omega)) (by simp[Dp]) (by split <;> omega) (by split <;> omega) (by omega) ?_;rw[kT,bR,bR,Dp,cDL,cDQ];generalize a.getD i 0=x at *;generalize b.getD i 0=y at *;have e:((x-(o+y))%4294967296).toNat+y.toNat+o.toNat=x.toNat+4294967296*(if x<o+y then 1 else 0:Int).toNat:=by split <;> omega
  generalize 4294967296^i=B at *;have e2:=congrArg (B*·) e;simp only[cDN]at e2;omega
def sp(a b:List Int):Prop×List D:=(cO a/\cO b/\a.length<=4398046511104/\b.length<=4398046511104,[.own kX .u32 (dg (val a-val b))])
theorem spec:fF E f238 aF (pI .u32) (pI .u32) sp:=by
 rintro a b ⟨ha,hb,h1,h2⟩;refine(start a b).trans ?_;show _=some [D.own kX .u32 (dg (val a-val b))];rw[gP ⟨ha,hb,h1,h2⟩]
 by_cases hc:val a<=val b
 ·rw[aO (by unfold iW;split <;> (try split) <;> omega),gP ⟨by omega,by omega⟩,show val a-val b=0 from by omega]
 ·have hl:b.length<=a.length:=by
   rcases bZC a.length b.length with h |h
   ·have:=oB ha.iA hb h;omega
   ·exact h
  rw[aM (by unfold iW;rw[bI,aR];omega),if_pos ⟨by omega,by omega,by omega⟩];exact L ha.iA hb.iA h1 hl (by omega) a.length 0 [] 0 lC rfl (by omega) (by omega) (by omega) (by simp[val])
def aJ:dO:=orc2 (pI .u32) (pI .u32) sp
theorem ok:OK 238 aJ:=(eI E aF (aA Norm.ok (aA wP.ok (aA aPG.ok aD))) func238).jZ rfl spec
end Sub
namespace Arctan
def E:=mE [(254,aCJ.aJ),(228,pJ.aJ),(142,wP.aJ),(141,Add.aJ),(238,Sub.aJ)] 61 [59] [(5,[0,6,8,9,10,11]),(11,[0,6,8,9,10,11])] [11]
def aF:=bd f269
theorem aU:Nk E aF:=nk
def L5(a:Int) b c d e (f:Int):=nU E f269 aF 5 [vA (sc (int u32 a)),mP b,mP c,mP d,bJ e,vA (sc (int u32 f))]
def Pr(a:Int) b c d e (f:Int):=lP E f269 aF 11 [vA (sc (int u32 a)),mP b,mP c,mP d,bJ e,vA (sc (int u32 f))]
theorem start a b:aG E f269 aF [D.s (sc (int u32 a)),D.s (sc (int i64 b))]=letI A:=dg ((2:Nat)^b.toNat);aN (b<=1099511627776) (aN (bM A/\A.length<=1099511627776/\0<a/\a<4294967296) (aN ((0:Int)<=(0:Int)/\(0:Int)<(18446744073709551616:Int)) (aN ((0:Int)<=(0:Int)/\(0:Int)<(18446744073709551616:Int)) (Arctan.L5 a (dg (val A/a.toNat)) (dg 0) (dg 0) 0 1)))):=eJ aU
theorem Dx a b c d e f:L5 a b c d e f=letI A:=dg (val b/f.toNat);aC (decide (0<(b.length:Int))) (aN (bM b/\b.length<=1099511627776/\0<f/\f<4294967296) (aC (f.tmod 4==(1:Int)) (aN (bM c/\bM A/\c.length<=1099511627776/\A.length<=1099511627776) (Arctan.Pr a b (dg (val c+val A)) d e f)) (aN (bM d/\bM A/\d.length<=1099511627776/\A.length<=1099511627776) (Arctan.Pr a b c (dg (val d+val A)) e f)))) (aN (cO c/\cO d/\c.length<=4398046511104/\d.length<=4398046511104) (some [D.own 156 u32 (dg (val c-val d)),D.s (sc (int i64 e))])):=lJ aU
theorem Aa a b c d e f:Pr a b c d e f=letI A:=dg (val b/a.toNat);aN (bM b/\b.length<=1099511627776/\0<a/\a<4294967296) (aN (bM A/\A.length<=1099511627776/\0<a/\a<4294967296) (Arctan.L5 a (dg (val A/a.toNat)) c d (i64.wrap (e+1)) (u32.wrap (f+2)))):=cJ aU
def rounds(k:Nat):Nat->Nat->Nat->Nat->Nat->Nat->Nat×Nat
 |0,_,p,m,_,n=>(p-m,n)
 |f+1,t,p,m,i,n=>if t=0 then(p-m,n)else if i%4=1 then rounds k f (t/k/k) (p+t/i) m (i+2) (n+1)else rounds k f (t/k/k) p (m+t/i) (i+2) (n+1)
theorem L{k Q:Nat}(hk:2<=k)(Xt:k<4294967296)(hQ:Q<=1000000):∀(f t p m n:Nat),t<2^Q->t<4^f->f+n<=1000000->p<2^(Q+n+1)->m<2^(Q+n+1) ->
  L5 k (dg t) (dg p) (dg m) n ((2*n+1:Nat):Int)=some [D.own kX .u32 (dg (rounds k f t p m (2*n+1) n).1),D.s (.sc (.int .i64 ((rounds k f t p m (2*n+1) n).2:Nat)))]:=by
 intro f
 induction f with
 |zero =>
  intro t p m n aSK ht hf hp hm;have:t=0:=by simpa using ht
  subst this;have lp:=mR hp;have lm:=mR hm;rw[Dx,cL,aM (by simp),gP ⟨bA _,bA _,by omega,by omega⟩,bD,bD];rfl
 |succ f ih =>
  intro t p m n aSK ht hf hp hm;have lp:=mR hp;have lm:=mR hm;have lt:=mR aSK;rw[Dx];unfold rounds
  by_cases hz:t=0
  ·subst hz;rw[cL,aM (by simp),gP ⟨bA _,bA _,by omega,by omega⟩,bD,bD,if_pos rfl]
  ·have aSC:(dg t).length≠0:=fun h=>hz (fZ.1 h)
   have ld:=wB t (2*n+1);have lk:=wB t k;have lkk:=wB (t/k) k;have et:(((2*n+1:Nat):Int)).toNat=2*n+1:=cCJ _;have ek:((k:Int)).toNat=k:=cCJ _;have em:(((2*n+1:Nat):Int)).tmod 4=(((2*n+1)%4:Nat):Int):=by rw[cGA (by omega)];omega
   have hJ:∀p' m':Nat,p'<2^(Q+(n+1)+1)->m'<2^(Q+(n+1)+1)->Pr k (dg t) (dg p') (dg m') n ((2*n+1:Nat):Int)=some [D.own kX .u32 (dg (rounds k f (t/k/k) p' m' (2*n+1+2) (n+1)).1),D.s (.sc (.int .i64 ((rounds k f (t/k/k) p' m' (2*n+1+2) (n+1)).2:Nat)))]:=by
    intro p' m' hp' aSB;rw[Aa,ek,bD,bD,gP ⟨cA _,by omega,by omega,by omega⟩,gP ⟨cA _,by omega,by omega,by omega⟩,wrap_i64,oN (by omega)];have:=ih (t/k/k) p' m' (n+1) (cFA (cGV _ _) (cFA (cGV _ _) aSK)) ?_ (by omega) hp' aSB
    ·rw[show 2*(n+1)+1=2*n+1+2 from by omega]at this;rw[show((2*n+1:Nat):Int)+2=((2*n+1+2:Nat):Int)from by omega,show(n:Int)+1=((n+1:Nat):Int)from by omega];exact this
    ·rw[cEB];apply cEF;have:4<=k*k:=cIS hk hk;rw[cDL,cDM]at ht;exact bZN ht (cAA _ this)
   have Zr:2^(Q+(n+1)+1)=2*2^(Q+n+1):=by rw[show Q+(n+1)+1=(Q+n+1)+1 from by omega,cDL];omega
   have hd:t/(2*n+1)<2^(Q+n+1):=cFA (cGV _ _) (bZN aSK (gO));rw[aO,et,bD,bD,bD,bD,gP ⟨cA _,by omega,by omega,by omega⟩,em,if_neg hz]
   by_cases hc:(2*n+1)%4=1
   ·rw[dU,gP ⟨cA _,cA _,by omega,by omega⟩,if_pos hc,hJ (p+t/(2*n+1)) m (by rw[Zr];omega) (by rw[Zr];omega)]
   ·rw[cP,gP ⟨cA _,cA _,by omega,by omega⟩,if_neg hc,hJ p (m+t/(2*n+1)) (by rw[Zr];omega) (by rw[Zr];omega)]
theorem aGJ{k Q:Nat}:∀(f t p m i n:Nat),t<2^Q->p<2^(Q+n+1)->(rounds k f t p m i n).1<2^(Q+n+f+1)/\(rounds k f t p m i n).2<=n+f:=by
 intro f
 induction f with
 |zero =>
  intro t p m i n ht hp;exact⟨cFA (Nat.sub_le _ _) hp,by simp[rounds]⟩
 |succ f ih =>
  intro t p m i n ht hp;have Zr:2^(Q+n+1)<=2^(Q+n+(f+1)+1):=gO;have bDP:2^(Q+(n+1)+1)=2*2^(Q+n+1):=by rw[show Q+(n+1)+1=(Q+n+1)+1 from by omega,cDL];omega
  have hd:t/i<2^(Q+n+1):=cFA (cGV _ _) (bZN ht (gO));have hk:t/k/k<2^Q:=cFA (cGV _ _) (cFA (cGV _ _) ht);unfold rounds;split
  ·refine⟨bZN (cFA (Nat.sub_le _ _) hp) Zr,by simp⟩
  ·split
   ·have:=ih (t/k/k) (p+t/i) m (i+2) (n+1) hk (by rw[bDP];omega);rw[show Q+(n+1)+f+1=Q+n+(f+1)+1 from by omega]at this;exact⟨this.1,by omega⟩
   ·have:=ih (t/k/k) p (m+t/i) (i+2) (n+1) hk (by rw[bDP];omega);rw[show Q+(n+1)+f+1=Q+n+(f+1)+1 from by omega]at this;exact⟨this.1,by omega⟩
def atan(k q:Nat):Nat×Nat:=rounds k (q+2) (2^q/k) 0 0 1 0
theorem xA(k q:Nat):(atan k q).1<2^(2*q+4)/\(atan k q).2<=q+2:=by
 have hb:2^q/k<2^(q+1):=cFA (cGV _ _) (cFE (by omega) (by omega));have:=aGJ (k:=k) (Q:=q+1) (q+2) (2^q/k) 0 0 1 0 hb (cD);rw[show q+1+0+(q+2)+1=2*q+4 from by omega]at this;exact⟨this.1,by have:=this.2;unfold atan;omega⟩
def sp(k q:Int):Prop×List D:=((2<=k/\k<4294967296)/\0<=q/\q<=500000,[.own kX .u32 (dg (atan k.toNat q.toNat).1),.s (.sc (.int .i64 ((atan k.toNat q.toNat).2:Nat)))])
theorem spec:fF E f269 aF (pN .u32) (pN .i64) sp:=by
 rintro k q ⟨⟨h1,h2⟩,h3,h4⟩;refine(start k q).trans ?_;obtain⟨k,rfl⟩:=cDO (show 0<=k by omega);obtain⟨q,rfl⟩:=cDO h3;have lq:=mR (n:=2^q) (k:=q+1) (cFE (by omega) (by omega));have hb:2^q/k<2^(q+1):=cFA (cGV _ _) (cFE (by omega) (by omega));rw[gP,cCJ,cCJ,gP ⟨cA _,by omega,by omega,by omega⟩,gP ⟨by omega,by omega⟩,gP ⟨by omega,by omega⟩,bD];have:=L (k:=k) (Q:=q+1) (by omega) (by omega) (by omega) (q+2) (2^q/k) 0 0 0 hb (bZN hb (by rw[show(4:Nat)=2^2 from rfl,<-cFD];exact gO)) (by omega) (cD) (cD);exact this
def aJ:dO:=orc2 (pN .u32) (pN .i64) sp
theorem ok:OK 269 aJ:=(eI E aF (aA aCJ.ok (aA pJ.ok (aA wP.ok (aA Add.ok (aA Sub.ok aD))))) func269).jZ rfl spec
end Arctan
namespace aOV
def E:=mE [(206,pD.aJ)] 32 [12,20,27] [] []
def aF:=bd f251
theorem aU:Nk E aF:=nk
theorem start a b:aG E f251 aF [D.s (ints u64 a),D.s (sc (int u64 b))]=letI A:=M6.dg (M6.val a/b.toNat);aC (decide (b<4294967296)) (aN (M6.cO a/\a.length<=8192/\0<u64.wrap (b*b)/\u64.wrap (b*b)<18446744073709551616) (some [D.s (ints u64 (M6.dg (M6.val a/(u64.wrap (b*b)).toNat)))])) (aN (M6.cO a/\a.length<=8192/\0<b/\b<18446744073709551616) (aN (M6.cO A/\A.length<=8192/\0<b/\b<18446744073709551616) (some [D.s (ints u64 (M6.dg (M6.val A/b.toNat)))]))):=eJ aU
def sp(a:List Int)(b:Int):Prop×List D:=(M6.cO a/\a.length<=8192/\2<=b/\b<4294967296,[.s (.ints .u64 (M6.dg (M6.val a/b.toNat/b.toNat)))])
theorem spec:fF E f251 aF (pI .u64) (pN .u64) sp:=by
 rintro a b ⟨hn,hl,h0,h1⟩;obtain⟨k,rfl⟩:=cDO (show 0<=b by omega);have hk:k*k<4294967296*4294967296:=Nat.mul_lt_mul_of_lt_of_le (by omega) (by omega) (by omega);have hk0:0<k*k:=Nat.mul_pos (by omega) (by omega);have e:u64.wrap ((k:Int)*(k:Int))=((k*k:Nat):Int):=by
  rw[<-cEW];exact wrap_u64
 refine(start a k).trans ?_;rw[aO h1,e,cCJ,gP ⟨hn,hl,by omega,by omega⟩];unfold sp;rw[cCJ,cEB]
def aJ:dO:=orc2 (pI .u64) (pN .u64) sp
theorem ok:OK 251 aJ:=(eI E aF (aA pD.ok aD) func251).jZ rfl spec
end aOV
end W
end Go.Proofs.YtcnlagnipklcmaaGreatDoor
end
