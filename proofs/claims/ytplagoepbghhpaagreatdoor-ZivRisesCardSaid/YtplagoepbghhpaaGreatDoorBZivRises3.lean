/- Contracts. -/
import Derived.KernelRfl
import Derived.Test.YtplagoepbghhpaaGreatDoorBZivRises2
set_option linter.unusedVariables false
set_option linter.unusedSimpArgs false
set_option exponentiation.threshold 10000000
noncomputable section
open Go.IntKind(i8 i16 i32 i64 u8 u16 u32 u64)
open Go.Proofs.Tryz
open Int renaming toNat_natCast->cCQ,eq_ofNat_of_zero_le->cDX,natCast_mul->cEP,natCast_ediv->cEO,natCast_nonneg->cIH,tdiv_eq_ediv_of_nonneg->cHH,le_refl->cJL,natCast_add->cJP,mul_neg->cHL,sub_self->cJQ,one_mul->cJS,tmod_eq_emod_of_nonneg->cHI,natAbs_natCast->cEJ,mul_nonneg->cKE,mul_one->cKF,mul_assoc->cFA,natAbs_neg->cFE,natCast_emod->cGD,neg_mul->cID,min_le_left->cKJ,min_le_right->cKK,mul_neg_of_neg_of_pos->cIM,zero_mul->cEH,mul_ediv_mul_of_pos_left->cKW,mul_ediv_add_emod->cHO,toNat_of_nonneg->cLB,emod_add_mul_ediv->cLE,emod_nonneg->cHP,mul_le_mul_of_nonneg_right->cBD,natAbs_mul->cEG
open Nat renaming pow_add->cDU,mul_add->cDT,mul_assoc->cDV,pow_succ->cDS,le_trans->bZP,mul_comm->cDR,mod_lt->cBB,mul_le_mul_right->cAI,mul_le_mul_left->cBH,add_mul->bZN,zero_add->bYV,div_lt_of_lt_mul->cEL,div_add_mod->cDZ,div_eq_of_lt->cEM,pow_pos->cBT,div_le_self->cJD,div_div_eq_div_mul->cEN,mod_eq_of_lt->cJE,mul_one->bZD,lt_of_lt_of_le->bZQ,add_zero->bZR,beq->bYU,eq_of_beq_eq_true->bZI,zero_le->cEU,one_mul->cCX,pow_le_pow_right->cBU,le_of_not_lt->cBN,add_mul_div_left->cFY,pow_zero->cIP,le_refl->bYT,mod_add_div->cJG,mul_le_mul->cJC,mul_lt_mul''->cGX,div_le_div_left->cJI,ble->bYW,mul_left_comm->cGI,le_of_ble_eq_true->cAR,div_eq_of_lt_le->cJJ,mul_right_comm->cJK,lt_of_le_of_lt->cFC,zero_div->cII,testBit_mod_two_pow->cJN,mul_div_le->cJO,add_assoc->cCK,lt_or_ge->bZJ,or_comm->cHF,testBit_and->cJT,testBit_div_two_pow->cJU,eq_of_testBit_eq->cJV,div_mul_le_self->cJW,lt_div_mul_add->cJX,lt_mul_div_succ->cJY,div_lt_iff_lt_mul->cJZ,zero_mod->cGH,pow_lt_pow_right->cGC,testBit_two_pow->cKG,mul_add_div->cIG,add_comm->cES,eq_of_mul_eq_mul_right->cKI,testBit_two_pow_sub_one->cKN,testBit_two_pow_sub_succ->cKO,le_div_iff_mul_le->cKQ,eq_zero_or_pos->cKS,two_pow_add_eq_or_of_lt->cHG,testBit_lt_two_pow->cKX,add_mul_mod_self_left->cKY,mul_add_mod->cKZ,mul_div_mul_right->cHJ,mul_mod_mul_right->cHK,mul_div_cancel->cIR,exists_eq_add_of_le->bZY,mul_lt_mul_of_pos_right->cLC,pow_lt_pow_iff_right->cLD
open Rat renaming le_of_lt->cEA,natCast_mul->cFL,le_trans->cDY,mul_assoc->cKA,le_refl->cFB,intCast_mul->cKB,intCast_natCast->cKC,div_mul_cancel->cKP
open List renaming replicate->cAW,take_length->cFF,drop_zero->cFG,drop->cHX,take_set_of_le->cJM,take->cHY,drop_set_of_lt->cJR,drop_of_length_le->cKH,append_nil->cER,getD_eq_getElem?_getD->cDW,nil_append->cCW,append_assoc->cAO,singleton_append->cFH
open Bool renaming not_true->cAT,true_and->cBV,false_and->cEC,true_or->cED,false_or->cAU,not_false->cKD,and_false->cEF,and_eq_false_iff->cKM
namespace Go.Proofs.YtplagoepbghhpaaGreatDoor
namespace R
def gU{α:Type}(n:Nat)(k:Nat->α):α:=Nat.rec (motive:=fun _=>α) (k 0) (fun m _=>k (m+1)) n
theorem fH{α:Type}(n:Nat)(k:Nat->α):gU n k=k n:=by cases n <;> rfl
def inner(q:Nat)(f:Nat):Nat->Nat->Nat->Nat×Nat:=Nat.rec (motive:=fun _=>Nat->Nat->Nat->Nat×Nat) (fun t s _=>(t,s))
 (fun _ ih t s i=>gU (t/q) fun u=>gU (u/q) fun v=>gU (s+t/i-u/(i+2)) fun s'=>gU (i+4) fun i'=>ih v s' i') f
def outer(q:Nat)(g:Nat)(f:Nat):Nat->Nat->Nat->Nat×Nat:=Nat.rec (motive:=fun _=>Nat->Nat->Nat->Nat×Nat) (fun t s _=>(t,s))
 (fun _ ih t s i=>Prod.rec (motive:=fun _=>Nat×Nat) (fun t' s'=>ih t' s' (i+4*g)) (inner q g t s i)) f
theorem aPS(n w:Nat){j:Nat}(hn:0<n):iO n w (j+1)<=iO n w j:=by
 unfold iO;refine bZP (cJI (show 2*j+1<=2*(j+1)+1 by omega) (by omega)) (Nat.div_le_div_right ?_);exact cJI (cBU hn (by omega)) (cBT hn)
def At(n w:Nat)(j:Nat)(t s:Nat):Prop:=t=2^w/n^(2*j+1)/\(s:Rat)=sum (fun j=>sg j*(iO n w j:Rat)) j/\j%2=0
theorem aUQ{n w j t s:Nat}(hn:0<n)(h:At n w j t s):At n w (j+2) (t/(n*n)/(n*n)) (s+t/(2*j+1)-t/(n*n)/(2*j+1+2)):=by
 obtain⟨h1,h2,h3⟩:=h;have e1:t/(n*n)=2^w/n^(2*(j+1)+1):=by
  rw[h1,cEN,show 2*(j+1)+1=2*j+1+2 by omega,cDU _ (2*j+1) 2,Nat.pow_two]
 have e2:t/(n*n)/(n*n)=2^w/n^(2*(j+2)+1):=by
  rw[e1,cEN,show 2*(j+2)+1=2*(j+1)+1+2 by omega,cDU _ (2*(j+1)+1) 2,Nat.pow_two]
 refine⟨e2,?_,by omega⟩;have a1:t/(2*j+1)=iO n w j:=by rw[h1];rfl
 have a2:t/(n*n)/(2*j+1+2)=iO n w (j+1):=by rw[e1];rfl
 rw[a1,a2,dS,dS,<-h2];have hle:=aPS n w (j:=j) hn;have:((s+iO n w j-iO n w (j+1):Nat):Rat)+(iO n w (j+1):Rat)=(s:Rat)+(iO n w j:Rat):=by
  exact_mod_cast(show s+iO n w j-iO n w (j+1)+iO n w (j+1)=s+iO n w j by omega)
 have g1:sg j=1:=by unfold sg;rw[if_pos h3]
 have g2:sg (j+1)=-1:=by unfold sg;rw[aP]
 rw[g1,g2];grind
theorem aBJ(q f t s i:Nat):inner q (f+1) t s i=gU (t/q) fun u=>gU (u/q) fun v=>gU (s+t/i-u/(i+2)) fun s'=>gU (i+4) fun i'=>inner q f v s' i':=rfl
theorem aBA(q g f t s i:Nat):outer q g (f+1) t s i=outer q g f (inner q g t s i).1 (inner q g t s i).2 (i+4*g):=rfl
theorem aMR{n w:Nat}(hn:0<n):∀(f j t s:Nat),At n w j t s->At n w (j+2*f) (inner (n*n) f t s (2*j+1)).1 (inner (n*n) f t s (2*j+1)).2:=by
 intro f
 induction f with
 |zero=>intro j t s h;exact h
 |succ f ih =>
  intro j t s h;have e:inner (n*n) (f+1) t s (2*j+1)=inner (n*n) f (t/(n*n)/(n*n)) (s+t/(2*j+1)-t/(n*n)/(2*j+1+2)) (2*(j+2)+1):=by
   rw[aBJ,fH,fH,fH,fH];rfl
  rw[e,show j+2*(f+1)=(j+2)+2*f by omega];exact ih _ _ _ (aUQ hn h)
theorem aLZ{n w:Nat}(hn:0<n)(g:Nat):∀(f j t s:Nat),At n w j t s->At n w (j+2*(g*f)) (outer (n*n) g f t s (2*j+1)).1 (outer (n*n) g f t s (2*j+1)).2:=by
 intro f
 induction f with
 |zero=>intro j t s h;exact h
 |succ f ih =>
  intro j t s h;have e:outer (n*n) g (f+1) t s (2*j+1)=outer (n*n) g f (inner (n*n) g t s (2*j+1)).1 (inner (n*n) g t s (2*j+1)).2 (2*(j+2*g)+1):=by
   rw[aBA,show 2*j+1+4*g=2*(j+2*g)+1 by omega]
  rw[e,show j+2*(g*(f+1))=(j+2*g)+2*(g*f) by rw[Nat.mul_succ];omega];exact ih _ _ _ (aMR hn g j t s h)
def aAE(n w g f:Nat):Nat×Nat:=outer (n*n) g f (2^w/n) 0 1
theorem Iq{n:Nat}(hn:2<=n)(w g f:Nat)(hJ:2*(g*f)<=1048576)(hz:(aAE n w g f).1=0):ab (((aAE n w g f).2:Rat)-((2^w:Nat):Rat)*Zf n)<=((2*(g*f):Nat):Rat)+2:=by
 have h:=aLZ (n:=n) (w:=w) (by omega) g f 0 (2^w/n) 0 ⟨by rw[Nat.mul_zero,Nat.pow_one],by simp only[sum];norm_cast,rfl⟩;obtain⟨h1,h2,_⟩:=h;rw[bYV]at h1 h2;have h3:(aAE n w g f).2=(outer (n*n) g f (2^w/n) 0 (2*0+1)).2:=rfl;have h4:(aAE n w g f).1=(outer (n*n) g f (2^w/n) 0 (2*0+1)).1:=rfl;rw[h3,h2];rw[h4,h1]at hz;rw[bYV]at hz ⊢;refine aGM hn w hJ ?_;unfold iO;rw[hz,cII]
def Tg(u w:Nat)(f:Nat):Nat->Nat->Nat->Nat->Nat×Nat×Nat:=Nat.rec (motive:=fun _=>Nat->Nat->Nat->Nat->Nat×Nat×Nat) (fun t c s _=>(t,c,s))
 (fun _ ih t c s k=>gU (t*u/w/(k+1)) fun t1=>gU (t1*u/w/(k+2)) fun t2=>gU (t2*u/w/(k+3)) fun t3=>gU (t3*u/w/(k+4)) fun t4=>gU (c+t-t2) fun c'=>gU (s+t1-t3) fun s'=>gU (k+4) fun k'=>ih t4 c' s' k') f
def Ie(w:Nat)(h:Nat):Nat->Nat->Nat×Nat:=Nat.rec (motive:=fun _=>Nat->Nat->Nat×Nat) (fun s c=>(s,c))
 (fun _ ih s c=>gU (2*(s*c/w)) fun s'=>gU (w-2*(s*s/w)) fun c'=>ih s' c') h
def aRS(x:Nat):Bool :=
 gU (x &&& (x >>> 1)) fun x=>gU (x &&& (x >>> 2)) fun x=>gU (x &&& (x >>> 4)) fun x=>gU (x &&& (x >>> 8)) fun x=>bYU (x &&& (x >>> 8)) 0
def aXF(P w:Nat):Bool :=
 gU (P/2^102) fun u=>gU (2^w) fun W =>
 Prod.rec (motive:=fun _=>Bool) (fun t r=>Prod.rec (motive:=fun _=>Bool) (fun c s=>bYU t 0 &&
  Prod.rec (motive:=fun _=>Bool) (fun s' c'=>bYW (2*s'*s') (W*W+2^(w+240))&&(bYW (W*W) (2*s'*s'+2^(w+240))&&bYW 1 c')) (Ie W 100 s c)) r) (Tg u W 320 W 0 0 0)
def bAE(w:Nat):Bool :=
 Prod.rec (motive:=fun _=>Bool) (fun t5 s5=>Prod.rec (motive:=fun _=>Bool) (fun t239 mN=>Prod.rec (motive:=fun _=>Bool) (fun t18 aQS=>Prod.rec (motive:=fun _=>Bool) (fun t57 aQR =>
  bYU t5 0&&(bYU t239 0&&(bYU t18 0&&(bYU t57 0 &&
  gU (16*s5-4*mN) fun P=>gU (48*aQS+32*aQR-20*mN) fun G =>
  bYW P (G+2^24)&&(bYW G (P+2^24)&&gU (P/2^64) fun Q =>
  bYU ((P+2^40)/2^64) Q&&(bYU ((P-2^40)/2^64) Q&&(bYU (Q/2^(w-104)) 3454217652357&&(aRS Q&&(aRS (2^(w-62)-1-Q)&&aXF P w)))))))))
  (aAE 57 w 78 78)) (aAE 18 w 92 92)) (aAE 239 w 66 66)) (aAE 5 w 122 122)
def Na(x n:Nat):Prop:=∀p,∃i,i<n/\x.testBit (p+i)=false
theorem xJ{x a n:Nat}(h:Na (x &&& (x >>> a)) n):Na x (n+a):=by
 intro p;obtain⟨i,hi,hb⟩:=h p;rw[cJT,Nat.testBit_shiftRight,cKM]at hb;rcases hb with hb |hb
 ·exact⟨i,by omega,hb⟩
 ·exact⟨i+a,by omega,by rwa [show p+(i+a)=a+(p+i) by omega]⟩
theorem aEF{x:Nat}(h:aRS x=true):Na x 24:=by
 unfold aRS at h;rw[fH,fH,fH,fH]at h;have h0:=bZI h;have n0:Na ((((x &&& x >>> 1) &&& (x &&& x >>> 1) >>> 2) &&& ((x &&& x >>> 1) &&& (x &&& x >>> 1) >>> 2) >>> 4) &&& (((x &&& x >>> 1) &&& (x &&& x >>> 1) >>> 2) &&& ((x &&& x >>> 1) &&& (x &&& x >>> 1) >>> 2) >>> 4) >>> 8 &&& ((((x &&& x >>> 1) &&& (x &&& x >>> 1) >>> 2) &&& ((x &&& x >>> 1) &&& (x &&& x >>> 1) >>> 2) >>> 4) &&& (((x &&& x >>> 1) &&& (x &&& x >>> 1) >>> 2) &&& ((x &&& x >>> 1) &&& (x &&& x >>> 1) >>> 2) >>> 4) >>> 8) >>> 8) 1:=by
  rw[h0];exact fun p=>⟨0,by omega,by simp⟩
 exact xJ (a:=1) (n:=23) (xJ (a:=2) (n:=21) (xJ (a:=4) (n:=17) (xJ (a:=8) (n:=9) (xJ (a:=8) (n:=1) n0))))
theorem Ro{x n:Nat}(h:Na x n)(p:Nat):x/2^p%2^n≠2^n-1:=by
 intro hc;obtain⟨i,hi,hb⟩:=h p;have h1:(x/2^p%2^n).testBit i=true:=by
  rw[hc,cKN];exact decide_eq_true hi
 rw[cJN,cJU]at h1;rw[show p+i=i+p by omega]at hb;rw[hb]at h1;simp at h1
theorem aIO{x L n p:Nat}(hx:x<2^L)(hp:p+n<=L)(h:(2^L-1-x)/2^p%2^n≠2^n-1):x/2^p%2^n≠0:=by
 intro hc;apply h;apply cJV;intro i;rw[cKN,cJN,cJU,show 2^L-1-x=2^L-(x+1) by omega,cKO hx];have h1:(x/2^p%2^n).testBit i=false:=by rw[hc];simp
 rw[cJN,cJU]at h1
 by_cases hi:i<n
 ·simp[hi]at h1 ⊢;exact⟨by omega,h1⟩
 ·simp[hi]
theorem aET(h:Nat):((4^(h+1):Nat):Rat)=4*((4^h:Nat):Rat):=by
 rw[cDS,cFL];grind
theorem Ky(h:Nat):((2^(h+1):Nat):Rat)=2*((2^h:Nat):Rat):=by
 rw[cDS,cFL];grind
theorem Mt(b h:Nat)(hb:0<b):(1:Rat)<=((b^h:Nat):Rat):=by exact_mod_cast cBT hb
theorem Se(w h s c:Nat):Ie w (h+1) s c=Ie w h (2*(s*c/w)) (w-2*(s*s/w)):=by
 show gU _ (fun s'=>gU _ fun c'=>Ie w h s' c')=_;rw[fH,fH]
theorem aOX{W s c:Nat}{x e:Rat}(hW:1<=W)(h0:0<=x)(h1:x<=1/2)(hs:ab ((s:Rat)-W*sn x)<=e)(hc:ab ((c:Rat)-W*cs x)<=e)(he:100*(e*e)<=(W:Rat))(bED:(8*e+4*(W:Rat))*wI<=1/4) :
  ab (((2*(s*c/W):Nat):Rat)-W*sn (2*x))<=4*e+4/\ab (((W-2*(s*s/W):Nat):Rat)-W*cs (2*x))<=4*e+4/\2*(s*s/W)<=W:=by
 have bWO:(1:Rat)<=(W:Rat):=by exact_mod_cast hW
 have aTI:0<=e:=cDY (aM _) hs;have aVX:ab x<=1:=by rw[bP h0];grind
 have aHP:2*(s*s/W)<=W:=by
  have h2:=aDX h0 (by grind);have h3:=Me h0 (by grind);rw[aY]at hs;have e1:e<=(W:Rat)/10:=by
   have:=Mb (a:=10*e) (b:=(W:Rat)) (by have:=aE (show 0<=(W:Rat)-1 by grind) (show 0<=(W:Rat) by grind);grind) (by grind);rw[bP (by grind)]at this;grind
  have e2:=aE (show 0<=(W:Rat) by grind) (show 0<=1/2-sn x by grind);have e3:(s:Rat)<=3/5*(W:Rat):=by grind
  have e4:(0:Rat)<=(s:Rat):=by exact_mod_cast cEU _
  have e5:=bG e4 e3 e4 e3;have d:=(yO (s*s) (b:=W) (by omega)).1;rw[cFL]at d;have e6:(W:Rat)*(2*((s*s/W:Nat):Rat))<=(W:Rat)*(W:Rat):=by
   have:=aE (show 0<=(W:Rat) by grind) (show 0<=(W:Rat) by grind);grind
  have e7:=cG (show 0<(W:Rat) by grind) e6;exact_mod_cast e7
 have Yl:ab ((W:Rat)*((2*(s*c/W):Nat):Rat)-2*((s:Rat)*(c:Rat)))<=2*(W:Rat):=by
  obtain⟨d1,d2⟩:=yO (s*c) (b:=W) (by omega);rw[cFL]at d1 d2;rw[cFL,aY];have:((2:Nat):Rat)=2:=by norm_cast
  rw[this];constructor <;> grind
 have aNY:ab ((W:Rat)*((W-2*(s*s/W):Nat):Rat)-((W:Rat)*(W:Rat)-2*((s:Rat)*(s:Rat))))<=2*(W:Rat):=by
  obtain⟨d1,d2⟩:=yO (s*s) (b:=W) (by omega);have aWF:((W-2*(s*s/W):Nat):Rat)+2*((s*s/W:Nat):Rat)=(W:Rat):=by
   exact_mod_cast(show W-2*(s*s/W)+2*(s*s/W)=W by omega)
  rw[cFL]at d1 d2;generalize ((W-2*(s*s/W):Nat):Rat)=z at *;generalize ((s*s/W:Nat):Rat)=y at *;have:z=(W:Rat)-2*y:=by grind
  subst this;rw[aY];constructor <;> grind
 obtain⟨r1,r2⟩:=qW bWO aVX hs hc (by have:=aE aTI aTI;grind) bED Yl aNY;exact⟨r1,r2,aHP⟩
theorem aGA{W:Nat}(hW:1<=W){E:Rat}(hE:100*(E*E)<=(W:Rat))(bED:(8*E+4*(W:Rat))*wI<=1/4):∀(h:Nat) (x e:Rat) (s c:Nat),0<=x->((2^h:Nat):Rat)*x<=1->ab ((s:Rat)-W*sn x)<=e->ab ((c:Rat)-W*cs x)<=e->((4^h:Nat):Rat)*(e+2)<=E ->
  ab (((Ie W h s c).1:Rat)-W*sn (((2^h:Nat):Rat)*x))<=((4^h:Nat):Rat)*(e+2)-2/\ab (((Ie W h s c).2:Rat)-W*cs (((2^h:Nat):Rat)*x))<=((4^h:Nat):Rat)*(e+2)-2:=by
 intro h
 induction h with
 |zero =>
  intro x e s c h0 h1 hs hc bQU;rw[cIP,show((1:Nat):Rat)*x=x by grind];have:((1:Nat):Rat)=1:=by norm_cast
  rw[this];exact⟨by show ab ((s:Rat)-_)<=_;grind,by show ab ((c:Rat)-_)<=_;grind⟩
 |succ h ih =>
  intro x e s c h0 h1 hs hc bQU;rw[Ky]at h1;rw[aET]at bQU;have aTI:0<=e:=cDY (aM _) hs;have g2:=Mt 2 h (by omega);have g4:=Mt 4 h (by omega);have aJP:x<=1/2:=by
   have:=aE (show 0<=((2^h:Nat):Rat)-1 by grind) h0;grind
  have aTG:e<=E:=by
   have:=aE (show 0<=((4^h:Nat):Rat)-1 by grind) (show 0<=e+2 by grind);grind
  have bPN:=bG aTI aTG aTI aTG;have aTF:=pA;have hsm2:=aE (show 0<=E-e by grind) (cEA aTF);obtain⟨r1,r2,_⟩:=aOX hW h0 aJP hs hc (by grind) (by grind);have:=ih (2*x) (4*e+4) _ _ (by grind) (by grind) r1 r2 (by grind);rw[Se,Ky,aET,show 2*((2^h:Nat):Rat)*x=((2^h:Nat):Rat)*(2*x) by grind];refine⟨cDY this.1 ?_,cDY this.2 ?_⟩ <;> grind
theorem Ma{u W:Nat}(h:u<=W)(k:Nat):sq u W (k+1)<=sq u W k:=by
 rw[sq];refine bZP (cJD _ _) ?_
 by_cases hW:W=0
 ·rw[hW,Nat.div_zero];omega
 ·exact Nat.div_le_of_le_mul (by rw[cDR];exact cAI _ h)
theorem aGV(u w f t c s k:Nat):Tg u w (f+1) t c s k=gU (t*u/w/(k+1)) fun t1=>gU (t1*u/w/(k+2)) fun t2=>gU (t2*u/w/(k+3)) fun t3=>gU (t3*u/w/(k+4)) fun t4=>gU (c+t-t2) fun c'=>gU (s+t1-t3) fun s'=>gU (k+4) fun k'=>Tg u w f t4 c' s' k':=rfl
theorem aRK{u W:Nat}(hu:u<=W):∀(f k t c s:Nat),k%4=0->t=sq u W k->(c:Rat)=sum (fun k=>cc k*(sq u W k:Rat)) k->(s:Rat)=sum (fun k=>ss k*(sq u W k:Rat)) k ->
  (Tg u W f t c s k).1=sq u W (k+4*f)/\(((Tg u W f t c s k).2.1:Nat):Rat)=sum (fun k=>cc k*(sq u W k:Rat)) (k+4*f)/\(((Tg u W f t c s k).2.2:Nat):Rat)=sum (fun k=>ss k*(sq u W k:Rat)) (k+4*f):=by
 intro f
 induction f with
 |zero=>intro k t c s _ h1 h2 h3;exact⟨h1,h2,h3⟩
 |succ f ih =>
  intro k t c s hk h1 h2 h3;have e:Tg u W (f+1) t c s k=Tg u W f (sq u W (k+4)) (c+sq u W k-sq u W (k+2)) (s+sq u W (k+1)-sq u W (k+3)) (k+4):=by
   rw[aGV,fH,fH,fH,fH,fH,fH,fH,h1];rfl
  have l1:sq u W (k+1)<=sq u W k:=Ma hu k;have l2:sq u W (k+2)<=sq u W (k+1):=Ma hu (k+1);have l3:sq u W (k+3)<=sq u W (k+2):=Ma hu (k+2);rw[e,show k+4*(f+1)=k+4+4*f by omega];have c0:cc k=1/\cc (k+1)=0/\cc (k+2)=-1/\cc (k+3)=0:=by
   unfold cc;refine⟨?_,?_,?_,?_⟩
   ·rw[if_pos hk]
   ·rw[aP,aP]
   ·rw[aP,aW]
   ·rw[aP,aP]
  have s0:ss k=0/\ss (k+1)=1/\ss (k+2)=0/\ss (k+3)=-1:=by
   unfold ss;refine⟨?_,?_,?_,?_⟩
   ·rw[aP,aP]
   ·rw[aW]
   ·rw[aP,aP]
   ·rw[aP,aW]
  refine ih (k+4) _ _ _ (by omega) rfl ?_ ?_
  ·rw[dS,dS,dS,dS,<-h2,c0.1,c0.2.1,c0.2.2.1,c0.2.2.2];have:((c+sq u W k-sq u W (k+2):Nat):Rat)+(sq u W (k+2):Rat)=(c:Rat)+(sq u W k:Rat):=by exact_mod_cast(show c+sq u W k-sq u W (k+2)+sq u W (k+2)=c+sq u W k by omega)
   grind
  ·rw[dS,dS,dS,dS,<-h3,s0.1,s0.2.1,s0.2.2.1,s0.2.2.2];have:((s+sq u W (k+1)-sq u W (k+3):Nat):Rat)+(sq u W (k+3):Rat)=(s:Rat)+(sq u W (k+1):Rat):=by exact_mod_cast(show s+sq u W (k+1)-sq u W (k+3)+sq u W (k+3)=s+sq u W (k+1) by omega)
   grind
set_option maxRecDepth 10000
def pi:Rat:=16*Zf 5-4*Zf 239
def bJG:Rat:=48*Zf 18+32*Zf 57-20*Zf 239
theorem fR{a b:Bool}(h:(a&&b)=true):a=true/\b=true:=by simpa using h
structure Wb(w:Nat)(Q:Nat):Prop where
 lo:(Q:Rat)<=((2^(w-64):Nat):Rat)*pi
 hi:((2^(w-64):Nat):Rat)*pi<(Q:Rat)+1
 gauss:ab (((2^w:Nat):Rat)*(pi-bJG))<=33554432
 top:Q/2^(w-104)=3454217652357
 bJK:Na Q 24
 aSO:Na (2^(w-62)-1-Q) 24
 cos:ab (((2^w:Nat):Rat)*cs (pi/2))<=((2^250:Nat):Rat)
theorem uE(w:Nat)(hw:64<=w):2^w=2^64*2^(w-64):=by rw[<-cDU];congr 1;omega
theorem aEX{u W:Nat}(hW:0<W):∃x:Rat,x*(W:Rat)=(u:Rat)/\0<=x:=by
 have h:(0:Rat)<(W:Rat):=by exact_mod_cast hW
 have h1:(W:Rat)≠0:=by grind
 refine⟨(u:Rat)/(W:Rat),cKP h1,?_⟩;have hu:(0:Rat)<=(u:Rat):=by exact_mod_cast cEU _
 refine Rat.not_lt.1 fun hn=>?_
 have:=Rat.mul_pos h (show 0 < -((u:Rat)/(W:Rat)) by grind);have e:(u:Rat)/(W:Rat)*(W:Rat)=u:=cKP h1;grind
theorem aFZ{w:Nat}(hw:w<=1000000):((2^w:Nat):Rat)*wI<=1/1048576:=by
 have h1:=Cv (n:=w+20) (by omega);have h2:=Uo w;have h3:=Nu w 20;have h4:hf 20=1/1048576:=by simp only[hf];grind
 have h5:(0:Rat)<=((2^w:Nat):Rat):=by exact_mod_cast cEU _
 have h6:=aE h5 (show 0<=hf (w+20)-wI by grind);rw[h3,h4]at h6;generalize ((2^w:Nat):Rat)=W at *;generalize hf w=H at *;clear h1 h3 h4;grind
theorem Wz{W E:Rat}(h:E<=W)(aTF:W*wI<=1/1048576):(8*E+4*W)*wI<=1/4:=by
 have:=aE (show 0<=W-E by grind) (cEA pA);grind
theorem aUD{W u P p x y:Rat}(hx:x*W=u)(hy:y=1267650600228229401496703205376*x)(v1:u*5070602400912917605986812821504<=P)(v2:P<u*5070602400912917605986812821504+5070602400912917605986812821504)(hp:ab (P-W*p)<=524288):ab (W*(p/2-2*y))<=10141204801825835211973625643008:=by
 rw[aY]at hp ⊢;subst hy;have:W*(p/2-2*(1267650600228229401496703205376*x))=W*p/2-2535301200456458802993406410752*u:=by rw[<-hx];grind
 rw[this];grind
theorem aZY{w P:Nat}(hw:1000<=w)(bBN:w<=1000000)(hP:P<3454217652358*2^(w-40)){p:Rat}(hp:ab ((P:Rat)-((2^w:Nat):Rat)*p)<=524288)(h:aXF P w=true):ab (((2^w:Nat):Rat)*cs (p/2))<=((2^250:Nat):Rat):=by
 unfold aXF at h;rw[fH,fH]at h;have aQU:0<2^w:=cZ;have aMY:P/2^102*2^102<=P:=cJW P (2^102);have bHR:P<P/2^102*2^102+2^102:=cJX (cZ);have bYA:2^w=2^40*2^(w-40):=by rw[<-cDU];congr 1;omega
 have bPG:P/2^102*2^100<=2^w:=by
  rw[show 2^102=4*2^100 from rfl,show 2^40=1099511627776 from rfl]at *;generalize 2^100=b at *;generalize 2^(w-40)=q at *;generalize P/(4*b)=u at *;have:u*(4*b)=4*(u*b):=by rw[cGI]
  omega
 obtain⟨x,hx,Wo⟩:=aEX (u:=P/2^102) aQU;have ht:=aRK (u:=P/2^102) (W:=2^w) (by omega) 320 0 (2^w) 0 0 rfl rfl (by simp only[sum];norm_cast) (by simp only[sum];norm_cast);generalize Tg (P/2^102) (2^w) 320 (2^w) 0 0 0=T at *;obtain⟨t,c,s⟩:=T;dsimp only at h ht;rw[bYV,show 4*320=1280 from rfl]at ht;obtain⟨ht0,bPJ,bHS⟩:=ht;obtain⟨z0,h⟩:=fR h;have z0:=bZI z0;rw[z0]at ht0;have hW:(0:Rat)<((2^w:Nat):Rat):=by exact_mod_cast aQU
 have bHP:((2^100:Nat):Rat)*x<=1:=by
  refine cG hW ?_;have h1:((P/2^102:Nat):Rat)*((2^100:Nat):Rat)<=((2^w:Nat):Rat):=by exact_mod_cast bPG
  grind
 have aJP:x<=1/2:=by
  have n1:((2^100:Nat):Rat)=1267650600228229401496703205376:=by norm_cast
  rw[n1]at bHP;grind
 have ec:=aLC aQU hx Wo aJP (n:=1280) (by omega) (by omega) ht0.symm;have es:=aLB aQU hx Wo aJP (n:=1280) (by omega) (by omega) ht0.symm;rw[<-bPJ]at ec;rw[<-bHS]at es;have aVQ:((1280:Nat):Rat)=1280:=by norm_cast
 rw[aVQ]at ec es;have aTF:=aFZ bBN;have n4:((4^100:Nat):Rat)=1606938044258990275541962092341162602522202993782792835301376:=by norm_cast
 have aZG:(100000000000000000000000000000000000000000000000000000000000000000000000000000000000000000000000000000000000000000000000000000000000000000000000000000000000000000000000000000000000000000000000000000000:Rat)<=((2^w:Nat):Rat):=by
  have e:2^w=2^200*(2^200*(2^200*(2^200*2^(w-800)))):=by simp only[<-cDU];congr 1;omega
  have h1:100000000000000000000000000000000000000000000000000000000000000000000000000000000000000000000000000000000000000000000000000000000000000000000000000000000000000000000000000000000000000000000000000000000<=2^200*(2^200*(2^200*(2^200*1))):=cAR rfl;have h2:100000000000000000000000000000000000000000000000000000000000000000000000000000000000000000000000000000000000000000000000000000000000000000000000000000000000000000000000000000000000000000000000000000000<=2^w:=by
   rw[e];exact bZP h1 (cBH _ (cBH _ (cBH _ (cBH _ (cZ)))))
  exact_mod_cast h2
 have hepp:=pA;have hept:=Ga;have hd:=aGA (W:=2^w) aQU (E:=4499426523925172771517493858555255287062168382591819938843852800) (cDY (by grind) aZG) (Wz (cDY (by grind) aZG) aTF) 100 x 2564 s c Wo bHP (by grind) (by grind) (by rw[n4];grind);generalize Ie (2^w) 100 s c=R at *;obtain⟨s',c'⟩:=R;dsimp only at h hd;obtain⟨k1,h⟩:=fR h;obtain⟨k2,k3⟩:=fR h;have k1:=cAR k1;have k2:=cAR k2;have sV:=hd.1;rw[n4]at sV;have bDK:((2^100:Nat):Rat)=1267650600228229401496703205376:=by norm_cast
 rw[bDK]at sV bHP;obtain⟨y,hy⟩:∃y:Rat,y=1267650600228229401496703205376*x:=⟨_,rfl⟩;rw[<-hy]at sV bHP;have aVV:0<=y:=by grind
 have bQE:=Sg (x:=y) (by rw[bP aVV];grind);have bOU:2*(s':Rat)*(s':Rat)<=((2^w:Nat):Rat)*((2^w:Nat):Rat)+((2^w:Nat):Rat)*((2^240:Nat):Rat):=by
  rw[cDU]at k1;exact_mod_cast k1
 have bOT:((2^w:Nat):Rat)*((2^w:Nat):Rat)<=2*(s':Rat)*(s':Rat)+((2^w:Nat):Rat)*((2^240:Nat):Rat):=by
  rw[cDU]at k2;exact_mod_cast k2
 have bDJ:((2^240:Nat):Rat)=1766847064778384329583297500742918515827483896875618958121606201292619776:=by norm_cast
 have bDI:((2^250:Nat):Rat)=1809251394333065553493296640760748560207343510400633813116524750123642650624:=by norm_cast
 rw[bDJ]at bOU bOT;rw[bDI];have aFO:ab (((2^w:Nat):Rat)*(p/2-2*y))<=10141204801825835211973625643008:=by
  have v1:((P/2^102:Nat):Rat)*((2^102:Nat):Rat)<=(P:Rat):=by exact_mod_cast aMY
  have v2:(P:Rat)<((P/2^102:Nat):Rat)*((2^102:Nat):Rat)+((2^102:Nat):Rat):=by exact_mod_cast bHR
  have bJR:((2^102:Nat):Rat)=5070602400912917605986812821504:=by norm_cast
  rw[bJR]at v1 v2;exact aUD hx hy v1 v2 hp
 generalize ((2^w:Nat):Rat)=W at *;have Uk:(0:Rat)<=(s':Rat):=by exact_mod_cast cEU _
 generalize (s':Rat)=S at *;clear hd k1 k2 k3 ec es bPJ bHS aVQ Wo aJP aMY bHR bPG bYA hx n4 bDK bDJ bDI;have bWU:S<=W:=by
  refine Rat.not_lt.1 fun hn=>?_
  have:=bG (cEA hW) (cEA hn) (cEA hW) (cEA hn);have:=aE (cEA hW) (show 0<=W-1000000000000000000000000000000000000000000000000000000000000000000000000000000000000000000 by grind);grind
 have aWG:ab (W*cs (2*y))<=56539106072908298546665520023773392506479484700019806659891398441363832832:=by
  obtain⟨a,ha⟩:∃a,a=S-W*sn y:=⟨_,rfl⟩;rw[<-ha]at sV;have eS:W*sn y=S-a:=by grind
  have q1:=bG (aM S) (show ab S<=W by rwa [bP Uk]) (aM a) sV;have q2:=bG (aM a) sV (aM a) sV;rw[<-fX]at q1 q2;have e2:W*(W*(1-2*(sn y*sn y)))=W*W-2*((S-a)*(S-a)):=by rw[<-eS];grind
  have w1:=aE (cEA hW) (cEA hW);rw[aY]at bQE q1 q2 ⊢;have w2:=aE w1 (show 0<=2*wI-(cs (2*y)-(1-2*(sn y*sn y))) by grind);have w3:=aE w1 (show 0<=2*wI+(cs (2*y)-(1-2*(sn y*sn y))) by grind);have w4:=aE (cEA hW) (show 0<=1/1048576-W*wI by grind);generalize cs (2*y)=C2 at *;generalize sn y=Sy at *;constructor
  ·refine cG hW ?_;grind
  ·refine cG hW ?_;grind
 have aWE:ab (p/2-2*y)<=1:=by
  have e3:ab (W*(p/2-2*y))=W*ab (p/2-2*y):=by rw[fX,bP (cEA hW)]
  rw[e3]at aFO;refine cG hW ?_;grind
 have aYD:ab (2*y)<=4:=by rw[bP (by grind)];grind
 have aTK:=Ig aYD (show ab (p/2-2*y)<=4 by grind);rw[show 2*y+(p/2-2*y)=p/2 by grind]at aTK;have b1:=aAO aWE;have b2:=Oj (show ab (p/2-2*y)<=4 by grind);have b3:=Mg aYD;have m1:=bG (aM _) aWG (aM _) b2;have m2:=bG (aM _) b3 (aM _) b1;have m3:W*ab (p/2-2*y)<=10141204801825835211973625643008:=by
  rw[fX,bP (cEA hW)]at aFO;exact aFO
 rw[<-fX]at m1 m2;have m4:=aE (cEA hW) (show 0<=(1+wI)*ab (p/2-2*y)-ab (sn (2*y)*sn (p/2-2*y)) by grind);have m5:=aE (show 0<=1+wI by grind) (show 0<=10141204801825835211973625643008-W*ab (p/2-2*y) by grind);have l1:=Dm (sn (2*y)*sn (p/2-2*y));have l2:=oH (sn (2*y)*sn (p/2-2*y));have m6:=aE (cEA hW) (show 0<=ab (sn (2*y)*sn (p/2-2*y))-sn (2*y)*sn (p/2-2*y) by grind);have m7:=aE (cEA hW) (show 0<=ab (sn (2*y)*sn (p/2-2*y))+sn (2*y)*sn (p/2-2*y) by grind);rw[aY]at aTK m1 ⊢;have m8:=aE (cEA hW) (show 0<=wI-(cs (p/2)-(cs (2*y)*cs (p/2-2*y)-sn (2*y)*sn (p/2-2*y))) by grind);have m9:=aE (cEA hW) (show 0<=wI+(cs (p/2)-(cs (2*y)*cs (p/2-2*y)-sn (2*y)*sn (p/2-2*y))) by grind);generalize cs (2*y)=C2 at *;generalize sn (2*y)*sn (p/2-2*y)=SS at *;generalize ab SS=aS at *;generalize cs (p/2-2*y)=Cd at *;generalize ab (p/2-2*y)=dd at *;generalize cs (p/2)=X at *;clear bQE sV bOU bOT bWU aFO aWE b1 b2 b3 aYD aWG;constructor <;> grind
theorem aOF{w:Nat}(hw:1000<=w)(bBN:w<=1000000)(h:bAE w=true):∃Q,Wb w Q:=by
 unfold bAE at h;have h5:=Iq (n:=5) (by omega) w 122 122 (by omega);have Us:=Iq (n:=239) (by omega) w 66 66 (by omega);have bNI:=Iq (n:=18) (by omega) w 92 92 (by omega);have bNE:=Iq (n:=57) (by omega) w 78 78 (by omega);generalize aAE 5 w 122 122=A at *;generalize aAE 239 w 66 66=B at *;generalize aAE 18 w 92 92=C at *;generalize aAE 57 w 78 78=D at *;obtain⟨t5,s5⟩:=A;obtain⟨t239,mN⟩:=B;obtain⟨t18,aQS⟩:=C;obtain⟨t57,aQR⟩:=D;dsimp only at *;obtain⟨z5,h⟩:=fR h;obtain⟨aWW,h⟩:=fR h;obtain⟨bRU,h⟩:=fR h;obtain⟨bRT,h⟩:=fR h;rw[fH,fH]at h;obtain⟨g1,h⟩:=fR h;obtain⟨g2,h⟩:=fR h;rw[fH]at h;obtain⟨q1,h⟩:=fR h;obtain⟨q2,h⟩:=fR h;obtain⟨q3,h⟩:=fR h;obtain⟨r1,h⟩:=fR h;obtain⟨r2,bKR⟩:=fR h;have g1:=cAR g1;have g2:=cAR g2;have q1:=bZI q1;have q2:=bZI q2;have q3:=bZI q3;have h5:=h5 (bZI z5);have Us:=Us (bZI aWW);have bNI:=bNI (bZI bRU);have bNE:=bNE (bZI bRT);have aNW:ab (((16*s5-4*mN:Nat):Rat)-((2^w:Nat):Rat)*pi)<=524288:=by
  have rU:4*mN<=16*s5:=by
   refine cBN fun hn=>?_
   rw[show 16*s5-4*mN=0 by omega]at q3;simp at q3
  have hc:((16*s5-4*mN:Nat):Rat)+4*(mN:Rat)=16*(s5:Rat):=by exact_mod_cast(show 16*s5-4*mN+4*mN=16*s5 by omega)
  have n1:((2*(122*122):Nat):Rat)=29768:=by norm_cast
  have n2:((2*(66*66):Nat):Rat)=8712:=by norm_cast
  rw[n1]at h5;rw[n2]at Us;unfold pi;rw[aY]at *;generalize ((2^w:Nat):Rat)=W at *;grind
 have bNB:20*mN<=48*aQS+32*aQR->ab (((48*aQS+32*aQR-20*mN:Nat):Rat)-((2^w:Nat):Rat)*bJG)<=2097152:=by
  intro hle;have hc:((48*aQS+32*aQR-20*mN:Nat):Rat)+20*(mN:Rat)=48*(aQS:Rat)+32*(aQR:Rat):=by exact_mod_cast(show 48*aQS+32*aQR-20*mN+20*mN=48*aQS+32*aQR by omega)
  have n1:((2*(92*92):Nat):Rat)=16928:=by norm_cast
  have n3:((2*(78*78):Nat):Rat)=12168:=by norm_cast
  have n2:((2*(66*66):Nat):Rat)=8712:=by norm_cast
  rw[n1]at bNI;rw[n2]at Us;rw[n3]at bNE;unfold bJG;rw[aY]at *;generalize ((2^w:Nat):Rat)=W at *;grind
 have hple:2^104<=16*s5-4*mN:=by
  refine cBN fun hn=>?_
  have:(16*s5-4*mN)/2^64<2^40:=cEL (by rw[<-cDU];exact hn);have h2:(16*s5-4*mN)/2^64/2^(w-104)<=(16*s5-4*mN)/2^64:=cJD _ _;omega
 have bNA:20*mN<=48*aQS+32*aQR:=by omega
 have bNB:=bNB bNA;generalize hP:16*s5-4*mN=P at *;generalize 48*aQS+32*aQR-20*mN=G at *;have aOU:=uE w (by omega);refine⟨P/2^64,?_,?_,?_,q3,aEF r1,aEF r2,?_⟩
 ·have:2^64*(P/2^64)<=P-2^40:=by
   have:=cJO (P-2^40) (2^64);rwa [q2]at this
  have h2:2^64*(P/2^64)+2^40<=P:=by omega
  have h3:((2^64:Nat):Rat)*((P/2^64:Nat):Rat)+((2^40:Nat):Rat)<=(P:Rat):=by exact_mod_cast h2
  rw[aOU,cFL,aY]at aNW;have n1:((2^64:Nat):Rat)=18446744073709551616:=by norm_cast
  have n2:((2^40:Nat):Rat)=1099511627776:=by norm_cast
  rw[n1]at aNW h3;rw[n2]at h3;refine cG (q:=18446744073709551616) (by grind) ?_;generalize ((2^(w-64):Nat):Rat)=W at *;grind
 ·have:P+2^40<2^64*(P/2^64+1):=by
   have:=cJY (P+2^40) (show 0<2^64 by omega);rwa [q1]at this
  have h3:(P:Rat)+((2^40:Nat):Rat)<((2^64:Nat):Rat)*(((P/2^64:Nat):Rat)+1):=by exact_mod_cast this
  rw[aOU,cFL,aY]at aNW;have n1:((2^64:Nat):Rat)=18446744073709551616:=by norm_cast
  have n2:((2^40:Nat):Rat)=1099511627776:=by norm_cast
  rw[n1]at aNW h3;rw[n2]at h3;refine sE (q:=18446744073709551616) (by grind) ?_;generalize ((2^(w-64):Nat):Rat)=W at *;grind
 ·have c1:(P:Rat)<=(G:Rat)+((2^24:Nat):Rat):=by exact_mod_cast g1
  have c2:(G:Rat)<=(P:Rat)+((2^24:Nat):Rat):=by exact_mod_cast g2
  have n1:((2^24:Nat):Rat)=16777216:=by norm_cast
  rw[n1]at c1 c2;rw[aY]at *;generalize ((2^w:Nat):Rat)=W at *;grind
 ·refine aZY hw bBN ?_ aNW bKR;have h1:P/2^64/2^(w-104)<3454217652358:=by omega
  have h2:P/2^64<2^(w-104)*3454217652358:=(cJZ (cZ)).1 h1 |> fun h=>by rwa [cDR]at h
  have h3:P<2^64*(2^(w-104)*3454217652358):=by
   have:=(cJZ (show 0<2^64 by omega)).1 h2;rwa [cDR]at this
  have e:2^(w-40)=2^64*2^(w-104):=by rw[<-cDU];congr 1;omega
  rw[e,cDR,cDV];exact h3
theorem bCI:bAE 136064=true:=by kernel_rfl
theorem aEP:∃w,w=136064/\∃Q,Wb w Q:=⟨136064,rfl,aOF (by omega) (by omega) bCI⟩
def pw:Nat:=Classical.choose aEP
theorem Rh:pw=136064:=(Classical.choose_spec aEP).1
def pq:Nat:=Classical.choose (Classical.choose_spec aEP).2
theorem Hn:Wb pw pq:=Classical.choose_spec (Classical.choose_spec aEP).2
theorem eY:314159/100000<pi/\pi<314160/100000:=by
 have h:=Hn;have h1:=h.lo;have h2:=h.hi;have h3:=h.top;have e:2^(pw-64)=2^40*2^(pw-104):=by have:=Rh;rw[<-cDU];congr 1;omega
 have hp:0<2^(pw-104):=cZ;have l1:=cJW pq (2^(pw-104));have l2:=cJX hp (a:=pq);rw[h3]at l1 l2;have bTG:(3454217652357:Rat)*((2^(pw-104):Nat):Rat)<=(pq:Rat):=by exact_mod_cast l1
 have bTF:(pq:Rat)+1<=(3454217652357:Rat)*((2^(pw-104):Nat):Rat)+((2^(pw-104):Nat):Rat):=by exact_mod_cast l2
 rw[e,cFL]at h1 h2;have n40:((2^40:Nat):Rat)=1099511627776:=by norm_cast
 rw[n40]at h1 h2;have hq:(0:Rat)<((2^(pw-104):Nat):Rat):=by exact_mod_cast hp
 generalize ((2^(pw-104):Nat):Rat)=W at *;generalize (pq:Rat)=Q at *;clear h h3 e hp l1 l2 n40;constructor
 ·refine sE hq ?_;grind
 ·refine sE hq ?_;grind
def nS:Rat:=hf (pw-264)
theorem uS:0<nS:=xA _
theorem wR:1048576*wI<=nS:=by
 have h1:=Nu (pw-264) 20;have h4:hf 20=1/1048576:=by simp only[hf];grind
 have h2:=Cv (n:=pw-264+20) (by rw[Rh];omega);rw[h1,h4]at h2;unfold nS;grind
theorem Cw{n:Nat}(h:n<=135800):nS<=hf n:=aNM (by rw[Rh];exact h)
theorem Bk:nS<=1/1048576:=by
 have:=Cw (n:=20) (by omega);simp only[hf]at this;grind
theorem Om:16384*ab (cs (pi/2))<=nS:=by
 have h:=Hn.cos;have e:2^pw=2^(pw-264)*(2^250*2^14):=by
  have:=Rh;have e0:pw=pw-264+250+14:=by omega
  conv=>lhs;rw[e0,cDU,cDU]
  exact cDV _ _ _
 rw[fX,bP (show(0:Rat)<=((2^pw:Nat):Rat) by exact_mod_cast cEU _),e,cFL,cFL]at h;have bOQ:((2^14:Nat):Rat)=16384:=by norm_cast
 have h2:=Uo (pw-264);have hq:(0:Rat)<((2^250:Nat):Rat):=by exact_mod_cast(cZ)
 rw[bOQ]at h;unfold nS;have hp:=xA (pw-264);generalize hf (pw-264)=H at *;generalize ((2^(pw-264):Nat):Rat)=W at *;generalize ((2^250:Nat):Rat)=B at *;generalize ab (cs (pi/2))=X at *;clear bOQ e;have h3:B*(16384*(W*X))<=B*1:=by grind
 have h4:=cG hq h3;have:=aE (cEA hp) (show 0<=1-16384*(W*X) by grind);have h5:H*W*X=X:=by rw[h2];grind
 grind
theorem Mk:1024*ab (sn (pi/2)-1)<=nS:=by
 obtain⟨p1,p2⟩:=eY;have a2:ab (pi/2)<=4:=by rw[aY];grind
 have h1:=aSD a2;have hc:=Om;have he:=wR;have het:=Bk;have hd:=Cn (x:=pi/4) (by rw[aY];grind);rw[show 2*(pi/4)=pi/2 by grind]at hd;have s1:=(xH (x:=pi/4) (by grind) (by grind)).1;have c1:=(Gb (x:=pi/4) (by grind) (by grind)).1;have bSD:=bG (a:=0) (b:=pi/4) (c:=pi/4) (d:=pi/4) (by grind) (by grind) (by grind) (by grind);have q1:=bG (a:=pi/4) (b:=4/5) (c:=pi/4) (d:=4/5) (by grind) (by grind) (by grind) (by grind);have q2:=bG (a:=pi/4*(pi/4)) (b:=16/25) (c:=pi/4) (d:=4/5) (by grind) (by grind) (by grind) (by grind);have s2:1/2<=sn (pi/4):=by grind
 have c2:1/2<=cs (pi/4):=by grind
 have m:=bG (by grind) s2 (by grind) c2;have rU:1/4<=sn (pi/2):=by rw[aY]at hd;have:=Ga;grind
 have bRE:=bG (aM (cs (pi/2))) (show ab (cs (pi/2))<=nS/16384 by grind) (aM (cs (pi/2))) (show ab (cs (pi/2))<=1/16384 by grind);rw[<-fX]at bRE;have l1:=Dm (cs (pi/2)*cs (pi/2));have bPN:ab (sn (pi/2)*sn (pi/2)-1)<=nS/16384:=by
  have:=bJA (cs (pi/2));rw[aY]at h1 ⊢;grind
 have e:sn (pi/2)*sn (pi/2)-1=(sn (pi/2)-1)*(sn (pi/2)+1):=by grind
 rw[e,fX,bP (show 0<=sn (pi/2)+1 by grind)]at bPN;have m2:=aE (aM (sn (pi/2)-1)) (show 0<=sn (pi/2)+1-1 by grind);have m3:=uS;clear e l1 bRE hd s1 c1 bSD q1 q2 m h1 hc a2;generalize ab (sn (pi/2)-1)=d at *;grind
theorem aKO{x:Rat}(hx:ab x<=4):ab (sn (x+pi/2)-cs x)<=nS:=by
 obtain⟨p1,p2⟩:=eY;have h:=Mf hx (show ab (pi/2)<=4 by rw[aY];grind);have hc:=Om;have hs:=Mk;have he:=wR;have het:=Ga;have aTF:=pA;have m1:=bG (aM _) (Mg hx) (aM _) (show ab (cs (pi/2))<=nS/16384 by grind);have m2:=bG (aM _) (Oj hx) (aM _) (show ab (sn (pi/2)-1)<=nS/1024 by grind);have m3:=aE (show 0<=nS by grind) (show 0<=1/1048576-wI by grind);rw[<-fX]at m1 m2;rw[aY]at *;grind
theorem aXA{x:Rat}(hx:ab x<=4):ab (cs (x+pi/2)+sn x)<=nS:=by
 obtain⟨p1,p2⟩:=eY;have h:=Ig hx (show ab (pi/2)<=4 by rw[aY];grind);have hc:=Om;have hs:=Mk;have he:=wR;have het:=Ga;have aTF:=pA;have m1:=bG (aM _) (Oj hx) (aM _) (show ab (cs (pi/2))<=nS/16384 by grind);have m2:=bG (aM _) (Mg hx) (aM _) (show ab (sn (pi/2)-1)<=nS/1024 by grind);have m3:=aE (show 0<=nS by grind) (show 0<=1/1048576-wI by grind);rw[<-fX]at m1 m2;rw[aY]at *;grind
def rs(k:Int)(s c:Rat):Rat:=if k%4=0 then s else if k%4=1 then c else if k%4=2 then -s else -c
def rc(k:Int)(s c:Rat):Rat:=if k%4=0 then c else if k%4=1 then -s else if k%4=2 then -c else s
def Sf(x:Rat)(k:Int):Rat:=rs k (sn (x-(k:Rat)*(pi/2))) (cs (x-(k:Rat)*(pi/2)))
def Cf(x:Rat)(k:Int):Rat:=rc k (sn (x-(k:Rat)*(pi/2))) (cs (x-(k:Rat)*(pi/2)))
theorem He{x:Rat}{k:Int}(h:ab (x-(k:Rat)*(pi/2))<=2):ab (Sf x (k+1)-Sf x k)<=nS/\ab (Cf x (k+1)-Cf x k)<=nS:=by
 obtain⟨p1,p2⟩:=eY;obtain⟨y,hy⟩:∃y,y=x-((k+1:Int):Rat)*(pi/2):=⟨_,rfl⟩;have hk:((k+1:Int):Rat)=(k:Rat)+1:=by norm_cast
 have e:x-(k:Rat)*(pi/2)=y+pi/2:=by rw[hy,hk];grind
 have bOY:ab y<=4:=by rw[aY]at *;grind
 have h1:=aKO bOY;have h2:=aXA bOY;unfold Sf Cf;rw[<-hy,e];unfold rs rc;have hm:k%4=0\/k%4=1\/k%4=2\/k%4=3:=by omega
 have aYP:(k+1)%4=(k%4+1)%4:=by omega
 rw[aYP];rw[aY]at h1 h2;rcases hm with hm |hm |hm |hm <;> rw[hm] <;> simp <;> rw[aY,aY] <;> grind
theorem aXJ{x:Rat}{k l:Int}(hk:ab (x-(k:Rat)*(pi/2))<=1)(hl:ab (x-(l:Rat)*(pi/2))<=1):ab (Sf x k-Sf x l)<=nS/\ab (Cf x k-Cf x l)<=nS:=by
 obtain⟨p1,p2⟩:=eY;have he:=uS;have h3:l=k\/l=k+1\/k=l+1:=by
  have h1:(k:Rat)-(l:Rat)<2:=by
   refine Rat.not_le.1 fun hn=>?_
   have:=bG (show(0:Rat)<=2 by grind) hn (show(0:Rat)<=3/2 by grind) (show 3/2<=pi/2 by grind);rw[aY]at *;grind
  have h2:(l:Rat)-(k:Rat)<2:=by
   refine Rat.not_le.1 fun hn=>?_
   have:=bG (show(0:Rat)<=2 by grind) hn (show(0:Rat)<=3/2 by grind) (show 3/2<=pi/2 by grind);rw[aY]at *;grind
  have Yl:k-l<2:=by exact_mod_cast h1
  have aNY:l-k<2:=by exact_mod_cast h2
  omega
 rcases h3 with rfl |rfl |rfl
 ·rw[show Sf x l-Sf x l=0 by grind,show Cf x l-Cf x l=0 by grind,bP (by grind)];grind
 ·obtain⟨a,b⟩:=He (x:=x) (k:=k) (by rw[aY]at *;grind);rw[aY]at a b;rw[aY,aY];grind
 ·exact He (x:=x) (k:=l) (by rw[aY]at *;grind)
end R
namespace R
def pF(q:Nat):Nat:=pq/2^(pw-64-q)
theorem aIE{x:Rat}{Q m:Nat}(h1:(Q:Rat)<=((2^m:Nat):Rat)*x)(h2:((2^m:Nat):Rat)*x<(Q:Rat)+1):((Q/2^m:Nat):Rat)<=x/\x<((Q/2^m:Nat):Rat)+1:=by
 have hp:0<2^m:=cZ;obtain⟨d1,d2⟩:=yO Q hp;have hq:(0:Rat)<((2^m:Nat):Rat):=by exact_mod_cast hp
 have hs:(Q:Rat)+1<=((2^m:Nat):Rat)*((Q/2^m:Nat):Rat)+((2^m:Nat):Rat):=by
  have:=cJY Q hp;exact_mod_cast(show Q+1<=2^m*(Q/2^m)+2^m by rw[cDT,bZD]at this;omega)
 constructor
 ·exact cG hq (by grind)
 ·exact sE hq (by grind)
theorem Aq{q:Nat}(hq:q<=136000):(pF q:Rat)<=((2^q:Nat):Rat)*pi/\((2^q:Nat):Rat)*pi<(pF q:Rat)+1:=by
 have h:=Hn;have h1:=h.lo;have h2:=h.hi;have hw:=Rh;have e:2^(pw-64)=2^(pw-64-q)*2^q:=by rw[<-cDU];congr 1;omega
 rw[e,cFL,cKA]at h1 h2;exact aIE h1 h2
theorem aXQ{q:Nat}(hq:q+24<=136000):16777216*(pF q:Rat)+1<=((2^(q+24):Nat):Rat)*pi/\((2^(q+24):Nat):Rat)*pi<16777216*(pF q:Rat)+16777215:=by
 obtain⟨h1,h2⟩:=Aq hq;have hw:=Rh;have e:pF q=pF (q+24)/2^24:=by
  unfold pF;rw[cEN,<-cDU];congr 2;omega
 have bUV:pF (q+24)%2^24≠2^24-1:=Ro Hn.bJK _;have hx:pq<2^(pw-62):=by
  have h3:=Hn.top;have hp:0<2^(pw-104):=cZ;have l2:=cJX hp (a:=pq);rw[h3]at l2;have e:2^(pw-62)=4398046511104*2^(pw-104):=by
   rw[show 4398046511104=2^42 from rfl,<-cDU];congr 1;omega
  omega
 have aFH:pF (q+24)%2^24≠0:=aIO hx (by omega) (Ro Hn.aSO _);have hd:=cDZ (pF (q+24)) (2^24);rw[<-e]at hd;have l1:16777216*pF q+1<=pF (q+24):=by omega
 have bEW:=cBB (pF (q+24)) (show 0<2^24 by omega);have l2:pF (q+24)+1<=16777216*pF q+16777215:=by omega
 have bTG:(16777216:Rat)*(pF q:Rat)+1<=(pF (q+24):Rat):=by exact_mod_cast l1
 have bTF:(pF (q+24):Rat)+1<=(16777216:Rat)*(pF q:Rat)+16777215:=by exact_mod_cast l2
 grind
theorem bDE{q g X off:Nat}(hq:q+24<=136000)(hg:24<=g)(bLD:2*off<=2^(g-24))(hX:ab ((X:Rat)-((2^(q+g):Nat):Rat)*pi)<=(off:Rat)):off<=X/\(X-off)/2^g=pF q/\(X+off)/2^g=pF q:=by
 obtain⟨h1,h2⟩:=aXQ hq;have e:2^(q+g)=2^(g-24)*2^(q+24):=by rw[<-cDU];congr 1;omega
 have eg:2^g=2^(g-24)*16777216:=by rw[show 16777216=2^24 from rfl,<-cDU];congr 1;omega
 rw[e,cFL,cKA,aY]at hX;have hG:(0:Rat)<=((2^(g-24):Nat):Rat):=by exact_mod_cast cEU _
 have ho:(2:Rat)*(off:Rat)<=((2^(g-24):Nat):Rat):=by exact_mod_cast bLD
 have m1:=aE hG (show 0<=((2^(q+24):Nat):Rat)*pi-(16777216*(pF q:Rat)+1) by grind);have bXF:(0:Rat)<((2^(g-24):Nat):Rat):=by exact_mod_cast cZ
 have m2:=Rat.mul_pos bXF (show 0<16777216*(pF q:Rat)+16777215-((2^(q+24):Nat):Rat)*pi by grind);have r1:2^(g-24)*16777216*pF q+off<=X:=by
  have:((2^(g-24):Nat):Rat)*16777216*(pF q:Rat)+(off:Rat)<=(X:Rat):=by grind
  exact_mod_cast this
 have r2:X+off<2^(g-24)*16777216*(pF q+1):=by
  have:(X:Rat)+(off:Rat)<((2^(g-24):Nat):Rat)*16777216*((pF q:Rat)+1):=by grind
  exact_mod_cast this
 rw[eg];generalize 2^(g-24)*16777216=B at *;refine⟨by omega,?_,?_⟩
 ·refine cJJ ?_ ?_
  ·rw[cDR];omega
  ·rw[cDR];omega
 ·refine cJJ ?_ ?_
  ·rw[cDR];omega
  ·rw[cDR];omega
theorem aDU{u W:Nat}(h:2*u<=W)(hW:0<W):∀k,sq u W k*2^k<=W
 |0=>by simp[sq]
 |k+1=>by
  have ih:=aDU h hW k;have h1:sq u W (k+1)<=sq u W k/2:=by
   rw[sq];refine bZP (cJD _ _) ?_;rw[cKQ (by omega)];have h2:=cJW (sq u W k*u) W;have h3:sq u W k*u*2<=sq u W k*W:=by
    rw[cDV];exact cBH _ (by omega)
   generalize sq u W k*u/W=z at *;have h4:z*2*W<=sq u W k*W:=by
    rw[cJK];omega
   exact Nat.le_of_mul_le_mul_right h4 hW
  have h2:sq u W (k+1)*2<=sq u W k:=by omega
  rw[cDS,cDR (2^k) 2,<-cDV];exact bZP (cAI _ h2) ih
theorem aDT{u w:Nat}(h:2*u<=2^w):sq u (2^w) (w+1)=0:=by
 have h1:=aDU h (cZ) (w+1);refine Nat.eq_zero_of_not_pos fun hp=>?_
 have:1*2^(w+1)<=sq u (2^w) (w+1)*2^(w+1):=cAI _ hp;rw[cDS]at this h1;have:=cBT (n:=w) (show 0<2 by omega);omega
theorem Ww{u W m:Nat}(h:sq u W m=0):∀k,sq u W (m+k)=0
 |0=>h
 |k+1=>by rw[<-cCK,sq,Ww h k];simp
theorem Od(h:Nat):4^h=2^(2*h):=by rw[Nat.pow_mul]
theorem aGK{T:Rat}(hT0:0<=T)(bWT:T<=1){w1 h u s0 c0:Nat}(aMY:(u:Rat)<=((2^w1:Nat):Rat)*T)(bHR:((2^w1:Nat):Rat)*T<(u:Rat)+1)(hh:1<=h)(hw:w1+h<=1000000)(bPC:4*h+50<=w1+h)
  (Uk:(s0:Rat)=sum (fun k=>ss k*(sq u (2^(w1+h)) k:Rat)) (w1+h+1)) (bFV:(c0:Rat)=sum (fun k=>cc k*(sq u (2^(w1+h)) k:Rat)) (w1+h+1)) :
  ab (((Ie (2^(w1+h)) h s0 c0).1:Rat)-((2^(w1+h):Nat):Rat)*sn T)<=((4^h*(2*(w1+h)+10):Nat):Rat)/\ab (((Ie (2^(w1+h)) h s0 c0).2:Rat)-((2^(w1+h):Nat):Rat)*cs T)<=((4^h*(2*(w1+h)+10):Nat):Rat):=by
 have aQU:0<2^(w1+h):=cZ;have bGC:(0:Rat)<((2^w1:Nat):Rat):=by exact_mod_cast cZ
 have eW:((2^(w1+h):Nat):Rat)=((2^w1:Nat):Rat)*((2^h:Nat):Rat):=by rw[cDU,cFL]
 have g2:=Mt 2 h (by omega);have g2':(2:Rat)<=((2^h:Nat):Rat):=by
  exact_mod_cast(show 2<=2^h from cBU (n:=2) (by omega) hh)
 have bKL:u<=2^w1:=by
  have:=aE (cEA bGC) (show 0<=1-T by grind);have:(u:Rat)<=((2^w1:Nat):Rat):=by grind
  exact_mod_cast this
 have bKN:2*u<=2^(w1+h):=by
  have e:2^(w1+h)=2^w1*2^h:=cDU _ _ _;have:2^w1*2<=2^w1*2^h:=cBH _ (cBU (n:=2) (by omega) hh);omega
 obtain⟨x,hx,Wo⟩:=aEX (u:=u) aQU;have bTP:((2^h:Nat):Rat)*x*((2^w1:Nat):Rat)=(u:Rat):=by rw[eW]at hx;grind
 have bDU:((2^h:Nat):Rat)*x<=1:=by
  have:(u:Rat)<=((2^w1:Nat):Rat):=by exact_mod_cast bKL
  refine cG bGC ?_;grind
 have aJP:x<=1/2:=by
  have:=aE (show 0<=((2^h:Nat):Rat)-2 by grind) Wo;grind
 have hz:=aDT bKN;have ec:=aLC aQU hx Wo aJP (n:=w1+h+1) (by omega) (by omega) hz;have es:=aLB aQU hx Wo aJP (n:=w1+h+1) (by omega) (by omega) hz;rw[<-bFV]at ec;rw[<-Uk]at es;have hn:((w1+h+1:Nat):Rat)=((w1+h:Nat):Rat)+1:=by norm_cast
 have aBM:((w1+h:Nat):Rat)<=1000000:=by exact_mod_cast hw
 have Di:(0:Rat)<=((w1+h:Nat):Rat):=by exact_mod_cast cEU _
 rw[hn]at ec es;have aTF:=aFZ (w:=w1+h) (by omega);have e4:((4^h*(2*(w1+h)+10):Nat):Rat)=((4^h:Nat):Rat)*(2*((w1+h:Nat):Rat)+10):=by
  rw[cFL];congr 1;push_cast;grind
 have aNV:((4^h:Nat):Rat)*((4^h:Nat):Rat)*1125899906842624<=((2^(w1+h):Nat):Rat):=by
  have:4^h*4^h*2^50<=2^(w1+h):=by
   rw[Od,<-cDU,<-cDU];exact iC
  have bSY:(2^50:Nat)=1125899906842624:=by rfl
  rw[bSY]at this;exact_mod_cast this
 have g4:=Mt 4 h (by omega);have g42:((2^h:Nat):Rat)<=((4^h:Nat):Rat):=by exact_mod_cast Nat.pow_le_pow_left (show 2<=4 by omega) h
 have hq4:=aE (show 0<=((4^h:Nat):Rat) by grind) (show 0<=((4^h:Nat):Rat)-1 by grind);have hE:((4^h:Nat):Rat)*(2*((w1+h:Nat):Rat)+8)<=((4^h:Nat):Rat)*2097152:=by
  have:=aE (show 0<=((4^h:Nat):Rat) by grind) (show 0<=2097152-(2*((w1+h:Nat):Rat)+8) by grind);grind
 have bQT:0<=((4^h:Nat):Rat)*(2*((w1+h:Nat):Rat)+8):=aE (by grind) (by grind);have rW:100*(((4^h:Nat):Rat)*(2*((w1+h:Nat):Rat)+8)*(((4^h:Nat):Rat)*(2*((w1+h:Nat):Rat)+8)))<=((2^(w1+h):Nat):Rat):=by
  refine cDY ?_ aNV;have:=bG bQT hE bQT hE;grind
 have Fx:((4^h:Nat):Rat)*(2*((w1+h:Nat):Rat)+8)<=((2^(w1+h):Nat):Rat):=by
  refine cDY (cDY hE ?_) aNV;grind
 have hd:=aGA (W:=2^(w1+h)) aQU rW (Wz Fx aTF) h x (2*((w1+h:Nat):Rat)+6) s0 c0 Wo bDU (cDY es (by grind)) (cDY ec (by grind)) (by grind);have hT:ab T<=1:=by rw[bP hT0];exact bWT
 have hX:ab (((2^h:Nat):Rat)*x)<=1:=by rw[bP (aE (by grind) Wo)];exact bDU
 have l1:=aDW hX hT;have l2:=aPC hX hT;have hd0:0<=T-((2^h:Nat):Rat)*x:=by
  have:((2^w1:Nat):Rat)*(((2^h:Nat):Rat)*x)<=((2^w1:Nat):Rat)*T:=by grind
  have:=cG bGC this;grind
 have bQF:((2^(w1+h):Nat):Rat)*(T-((2^h:Nat):Rat)*x)<=((2^h:Nat):Rat):=by
  rw[eW];have:((2^w1:Nat):Rat)*(T-((2^h:Nat):Rat)*x)<=1:=by grind
  have:=aE (show 0<=((2^h:Nat):Rat) by grind) (show 0<=1-((2^w1:Nat):Rat)*(T-((2^h:Nat):Rat)*x) by grind);grind
 rw[bP hd0]at l1 l2;have hW:(0:Rat)<=((2^(w1+h):Nat):Rat):=by exact_mod_cast cEU _
 obtain⟨r1,r2⟩:=hd;rw[e4];clear aMY bHR rW Fx aNV bTP hx eW ec es Uk bFV hz;generalize ((2^(w1+h):Nat):Rat)=W at *;generalize ((w1+h:Nat):Rat)=wr at *;generalize ((4^h:Nat):Rat)=F at *;generalize ((2^h:Nat):Rat)*x=y at *;generalize ((2^h:Nat):Rat)=H at *;rw[aY]at l1 l2 r1 r2;have m1:=aE hW (show 0<=2*(T-y)-(sn T-sn y) by grind);have m2:=aE hW (show 0<=2*(T-y)+(sn T-sn y) by grind);have m3:=aE hW (show 0<=(T-y+2*wI)-(cs T-cs y) by grind);have m4:=aE hW (show 0<=(T-y+2*wI)+(cs T-cs y) by grind);rw[aY,aY];refine⟨⟨?_,?_⟩,?_,?_⟩ <;> grind
end R
namespace R
def pz(e:Int):Rat:=if 0<=e then((2^e.toNat:Nat):Rat)else hf (-e).toNat
theorem lP(k:Nat):pz (k:Int)=((2^k:Nat):Rat):=by unfold pz;rw[aW,cCQ]
theorem yJ(k:Nat):pz (-(k:Int))=hf k:=by
 unfold pz
 by_cases h:k=0
 ·subst h;simp[hf]
 ·rw[aP,Int.neg_neg,cCQ]
theorem eB:pz 0=1:=by rw[show(0:Int)=((0:Nat):Int)from rfl,lP];norm_cast
theorem dA(e:Int):0<pz e:=by
 unfold pz;split
 ·exact_mod_cast cZ
 ·exact xA _
theorem jX(e:Int):pz (e+1)=2*pz e:=by
 by_cases h:0<=e
 ·obtain⟨k,rfl⟩:=cDX h;rw[show(k:Int)+1=((k+1:Nat):Int) by omega,lP,lP,Ky]
 ·obtain⟨k,hk⟩:=cDX (show 0<=-e by omega);have e1:e=-(k:Int):=by omega
  subst e1;obtain⟨j,rfl⟩:∃j,k=j+1:=⟨k-1,by omega⟩;rw[show -((j+1:Nat):Int)+1=-(j:Int) by omega,yJ,yJ,hf];grind
theorem dZ(a:Int):∀k:Nat,pz (a+k)=pz a*((2^k:Nat):Rat)
 |0=>by rw[show a+((0:Nat):Int)=a by omega,cIP];grind
 |k+1=>by
  rw[show a+((k+1:Nat):Int)=(a+k)+1 by omega,jX,dZ a k,Ky];grind
theorem iU(a b:Int):pz (a+b)=pz a*pz b:=by
 by_cases h:0<=b
 ·obtain⟨k,rfl⟩:=cDX h;rw[dZ,lP]
 ·obtain⟨k,hk⟩:=cDX (show 0<=-b by omega);have h1:=dZ (a+b) k;rw[show a+b+(k:Int)=a by omega]at h1;have e1:b=-(k:Int):=by omega
  have h2:=Uo k;rw[show pz b=hf k by rw[e1,yJ],h1];rw[cKA,Rat.mul_comm ((2^k:Nat):Rat),h2];grind
theorem cF{a b:Int}(h:a<=b):pz a<=pz b:=by
 obtain⟨k,hk⟩:=cDX (show 0<=b-a by omega);rw[show b=a+(k:Int) by omega,dZ];have h1:=dA a;have:=aE (cEA h1) (show 0<=((2^k:Nat):Rat)-1 by have:=Mt 2 k (by omega);grind);grind
theorem aLV(k:Nat):hf k=pz (-(k:Int)):=(yJ k).symm
theorem aAZ(e:Int):pz e*pz (-e)=1:=by rw[<-iU,Int.add_right_neg,eB]
def qz(p:Int×Int):Rat:=(p.1:Rat)*pz p.2
theorem oG{p:Int×Int}(h:p.1=0):qz p=0:=by
 unfold qz;rw[h];have:((0:Int):Rat)=0:=by norm_cast
 rw[this];grind
theorem Mp{p q:Int×Int}{g:Int}(hp:g<=p.2)(hq:g<=q.2):qz p<=qz q↔p.1*((2^(p.2-g).toNat:Nat):Int)<=q.1*((2^(q.2-g).toNat:Nat):Int):=by
 unfold qz;have e1:pz p.2=pz g*((2^(p.2-g).toNat:Nat):Rat):=by
  rw[<-dZ];congr 1;omega
 have e2:pz q.2=pz g*((2^(q.2-g).toNat:Nat):Rat):=by
  rw[<-dZ];congr 1;omega
 have hg:=dA g;have c1:((p.1*((2^(p.2-g).toNat:Nat):Int):Int):Rat)=(p.1:Rat)*((2^(p.2-g).toNat:Nat):Rat):=by push_cast;rfl
 have c2:((q.1*((2^(q.2-g).toNat:Nat):Int):Int):Rat)=(q.1:Rat)*((2^(q.2-g).toNat:Nat):Rat):=by push_cast;rfl
 rw[<-Rat.intCast_le_intCast,c1,c2,e1,e2];generalize ((2^(p.2-g).toNat:Nat):Rat)=x;generalize ((2^(q.2-g).toNat:Nat):Rat)=y;constructor
 ·intro h;exact cG hg (by grind)
 ·intro h;have:=aE (cEA hg) (show 0<=(q.1:Rat)*y-(p.1:Rat)*x by grind);grind
end R
namespace M
open Go AI W
def eN(p q:Int×Int):Int:=mG (bQ.nU p q) (bQ.nT p q)
def bB(p:Int×Int):Int:=p.2+(bl p.1.natAbs:Nat)-1
abbrev yA:=Bool×List Int×Int×Bool×List Int×Int
def iH(s:yA):gQ:=(s.1,s.2.1,s.2.2.1)
def iI(s:yA):gQ:=(s.2.2.2.1,s.2.2.2.2.1,s.2.2.2.2.2)
def fA(s:yA):Prop:=aR (iH s)/\aR (iI s)/\eN (dv (iH s)) (dv (iI s))<=0
def wG(a b:Int×Int):D:=.agg [.sc (.bool (isNeg a.1)),.ints .u64 (M6.dg a.1.natAbs),.sc (.int .i64 a.2),.sc (.bool (isNeg b.1)),.ints .u64 (M6.dg b.1.natAbs),.sc (.int .i64 b.2)]
def nM(a b:Int×Int):yA:=(isNeg a.1,M6.dg a.1.natAbs,a.2,isNeg b.1,M6.dg b.1.natAbs,b.2)
theorem pQ(a b:Int×Int):dv (iH (nM a b))=a:=dX a
theorem pS(a b:Int×Int):dv (iI (nM a b))=b:=dX b
theorem yH{a b:Int×Int}(ha:kE a)(hb:kE b)(h:eN a b<=0):fA (nM a b):=by
 refine⟨dP ha,dP hb,?_⟩;rw[pQ,pS];exact h
theorem fA.wG{s:yA}(h:fA s):M.wG (dv (iH s)) (dv (iI s))=.agg [.sc (.bool s.1),.ints .u64 s.2.1,.sc (.int .i64 s.2.2.1),.sc (.bool s.2.2.2.1),.ints .u64 s.2.2.2.2.1,.sc (.int .i64 s.2.2.2.2.2)]:=by
 have h1:=h.1.Ez.cells;have h2:=h.2.1.Ez.cells;unfold M.wG;have e1:(dv (iH s)).1=wv ((iH s).1,(iH s).2.1):=rfl;have e2:(dv (iI s)).1=wv ((iI s).1,(iI s).2.1):=rfl;rw[e1,e2,h1.1,h1.2,h2.1,h2.2];rfl
theorem aUI{a b:Int}:mG a b<=0↔a<=b:=by unfold mG;split <;> (try split) <;> omega
theorem aUJ{a b:Int}:mG a b=0↔a=b:=by unfold mG;split <;> (try split) <;> omega
theorem Ln(p q:Int×Int):bQ.iE p q<=p.2/\bQ.iE p q<=q.2:=Uc
theorem lN{p q:Int×Int}:eN p q<=0↔R.qz p<=R.qz q:=by
 obtain⟨h1,h2⟩:=Ln p q;unfold eN;rw[aUI,R.Mp h1 h2];rfl
theorem yY{p q:Int×Int}:0<eN p q↔R.qz q<R.qz p:=by
 have:=lN (p:=p) (q:=q);constructor
 ·intro h;refine Rat.not_le.1 fun hn=>?_;have:=this.2 hn;omega
 ·intro h;refine Int.not_le.1 fun hn=>?_;exact Rat.not_lt.2 (this.1 hn) h
theorem Sj(p:Int×Int):eN p p<=0:=lN.2 cFB
theorem nY(z e:Int):R.qz (aN z e)=(z:Rat)*R.pz e:=by
 by_cases hz:z=0
 ·subst hz;rw[fN,R.oG rfl];have:((0:Int):Rat)=0:=by norm_cast
  rw[this];grind
 ·obtain⟨h1,h2⟩:=lI (e:=e) hz;unfold R.qz;rw[h2]
  conv=>rhs;rw[h1]
  rw[Ar,R.dZ,cKB,cKC];grind
theorem oQ(p:Int×Int):R.qz (-p.1,p.2)=- R.qz p:=by
 unfold R.qz;rw[Rat.intCast_neg];grind
theorem Tt(p q:Int×Int):R.qz (bQ.oA p q)=R.qz p+R.qz q:=by
 unfold bQ.oA;split
 ·rename_i h;rw[R.oG h];grind
 ·split
  ·rename_i h;rw[R.oG h];grind
  ·obtain⟨h1,h2⟩:=Ln p q;rw[nY];unfold bQ.nU bQ.nT R.qz;have e1:R.pz p.2=R.pz (bQ.iE p q)*((2^(p.2-bQ.iE p q).toNat:Nat):Rat):=by rw[<-R.dZ];congr 1;omega
   have e2:R.pz q.2=R.pz (bQ.iE p q)*((2^(q.2-bQ.iE p q).toNat:Nat):Rat):=by rw[<-R.dZ];congr 1;omega
   rw[e1,e2,Rat.intCast_add,cKB,cKB,cKC,cKC];grind
end M
open Go.Value(int bool slice)
open AI.S(sc ints)
namespace W
open Go AI M
namespace uW
def E:=mE [] 11 [] [] []
def aF:=bd f52
theorem aX:Nk E aF:=nk
theorem start a:aI E f52 aF [D.s (sc (int i64 a))]=letI A:=int i64 0;aB (a==32) (some [D.agg [sc (int i64 24),sc (int i64 (-149:Int)),sc (int i64 31)]]) (aB (a==64) (some [D.agg [sc (int i64 53),sc (int i64 (-1074:Int)),sc (int i64 63)]]) (some [D.agg [sc A,sc A,sc A]])):=eJ aX
def vB(f:Int):Int×Int×Int:=if f=32 then(24,-149,31)else if f=64 then(53,-1074,63)else(0,0,0)
def sp(f:Int):Prop×List D:=(True,[.agg [.sc (.int .i64 (vB f).1),.sc (.int .i64 (vB f).2.1),.sc (.int .i64 (vB f).2.2)]])
theorem spec:jL E f52 aF (pN .i64) sp:=by
 intro f h;refine(start f).trans ?_;unfold sp vB
 by_cases h1:f=32
 ·rw[cD h1,if_pos h1]
 ·rw[bJ h1,if_neg h1]
  by_cases h2:f=64
  ·rw[cD h2,if_pos h2]
  ·rw[bJ h2,if_neg h2]
def aJ:dK:=orc1 (pN .i64) sp
theorem ok:OK 52 aJ:=(fJ E aF aD func52).qB rfl spec
end uW
namespace iN
def E:=mE [] 11 [] [] []
def aF:=bd f85
theorem aX:Nk E aF:=nk
theorem start a b c:aI E f85 aF [D.agg [sc (int i64 a),sc (int i64 b),sc (int i64 c)]]=if c<0 then none else if i64.wrap (a-1)<0 then none else some [D.s (sc (int u64 (u64.wrap (u64.wrap ((1:Int)*(↑((2:Nat)^min c.toNat 64):Int))-u64.wrap ((1:Int)*(↑((2:Nat)^min (i64.wrap (a-1)).toNat 64):Int))))))]:=eJ aX
def vY(w:Int×Int×Int):Prop:=w=(24,-149,31)\/w=(53,-1074,63)
def jV(w:Int×Int×Int):Int:=if w.1=24 then 2139095040 else 9218868437227405312
def sp(w:Int×Int×Int):Prop×List D:=(vY w,[.s (.sc (.int .u64 (jV w)))])
theorem spec:jL E f85 aF (pG (.pair (sN .i64) (.pair (sN .i64) (sN .i64)))) sp:=by
 intro w h;refine(start w.1 w.2.1 w.2.2).trans ?_;rcases(show vY w from h)with rfl |rfl <;> rfl
def aJ:dK:=orc1 (pG (.pair (sN .i64) (.pair (sN .i64) (sN .i64)))) sp
theorem ok:OK 85 aJ:=(fJ E aF aD func85).qB rfl spec
end iN
namespace aIZ
def E:=mE [] 24 [] [(3,[0,1])] [3]
def aF:=bd f189
theorem aX:Nk E aF:=nk
def J3 a b:=mU E f189 aF 3 [iZ a,cA b]
theorem start a b:aI E f189 aF [D.s (ints u64 a),D.s (sc (int i64 b))]=letI A:=some [D.s (sc (bool false))];aB (decide (b<0)) A (aB (decide ((a.length:Int)<=i64.wrap (b.tdiv 64))) A (aIZ.J3 a b)):=eJ aX
theorem iL a b:J3 a b=letI A:=b.tdiv 64;if 0<=i64.wrap A/\i64.wrap A<(a.length:Int)then if b.tmod 64<(0:Int)then none else some [D.s (sc (bool (gN BinOp.and u64 (a.getD (i64.wrap A).toNat 0/(↑((2:Nat)^min (b.tmod 64).toNat 64):Int)) 1==(1:Int))))]else none:=cJ aX
def sp(a:List Int)(i:Int):Prop×List D:=(M6.dJ a/\a.length<=1099511627776/\-9223372036854775808<=i/\i<9223372036854775808,[.s (.sc (.bool (decide (0<=i)&&decide (M6.val a/2^i.toNat%2=1))))])
theorem aUR{x:Int}(h:0<=x)(h':x<18446744073709551616):gN .and .u64 x 1=x%2:=by
 rw[Zl h h' (by omega) (by omega)];have:x.toNat &&& 1=x.toNat%2:=Nat.and_one_is_mod _;show((x.toNat &&& 1:Nat):Int)=_;rw[this];omega
theorem spec:hI E f189 aF (pI .u64) (pN .i64) sp:=by
 rintro a i ⟨ha,hl,h1,h2⟩;refine(start a i).trans ?_;show _=some [D.s (.sc (.bool (decide (0<=i)&&decide (M6.val a/2^i.toNat%2=1))))]
 by_cases hn:i<0
 ·rw[aQ hn,decide_eq_false (show ¬0<=i by omega),cEC]
 ·have t1:i.tdiv 64=i/64:=cHH (by omega);have t2:i.tmod 64=i%64:=cHI (by omega);have e1:(i/64).toNat=i.toNat/64:=by omega
  have e2:(i%64).toNat=i.toNat%64:=by omega
  have ps:2^i.toNat=18446744073709551616^(i.toNat/64)*2^(i.toNat%64):=by
   rw[show(18446744073709551616:Nat)=2^64 from rfl,<-Nat.pow_mul,<-cDU];congr 1;omega
  rw[aL hn,decide_eq_true (show 0<=i by omega),cBV,t1,wrap_i64 (n:=i/64),ps,<-cEN]
  by_cases hz:(a.length:Int)<=i/64
  ·have hv:M6.val a/18446744073709551616^(i.toNat/64)=0:=by
    apply cEM;exact bZQ (M6.dW ha) (iC)
   rw[aQ hz,hv,cII];rfl
  ·have g:=ha.get (i.toNat/64);have hv:=M6.jR a (n:=i.toNat/64) (by omega);have hq:M6.val a/18446744073709551616^(i.toNat/64)=M6.val (a.drop (i.toNat/64)):=by
    rw[hv,cFY _ _ (cZ),cEM (M6.jA ha _),bYV]
   rw[aL hz,iL,t1,t2,wrap_i64 (n:=i/64),aW,aP,e1,e2,hq,M6.kJ];have em:min (i.toNat%64) 64=i.toNat%64:=by omega
   have kD:i.toNat%64<64:=cBB _ (by omega);rw[em];generalize i.toNat%64=k at *;generalize a.getD (i.toNat/64) 0=x at *;generalize M6.val (a.drop (i.toNat/64+1))=r at *;have hp:0<2^k:=cZ;have e3:(x.toNat+18446744073709551616*r)/2^k%2=x.toNat/2^k%2:=by
    have:18446744073709551616*r=2^k*(2*(2^(63-k)*r)):=by
     rw[show(18446744073709551616:Nat)=2^64 from rfl,show 64=k+(1+(63-k))from by omega,cDU,cDU,cDV,cDV]
    rw[this,cFY _ _ hp];omega
   rw[e3];have ex:x/((2^k:Nat):Int)=((x.toNat/2^k:Nat):Int):=by
    obtain⟨n,rfl⟩:=cDX g.1;rw[<-cEO];rfl
   have hle:x.toNat/2^k<=x.toNat:=cJD _ _;rw[ex];clear ex e3 hq hv ps;generalize x.toNat/2^k=q at *;rw[aUR (by omega) (by omega)];congr 4
   by_cases h:q%2=1
   ·rw[decide_eq_true h];have:((q:Int)%2)=1:=by omega
    rw[this];rfl
   ·rw[decide_eq_false h];have:((q:Int)%2)=0:=by omega
    rw[this];rfl
def aJ:dK:=orc2 (pI .u64) (pN .i64) sp
theorem ok:OK 189 aJ:=(fJ E aF aD func189).nF rfl spec
end aIZ
namespace nR
def E:=mE [] 34 [] [] []
def aF:=bd f225
theorem aX:Nk E aF:=nk
theorem start a b c d e:aI E f225 aF [D.s (sc (int i64 a)),D.s (sc (bool b)),D.s (sc (bool c)),D.s (sc (bool d)),D.s (sc (int i64 e))]=letI B:=some [D.s (sc (bool d))];letI A:=some [D.s (sc (bool false))];aB (a==0) (aB b B A) (aB (a==1) (aB (!b) B A) (aB (decide (0<e)) (some [D.s (sc (bool true))]) (aB (e==0) (some [D.s (sc (bool c))]) A))):=eJ aX
def nQ(w:Int)(neg bSU rest:Bool)(half:Int):Bool:=bif w==0 then neg&&rest else bif w==1 then !neg&&rest else(decide (0<half)||(half==0&&bSU))
def sp(a:Int)(b c d:Bool)(e:Int):Prop×List D:=(True,[.s (.sc (.bool (nQ a b c d e)))])
theorem spec(a:Int)(b c d:Bool)(e:Int)(h:(sp a b c d e).1):aI E f225 aF [(pN .i64).put a,pB.put b,pB.put c,pB.put d,(pN .i64).put e]=some (sp a b c d e).2:=by
 refine(start a b c d e).trans ?_;show _=some [D.s (.sc (.bool (nQ a b c d e)))];unfold nQ aB;cases (a==0) <;> cases (a==1) <;> cases b <;> cases c <;> cases d <;> cases (decide (0<e)) <;> cases (e==0) <;> rfl
def aJ:dK:=orc5 (pN .i64) pB pB pB (pN .i64) sp
theorem ok:OK 225 aJ:=(fJ E aF aD func225).bJN rfl spec
end nR
namespace oY
def E:=mE [] 7 [] [] []
def aF:=bd f95
theorem aX:Nk E aF:=nk
theorem start a:aI E f95 aF [D.s (sc (int u64 a))]=aB (a==0) (some [D.s (sc (slice none 0 0))]) (some [D.own 22 u64 [a]]):=eJ aX
def sp(w:Int):Prop×List D:=(0<=w/\w<18446744073709551616,[.s (.ints .u64 (M6.dg w.toNat))])
theorem spec:aPW E f95 aF (pN .u64) sp:=by
 intro w h;have e:=start w;obtain⟨h1,h2⟩:=h;unfold sp;simp only
 by_cases hz:w=0
 ·rw[cD hz]at e;subst hz;rw[show(0:Int).toNat=0 from rfl,M6.cT];exact⟨_,e,.cons (Ag.nil _) .nil⟩
 ·rw[bJ hz]at e;have:M6.dg w.toNat=[w]:=by
   rw[M6.qH (by omega),cJE (by omega),cEM (by omega),M6.cT];congr 1;omega
  rw[this];exact⟨_,e,.cons (Ag.own _ _ _) .nil⟩
def aJ:dK:=orc1 (pN .u64) sp
theorem ok:OK 95 aJ:=(fJ E aF aD func95).bCQ rfl spec
end oY
namespace Zr
def E:=mE [(189,aIZ.aJ),(225,nR.aJ),(99,By.aJ),(95,oY.aJ),(100,uY.aJ)] 39 [24,36] [] []
def aF:=bd f190
theorem aX:Nk E aF:=nk
theorem start a b c d e:aI E f190 aF [D.s (sc (int i64 a)),D.s (sc (bool b)),D.s (ints u64 c),D.s (sc (bool d)),D.s (sc (int i64 e))]=letI C:=M6.val c+M6.val (M6.dg 1);letI B:=bif cU.nL C then(0:Int)else(5:Int);letI A:=bif cU.nL C then M6.dg C else [];letI F:=bif B==0 then zs b (M6.val A)else(0:Int);aO (M6.dJ c/\c.length<=1099511627776/\(-9223372036854775808:Int)<=(0:Int)/\(0:Int)<(9223372036854775808:Int)) (aO True (aB (!nR.nQ a b (true&&decide (M6.val c/1%(2:Nat)=(1:Nat))) d e) (aO (M6.cV c/\c.length<=1099511627776) (some [D.agg [sc (bool (isNeg (zs b (M6.val c)))),ints u64 (M6.dg (zs b (M6.val c)).natAbs)],D.s (sc (int i64 0))])) (aO ((0:Int)<=(1:Int)/\(1:Int)<(18446744073709551616:Int)) (aO (M6.cV c/\M6.cV (M6.dg 1)/\c.length<=8192/\(M6.dg 1).length<=8192) (aO (M6.cV A/\A.length<=1099511627776) (some [D.agg [sc (bool (isNeg F)),ints u64 (M6.dg F.natAbs)],D.s (sc (int i64 B))])))))):=eJ aX
def sp(w:Int)(neg:Bool)(q:List Int)(rest:Bool)(half:Int):Prop×List D:=(M6.cV q/\q.length<=8192,
 wE (fit (M6.val q+bif nR.nQ w neg (decide (M6.val q%2=1)) rest half then 1 else 0)) (zs neg (M6.val q+bif nR.nQ w neg (decide (M6.val q%2=1)) rest half then 1 else 0)))
theorem spec(w:Int)(neg:Bool)(q:List Int)(rest:Bool)(half:Int)(h:(sp w neg q rest half).1):aI E f190 aF [(pN .i64).put w,pB.put neg,(pI .u64).put q,pB.put rest,(pN .i64).put half]=some (sp w neg q rest half).2:=by
 obtain⟨h1,h2⟩:=h;have hb:=zE h1.lM h2;refine(start w neg q rest half).trans ?_;unfold sp
 try dsimp only
 rw[gP ⟨h1.lM,by omega,by omega,by omega⟩,gP trivial,Nat.div_one,cBV];cases hm:nR.nQ w neg (decide (M6.val q%2=1)) rest half with
 |false =>
  have hf:fit (M6.val q+0)=true:=decide_eq_true (by rw[bZR];omega);rw[cKD,bT,gP ⟨h1,by omega⟩,cond_false,hf];rfl
 |true =>
  have o1:=gA (n:=1) (k:=1) (dG.2 (by omega));rw[cAT,bF,gP ⟨by omega,by omega⟩,gP ⟨h1,M6.aZ _,h2,by omega⟩,M6.bZ,gP (Lh (fun h=>by rw[show cU.nL _=_ from Cs]at h;exact yR h)),Kk,show cU.nL _=_ from Cs,cond_true]
def aJ:dK:=orc5 (pN .i64) pB (pI .u64) pB (pN .i64) sp
theorem ok:OK 190 aJ:=(fJ E aF (aA aIZ.ok (aA nR.ok (aA By.ok (aA oY.ok (aA uY.ok aD))))) func190).bJN rfl spec
end Zr
namespace nN
def E:=mE [(96,fW.aJ),(104,Gv.aJ),(103,Et.aJ),(189,aIZ.aJ),(190,Zr.aJ)] 61 [23,58] [(9,[0,2,4,6,8,10]),(14,[0,4,6,8,10,11])] [9,14]
def aF:=bd f149
theorem aX:Nk E aF:=nk
def J9 a b c d e f g:=mU E f149 aF 9 [cA a,cA b,dR 2 27 [cX c,gJ d],dR 3 27 [cX e,sc (slice none 0 0)],iZ f,Jv g]
def aKC a b c d e f g:=mU E f149 aF 14 [cA a,dR 1 27 [cX b,gJ c],dR 2 27 [cX d,sc (slice none 0 0)],iZ e,Jv f,cA g]
theorem start a b d c:aI E f149 aF [D.s (sc (int i64 a)),D.agg [sc (bool b),ints u64 d],D.s (sc (int i64 c))]=letI A:=M6.dg (M6.val d/(2:Nat)^c.toNat);aB (decide (c<0)) (some [D.agg [sc (bool false),sc (slice none 0 0)],D.s (sc (int i64 1))]) (aO (d.length<=1099511627776) (aB (!fW.oN (b,d)) (some [D.agg [sc (bool false),sc (slice none 0 0)],D.s (sc (int i64 2))]) (aO (M6.cV d/\d.length<=8192/\0<=c/\c<4611686018427387904) (aB (decide (0<(d.length:Int))) (aO (M6.dJ d/\d.length<=1099511627776) (nN.J9 a c b d false A (decide ((↑(tz (M6.val d)):Int)<c)))) (nN.J9 a c b d false A false))))):=eJ aX
theorem Zs a b c d e f g:J9 a b c d e f g=aO (M6.dJ d/\d.length<=1099511627776/\(-9223372036854775808:Int)<=i64.wrap (b-1)/\i64.wrap (b-1)<9223372036854775808) (aB (decide (0<=i64.wrap (b-1))&&decide (M6.val d/(2:Nat)^(i64.wrap (b-1)).toNat%2=(1:Nat))) (aO (M6.dJ d/\d.length<=1099511627776) (aB ((↑(tz (M6.val d)):Int)==i64.wrap (b-1)) (nN.aKC a c d e f g 0) (nN.aKC a c d e f g 1))) (nN.aKC a c d e f g (-1:Int))):=cJ aX
theorem Iy a b c d e f g:aKC a b c d e f g=letI A:=M6.val e+bif nR.nQ a b (decide (M6.val e%2=(1:Nat))) f g then(1:Nat)else(0:Nat);letI B:=bif fit A then zs b A else(0:Int);aO (M6.cV e/\e.length<=8192) (some [D.agg [sc (bool (isNeg B)),ints u64 (M6.dg B.natAbs)],D.s (sc (int i64 (bif fit A then(0:Int)else(5:Int))))]):=cJ aX
def aEI(v:Nat)(n:Int):Bool:=decide (v≠0)&&decide ((tz v:Int)<n)
def Nz(v:Nat)(n:Int):Int:=bif decide (0<=n-1)&&decide (v/2^(n-1).toNat%2=1)then(bif ((tz v:Int)==n-1)then 0 else 1)else -1
def vJ(w:Int)(neg:Bool)(v:Nat)(n:Int):Nat:=v/2^n.toNat+bif nR.nQ w neg (decide (v/2^n.toNat%2=1)) (aEI v n) (Nz v n)then 1 else 0
def sp(w:Int)(x:Bool×List Int)(n:Int):Prop×List D:=(gY x/\0<=n/\n<4611686018427387904,wE (fit (vJ w x.1 (M6.val x.2) n)) (zs x.1 (vJ w x.1 (M6.val x.2) n)))
theorem spec:pO E f149 aF (pN .i64) oZ (pN .i64) sp:=by
 rintro w x n ⟨hx,h0,h1⟩;refine(start w x.1 x.2 n).trans ?_;have l1:=hx.len;have f1:=fW.lK hx;have b1:=hx.bl;obtain⟨p,a⟩:=x;have n1:M6.cV a:=hx.1
 try dsimp only at *
 unfold sp
 try dsimp only
 have hq:=gA (n:=M6.val a/2^n.toNat) (k:=8192) (bZP (gM (cJD _ _)) b1);have j14:∀(r:Bool) (hf:Int),aKC w p a false (M6.dg (M6.val a/2^n.toNat)) r hf=some (wE (fit (M6.val a/2^n.toNat+bif nR.nQ w p (decide (M6.val a/2^n.toNat%2=1)) r hf then 1 else 0)) (zs p (M6.val a/2^n.toNat+bif nR.nQ w p (decide (M6.val a/2^n.toNat%2=1)) r hf then 1 else 0))):=by
  intro r hf;rw[Iy,gP ⟨M6.aZ _,hq⟩,M6.bZ];rfl
 have wn:i64.wrap (n-1)=n-1:=by rw[wrap_i64]
 have j9:∀r:Bool,J9 w n p a false (M6.dg (M6.val a/2^n.toNat)) r=some (wE (fit (M6.val a/2^n.toNat+bif nR.nQ w p (decide (M6.val a/2^n.toNat%2=1)) r (Nz (M6.val a) n)then 1 else 0)) (zs p (M6.val a/2^n.toNat+bif nR.nQ w p (decide (M6.val a/2^n.toNat%2=1)) r (Nz (M6.val a) n)then 1 else 0))):=by
  intro r;rw[Zs,wn,gP ⟨n1.lM,by omega,by omega,by omega⟩,j14,j14,j14,gP ⟨n1.lM,by omega⟩];unfold Nz aB;cases (decide (0<=n-1)&&decide (M6.val a/2^(n-1).toNat%2=1))with
  |false=>rfl
  |true=>cases ((tz (M6.val a):Int)==n-1) <;> rfl
 have hz:=M6.eF n1;rw[aL,gP,f1,cAT,bF,gP ⟨n1,l1,h0,h1⟩,j9,j9,gP ⟨n1.lM,by omega⟩];unfold vJ aEI
 by_cases h:M6.val a=0
 ·rw[aL (by have:=hz.2 h;omega),decide_eq_false (show ¬(M6.val a≠0) by omega),cEC]
 ·rw[aQ (by have:a.length≠0:=fun hl=>h (hz.1 hl);omega),decide_eq_true (show(M6.val a≠0) by omega),cBV]
def aJ:dK:=orc3 (pN .i64) oZ (pN .i64) sp
theorem ok:OK 149 aJ:=(fJ E aF (aA fW.ok (aA Gv.ok (aA Et.ok (aA aIZ.ok (aA Zr.ok aD))))) func149).zR rfl spec
end nN
namespace oD
def E:=mE [(149,nN.aJ)] 11 [8] [] []
def aF:=bd f107
theorem aX:Nk E aF:=nk
theorem start a c b:aI E f107 aF [D.agg [sc (bool a),ints u64 c],D.s (sc (int i64 b))]=letI A:=nN.vJ 2 a (M6.val c) b;letI B:=bif fit A then zs a A else(0:Int);aO (gY (a,c)/\0<=b/\b<4611686018427387904) (some [D.agg [sc (bool (isNeg B)),ints u64 (M6.dg B.natAbs)],D.s (sc (int i64 (bif fit A then(0:Int)else(5:Int))))]):=eJ aX
def zS(v:Nat)(n:Int):Nat:=nN.vJ 2 false v n
theorem aSQ(p:Bool)(v:Nat)(n:Int):nN.vJ 2 p v n=zS v n:=rfl
theorem small{v:Nat}{n:Int}(h:0<=n)(hb:bl v<=524288):fit (zS v n)=true:=by
 refine decide_eq_true (bZP (gM ?_) hb);unfold zS nN.vJ nR.nQ;rw[show((2:Int)==0)=false from rfl,show((2:Int)==1)=false from rfl,cond_false,cond_false];unfold nN.Nz
 by_cases hc:0<=n-1/\v/2^(n-1).toNat%2=1
 ·have hv:v≠0:=fun hz=>by rw[hz,cII]at hc;omega
  have hn:2^n.toNat=2^(n-1).toNat*2:=by rw[<-cDS];congr 1;omega
  have hp:=cBT (n:=(n-1).toNat) (show 0<2 by omega);have h1:v/2^n.toNat<=v/2:=cJI (by omega) (by omega);have h2:∀b:Bool,(bif b then(1:Nat)else 0)<=1:=by intro b;cases b <;> decide
  by_cases bXK:v=1
  ·subst bXK;have Bd:2^(n-1).toNat=1:=by
    rcases bZJ 1 (2^(n-1).toNat)with h |h
    ·rw[cEM h]at hc;omega
    ·omega
   have ht:tz 1=0:=by simp[tz]
   have aBM:n=1:=by
    rcases cKS (n-1).toNat with h |h
    ·omega
    ·have:=cBU (n:=2) (by omega) h;omega
   subst aBM;rw[ht];decide
  ·exact bZP (Nat.add_le_add h1 (h2 _)) (by omega)
 ·have:(decide (0<=n-1)&&decide (v/2^(n-1).toNat%2=1))=false:=by
   rw[cKM]
   by_cases h0:0<=n-1
   ·exact .inr (decide_eq_false fun h=>hc ⟨h0,h⟩)
   ·exact .inl (decide_eq_false h0)
  rw[this];exact bZP (Nat.le_of_eq (bZR _)) (cJD _ _)
def sp(x:Bool×List Int)(n:Int):Prop×List D:=(gY x/\0<=n/\n<4611686018427387904,[wD (zs x.1 (zS (M6.val x.2) n)),.s (.sc (.int .i64 0))])
theorem spec:hI E f107 aF oZ (pN .i64) sp:=by
 intro x n h;have h':=h;obtain⟨hx,h0,h1⟩:=h;refine(start x.1 x.2 n).trans ((gP h').trans ?_);unfold sp
 try dsimp only
 rw[aSQ,small h0 hx.bl];rfl
def aJ:dK:=orc2 oZ (pN .i64) sp
theorem ok:OK 107 aJ:=(fJ E aF (aA nN.ok aD) func107).nF rfl spec
end oD
namespace iR
def E:=mE [(106,tA.aJ),(85,iN.aJ),(107,oD.aJ),(48,Bz.aJ)] 71 [19] [(9,[3,8,9]),(12,[3,8,10])] [9,12]
def aF:=bd f54
theorem aX:Nk E aF:=nk
def J9 a b c d e f:=mU E f54 aF 9 [dR 0 98 [dC a,dC b,dC c],cA d,dR 2 27 [cX e,gJ f]]
def aQX a b c d e:=mU E f54 aF 12 [dR 0 98 [dC a,dC b,dC c],cA d,cY e]
theorem start a d e b c:aI E f54 aF [D.agg [sc (int i64 a),sc (int i64 d),sc (int i64 e)],D.s (ints u64 b),D.s (sc (int i64 c))]=letI G:=i64.wrap (c+(↑(bl (M6.val b)):Int))-1;letI A:=i64.wrap (i64.wrap G-a)+1;letI F:=zs false (oD.zS (M6.val b) (i64.wrap ((if d>i64.wrap A then d else i64.wrap A)-c)));letI B:=c-if d>i64.wrap A then d else i64.wrap A;letI C:=bif fit (M6.val b*(2:Nat)^(i64.wrap B).toNat)then wv (false,b)*(↑((2:Nat)^(i64.wrap B).toNat):Int)else(0:Int);aO (M6.dJ b/\b.length<=1099511627776) (aB (decide (1100<i64.wrap G)) (aO (iN.vY (a,d,e)) (aC (iN.jV (a,d,e)) fun f=>some [D.s (sc (int u64 f))])) (aB (decide (c<=if d>i64.wrap A then d else i64.wrap A)) (aO (gY (false,b)/\0<=i64.wrap ((if d>i64.wrap A then d else i64.wrap A)-c)/\i64.wrap ((if d>i64.wrap A then d else i64.wrap A)-c)<4611686018427387904) (aC (isNeg F) fun g=>aC (M6.dg F.natAbs) fun h=>iR.J9 a d e (if d>i64.wrap A then d else i64.wrap A) g h)) (aO (gY (false,b)/\0<=i64.wrap B/\i64.wrap B<4611686018427387904) (aC (isNeg C) fun i=>aC (M6.dg C.natAbs) fun j=>iR.J9 a d e (if d>i64.wrap A then d else i64.wrap A) i j)))):=eJ aX
theorem Zs a b c d e f:J9 a b c d e f=aB (decide (0<(f.length:Int))) (if(0:Int)<=(0:Int)/\0<(f.length:Int)then iR.aQX a b c d (f.getD 0 0)else none) (iR.aQX a b c d 0):=cJ aX
theorem Iz a b c d e:aQX a b c d e=letI A:=u64.wrap (u64.wrap (i64.wrap (d-b))*(↑((2:Nat)^min (i64.wrap (a-1)).toNat 64):Int))+e;if i64.wrap (a-1)<0 then none else aO (iN.vY (a,b,c)) (aC (iN.jV (a,b,c)) fun f=>some [D.s (sc (int u64 (if f<u64.wrap A then f else u64.wrap A)))]):=cJ aX
def gG(w:Int×Int×Int)(v:Nat)(e:Int):Int:=if w.2.1>e+(bl v:Nat)-1-w.1+1 then w.2.1 else e+(bl v:Nat)-1-w.1+1
def vG(w:Int×Int×Int)(v:Nat)(e:Int):Nat:=if e<=gG w v e then oD.zS v (gG w v e-e)else v*2^(e-gG w v e).toNat
def wJ(w:Int×Int×Int)(v:Nat)(e:Int):Int:=if 1100<e+(bl v:Nat)-1 then iN.jV w else(if iN.jV w<(gG w v e-w.2.1)*((2^(w.1-1).toNat:Nat):Int)+(vG w v e:Nat)then iN.jV w else(gG w v e-w.2.1)*((2^(w.1-1).toNat:Nat):Int)+(vG w v e:Nat))
theorem qD(v:Nat)(n:Int):oD.zS v n<=v/2^n.toNat+1:=by
 unfold oD.zS nN.vJ;generalize nR.nQ _ _ _ _ _=b;cases b
 ·exact Nat.le_succ _
 ·exact bYT _
theorem aKK{w:Int×Int×Int}(h:iN.vY w){v:Nat}(e:Int):vG w v e<=2^53:=by
 have hm:w.1<=53:=by rcases h with rfl |rfl <;> decide
 have aFH:1<=w.1:=by rcases h with rfl |rfl <;> decide
 have hu:e+(bl v:Nat)-1-w.1+1<=gG w v e:=by unfold gG;split <;> omega
 have hv:=wP v;unfold vG;split
 ·rename_i he;refine bZP (qD _ _) ?_;have:v/2^(gG w v e-e).toNat<2^53:=by
   apply cEL;rw[<-cDU];exact bZQ hv (iC)
  omega
 ·rename_i he;have h1:v*2^(e-gG w v e).toNat<=2^bl v*2^(e-gG w v e).toNat:=cAI _ (Nat.le_of_lt hv);rw[<-cDU]at h1;exact bZP h1 (iC)
def sp(w:Int×Int×Int)(b:List Int)(e:Int):Prop×List D:=(iN.vY w/\M6.cV b/\M6.val b≠0/\b.length<=8192/\-2000000<=e/\e<=2000000,[.s (.sc (.int .u64 (wJ w (M6.val b) e)))])
theorem spec:pO E f54 aF (pG (.pair (sN .i64) (.pair (sN .i64) (sN .i64)))) (pI .u64) (pN .i64) sp:=by
 rintro w b e ⟨ht,hn,hv,hl,aFN,aTH⟩;have hb:=zE hn.lM hl;have hm:w.1=24\/w.1=53:=by rcases ht with rfl |rfl <;> decide
 have bPW:-1074<=w.2.1/\w.2.1<=-149:=by rcases ht with rfl |rfl <;> decide
 refine(start w.1 w.2.1 w.2.2 b e).trans ?_;have w1:i64.wrap (i64.wrap (e+(bl (M6.val b):Int))-1)=e+(bl (M6.val b):Int)-1:=by
  rw[wrap_i64 (n:=e+_),wrap_i64]
 have w2:i64.wrap (i64.wrap (e+(bl (M6.val b):Int)-1-w.1)+1)=e+(bl (M6.val b):Int)-1-w.1+1:=by
  rw[wrap_i64 (n:=e+(bl (M6.val b):Int)-1-w.1) (by omega) (by omega),wrap_i64]
 have Pv:gY (false,b):=⟨hn,fun h=>(by cases h),hl⟩;have hu:(if w.2.1>e+(bl (M6.val b):Int)-1-w.1+1 then w.2.1 else e+(bl (M6.val b):Int)-1-w.1+1)=gG w (M6.val b) e:=rfl;unfold sp wJ
 try dsimp only
 rw[gP ⟨hn.lM,by omega⟩,w1,w2,hu];have bPH:gG w (M6.val b) e<=3000000/\-3000000<=gG w (M6.val b) e:=by unfold gG;split <;> omega
 by_cases hc:1100<e+(bl (M6.val b):Int)-1
 ·rw[aQ hc,if_pos hc,gP ht];simp only[aH]
 ·rw[aL hc,if_neg hc];have Nn:=aKK ht (v:=M6.val b) e;have bDZ:w.2.1<=gG w (M6.val b) e/\gG w (M6.val b) e-w.2.1<=2122/\(w.1=24->gG w (M6.val b) e-w.2.1<=2122):=by
   unfold gG;rcases ht with rfl |rfl <;> ((try dsimp only);split <;> omega)
  have hU:vG w (M6.val b) e=if e<=gG w (M6.val b) e then oD.zS (M6.val b) (gG w (M6.val b) e-e)else M6.val b*2^(e-gG w (M6.val b) e).toNat:=rfl
  have j9:∀(p:Bool) (m:Nat),m<=2^53->J9 w.1 w.2.1 w.2.2 (gG w (M6.val b) e) p (M6.dg m)=some [D.s (.sc (.int .u64 (if iN.jV w<(gG w (M6.val b) e-w.2.1)*((2^(w.1-1).toNat:Nat):Int)+(m:Nat)then iN.jV w else(gG w (M6.val b) e-w.2.1)*((2^(w.1-1).toNat:Nat):Int)+(m:Nat))))]:=by
   intro p m bUU;have hd0:(M6.dg m).getD 0 0=(m:Int):=by
    have h1:=M6.kJ (a:=M6.dg m) 0;rw[cFG,M6.bZ]at h1;have h2:=(M6.mF m).get 0;generalize M6.val ((M6.dg m).drop (0+1))=r at *;have:r=0:=by
     rcases cKS r with h |h
     ·exact h
     ·omega
    omega
   have j12:aQX w.1 w.2.1 w.2.2 (gG w (M6.val b) e) (m:Int)=some [D.s (.sc (.int .u64 (if iN.jV w<(gG w (M6.val b) e-w.2.1)*((2^(w.1-1).toNat:Nat):Int)+(m:Nat)then iN.jV w else(gG w (M6.val b) e-w.2.1)*((2^(w.1-1).toNat:Nat):Int)+(m:Nat))))]:=by
    rw[Iz,wrap_i64 (n:=w.1-1),aP,gP ht,wrap_i64 (n:=gG w (M6.val b) e-w.2.1),wrap_u64 (n:=gG w (M6.val b) e-w.2.1)];simp only[aH];have bBO:0<=gG w (M6.val b) e-w.2.1/\gG w (M6.val b) e-w.2.1<=2122:=by omega
    generalize gG w (M6.val b) e-w.2.1=u at *;have hmul:u64.wrap (u64.wrap (u*((2^min (w.1-1).toNat 64:Nat):Int))+(m:Int))=u*((2^(w.1-1).toNat:Nat):Int)+(m:Int):=by
     rcases hm with h |h
     ·rw[h];show u64.wrap (u64.wrap (u*8388608)+(m:Int))=u*8388608+(m:Int);rw[wrap_u64 (n:=u*8388608),wrap_u64]
     ·rw[h];show u64.wrap (u64.wrap (u*4503599627370496)+(m:Int))=u*4503599627370496+(m:Int);rw[wrap_u64 (n:=u*4503599627370496),wrap_u64]
    rw[hmul]
   have hz:=M6.jE (n:=m);rw[Zs]
   by_cases aFH:m=0
   ·rw[aL (by have:=hz.2 aFH;omega)];subst aFH;exact j12
   ·rw[aQ (by have:=fun h=>aFH (hz.1 h);omega),if_pos ⟨by omega,by have:=fun h=>aFH (hz.1 h);omega⟩,hd0,j12]
  rw[hU]at Nn ⊢
  by_cases hle:e<=gG w (M6.val b) e
  ·rw[if_pos hle]at Nn ⊢;rw[aQ hle,wrap_i64 (n:=gG w (M6.val b) e-e),gP ⟨Pv,by omega,by omega⟩];simp only[aH];rw[mB,j9 _ _ Nn]
  ·rw[if_neg hle]at Nn ⊢;have bED:fit (M6.val b*2^(e-gG w (M6.val b) e).toNat)=true:=decide_eq_true (by
    have:bl (M6.val b*2^(e-gG w (M6.val b) e).toNat)<=54:=dG.2 (by omega);omega)
   rw[aL hle,wrap_i64 (n:=e-gG w (M6.val b) e),gP ⟨Pv,by omega,by omega⟩];simp only[aH];have bTR:wv (false,b)=(M6.val b:Int):=rfl;rw[bED,cond_true,bTR,<-cEP,cEJ,j9 _ _ Nn]
def aJ:dK:=orc3 (pG (.pair (sN .i64) (.pair (sN .i64) (sN .i64)))) (pI .u64) (pN .i64) sp
theorem ok:OK 54 aJ:=(fJ E aF (aA tA.ok (aA iN.ok (aA oD.ok (aA Bz.ok aD)))) func54).zR rfl spec
end iR
namespace zL
def E:=mE [] 14 [] [] []
def aF:=bd f53
theorem aX:Nk E aF:=nk
theorem start a d e b c:aI E f53 aF [D.agg [sc (int i64 a),sc (int i64 d),sc (int i64 e)],D.s (sc (bool b)),D.s (sc (int u64 c))]=aB b (if e<0 then none else some [D.s (sc (int u64 (gN BinOp.or u64 c (u64.wrap ((1:Int)*(↑((2:Nat)^min e.toNat 64):Int))))))]) (some [D.s (sc (int u64 c))]):=eJ aX
def bBK(w:Int×Int×Int)(b:Bool)(c:Int):Int:=bif b then c+(if w.1=24 then 2147483648 else 9223372036854775808)else c
def sp(w:Int×Int×Int)(b:Bool)(c:Int):Prop×List D:=(iN.vY w/\0<=c/\c<=iN.jV w,[.s (.sc (.int .u64 (bBK w b c)))])
theorem spec:pO E f53 aF (pG (.pair (sN .i64) (.pair (sN .i64) (sN .i64)))) pB (pN .u64) sp:=by
 rintro w b c ⟨ht,h0,h1⟩;refine(start w.1 w.2.1 w.2.2 b c).trans ?_;unfold sp bBK;obtain⟨n,rfl⟩:=cDX h0;rcases ht with rfl |rfl
 ·have h1:(n:Int)<=2139095040:=h1;have e:=cHG (i:=31) (b:=n) (by omega) 1;cases b with
  |false=>rfl
  |true =>
   rw[bT,if_neg (by decide)];show some [D.s (.sc (.int .u64 (gN .or .u64 (n:Int) 2147483648)))]=_;rw[Xk (by omega) (by omega) (by omega) (by omega),cCQ,cHF];rw[bZD]at e;rw[show(2147483648:Int).toNat=2^31 from rfl,<-e];show some [D.s (.sc (.int .u64 ((2^31+n:Nat):Int)))]=some [D.s (.sc (.int .u64 ((n:Int)+2147483648)))];rw[cJP,Int.add_comm];rfl
 ·have h1:(n:Int)<=9218868437227405312:=h1;have e:=cHG (i:=63) (b:=n) (by omega) 1;cases b with
  |false=>rfl
  |true =>
   rw[bT,if_neg (by decide)];show some [D.s (.sc (.int .u64 (gN .or .u64 (n:Int) 9223372036854775808)))]=_;rw[Xk (by omega) (by omega) (by omega) (by omega),cCQ,cHF];rw[bZD]at e;rw[show(9223372036854775808:Int).toNat=2^63 from rfl,<-e];show some [D.s (.sc (.int .u64 ((2^63+n:Nat):Int)))]=some [D.s (.sc (.int .u64 ((n:Int)+9223372036854775808)))];rw[cJP,Int.add_comm];rfl
def aJ:dK:=orc3 (pG (.pair (sN .i64) (.pair (sN .i64) (sN .i64)))) pB (pN .u64) sp
theorem ok:OK 53 aJ:=(fJ E aF aD func53).zR rfl spec
end zL
namespace iS
def E:=mE [(52,uW.aJ),(45,mL.aJ),(54,iR.aJ),(53,zL.aJ)] 35 [34] [] []
def aF:=bd f15
theorem aX:Nk E aF:=nk
theorem start a b c d:aI E f15 aF [D.s (sc (int i64 a)),D.agg [sc (bool b),ints u64 c,sc (int i64 d)]]=letI A:=uW.vB a;aO True (aC A.snd.fst fun e=>aC A.snd.snd fun f=>letI B:=(A.fst,e,f);aB (A.fst==0&&(e==0&&(f==0&&true))) (some [D.s (sc (int u64 0)),D.s (sc (int i64 1))]) (aO (aR (b,c,d)) (aB ((c.length:Int)==(0:Int)) (some [D.s (sc (int u64 0)),D.s (sc (int i64 0))]) (aO (iN.vY B/\M6.cV c/\M6.val c≠0/\c.length<=8192/\(-2000000:Int)<=d/\d<=2000000) (aC (iR.wJ B (M6.val c) d) fun g=>aO (iN.vY B/\0<=g/\g<=iN.jV B) (aC (zL.bBK B b g) fun h=>some [D.s (sc (int u64 h)),D.s (sc (int i64 0))])))))):=eJ aX
def jY(f:Int)(p:Int×Int):Int:=if p.1=0 then 0 else zL.bBK (uW.vB f) (isNeg p.1) (iR.wJ (uW.vB f) p.1.natAbs p.2)
theorem Ha{f:Int}(h:f=32\/f=64):iN.vY (uW.vB f):=by
 rcases h with rfl |rfl
 ·exact .inl rfl
 ·exact .inr rfl
theorem aEB{w:Int×Int×Int}(h:iN.vY w)(v:Nat)(e:Int):0<=iR.wJ w v e/\iR.wJ w v e<=iN.jV w:=by
 have hi:0<=iN.jV w:=by unfold iN.jV;split <;> omega
 have hu:0<=iR.gG w v e-w.2.1:=by unfold iR.gG;split <;> omega
 have hm:=cKE hu (cIH (2^(w.1-1).toNat));unfold iR.wJ;split
 ·omega
 ·split <;> omega
def sp(f:Int)(x:gQ):Prop×List D:=((f=32\/f=64)/\aR x,[.s (.sc (.int .u64 (jY f (dv x)))),.s (.sc (.int .i64 0))])
theorem spec:hI E f15 aF (pN .i64) jO sp:=by
 rintro f x ⟨hf,hx⟩;have ht:=Ha hf;have he:=hx.2.1;refine(start f x.1 x.2.1 x.2.2).trans ?_;have h0:((uW.vB f).1==0)=false:=by rcases hf with rfl |rfl <;> rfl
 simp only[aH];rw[gP trivial,h0,cEC,bF,gP hx];have hz:=M6.eF hx.Jy;have hd:(dv x).1=wv (x.1,x.2.1):=rfl;have ha:(dv x).1.natAbs=M6.val x.2.1:=iT (x.1,x.2.1);have hs:isNeg (dv x).1=x.1:=hx.Ez.cells.1;unfold sp jY
 try dsimp only
 rw[ha,hs]
 by_cases hl:x.2.1.length=0
 ·rw[cD,if_pos (by have:=hz.1 hl;omega)]
 ·have hv:M6.val x.2.1≠0:=fun h=>hl (hz.2 h)
  have hb:=aEB ht (M6.val x.2.1) x.2.2;rw[bJ,aP,gP ⟨ht,hx.Jy,hv,hx.len,by omega,by omega⟩,gP ⟨ht,hb⟩];rfl
def aJ:dK:=orc2 (pN .i64) jO sp
theorem ok:OK 15 aJ:=(fJ E aF (aA uW.ok (aA mL.ok (aA iR.ok (aA zL.ok aD)))) func15).nF rfl spec
end iS
namespace jM
def E:=mE [(149,nN.aJ)] 11 [8] [] []
def aF:=bd f192
theorem aX:Nk E aF:=nk
theorem start a c b:aI E f192 aF [D.agg [sc (bool a),ints u64 c],D.s (sc (int i64 b))]=letI A:=nN.vJ 0 a (M6.val c) b;letI B:=bif fit A then zs a A else(0:Int);aO (gY (a,c)/\0<=b/\b<4611686018427387904) (some [D.agg [sc (bool (isNeg B)),ints u64 (M6.dg B.natAbs)],D.s (sc (int i64 (bif fit A then(0:Int)else(5:Int))))]):=eJ aX
theorem Xf{v:Nat}{n:Int}(h:0<=n):nN.aEI v n=decide (v%2^n.toNat≠0):=by
 unfold nN.aEI
 by_cases hv:v=0
 ·subst hv;rw[decide_eq_false (by omega),cEC,cGH];rfl
 ·rw[decide_eq_true hv,cBV];have hs:=uJ v hv;obtain⟨k,rfl⟩:=cDX h;rw[cCQ];generalize tz v=j at *
  by_cases hk:j<k
  ·have:v%2^k≠0:=by
    intro hm;have e1:v=2^k*(v/2^k):=by have:=cDZ v (2^k);omega
    have e2:v/2^j=2*(2^(k-j-1)*(v/2^k)):=by
     have hp:2^k=2^j*(2*2^(k-j-1)):=by
      rw[<-Nat.pow_succ',<-cDU];congr 1;omega
     generalize v/2^k=t at e1 ⊢;rw[e1,hp,cDV,Nat.mul_div_cancel_left _ (cBT (by decide)),cDV]
    omega
   rw[decide_eq_true (by omega),decide_eq_true this]
  ·have:v%2^k=0:=by
    have hp:2^j=2^k*2^(j-k):=by rw[<-cDU];congr 1;omega
    have e1:v=2^j*(v/2^j):=by have:=cDZ v (2^j);omega
    rw[e1,hp,cDV,Nat.mul_mod_right]
   rw[decide_eq_false (by omega),decide_eq_false (by omega)]
theorem down{p:Bool}{v:Nat}{n:Int}(h:0<=n):zs p (nN.vJ 0 p v n)=zs p v/((2^n.toNat:Nat):Int):=by
 unfold nN.vJ nR.nQ;rw[Xf h,show((0:Int)==0)=true from rfl,cond_true];have hp:0<2^n.toNat:=cZ;have hd:=cDZ v (2^n.toNat);have hm:=cBB v hp;generalize 2^n.toNat=q at *;cases p with
 |false =>
  rw[cEC,cond_false,bZR];show((v/q:Nat):Int)=(v:Int)/(q:Int);rw[cEO]
 |true =>
  rw[cBV];show -(((v/q+bif decide (v%q≠0)then 1 else 0:Nat)):Int)=-(v:Int)/(q:Int)
  by_cases hz:v%q=0
  ·rw[decide_eq_false (by omega),cond_false,bZR];have e:-(v:Int)=(q:Int)*(-((v/q:Nat):Int)):=by
    rw[cHL,<-cEP];omega
   rw[e,Int.mul_ediv_cancel_left _ (by omega)]
  ·rw[decide_eq_true hz,cond_true];have e:-(v:Int)=((q-v%q:Nat):Int)+(q:Int)*(-((v/q+1:Nat):Int)):=by
    rw[cHL,<-cEP,cDT];omega
   rw[e,Int.add_mul_ediv_left _ _ (by omega),Int.ediv_eq_zero_of_lt (by omega) (by omega),Int.zero_add]
theorem small{p:Bool}{v:Nat}{n:Int}(h:0<=n)(hb:bl v<=524288):fit (nN.vJ 0 p v n)=true:=by
 refine decide_eq_true (bZP (gM ?_) hb);unfold nN.vJ nR.nQ;rw[Xf h,show((0:Int)==0)=true from rfl,cond_true];have hp:0<2^n.toNat:=cZ
 by_cases hz:v%2^n.toNat=0
 ·rw[decide_eq_false (by omega),cEF,cond_false];exact cJD _ _
 ·have h2:2<=2^n.toNat:=by
   refine cBN fun hc=>hz ?_
   rw[show 2^n.toNat=1 from by omega,Nat.mod_one]
  have:v/2^n.toNat<=v/2:=cJI h2 (by omega);have hv:v≠0:=fun h=>hz (by rw[h,cGH])
  have:(bif p&&decide (v%2^n.toNat≠0)then(1:Nat)else 0)<=1:=by cases p <;> cases decide (v%2^n.toNat≠0) <;> decide
  omega
def sp(x:Bool×List Int)(n:Int):Prop×List D:=(gY x/\0<=n/\n<4611686018427387904,[wD (wv x/((2^n.toNat:Nat):Int)),.s (.sc (.int .i64 0))])
theorem spec:hI E f192 aF oZ (pN .i64) sp:=by
 intro x n h;have h':=h;obtain⟨hx,h0,h1⟩:=h;refine(start x.1 x.2 n).trans ((gP h').trans ?_);unfold sp
 try dsimp only
 rw[small h0 hx.bl];show some (wE true _)=_;rw[down h0];rfl
def aJ:dK:=orc2 oZ (pN .i64) sp
theorem ok:OK 192 aJ:=(fJ E aF (aA nN.ok aD) func192).nF rfl spec
end jM
namespace bBH
def E:=mE [(192,jM.aJ)] 22 [] [] []
def aF:=bd f150
theorem aX:Nk E aF:=nk
theorem start a d b c:aI E f150 aF [D.agg [sc (bool a),ints u64 d],D.s (sc (int i64 b)),D.s (sc (bool c))]=letI A:=wv (a,d)/(↑((2:Nat)^b.toNat):Int);aB c none (aO (gY (a,d)/\0<=b/\b<4611686018427387904) (some [D.agg [sc (bool (isNeg A)),ints u64 (M6.dg A.natAbs)]])):=eJ aX
def sp(x:Bool×List Int)(n:Int)(up:Bool):Prop×List D:=(gY x/\(0<=n/\n<4611686018427387904)/\up=false,[wD (wv x/((2^n.toNat:Nat):Int))])
theorem spec:pO E f150 aF oZ (pN .i64) pB sp:=by
 rintro x n up ⟨h1,h2,rfl⟩;refine(start x.1 x.2 n false).trans ?_;rw[bF,gP ⟨h1,h2⟩];rfl
def aJ:dK:=orc3 oZ (pN .i64) pB sp
theorem ok:OK 150 aJ:=(fJ E aF (aA jM.ok aD) func150).zR rfl spec
end bBH
namespace qN
def E:=mE [(45,mL.aJ),(46,nA.aJ),(47,Gx.aJ),(106,tA.aJ),(150,bBH.aJ),(50,jQ.aJ)] 49 [46] [(5,[1,2,3,6]),(8,[1,2,3,6,8])] [5,8]
def aF:=bd f108
theorem aX:Nk E aF:=nk
def J5 a b c d e f g:=mU E f108 aF 5 [cA a,Jv b,dR 2 29 [cX c,gJ d,dC e],dR 3 29 [cX f,sc (slice none 0 0),dC g]]
def J8 a b c d e f g h:=mU E f108 aF 8 [cA a,Jv b,dR 2 29 [cX c,gJ d,dC e],dR 3 29 [cX f,sc (slice none 0 0),dC g],cA h]
theorem start a d e b c:aI E f108 aF [D.agg [sc (bool a),ints u64 d,sc (int i64 e)],D.s (sc (int i64 b)),D.s (sc (bool c))]=letI A:=aO (d.length<=1099511627776) (some [D.agg [sc (bool a),ints u64 d,sc (int i64 e)],D.s (sc (int i64 0))]);aO (aR (a,d,e)) (aO True (aB ((d.length:Int)==(0:Int)) A (aB (decide (b<=e)) A (qN.J5 b c a d e false 0)))):=eJ aX
theorem Zt a b c d e f g:J5 a b c d e f g=letI A:=(↑(bl (M6.val d)):Int);aO (M6.dJ d/\d.length<=1099511627776) (aB (decide (a<i64.wrap (e+i64.wrap (A+(1:Int))))) (qN.J8 a b c d e f g (i64.wrap (a-e))) (qN.J8 a b c d e f g (i64.wrap (A+(1:Int))))):=cJ aX
theorem Dv a b c d e f g h:J8 a b c d e f g h=letI C:=wv (c,d)/(↑((2:Nat)^h.toNat):Int);letI A:=(isNeg C,M6.dg C.natAbs);letI B:=bif iF (wv A) a then aN (wv A) a else((0:Int),(0:Int));aO (gY (c,d)/\(0<=h/\h<4611686018427387904)/\b=false) (aO (gY A/\(-9223372036854775808:Int)<=a/\a<9223372036854775808) (some [D.agg [sc (bool (isNeg B.fst)),ints u64 (M6.dg B.fst.natAbs),sc (int i64 B.snd)],D.s (sc (int i64 (bif iF (wv A) a then(0:Int)else(5:Int))))])):=cJ aX
def Bh(p:Int×Int)(b:Int):Int×Int:=if p.1=0\/b<=p.2 then p else aN (p.1/((2^(b-p.2).toNat:Nat):Int)) b
def tR(p:Int×Int)(b:Int):Bool:=decide (p.1=0\/b<=p.2)||iF (p.1/((2^(b-p.2).toNat:Nat):Int)) b
def sp(x:gQ)(b:Int)(up:Bool):Prop×List D:=(aR x/\(-4611686018427387904<=b/\b<4611686018427387904)/\up=false,dE (tR (dv x) b) (Bh (dv x) b))
theorem spec:pO E f108 aF jO (pN .i64) pB sp:=by
 rintro x k up ⟨h,hk,rfl⟩;refine(start x.1 x.2.1 x.2.2 k false).trans ?_;have hl:=h.len;have hd:=h.dD;have hr:=h.2.1;have hb:=h.Ez.bl;have hw:=h.Ez;have hn:=h.Jy;obtain⟨b,a,e⟩:=x
 try dsimp only at *
 unfold sp
 try dsimp only
 have hz:=M6.eF hn;have ha:=iT (b,a)
 try dsimp only at ha hz
 rw[gP h,gP trivial];have same:((dv (b,a,e)).1=0\/k<=(dv (b,a,e)).2)->dE (tR (dv (b,a,e)) k) (Bh (dv (b,a,e)) k)=[D.agg [.sc (.bool b),.ints .u64 a,.sc (.int .i64 e)],.s (.sc (.int .i64 0))]:=by
  intro hc;unfold tR Bh;rw[decide_eq_true hc,cED,if_pos hc];show [M.dD (dv (b,a,e)),_]=_;rw[hd];rfl
 by_cases h0:a.length=0
 ·rw[cD,gP,same (.inl (by have:=hz.1 h0;show wv (b,a)=0;omega))]
 ·rw[bJ]
  by_cases h1:k<=e
  ·rw[aQ h1,gP,same (.inr h1)]
  ·have aHM:wv (b,a)≠0:=by have:M6.val a≠0:=fun h=>h0 (hz.2 h);omega
   have Aa:¬((dv (b,a,e)).1=0\/k<=(dv (b,a,e)).2):=by
    rintro (hc |hc)
    ·exact aHM hc
    ·exact h1 hc
   have j8:∀n:Int,0<=n->n<4611686018427387904->wv (b,a)/((2^n.toNat:Nat):Int)=wv (b,a)/((2^(k-e).toNat:Nat):Int)->J8 k false b a e false 0 n=some (dE (tR (dv (b,a,e)) k) (Bh (dv (b,a,e)) k)):=by
    intro n Di aBM he;have hq:bl (wv (b,a)/((2^(k-e).toNat:Nat):Int)).natAbs<=524288:=bZP (gM (uT (cBT (by decide)))) (by rw[ha];exact hb);rw[Dv,gP ⟨hw,⟨Di,aBM⟩,rfl⟩,he,gP ⟨gI hq,by omega,by omega⟩,nW];unfold tR Bh;rw[decide_eq_false Aa,cAU,if_neg Aa];rfl
   rw[aL h1,Zt,gP ⟨hn.lM,by omega⟩,wrap_i64 (n:=(bl (M6.val a):Int)+1) (by omega) (by omega),wrap_i64 (n:=e+((bl (M6.val a):Int)+1)) (by omega) (by omega),wrap_i64 (n:=k-e)]
   by_cases h2:k<e+((bl (M6.val a):Int)+1)
   ·rw[aQ h2,j8 _ (by omega) (by omega) rfl]
   ·rw[aL h2,j8 _ (by omega) (by omega) (bXR (by rw[ha];omega) (by rw[ha];omega))]
def aJ:dK:=orc3 jO (pN .i64) pB sp
theorem ok:OK 108 aJ:=(fJ E aF (aA mL.ok (aA nA.ok (aA Gx.ok (aA tA.ok (aA bBH.ok (aA jQ.ok aD)))))) func108).zR rfl spec
end qN
end W
namespace M
open Go AI W
theorem aIA{z e b:Int}(h:e<=b):qN.Bh (aN z e) b=aN (z/p2 (b-e)) b:=by
 unfold qN.Bh
 by_cases hz:z=0
 ·subst hz;rw[fN,if_pos (.inl rfl),Int.zero_ediv,fN]
 ·obtain⟨h1,h2⟩:=lI (e:=e) hz;have hn:(aN z e).1≠0:=fun h=>hz (dU.1 h)
  by_cases hb:b<=(aN z e).2
  ·rw[if_pos (.inr hb)];have g:=vD (e:=e) hz (cJL e);rw[cJQ,aEU,cKF]at g;have e1:p2 ((aN z e).2-e)=p2 ((aN z e).2-b)*p2 (b-e):=by rw[<-tJ (by omega) (by omega)];congr 1;omega
   rw[e1,<-cFA]at g;have hp:=Ef (b-e);have:z/p2 (b-e)=(aN z e).1*p2 ((aN z e).2-b):=by
    generalize aN z e=p at *;rw[<-g,Int.mul_ediv_cancel _ (by omega)]
   rw[this,Cq _ _ (by omega),show b+((aN z e).2-b)=(aN z e).2 by omega,Rn Eg Fo]
  ·rw[aP];have e1:p2 (b-e)=p2 (b-(aN z e).2)*p2 (tz z.natAbs:Int):=by rw[<-tJ (by omega) (by omega)];congr 1;omega
   rw[e1];have hp:=Ef (tz z.natAbs:Int);have:z/(p2 (b-(aN z e).2)*p2 (tz z.natAbs:Int))=(aN z e).1/p2 (b-(aN z e).2):=by
    generalize aN z e=p at *;generalize p2 (tz z.natAbs:Int)=q at *;rw[h1,cKW _ _ hp]
   rw[this];rfl
theorem aBY{z e b:Int}(_:e<=b)(hb0:-1048576<=b)(hb:b+((bl (z/p2 (b-e)).natAbs:Nat):Int)<=1048577):qN.tR (aN z e) b=true:=by
 unfold qN.tR
 by_cases hc:(aN z e).1=0\/b<=(aN z e).2
 ·rw[decide_eq_true hc,cED]
 ·have hz:z≠0:=fun h=>hc (.inl (dU.2 h))
  obtain⟨h1,h2⟩:=lI (e:=e) hz;have e1:p2 (b-e)=p2 (b-(aN z e).2)*p2 (tz z.natAbs:Int):=by rw[<-tJ (by omega) (by omega)];congr 1;omega
  have hp:=Ef (tz z.natAbs:Int);have:z/p2 (b-e)=(aN z e).1/p2 (b-(aN z e).2):=by
   rw[e1];generalize aN z e=p at *;generalize p2 (tz z.natAbs:Int)=q at *;rw[h1,cKW _ _ hp]
  rw[this]at hb;rw[decide_eq_false hc,cAU];exact iD hb0 hb
end M
namespace W
open Go AI M
namespace aG
def E:=mE [] 11 [] [] []
def aF:=bd f78
theorem aX:Nk E aF:=nk
theorem start a:aI E f78 aF [D.s (sc (int i64 a))]=letI A:=int i64 0;aB (a==32) (some [D.agg [sc (int i64 32),sc (int i64 24),sc (int i64 (-149:Int)),sc (int u64 2143289345)]]) (aB (a==64) (some [D.agg [sc (int i64 64),sc (int i64 53),sc (int i64 (-1074:Int)),sc (int u64 9221120237041090561)]]) (some [D.agg [sc A,sc A,sc A,sc (int u64 0)]])):=eJ aX
def fD(f:Int):Int×Int×Int×Int:=if f=32 then(32,24,-149,2143289345)else if f=64 then(64,53,-1074,9221120237041090561)else(0,0,0,0)
def bCW(s:Int×Int×Int×Int):D:=.agg [.sc (.int .i64 s.1),.sc (.int .i64 s.2.1),.sc (.int .i64 s.2.2.1),.sc (.int .u64 s.2.2.2)]
def vY(s:Int×Int×Int×Int):Prop:=s=(32,24,-149,2143289345)\/s=(64,53,-1074,9221120237041090561)
theorem two32:vY (32,24,-149,2143289345):=.inl rfl
theorem uE:vY (64,53,-1074,9221120237041090561):=.inr rfl
def sp(f:Int):Prop×List D:=(True,[bCW (fD f)])
theorem spec:jL E f78 aF (pN .i64) sp:=by
 intro f h;refine(start f).trans ?_;unfold sp fD
 try dsimp only
 by_cases h1:f=32
 ·rw[cD h1,if_pos h1];rfl
 ·rw[bJ h1,if_neg h1]
  by_cases h2:f=64
  ·rw[cD h2,if_pos h2];rfl
  ·rw[bJ h2,if_neg h2];rfl
def aJ:dK:=orc1 (pN .i64) sp
theorem ok:OK 78 aJ:=(fJ E aF aD func78).qB rfl spec
end aG
namespace bV
def E:=mE [] 7 [] [] []
def aF:=bd f135
theorem aX:Nk E aF:=nk
theorem start a b c d:aI E f135 aF [D.agg [sc (int i64 a),sc (int i64 b),sc (int i64 c),sc (int u64 d)]]=if i64.wrap (a-1)<0 then none else some [D.s (sc (int u64 (u64.wrap ((1:Int)*(↑((2:Nat)^min (i64.wrap (a-1)).toNat 64):Int)))))]:=eJ aX
def cE(s:Int×Int×Int×Int):Int:=if s.1=32 then 2147483648 else 9223372036854775808
def sp(s:Int×Int×Int×Int):Prop×List D:=(aG.vY s,[.s (.sc (.int .u64 (cE s)))])
theorem spec:jL E f135 aF (pG (.pair (sN .i64) (.pair (sN .i64) (.pair (sN .i64) (sN .u64))))) sp:=by
 intro s h;refine(start s.1 s.2.1 s.2.2.1 s.2.2.2).trans ?_;rcases h with rfl |rfl
 ·rfl
 ·rfl
def aJ:dK:=orc1 (pG (.pair (sN .i64) (.pair (sN .i64) (.pair (sN .i64) (sN .u64))))) sp
theorem ok:OK 135 aJ:=(fJ E aF aD func135).qB rfl spec
end bV
namespace cC
def E:=mE [(78,aG.aJ),(135,bV.aJ)] 36 [] [(6,[1,4,8])] [6]
def aF:=bd f77
theorem aX:Nk E aF:=nk
def J6 a b c d e f g h i:=mU E f77 aF 6 [cY a,dR 1 84 [dC b,dC c,dC d,aAK e],dR 2 84 [dC f,dC g,dC h,aAK i]]
theorem start a b:aI E f77 aF [D.s (sc (int i64 a)),D.s (sc (int u64 b))]=letI A:=aG.fD a;letI G:=int i64 A.snd.fst;letI F:=int u64 A.snd.snd.snd;letI C:=int i64 A.snd.snd.fst;letI B:=cC.J6 b 0 0 0 0 A.fst A.snd.fst A.snd.snd.fst A.snd.snd.snd;aO True (aB (A.fst==0&&(A.snd.fst==0&&(A.snd.snd.fst==0&&(A.snd.snd.snd==0&&true)))) (some [D.agg [sc (int i64 A.fst),sc G,sc C,sc F],D.s (sc (bool false)),D.s (sc (int u64 0)),D.s (sc (int i64 1))]) (aB (decide (A.fst<64)) (if A.fst<0 then none else aB (b/(↑((2:Nat)^min A.fst.toNat 64):Int) !=(0:Int)) (some [D.agg [sc (int i64 A.fst),sc G,sc C,sc F],D.s (sc (bool false)),D.s (sc (int u64 0)),D.s (sc (int i64 2))]) B) B)):=eJ aX
theorem Js a b c d e f g h i:J6 a b c d e f g h i=letI A:=(f,g,h,i);aO (aG.vY A) (aO (aG.vY A) (some [D.agg [sc (int i64 f),sc (int i64 g),sc (int i64 h),sc (int u64 i)],D.s (sc (bool (gN BinOp.and u64 a (bV.cE A) !=0))),D.s (sc (int u64 (gN BinOp.andNot u64 a (bV.cE A)))),D.s (sc (int i64 0))])):=cJ aX
theorem Zk{a b:Int}(ha:0<=a)(bIG:a<18446744073709551616)(hb:0<=b)(pW:b<18446744073709551616):gN .andNot .u64 a b=((a.toNat &&& (2^64-(b.toNat+1)):Nat):Int):=by
 obtain⟨n,rfl⟩:=cDX ha;obtain⟨m,rfl⟩:=cDX hb;rw[xX];unfold bitsI0;simp only;have e:(BitVec.ofInt u64.bits (n:Int) &&& ~~~ BitVec.ofInt u64.bits (m:Int)).toNat=n &&& (2^64-(m+1)):=by
  show(BitVec.ofInt 64 (n:Int) &&& ~~~ BitVec.ofInt 64 (m:Int)).toNat=_;rw[BitVec.toNat_and,BitVec.toNat_not];have e1:(BitVec.ofInt 64 (n:Int)).toNat=n:=by simp;omega
  have e2:(BitVec.ofInt 64 (m:Int)).toNat=m:=by simp;omega
  rw[e1,e2];congr 1;omega
 have hle:n &&& (2^64-(m+1))<=n:=Nat.and_le_left;rw[e,wrap_u64];rfl
theorem Sk{n k:Nat}(hk:k<64)(h:n<2^(k+1)):n &&& (2^64-(2^k+1))=n%2^k:=by
 refine cJV fun i=>?_
 have hp:2^k<2^64:=cGC (by decide) hk;rw[cJT,cKO hp,cJN,cKG]
 by_cases h1:i<k
 ·have:¬k=i:=by omega
  have bQY:i<64:=by omega
  simp[h1,this,bQY]
 ·by_cases h2:i=k
  ·subst h2;simp
  ·have:n<2^i:=bZQ h (cBU (by decide) (by omega));rw[cKX this];simp
theorem aDM{n k:Nat}(h:n<2^(k+1)):(n &&& 2^k)=if 2^k<=n then 2^k else 0:=by
 refine cJV fun i=>?_
 rw[cJT,cKG]
 by_cases h1:2^k<=n
 ·have ht:n.testBit k=true:=by
   rw[Nat.testBit_eq_decide_div_mod_eq];have:=cJJ (k:=1) (show 1*2^k<=n by omega) (show n<(1+1)*2^k by rw[cDS]at h;omega);rw[this];rfl
  rw[if_pos h1,cKG]
  by_cases hi:k=i
  ·subst hi;simp[ht]
  ·simp[hi]
 ·rw[if_neg h1,Nat.zero_testBit]
  by_cases hi:k=i
  ·subst hi;rw[cKX (by omega)];rfl
  ·simp[hi]
def fB(f b:Int):Bool:=decide (f=64)||decide (b<4294967296)
def sp(f b:Int):Prop×List D:=((f=32\/f=64)/\0<=b/\b<18446744073709551616,[aG.bCW (aG.fD f),.s (.sc (.bool (fB f b&&decide (bV.cE (aG.fD f)<=b)))),.s (.sc (.int .u64 (bif fB f b then b%bV.cE (aG.fD f)else 0))),.s (.sc (.int .i64 (bif fB f b then 0 else 2)))])
theorem spec:hI E f77 aF (pN .i64) (pN .u64) sp:=by
 rintro f b ⟨hf,h0,h1⟩;obtain⟨n,rfl⟩:=cDX h0;refine(start f n).trans ((gP trivial).trans ?_);unfold sp
 try dsimp only
 rcases hf with rfl |rfl
 ·rw[show aG.fD 32=(32,24,-149,2143289345)from rfl]
  try dsimp only
  rw[Vm (by decide),aQ (by decide),if_neg (by decide),show min (32:Int).toNat 64=32 from rfl,show bV.cE (32,24,-149,2143289345)=2147483648 from rfl]
  by_cases hc:(n:Int)<4294967296
  ·have hp:fB 32 n=true:=by unfold fB;rw[decide_eq_true hc,Bool.or_true]
   have a1:gN .and .u64 (n:Int) 2147483648=if(2147483648:Int)<=n then 2147483648 else 0:=by
    rw[Zl (by omega) (by omega) (by omega) (by omega),cCQ];have:=aDM (n:=n) (k:=31) (by omega);rw[show(2147483648:Int).toNat=2^31 from rfl,this];split <;> split <;> first |rfl |omega
   have a2:gN .andNot .u64 (n:Int) 2147483648=(n:Int)%2147483648:=by
    rw[Zk (by omega) (by omega) (by omega) (by omega),cCQ,show(2147483648:Int).toNat=2^31 from rfl,Sk (by omega) (by omega)];omega
   rw[gF,Js,gP aG.two32,gP aG.two32,show bV.cE (32,24,-149,2143289345)=2147483648 from rfl,a1,a2,hp]
   by_cases hd:(2147483648:Int)<=n
   ·rw[if_pos hd,decide_eq_true hd];rfl
   ·rw[if_neg hd,decide_eq_false hd];rfl
  ·have hp:fB 32 n=false:=by unfold fB;rw[decide_eq_false hc];rfl
   rw[nZ,hp];rfl
 ·rw[show aG.fD 64=(64,53,-1074,9221120237041090561)from rfl]
  try dsimp only
  have hp:fB 64 n=true:=rfl;have a1:gN .and .u64 (n:Int) 9223372036854775808=if(9223372036854775808:Int)<=n then 9223372036854775808 else 0:=by
   rw[Zl (by omega) (by omega) (by omega) (by omega),cCQ];have:=aDM (n:=n) (k:=63) (by omega);rw[show(9223372036854775808:Int).toNat=2^63 from rfl,this];split <;> split <;> first |rfl |omega
  have a2:gN .andNot .u64 (n:Int) 9223372036854775808=(n:Int)%9223372036854775808:=by
   rw[Zk (by omega) (by omega) (by omega) (by omega),cCQ,show(9223372036854775808:Int).toNat=2^63 from rfl,Sk (by omega) (by omega)];omega
  rw[Vm (by decide),aL (by decide),Js,gP aG.uE,gP aG.uE,show bV.cE (64,53,-1074,9221120237041090561)=9223372036854775808 from rfl,a1,a2,hp]
  by_cases hd:(9223372036854775808:Int)<=n
  ·rw[if_pos hd,decide_eq_true hd];rfl
  ·rw[if_neg hd,decide_eq_false hd];rfl
def aJ:dK:=orc2 (pN .i64) (pN .u64) sp
theorem ok:OK 77 aJ:=(fJ E aF (aA aG.ok (aA bV.ok aD)) func77).nF rfl spec
end cC
namespace cK
def E:=mE [] 7 [] [] []
def aF:=bd f94
theorem aX:Nk E aF:=nk
theorem start a b c d:aI E f94 aF [D.agg [sc (int i64 a),sc (int i64 b),sc (int i64 c),sc (int u64 d)]]=if i64.wrap (b-1)<0 then none else some [D.s (sc (int u64 (u64.wrap ((1:Int)*(↑((2:Nat)^min (i64.wrap (b-1)).toNat 64):Int)))))]:=eJ aX
def kV(s:Int×Int×Int×Int):Int:=if s.1=32 then 8388608 else 4503599627370496
def sp(s:Int×Int×Int×Int):Prop×List D:=(aG.vY s,[.s (.sc (.int .u64 (kV s)))])
theorem spec:jL E f94 aF (pG (.pair (sN .i64) (.pair (sN .i64) (.pair (sN .i64) (sN .u64))))) sp:=by
 intro s h;refine(start s.1 s.2.1 s.2.2.1 s.2.2.2).trans ?_;rcases h with rfl |rfl
 ·rfl
 ·rfl
def aJ:dK:=orc1 (pG (.pair (sN .i64) (.pair (sN .i64) (.pair (sN .i64) (sN .u64))))) sp
theorem ok:OK 94 aJ:=(fJ E aF aD func94).qB rfl spec
end cK
namespace jU
def E:=mE [(135,bV.aJ),(94,cK.aJ)] 8 [] [] []
def aF:=bd f81
theorem aX:Nk E aF:=nk
theorem start a b c d:aI E f81 aF [D.agg [sc (int i64 a),sc (int i64 b),sc (int i64 c),sc (int u64 d)]]=letI A:=(a,b,c,d);aO (aG.vY A) (aO (aG.vY A) (some [D.s (sc (int u64 (u64.wrap (bV.cE A-cK.kV A))))])):=eJ aX
def lR(s:Int×Int×Int×Int):Int:=if s.1=32 then 2139095040 else 9218868437227405312
def sp(s:Int×Int×Int×Int):Prop×List D:=(aG.vY s,[.s (.sc (.int .u64 (lR s)))])
theorem spec:jL E f81 aF (pG (.pair (sN .i64) (.pair (sN .i64) (.pair (sN .i64) (sN .u64))))) sp:=by
 intro s h;refine(start s.1 s.2.1 s.2.2.1 s.2.2.2).trans ((gP h).trans ((gP h).trans ?_));rcases h with rfl |rfl
 ·rfl
 ·rfl
def aJ:dK:=orc1 (pG (.pair (sN .i64) (.pair (sN .i64) (.pair (sN .i64) (sN .u64))))) sp
theorem ok:OK 81 aJ:=(fJ E aF (aA bV.ok (aA cK.ok aD)) func81).qB rfl spec
end jU
namespace cN
def E:=mE [(77,cC.aJ),(81,jU.aJ)] 33 [15] [] []
def aF:=bd f42
theorem aX:Nk E aF:=nk
theorem start a b:aI E f42 aF [D.s (sc (int i64 a)),D.s (sc (int u64 b))]=letI F:=bif cC.fB a b then(0:Int)else(2:Int);letI B:=aG.fD a;letI I:=int i64 B.snd.fst;letI H:=int u64 B.snd.snd.snd;letI G:=int i64 B.snd.snd.fst;letI C:=(B.fst,B.snd.fst,B.snd.snd.fst,B.snd.snd.snd);letI A:=some [D.agg [sc (int i64 B.fst),sc I,sc G,sc H],D.s (sc (bool (cC.fB a b&&decide (bV.cE B<=b)))),D.s (sc (int u64 (bif cC.fB a b then b%bV.cE B else(0:Int)))),D.s (sc (int i64 F))];aO ((a=32\/a=64)/\0<=b/\b<18446744073709551616) (aB (F==0) (aO (aG.vY C) (aB (decide (jU.lR C<=bif cC.fB a b then b%bV.cE B else(0:Int))) (some [D.agg [sc (int i64 B.fst),sc I,sc G,sc H],D.s (sc (bool false)),D.s (sc (int u64 0)),D.s (sc (int i64 6))]) A)) A):=eJ aX
def jW(f b:Int):Bool:=decide (b%bV.cE (aG.fD f)<jU.lR (aG.fD f))
theorem Cl{f:Int}(h:f=32\/f=64):aG.vY (aG.fD f):=by
 rcases h with rfl |rfl
 ·exact .inl rfl
 ·exact .inr rfl
def sp(f b:Int):Prop×List D:=((f=32\/f=64)/\0<=b/\b<18446744073709551616,[aG.bCW (aG.fD f),.s (.sc (.bool (cC.fB f b&&(jW f b&&decide (bV.cE (aG.fD f)<=b))))),.s (.sc (.int .u64 (bif cC.fB f b&&jW f b then b%bV.cE (aG.fD f)else 0))),.s (.sc (.int .i64 (bif cC.fB f b then(bif jW f b then 0 else 6)else 2)))])
theorem spec:hI E f42 aF (pN .i64) (pN .u64) sp:=by
 intro f b h;refine(start f b).trans ((gP h).trans ?_);unfold sp jW
 try dsimp only
 have ht:=Cl h.1;generalize aG.fD f=s at *;obtain⟨s1,s2,s3,s4⟩:=s;cases hp:cC.fB f b with
 |false=>rfl
 |true =>
  try dsimp only[cond_true,cBV]
  rw[cD rfl,gP ht]
  by_cases hc:b%bV.cE (s1,s2,s3,s4)<jU.lR (s1,s2,s3,s4)
  ·rw[aL,decide_eq_true hc];rfl
  ·rw[aQ,decide_eq_false hc];rfl
def aJ:dK:=orc2 (pN .i64) (pN .u64) sp
theorem ok:OK 42 aJ:=(fJ E aF (aA cC.ok (aA jU.ok aD)) func42).nF rfl spec
end cN
namespace dO
def E:=mE [(94,cK.aJ)] 31 [] [] []
def aF:=bd f43
theorem aX:Nk E aF:=nk
theorem start a c d e b:aI E f43 aF [D.agg [sc (int i64 a),sc (int i64 c),sc (int i64 d),sc (int u64 e)],D.s (sc (int u64 b))]=letI B:=(a,c,d,e);letI C:=aG.vY B;letI A:=cK.kV B;aO C (if cK.kV B=0 then none else aO C (if cK.kV B=0 then none else aB (u64.wrap (b.tdiv A)==0) (some [D.s (sc (int u64 (b.tmod A))),D.s (sc (int i64 d))]) (aO C (some [D.s (sc (int u64 (u64.wrap (cK.kV B+b.tmod A)))),D.s (sc (int i64 (i64.wrap (i64.wrap (d+i64.wrap (u64.wrap (b.tdiv A)))-1))))])))):=eJ aX
def pV(s:Int×Int×Int×Int)(n:Int):Int:=if n/cK.kV s=0 then n%cK.kV s else cK.kV s+n%cK.kV s
def tT(s:Int×Int×Int×Int)(n:Int):Int:=if n/cK.kV s=0 then s.2.2.1 else s.2.2.1+n/cK.kV s-1
def sp(s:Int×Int×Int×Int)(n:Int):Prop×List D:=(aG.vY s/\0<=n/\n<9223372036854775808,[.s (.sc (.int .u64 (pV s n))),.s (.sc (.int .i64 (tT s n)))])
theorem spec:hI E f43 aF (pG (.pair (sN .i64) (.pair (sN .i64) (.pair (sN .i64) (sN .u64))))) (pN .u64) sp:=by
 rintro s n ⟨ht,h0,h1⟩;obtain⟨s1,s2,s3,s4⟩:=s;refine(start s1 s2 s3 s4 n).trans ?_;have hh:cK.kV (s1,s2,s3,s4)=8388608\/cK.kV (s1,s2,s3,s4)=4503599627370496:=by
  unfold cK.kV;split <;> simp
 have hs:-1074<=s3/\s3<=0:=by rcases ht with ht |ht <;> (cases ht;omega)
 unfold sp pV tT
 try dsimp only
 rw[gP ht,gP ht,gP ht];generalize cK.kV (s1,s2,s3,s4)=d at *;have t1:n.tdiv d=n/d:=cHH h0;have t2:n.tmod d=n%d:=cHI h0;have b1:0<=n/d/\n/d<9223372036854775808:=by rcases hh with rfl |rfl <;> omega
 have b2:0<=n%d/\n%d<4503599627370496:=by rcases hh with rfl |rfl <;> omega
 rw[t1,t2,aP,aP,wrap_u64 (n:=n/d)]
 by_cases hz:n/d=0
 ·rw[cD hz,if_pos hz,if_pos hz]
 ·rw[bJ hz,if_neg hz,if_neg hz,wrap_u64,wrap_i64 (n:=n/d),wrap_i64 (n:=s3+n/d),wrap_i64]
def aJ:dK:=orc2 (pG (.pair (sN .i64) (.pair (sN .i64) (.pair (sN .i64) (sN .u64))))) (pN .u64) sp
theorem ok:OK 43 aJ:=(fJ E aF (aA cK.ok aD) func43).nF rfl spec
end dO
namespace Wm
def E:=mE [(95,oY.aJ),(50,jQ.aJ)] 20 [17] [] []
def aF:=bd f44
theorem aX:Nk E aF:=nk
theorem start a b c:aI E f44 aF [D.s (sc (bool a)),D.s (sc (int u64 b)),D.s (sc (int i64 c))]=letI G:=(b !=0,M6.dg b.toNat);letI F:=wv (bif true then b !=0 else false,M6.dg b.toNat);letI C:=(false,M6.dg b.toNat);letI B:=bif iF (wv C) c then aN (wv C) c else((0:Int),(0:Int));letI A:=bif iF F c then aN F c else((0:Int),(0:Int));aB a (aO (0<=b/\b<18446744073709551616) (aO (gY G/\(-9223372036854775808:Int)<=c/\c<9223372036854775808) (some [D.agg [sc (bool (isNeg A.fst)),ints u64 (M6.dg A.fst.natAbs),sc (int i64 A.snd)],D.s (sc (int i64 (bif iF (wv G) c then(0:Int)else(5:Int))))]))) (aO (0<=b/\b<18446744073709551616) (aO (gY C/\(-9223372036854775808:Int)<=c/\c<9223372036854775808) (some [D.agg [sc (bool (isNeg B.fst)),ints u64 (M6.dg B.fst.natAbs),sc (int i64 B.snd)],D.s (sc (int i64 (bif iF (wv C) c then(0:Int)else(5:Int))))]))):=eJ aX
def sp(a:Bool)(b c:Int):Prop×List D:=((0<=b/\b<18446744073709551616)/\-9223372036854775808<=c/\c<9223372036854775808,dE (iF (zs a b.toNat) c) (aN (zs a b.toNat) c))
theorem spec:pO E f44 aF pB (pN .u64) (pN .i64) sp:=by
 rintro a b c ⟨hb,hc⟩;refine(start a b c).trans ?_;have hl:=gA (n:=b.toNat) (k:=1) (dG.2 (by omega));have aUX:∀s:Bool,wv (s,M6.dg b.toNat)=zs s b.toNat:=fun s=>by show zs s (M6.val (M6.dg b.toNat))=_;rw[M6.bZ]
 have h0:gY (false,M6.dg b.toNat):=⟨M6.aZ _,fun h=>Bool.noConfusion h,(by omega:(M6.dg b.toNat).length<=8192)⟩;cases a with
 |false =>
  rw[bF,gP hb,gP ⟨h0,hc⟩,aUX];rfl
 |true =>
  have h1:gY (b !=0,M6.dg b.toNat):=⟨M6.aZ _,fun h=>by
   have hb0:b≠0:=bne_iff_ne.1 h;show M6.val (M6.dg b.toNat)≠0;rw[M6.bZ];omega,by show(M6.dg b.toNat).length<=8192;omega⟩
  have e:zs (b !=0) b.toNat=zs true b.toNat:=by
   by_cases hb0:b=0
   ·subst hb0;rfl
   ·rw[bne_iff_ne.2 hb0]
  rw[bT]
  try dsimp only[cond_true]
  rw[gP hb,gP ⟨h1,hc⟩,aUX,e];rfl
def aJ:dK:=orc3 pB (pN .u64) (pN .i64) sp
theorem ok:OK 44 aJ:=(fJ E aF (aA oY.ok (aA jQ.ok aD)) func44).zR rfl spec
end Wm
namespace bC
def E:=mE [(42,cN.aJ),(43,dO.aJ),(44,Wm.aJ)] 36 [15,33] [] []
def aF:=bd f12
theorem aX:Nk E aF:=nk
theorem start a b:aI E f12 aF [D.s (sc (int i64 a)),D.s (sc (int u64 b))]=letI H:=bif cC.fB a b then bif cN.jW a b then(0:Int)else(6:Int)else(2:Int);letI C:=aG.fD a;letI F:=(C.fst,C.snd.fst,C.snd.snd.fst,C.snd.snd.snd);letI B:=bif cC.fB a b&&cN.jW a b then b%bV.cE C else(0:Int);letI I:=dO.tT F B;letI G:=zs (cC.fB a b&&(cN.jW a b&&decide (bV.cE C<=b))) (dO.pV F B).toNat;letI A:=bif iF G I then aN G I else((0:Int),(0:Int));aO ((a=32\/a=64)/\0<=b/\b<18446744073709551616) (aB (H !=0) (some [D.agg [sc (bool false),sc (slice none 0 0),sc (int i64 0)],D.s (sc (int i64 H))]) (aO (aG.vY F/\(0<=bif cC.fB a b&&cN.jW a b then b%bV.cE C else(0:Int))/\B<9223372036854775808) (aO ((0<=dO.pV F B/\dO.pV F B<18446744073709551616)/\(-9223372036854775808:Int)<=dO.tT F B/\dO.tT F B<9223372036854775808) (some [D.agg [sc (bool (isNeg A.fst)),ints u64 (M6.dg A.fst.natAbs),sc (int i64 A.snd)],D.s (sc (int i64 (bif iF G I then(0:Int)else(5:Int))))])))):=eJ aX
def kF(f b:Int):Int:=zs (decide (bV.cE (aG.fD f)<=b)) (dO.pV (aG.fD f) (b%bV.cE (aG.fD f))).toNat
def lW(f b:Int):Int:=dO.tT (aG.fD f) (b%bV.cE (aG.fD f))
def sp(f b:Int):Prop×List D:=((f=32\/f=64)/\0<=b/\b<18446744073709551616,[dD (bif cC.fB f b&&cN.jW f b then aN (kF f b) (lW f b)else(0,0)),.s (.sc (.int .i64 (bif cC.fB f b then(bif cN.jW f b then 0 else 6)else 2)))])
theorem Uf{s:Int×Int×Int×Int}{n:Int}(_:aG.vY s)(_:0<=n):0<=dO.pV s n/\dO.pV s n<9007199254740992:=by
 unfold dO.pV cK.kV;split <;> split <;> omega
theorem Ux{s:Int×Int×Int×Int}{n:Int}(ht:aG.vY s)(h0:0<=n)(h1:n<jU.lR s):-1074<=dO.tT s n/\dO.tT s n<1024:=by
 rcases ht with rfl |rfl
 ·unfold dO.tT;have:n<2139095040:=h1;rw[show cK.kV (32,24,-149,2143289345)=8388608 from rfl]
  try dsimp only
  split <;> omega
 ·unfold dO.tT;have:n<9218868437227405312:=h1;rw[show cK.kV (64,53,-1074,9221120237041090561)=4503599627370496 from rfl]
  try dsimp only
  split <;> omega
theorem aYA{z e:Int}(hz:z.natAbs<9007199254740992)(h0:-1074<=e)(h1:e<1024):iF z e=true:=by
 unfold iF
 by_cases hc:z=0
 ·rw[decide_eq_true hc,cED]
 ·have h2:=Fb (n:=z.natAbs) (by omega);have h3:bl z.natAbs<=53:=dG.2 (by omega);rw[decide_eq_true (show -1048576<=e+(tz z.natAbs:Int) by omega),decide_eq_true (show e+(tz z.natAbs:Int)<=1048576 by omega),cBV,Bool.or_true]
theorem spec:Qx E f12 aF (pN .i64) (pN .u64) sp:=by
 intro f b h;have e:=(start f b).trans (gP h);have ht:=cN.Cl h.1;have hb0:0<=b:=h.2.1;unfold sp
 try dsimp only
 cases hp:cC.fB f b with
 |false =>
  rw[hp]at e;refine⟨_,e,.cons ?_ (iQ.refl _)⟩;unfold dD;rw[cEC,cond_false,show((0,0):Int×Int).1.natAbs=0 from rfl,M6.cT];exact Ag.agg (.cons (Ep.refl _) (.cons (Ep.nil _) (zN.refl _)))
 |true =>
  rw[hp]at e;cases hq:cN.jW f b with
  |false =>
   rw[hq]at e;refine⟨_,e,.cons ?_ (iQ.refl _)⟩;unfold dD;rw[cEF,cond_false,show((0,0):Int×Int).1.natAbs=0 from rfl,M6.cT];exact Ag.agg (.cons (Ep.refl _) (.cons (Ep.nil _) (zN.refl _)))
  |true =>
   rw[hq]at e;have Di:0<=b%bV.cE (aG.fD f):=by
    unfold bV.cE;split <;> omega
   have qE:b%bV.cE (aG.fD f)<jU.lR (aG.fD f):=of_decide_eq_true hq;have hinf:jU.lR (aG.fD f)<=9218868437227405312:=by unfold jU.lR;split <;> omega
   have hm:=Uf ht Di;have hx:=Ux ht Di qE;rw[show(true&&true)=true from rfl]at e
   try dsimp only[cond_true]at e
   rw[show((aG.fD f).1,(aG.fD f).2.1,(aG.fD f).2.2.1,(aG.fD f).2.2.2)=aG.fD f from rfl]at e;rw[gF rfl,gP ⟨ht,Di,by omega⟩,gP ⟨⟨hm.1,by omega⟩,by omega,by omega⟩]at e;refine⟨_,e,?_⟩;have hi:iF (kF f b) (lW f b)=true:=aYA (by unfold kF;rw[mB];omega) hx.1 hx.2;unfold kF lW at hi;unfold kF lW;rw[show(true&&(true&&decide (bV.cE (aG.fD f)<=b)))=decide (bV.cE (aG.fD f)<=b)from rfl,hi];exact iQ.refl _
def aJ:dK:=orc2 (pN .i64) (pN .u64) sp
theorem ok:OK 12 aJ:=(fJ E aF (aA cN.ok (aA dO.ok (aA Wm.ok aD))) func12).aQO rfl spec
end bC
namespace aJB
def E:=mE [(95,oY.aJ),(105,Eu.aJ)] 14 [] [] []
def aF:=bd f51
theorem aX:Nk E aF:=nk
theorem start a:aI E f51 aF [D.s (sc (int i64 a))]=letI B:=M6.dg (u64.wrap a).toNat;letI C:=zs false (M6.val B);letI A:=M6.dg (u64.wrap ((0:Int)-u64.wrap a)).toNat;letI F:=zs true (M6.val A);aB (decide (a<0)) (aO (0<=u64.wrap ((0:Int)-u64.wrap a)/\u64.wrap ((0:Int)-u64.wrap a)<18446744073709551616) (aO (M6.cV A/\A.length<=1099511627776) (some [D.agg [sc (bool (isNeg F)),ints u64 (M6.dg F.natAbs)]]))) (aO (0<=u64.wrap a/\u64.wrap a<18446744073709551616) (aO (M6.cV B/\B.length<=1099511627776) (some [D.agg [sc (bool (isNeg C)),ints u64 (M6.dg C.natAbs)]]))):=eJ aX
def sp(a:Int):Prop×List D:=(-9223372036854775808<=a/\a<9223372036854775808,[wD a])
theorem spec:jL E f51 aF (pN .i64) sp:=by
 rintro a ⟨h1,h2⟩;refine(start a).trans ?_;show _=some [wD a]
 by_cases hn:a<0
 ·have w1:u64.wrap (0-u64.wrap a)=(a.natAbs:Int):=by rw[fY,fY];omega
  have hl:=gA (n:=a.natAbs) (k:=1) (dG.2 (by omega));rw[aQ hn,w1,cCQ,gP ⟨by omega,by omega⟩,gP ⟨M6.aZ _,by omega⟩,M6.bZ];have:zs true a.natAbs=a:=by show -(a.natAbs:Int)=a;omega
  rw[this];rfl
 ·have w1:u64.wrap a=(a.natAbs:Int):=by rw[fY];omega
  have hl:=gA (n:=a.natAbs) (k:=1) (dG.2 (by omega));rw[aL hn,w1,cCQ,gP ⟨by omega,by omega⟩,gP ⟨M6.aZ _,by omega⟩,M6.bZ];have:zs false a.natAbs=a:=by show((a.natAbs:Nat):Int)=a;omega
  rw[this];rfl
def aJ:dK:=orc1 (pN .i64) sp
theorem ok:OK 51 aJ:=(fJ E aF (aA oY.ok (aA Eu.ok aD)) func51).qB rfl spec
end aJB
namespace Zp
def E:=mE [(51,aJB.aJ),(50,jQ.aJ)] 15 [] [] []
def aF:=bd f57
theorem aX:Nk E aF:=nk
theorem start a b:aI E f57 aF [D.s (sc (int i64 a)),D.s (sc (int i64 b))]=letI B:=(isNeg a,M6.dg a.natAbs);letI A:=bif iF (wv B) b then aN (wv B) b else((0:Int),(0:Int));aO ((-9223372036854775808:Int)<=a/\a<9223372036854775808) (aO (gY B/\(-9223372036854775808:Int)<=b/\b<9223372036854775808) (some [D.agg [sc (bool (isNeg A.fst)),ints u64 (M6.dg A.fst.natAbs),sc (int i64 A.snd)]])):=eJ aX
def sp(m e:Int):Prop×List D:=((-9223372036854775808<=m/\m<9223372036854775808)/\-9223372036854775808<=e/\e<9223372036854775808,[dD (bif iF m e then aN m e else(0,0))])
theorem spec:hI E f57 aF (pN .i64) (pN .i64) sp:=by
 rintro m e ⟨h1,h2⟩;refine(start m e).trans ?_;have hb:bl m.natAbs<=64:=dG.2 (by omega);rw[gP h1,gP ⟨gI (by omega),h2⟩,nW];rfl
def aJ:dK:=orc2 (pN .i64) (pN .i64) sp
theorem ok:OK 57 aJ:=(fJ E aF (aA aJB.ok (aA jQ.ok aD)) func57).nF rfl spec
end Zp
namespace Wh
def E:=mE [(108,qN.aJ)] 11 [8] [] []
def aF:=bd f58
theorem aX:Nk E aF:=nk
theorem start a c d b:aI E f58 aF [D.agg [sc (bool a),ints u64 c,sc (int i64 d)],D.s (sc (int i64 b))]=letI B:=dv (a,c,d);letI A:=bif qN.tR B b then qN.Bh B b else((0:Int),(0:Int));aO (aR (a,c,d)/\((-4611686018427387904:Int)<=b/\b<4611686018427387904)/\false=false) (some [D.agg [sc (bool (isNeg A.fst)),ints u64 (M6.dg A.fst.natAbs),sc (int i64 A.snd)],D.s (sc (int i64 (bif qN.tR B b then(0:Int)else(5:Int))))]):=eJ aX
def sp(x:gQ)(b:Int):Prop×List D:=(aR x/\-4611686018427387904<=b/\b<4611686018427387904,dE (qN.tR (dv x) b) (qN.Bh (dv x) b))
theorem spec:hI E f58 aF jO (pN .i64) sp:=fun x b h =>
 (start x.1 x.2.1 x.2.2 b).trans (gP ⟨h.1,h.2,rfl⟩)
def aJ:dK:=orc2 jO (pN .i64) sp
theorem ok:OK 58 aJ:=(fJ E aF (aA qN.ok aD) func58).nF rfl spec
end Wh
namespace aQN
def E:=mE [(45,mL.aJ),(47,Gx.aJ),(46,nA.aJ)] 22 [] [] []
def aF:=bd f68
theorem aX:Nk E aF:=nk
theorem start a b c:aI E f68 aF [D.agg [sc (bool a),ints u64 b,sc (int i64 c)]]=aO (aR (a,b,c)) (aO (b.length<=1099511627776) (aB (!a) (aO True (some [D.agg [sc (bool !(b.length:Int)==(0:Int)),ints u64 b,sc (int i64 c)],D.s (sc (int i64 0))])) (some [D.agg [sc (bool false),ints u64 b,sc (int i64 c)],D.s (sc (int i64 0))]))):=eJ aX
def sp(x:gQ):Prop×List D:=(aR x,dE true (-(dv x).1,(dv x).2))
theorem spec:jL E f68 aF jO sp:=by
 intro x h;have h:aR x:=h;have hl:=h.len;have hc:=h.Ez.cells;refine(start x.1 x.2.1 x.2.2).trans ?_;obtain⟨b,a,e⟩:=x
 try dsimp only at *
 unfold sp
 try dsimp only
 rw[gP h,gP];have hz:=M6.eF h.Jy;have ha:=iT (b,a)
 try dsimp only at ha hz
 have e1:dE true (-(dv (b,a,e)).1,(dv (b,a,e)).2)=[D.agg [.sc (.bool (isNeg (-(wv (b,a))))),.ints .u64 a,.sc (.int .i64 e)],.s (.sc (.int .i64 0))]:=by
  show [M.dD (-(wv (b,a)),e),_]=_;unfold M.dD
  try dsimp only
  rw[cFE,hc.2];rfl
 rw[e1];cases b with
 |true =>
  have:wv (true,a)=-(M6.val a:Int):=Ta (x:=(true,a)) rfl;rw[cAT,bF,jB.2 (by omega)]
 |false =>
  have hw:wv (false,a)=(M6.val a:Int):=Gz (x:=(false,a)) rfl;rw[cKD,bT,gP trivial]
  by_cases h0:a.length=0
  ·rw[beq_iff_eq.2 (show(a.length:Int)=0 by omega),jB.2 (by have:=hz.1 h0;omega)];rfl
  ·rw[beq_eq_false_iff_ne.2 (show(a.length:Int)≠0 by omega),oI.2 (by have:M6.val a≠0:=fun h=>h0 (hz.2 h);omega)];rfl
def aJ:dK:=orc1 jO sp
theorem ok:OK 68 aJ:=(fJ E aF (aA mL.ok (aA Gx.ok (aA nA.ok aD))) func68).qB rfl spec
end aQN
namespace Wg
def E:=mE [(68,aQN.aJ),(13,bQ.aJ)] 22 [10,19] [] []
def aF:=bd f59
theorem aX:Nk E aF:=nk
theorem start a b c d e f:aI E f59 aF [D.agg [sc (bool a),ints u64 b,sc (int i64 c)],D.agg [sc (bool d),ints u64 e,sc (int i64 f)]]=letI G:=dv (a,b,c);letI F:=dv (d,e,f);letI C:=bif true then(-F.fst,F.snd)else((0:Int),(0:Int));letI A:=dv (isNeg C.fst,M6.dg C.fst.natAbs,C.snd);letI B:=bif bQ.kT G A then bQ.oA G A else((0:Int),(0:Int));aO (aR (d,e,f)) (aO (aR (a,b,c)/\aR (isNeg (-F.fst),M6.dg (-F.fst).natAbs,F.snd)) (some [D.agg [sc (bool (isNeg B.fst)),ints u64 (M6.dg B.fst.natAbs),sc (int i64 B.snd)],D.s (sc (int i64 (bif bQ.kT G A then(0:Int)else(5:Int))))])):=eJ aX
def sp(x y:gQ):Prop×List D:=(aR x/\aR y,dE (bQ.kT (dv x) (-(dv y).1,(dv y).2)) (bQ.oA (dv x) (-(dv y).1,(dv y).2)))
theorem spec:hI E f59 aF jO jO sp:=by
 rintro x y ⟨hx,hy⟩;refine(start x.1 x.2.1 x.2.2 y.1 y.2.1 y.2.2).trans ?_;have hn:=dP hy.wL.neg;have hv:=dX (-(dv y).1,(dv y).2);rw[gP hy,gP ⟨hx,hn⟩]
 try dsimp only[cond_true]at hv ⊢
 rw[hv];rfl
def aJ:dK:=orc2 jO jO sp
theorem ok:OK 59 aJ:=(fJ E aF (aA aQN.ok (aA bQ.ok aD)) func59).nF rfl spec
end Wg
end W
namespace M6
open Go M
def qT(n v:Nat):List Int:=dg v ++ cAW (n-(dg v).length) 0
theorem mS{n v:Nat}:val (qT n v)=v:=by
 unfold qT;rw[kA,kR,bZ];omega
theorem mT{n v:Nat}:dJ (qT n v):=rZ.2 ⟨mF _,lS _⟩
theorem iW{n v:Nat}(h:v<18446744073709551616^n):(qT n v).length=n:=by
 have:=eI h;unfold qT;rw[List.length_append,List.length_replicate];omega
theorem qF {a : List Int} {n v : Nat} (h : dJ a) (hl : a.length = n) (hv : val a = v) : a = qT n v := by
  subst hl; subst hv
  obtain ⟨k, hk⟩ := Ic h
  unfold qT
  have : a.length = (dg (val a)).length + k := by conv => lhs; rw [hk]
                                                  simp
  rw [this, Nat.add_sub_cancel_left]
  exact hk
theorem aOD{n:Nat}:qT n 0=cAW n 0:=by simp[qT,cT]
theorem aOE{n v:Nat}:(qT n v).take (dg v).length=dg v:=by
 unfold qT;exact List.take_left
theorem sH{a:List Int}{j:Nat}(hj:j<a.length)(d:Int):val (a.set j d)+18446744073709551616^j*(a.getD j 0).toNat=val a+18446744073709551616^j*d.toNat:=by
 have h1:=jR (a.set j d) (n:=j) (by simp;omega);have h2:=jR a (n:=j) (by omega);rw[yF hj,cJM (bYT j)]at h1;rw[kJ (a:=a) j]at h2;rw[h1,h2,cDT,cDT];omega
theorem rH{m n:Nat}(h:m<=n):18446744073709551616^m<=18446744073709551616^n:=cBU (by omega) h
theorem Xp{a:List Int}(h:cV a):∀k,cV (a.drop k)
 |0=>h
 |k+1=>by
  match a,h with
  | [],h=>simpa using h
  |d :: a,h=>exact Xp (Xo h) k
theorem uI{a:List Int}(h:dJ a)(k:Nat):val (a.take k)=val a%18446744073709551616^k:=by
 by_cases hk:k<=a.length
 ·rw[jR a hk,cKY,cJE (jA h k)]
 ·rw[dV (by omega),cJE];exact bZQ (dW h) (rH (by omega))
theorem oF{a:List Int}(h:dJ a)(k:Nat):val (a.drop k)=val a/18446744073709551616^k:=by
 by_cases hk:k<=a.length
 ·have h1:=jR a hk;have h2:=jA h k;rw[h1,cFY _ _ (cZ),cEM h2,bYV]
 ·rw[cKH (by omega),cEM]
  ·rfl
  ·exact bZQ (dW h) (rH (by omega))
theorem Cj(v o n:Nat):v=v%18446744073709551616^o+18446744073709551616^o*(v/18446744073709551616^o%18446744073709551616^n)+18446744073709551616^(o+n)*(v/18446744073709551616^(o+n)):=by
 have h1:=cJG v (18446744073709551616^o);have h2:=cJG (v/18446744073709551616^o) (18446744073709551616^n);rw[cEN,<-cDU]at h2
 conv=>lhs;rw[<-h1,<-h2]
 rw[cDT,<-cDV,<-cDU];omega
theorem Wr{v v' o n X c:Nat}(h1:v'%18446744073709551616^o=v%18446744073709551616^o)(h2:v'/18446744073709551616^(o+n)=v/18446744073709551616^(o+n))(h:v'+18446744073709551616^o*X=v+18446744073709551616^(o+n)*c) :
  v'/18446744073709551616^o%18446744073709551616^n+X=v/18446744073709551616^o%18446744073709551616^n+18446744073709551616^n*c:=by
 have e1:=Cj v o n;have e2:=Cj v' o n;rw[h1,h2]at e2;apply Nat.eq_of_mul_eq_mul_left (cBT (n:=o) (by omega:0<18446744073709551616));have e3:18446744073709551616^(o+n)*c=18446744073709551616^o*(18446744073709551616^n*c):=by rw[cDU,cDV]
 rw[e3]at h;rw[cDT,cDT];omega
theorem aAH(v o n:Nat):v/18446744073709551616^o%18446744073709551616^n<18446744073709551616^n:=cBB _ (cZ)
theorem Wt{z z':List Int}(hd:dJ z)(Af:dJ z'){o n:Nat}(h1:z'.take o=z.take o)(h2:z'.drop (o+n)=z.drop (o+n)):val z'%18446744073709551616^o=val z%18446744073709551616^o/\val z'/18446744073709551616^(o+n)=val z/18446744073709551616^(o+n):=by
 rw[<-uI hd,<-uI Af,h1,<-oF hd,<-oF Af,h2];exact⟨rfl,rfl⟩
end M6
namespace W
open Go AI M
namespace aQC
def E:=mE [(147,Bu.aJ)] 18 [] [] []
def aF:=bd f193
theorem aX:Nk E aF:=nk
theorem start a:aI E f193 aF [D.s (ints u64 a)]=letI B:=M6.dg (M6.val a);letI A:=(B.length:Int);aO (M6.dJ a/\a.length<=1099511627776) (aB (decide (8192<A)) (some [D.s (sc (slice none 0 0)),D.s (sc (int i64 5))]) (if 0<=A/\A<=A/\A<=(8796093022208:Int)then some [D.own 22 u64 (cHY A.toNat B ++ cHX (min B.length A.toNat) (cAW A.toNat (0:Int))),D.s (sc (int i64 0))]else none)):=eJ aX
def sp(a:List Int):Prop×List D:=(M6.dJ a/\a.length<=1099511627776,[.s (.ints .u64 (bif cU.nL (M6.val a)then M6.dg (M6.val a)else [])),.s (.sc (.int .i64 (bif cU.nL (M6.val a)then 0 else 5)))])
theorem spec:aPW E f193 aF (pI .u64) sp:=by
 intro a h;have hl:=M6.uP h.1;have h2:=h.2;have e:=(start a).trans (gP h);unfold sp cU.nL;simp only;generalize M6.dg (M6.val a)=d at *
 by_cases hc:d.length<=8192
 ·rw[aL,if_pos ⟨by omega,by omega,by omega⟩]at e;rw[decide_eq_true hc];refine⟨_,e,.cons ?_ (iQ.refl _)⟩;simp only[cCQ,cFF,Nat.min_self,cond_true];have:cHX d.length (cAW d.length (0:Int))=[]:=List.drop_eq_nil_of_le (by simp);rw[this,cER];exact Ag.own _ _ _
 ·rw[aQ]at e;rw[decide_eq_false hc];exact⟨_,e,.cons (Ag.nil _) (iQ.refl _)⟩
def aJ:dK:=orc1 (pI .u64) sp
theorem ok:OK 193 aJ:=(fJ E aF (aA Bu.ok aD) func193).bCQ rfl spec
end aQC
namespace aQE
def E:=mE [(137,Ca.aJ)] 6 [] [] []
def aF:=bd f195
theorem aX:Nk E aF:=nk
theorem start a:aI E f195 aF [D.s (sc (int u64 a))]=aO (0<=a/\a<18446744073709551616) (some [D.s (sc (int i64 (i64.wrap ((64:Int)-(↑(bl a.toNat):Int)))))]):=eJ aX
def sp(a:Int):Prop×List D:=(0<=a/\a<18446744073709551616,[.s (.sc (.int .i64 (64-(bl a.toNat:Int))))])
theorem spec:jL E f195 aF (pN .u64) sp:=by
 intro a h;refine(start a).trans ((gP h).trans ?_);obtain⟨h1,h2⟩:=h;have:bl a.toNat<=64:=dG.2 (by omega);rw[wrap_i64];rfl
def aJ:dK:=orc1 (pN .u64) sp
theorem ok:OK 195 aJ:=(fJ E aF (aA Ca.ok aD) func195).qB rfl spec
end aQE
namespace tD
def E:=mE [(195,aQE.aJ)] 135 [] [(24,[2,8,9,10,14,15,16,17,18]),(17,[2,8,9,10,11,13,14,15,16]),(3,[0,1,2]),(5,[0,1,2]),(18,[2,8,9,10,11,13,14,15,16]),(21,[2,8,9,10,11,13,14,15]),(25,[2,8,9,10,14,15,16,17,18]),(28,[2,8,14,15,17,18])] [3,5,18,21,25,28]
def aF:=bd f226
theorem aX:Nk E aF:=nk
def J3 a b c:=mU E f226 aF 3 [cY a,cY b,cY c]
def J5 a b c:=mU E f226 aF 5 [cY a,cY b,cY c]
def bCL a b c d e f g h i:=tM E f226 aF 17 [cY a,cY b,cY c,cY d,cY e,cY f,cY g,cY h,cY i]
def bCN a b c d e f g h i:=mU E f226 aF 18 [cY a,cY b,cY c,cY d,cY e,cY f,cY g,cY h,cY i]
def bHI a b c d e f g h:=mU E f226 aF 21 [cY a,cY b,cY c,cY d,cY e,cY f,cY g,cY h]
def bHF a b c d e f g h i:=tM E f226 aF 24 [cY a,cY b,cY c,cY d,cY e,cY f,cY g,cY h,cY i]
def bOG a b c d e f g h i:=mU E f226 aF 25 [cY a,cY b,cY c,cY d,cY e,cY f,cY g,cY h,cY i]
def bHH a b c d e f:=mU E f226 aF 28 [cY a,cY b,cY c,cY d,cY e,cY f]
theorem start a b c:aI E f226 aF [D.s (sc (int u64 a)),D.s (sc (int u64 b)),D.s (sc (int u64 c))]=aB (c==0) none (tD.J3 a b c):=eJ aX
theorem iL a b c:J3 a b c=aB (decide (c<=a)) none (tD.J5 a b c):=cJ aX
theorem Zt a b c:J5 a b c=letI C:=(↑(bl c.toNat):Int);letI H:=u64.wrap ((64:Int)-C);letI B:=b/(↑((2:Nat)^min (u64.wrap ((64:Int)-u64.wrap ((64:Int)-C))).toNat 64):Int);letI A:=(↑((2:Nat)^min H.toNat 64):Int);letI G:=gN BinOp.or u64 (u64.wrap (a*A)) B;letI F:=u64.wrap (c*A)/4294967296;aB (a==0) (if c=0 then none else if c=0 then none else some [D.s (sc (int u64 (u64.wrap (b.tdiv c)))),D.s (sc (int u64 (b.tmod c)))]) (aO (0<=c/\c<18446744073709551616) (if u64.wrap ((64:Int)-C)<0 then none else if u64.wrap ((64:Int)-C)<0 then none else if u64.wrap ((64:Int)-u64.wrap ((64:Int)-C))<0 then none else if u64.wrap ((64:Int)-C)<0 then none else if u64.wrap (c*A)/4294967296=(0:Int)then none else tD.bCL (u64.wrap (c*A)) H F (gN BinOp.and u64 (u64.wrap (c*A)) 4294967295) G (u64.wrap (b*A)/4294967296) (gN BinOp.and u64 (u64.wrap (b*A)) 4294967295) (u64.wrap (G.tdiv F)) (u64.wrap (gN BinOp.or u64 (u64.wrap (a*A)) B-u64.wrap (u64.wrap (G.tdiv F)*F))))):=cJ aX
theorem bAT a b c d e f g h i:bCL a b c d e f g h i=letI A:=tD.bCN a b c d e f g h i;aB (decide (4294967296<=h)) A (aB (decide (u64.wrap (u64.wrap ((4294967296:Int)*i)+f)<u64.wrap (h*d))) A (tD.bHI a b c d e f g h)):=lJ aX
theorem aDA a b c d e f g h i:bCN a b c d e f g h i=aB (decide (4294967296<=u64.wrap (i+c))) (tD.bHI a b c d e f g (u64.wrap (h-1))) (tD.bCL a b c d e f g (u64.wrap (h-1)) (u64.wrap (i+c))):=cJ aX
theorem bAX a b c d e f g h:bHI a b c d e f g h=letI A:=u64.wrap (u64.wrap (e*4294967296)+f)-u64.wrap (h*a);letI B:=u64.wrap A;if c=0 then none else tD.bHF a b c d g h (u64.wrap (u64.wrap A-u64.wrap (u64.wrap (B.tdiv c)*c))) B (u64.wrap (B.tdiv c)):=cJ aX
theorem bAS a b c d e f g h i:bHF a b c d e f g h i=letI A:=tD.bOG a b c d e f g h i;aB (decide (4294967296<=i)) A (aB (decide (u64.wrap (u64.wrap ((4294967296:Int)*g)+e)<u64.wrap (i*d))) A (tD.bHH a b e f h i)):=lJ aX
theorem bAW a b c d e f g h i:bOG a b c d e f g h i=aB (decide (4294967296<=u64.wrap (g+c))) (tD.bHH a b e f h (u64.wrap (i-1))) (tD.bHF a b c d e f (u64.wrap (g+c)) h (u64.wrap (i-1))):=cJ aX
theorem bAV a b c d e f:bHH a b c d e f=if b<0 then none else some [D.s (sc (int u64 (u64.wrap (u64.wrap (d*4294967296)+f)))),D.s (sc (int u64 (u64.wrap (u64.wrap (u64.wrap (e*4294967296)+c)-u64.wrap (f*a))/(↑((2:Nat)^min b.toNat 64):Int))))]:=cJ aX
theorem aKD{n:Nat}(h:n<18446744073709551616):u64.wrap (n:Int)=(n:Int):=wrap_u64 (cIH _) (Int.ofNat_lt.2 h)
theorem loop{y1 y0 u u1:Nat}(aMW:2147483648<=y1)(aYE:y1<4294967296)(aVV:y0<4294967296)(hu:u<y1*4294967296+y0)(aMY:u1<4294967296)
  (Lf Jf:Int->Int->Option (List D)) (Kf:Int->Option (List D))
  (hL:∀q r,Lf q r=aB (decide (4294967296<=q)) (Jf q r) (aB (decide (u64.wrap (u64.wrap (4294967296*r)+(u1:Int))<u64.wrap (q*(y0:Int)))) (Jf q r) (Kf q)))
  (hJ:∀q r,Jf q r=aB (decide (4294967296<=u64.wrap (r+(y1:Int)))) (Kf (u64.wrap (q-1))) (Lf (u64.wrap (q-1)) (u64.wrap (r+(y1:Int))))) :
  ∀(q r:Nat),u=q*y1+r->r<4294967296->u*4294967296+u1<(q+1)*(y1*4294967296+y0) ->
   Lf (q:Int) (r:Int)=Kf (((u*4294967296+u1)/(y1*4294967296+y0):Nat):Int):=by
 have hy:0<y1*4294967296+y0:=by omega
 intro q
 induction q with
 |zero =>
  intro r h1 h2 h3;have h0:(u*4294967296+u1)/(y1*4294967296+y0)=0:=cEM (by omega);rw[hL,aL,h0,show(((0:Nat):Int)*(y0:Int))=0 from by omega,wrap_u64 (n:=0),aL ?_];rw[wrap_u64 (n:=4294967296*(r:Int)),wrap_u64];omega
 |succ q ih =>
  intro r h1 h2 h3;have hq:q<=4294967296:=by
   refine cBN fun hc=>?_
   have:4294967297*y1<=q*y1:=cAI _ hc;rw[bZN]at h1;omega
  have w1:u64.wrap (((q+1:Nat):Int)-1)=(q:Int):=by rw[wrap_u64];omega
  have w2:u64.wrap ((r:Int)+(y1:Int))=((r+y1:Nat):Int):=by rw[wrap_u64];omega
  have hle:(q+1)*y0<=4294967297*4294967295:=cJC (by omega) (by omega);have w3:u64.wrap (((q+1:Nat):Int)*(y0:Int))=(((q+1)*y0:Nat):Int):=by
   rw[<-cEP];exact wrap_u64
  have w4:u64.wrap (u64.wrap (4294967296*(r:Int))+(u1:Int))=((4294967296*r+u1:Nat):Int):=by
   rw[wrap_u64 (n:=4294967296*(r:Int)),wrap_u64];omega
  have ex:(q+1)*(y1*4294967296+y0)=(q*y1+y1)*4294967296+(q+1)*y0:=by
   rw[cDT,<-cDV,bZN q 1 y1,cCX]
  have bXV:q*(y1*4294967296+y0)=(q*y1)*4294967296+q*y0:=by
   rw[cDT,<-cDV]
  have Yl:u=q*y1+(r+y1):=by rw[bZN]at h1;omega
  have aHZ:u*4294967296+u1<(q+1)*(y1*4294967296+y0)->Jf ((q+1:Nat):Int) r=Kf (((u*4294967296+u1)/(y1*4294967296+y0):Nat):Int):=by
   intro hT;rw[hJ,w1,w2]
   by_cases hc:4294967296<=r+y1
   ·have bBQ:q*y0<=4294967296*4294967295:=cJC hq (by omega);have:(u*4294967296+u1)/(y1*4294967296+y0)=q:=by
     refine cJJ ?_ hT;rw[bXV,Yl];omega
    rw[aQ,this]
   ·rw[aL];exact ih (r+y1) Yl (by omega) hT
  rw[hL,w3,w4]
  by_cases hb:4294967296<=q+1
  ·rw[aQ];apply aHZ;have:4294967296*(y1*4294967296+y0)<=(q+1)*(y1*4294967296+y0):=cAI _ hb;omega
  ·rw[aL]
   by_cases hc:4294967296*r+u1<(q+1)*y0
   ·rw[aQ];apply aHZ;rw[ex];omega
   ·have:(u*4294967296+u1)/(y1*4294967296+y0)=q+1:=by
     refine cJJ ?_ h3;rw[ex,Yl];rw[bZN (q*y1)];omega
    rw[aL,this]
theorem bCP(P b Q:Int):u64.wrap (u64.wrap (u64.wrap P+b)-u64.wrap Q)=u64.wrap (P+b-Q):=by
 rw[fY,fY,fY,fY,fY];omega
theorem bDM{u u1 y:Nat}(hy:0<y)(bKG:y<=18446744073709551616):u64.wrap ((u:Int)*4294967296+(u1:Int)-(((u*4294967296+u1)/y:Nat):Int)*(y:Int))=(((u*4294967296+u1)%y:Nat):Int):=by
 have h:=cDZ (u*4294967296+u1) y;have hm:=cBB (u*4294967296+u1) hy;rw[<-cEP,cDR _ y];generalize y*((u*4294967296+u1)/y)=z at *;generalize (u*4294967296+u1)%y=m at *;rw[wrap_u64];omega
theorem bDO{y1 y0 u u1 u0 s:Nat}(aMW:2147483648<=y1)(aYE:y1<4294967296)(aVV:y0<4294967296)(hu:u<y1*4294967296+y0)(aMY:u1<4294967296)(bBO:u0<4294967296)(hs:s<=63) :
  bCL ((y1*4294967296+y0:Nat):Int) s y1 y0 u u1 u0 ((u/y1:Nat):Int) ((u%y1:Nat):Int) =
   some [D.s (.sc (.int .u64 (((u*18446744073709551616+(u1*4294967296+u0))/(y1*4294967296+y0):Nat):Int))),D.s (.sc (.int .u64 (((u*18446744073709551616+(u1*4294967296+u0))%(y1*4294967296+y0)/2^s:Nat):Int)))]:=by
 have hy:0<y1*4294967296+y0:=by omega
 have aLI:∀v:Nat,∀w:Nat,w<4294967296->v*4294967296+w<(v/y1+1)*(y1*4294967296+y0):=by
  intro v w hw;have h:=cDZ v y1;have hm:=cBB v (show 0<y1 by omega);have:(v/y1+1)*(y1*4294967296+y0)=(y1*(v/y1)+y1)*4294967296+(v/y1+1)*y0:=by
   rw[cDT,<-cDV,bZN,cCX,cDR y1]
  rw[this];omega
 have dm:∀v:Nat,v=v/y1*y1+v%y1:=by
  intro v;rw[cDR];exact(cDZ v y1).symm
 obtain⟨Y,hY⟩:∃Y:Int,Y=((y1*4294967296+y0:Nat):Int):=⟨_,rfl⟩;rw[<-hY];have l1:bCL Y s y1 y0 u u1 u0 ((u/y1:Nat):Int) ((u%y1:Nat):Int)=bHI Y s y1 y0 u u1 u0 (((u*4294967296+u1)/(y1*4294967296+y0):Nat):Int) :=
  loop aMW aYE aVV hu aMY (bCL Y s y1 y0 u u1 u0) (bCN Y s y1 y0 u u1 u0) (bHI Y s y1 y0 u u1 u0) (fun q r=>bAT ..) (fun q r=>aDA ..) (u/y1) (u%y1) (dm u) (by have:=cBB u (show 0<y1 by omega);omega) (aLI u u1 aMY)
 refine l1.trans ?_;rw[bAX,aP,bCP];have m1:=bDM (u:=u) (u1:=u1) hy (by omega);rw[<-hY]at m1;rw[m1];obtain⟨q1,Pu⟩:∃q1,(u*4294967296+u1)/(y1*4294967296+y0)=q1:=⟨_,rfl⟩;rw[Pu];have hv:=cBB (u*4294967296+u1) hy;have hT:=cDZ (u*4294967296+u1) (y1*4294967296+y0);rw[Pu]at hT;obtain⟨v,bTU⟩:∃v,(u*4294967296+u1)%(y1*4294967296+y0)=v:=⟨_,rfl⟩;rw[bTU]at hv hT ⊢;have hd:v/y1<=v:=cJD _ _;have w5:u64.wrap ((v:Int).tdiv (y1:Int))=((v/y1:Nat):Int):=by
  rw[cHH (by omega),<-cEO];exact aKD (by omega)
 have w6:u64.wrap ((v:Int)-u64.wrap (((v/y1:Nat):Int)*(y1:Int)))=((v%y1:Nat):Int):=by
  have:=dm v;have hm:=cBB v (show 0<y1 by omega);rw[<-cEP];generalize v/y1*y1=z at *;generalize v%y1=m at *;rw[wrap_u64 (n:=(z:Int)),wrap_u64];omega
 have l2:bHF Y s y1 y0 u0 q1 ((v%y1:Nat):Int) v ((v/y1:Nat):Int)=bHH Y s u0 q1 v (((v*4294967296+u0)/(y1*4294967296+y0):Nat):Int) :=
  loop aMW aYE aVV hv bBO (fun q r=>bHF Y s y1 y0 u0 q1 r v q) (fun q r=>bOG Y s y1 y0 u0 q1 r v q) (bHH Y s u0 q1 v) (fun q r=>bAS ..) (fun q r=>bAW ..) (v/y1) (v%y1) (dm v) (by have:=cBB v (show 0<y1 by omega);omega) (aLI v u0 bBO)
 rw[w5,w6,l2];rw[bAV,aP,bCP];have m2:=bDM (u:=v) (u1:=u0) hy (by omega);rw[<-hY]at m2;rw[m2];have hw:=cBB (v*4294967296+u0) hy;have hT0:=cDZ (v*4294967296+u0) (y1*4294967296+y0);have bBQ:(v*4294967296+u0)/(y1*4294967296+y0)<4294967296:=cEL (by omega);have hq1':q1<4294967296:=by rw[<-Pu];exact cEL (by omega)
 obtain⟨q0,bUK⟩:∃q0,(v*4294967296+u0)/(y1*4294967296+y0)=q0:=⟨_,rfl⟩;obtain⟨w,bTS⟩:∃w,(v*4294967296+u0)%(y1*4294967296+y0)=w:=⟨_,rfl⟩;rw[bUK]at hT0 bBQ ⊢;rw[bTS]at hT0 hw ⊢;have key:u*18446744073709551616+(u1*4294967296+u0)=(y1*4294967296+y0)*(q1*4294967296+q0)+w:=by
  rw[cDT,<-cDV];generalize (y1*4294967296+y0)*q1=A at *;generalize (y1*4294967296+y0)*q0=C at *;omega
 rw[key,cIG hy,cEM hw,cKZ,cJE hw,bZR,cCQ,show min s 64=s from by omega];have w7:u64.wrap (u64.wrap ((q1:Int)*4294967296)+(q0:Int))=((q1*4294967296+q0:Nat):Int):=by
  rw[wrap_u64 (n:=(q1:Int)*4294967296),wrap_u64];omega
 rw[w7,<-cEO]
def sp(a b c:Int):Prop×List D:=((0<=a/\a<c)/\(0<=b/\b<18446744073709551616)/\c<18446744073709551616,[.s (.sc (.int .u64 (((a.toNat*18446744073709551616+b.toNat)/c.toNat:Nat):Int))),.s (.sc (.int .u64 (((a.toNat*18446744073709551616+b.toNat)%c.toNat:Nat):Int)))])
theorem spec:pO E f226 aF (pN .u64) (pN .u64) (pN .u64) sp:=by
 rintro a b c ⟨⟨h1,h2⟩,⟨h3,h4⟩,h5⟩;refine(start a b c).trans ?_;obtain⟨x,rfl⟩:=cDX h1;obtain⟨l,rfl⟩:=cDX h3;obtain⟨y,rfl⟩:=cDX (show 0<=c by omega);show _=some [D.s (.sc (.int .u64 ((((x:Int).toNat*18446744073709551616+(l:Int).toNat)/(y:Int).toNat:Nat):Int))),D.s (.sc (.int .u64 ((((x:Int).toNat*18446744073709551616+(l:Int).toNat)%(y:Int).toNat:Nat):Int)))];rw[cCQ,cCQ,cCQ,bJ,iL,aL,Zt]
 by_cases hx:x=0
 ·subst hx;have hd:l/y<=l:=cJD _ _;rw[cD (a:=((0:Nat):Int)) (b:=0) rfl,aP,aP,cHH (by omega),cHI (by omega),<-cEO,<-cGD,aKD (by omega),Nat.zero_mul,bYV]
 ·have aVV:y≠0:=by omega
  have bQK:=qJ aVV;have hb64:bl y<=64:=dG.2 (by omega);have Dn:=Zd aVV;have kD:=wP y;obtain⟨s,hs⟩:∃s,s=64-bl y:=⟨_,rfl⟩;have bKV:s<=63:=by omega
  have w1:u64.wrap (64-(bl y:Int))=(s:Int):=by rw[wrap_u64];omega
  have w2:u64.wrap (64-(s:Int))=((64-s:Nat):Int):=by rw[wrap_u64];omega
  have aOU:2^(64-s)*2^s=18446744073709551616:=by rw[<-cDU,show 64-s+s=64 from by omega]
  have bNO:2^(bl y-1)*2^s=9223372036854775808:=by rw[<-cDU,show bl y-1+s=63 from by omega]
  have Hy:0<2^s:=cZ;have hyp:y+1<=2^(64-s):=by rw[show 64-s=bl y from by omega];omega
  have bKF:(y+1)*2^s<=18446744073709551616:=by rw[<-aOU];exact cAI _ hyp
  have hyp2:9223372036854775808<=y*2^s:=by rw[<-bNO];exact cAI _ Dn
  have bBM:(x+1)*2^s<=y*2^s:=cAI _ (by omega);rw[bZN,cCX]at bKF bBM;have wy:u64.wrap ((y:Int)*((2^s:Nat):Int))=((y*2^s:Nat):Int):=by rw[<-cEP];exact wrap_u64
  have wx:u64.wrap ((x:Int)*((2^s:Nat):Int))=((x*2^s:Nat):Int):=by rw[<-cEP];exact wrap_u64
  have wl:u64.wrap ((l:Int)*((2^s:Nat):Int))=((l*2^s%18446744073709551616:Nat):Int):=by rw[<-cEP,fY];omega
  have Rv:l/2^(64-s)<2^s:=by
   apply cEL;rw[aOU];omega
  have aVY:=Hf l s (by omega);have bOH:gN .or .u64 ((x*2^s:Nat):Int) (((l/2^(64-s):Nat)):Int)=((x*2^s+l/2^(64-s):Nat):Int):=by
   have:=Ho (n:=x) Rv;rw[Xk (by omega) (by omega) (by omega) (by omega),cCQ,cCQ,cHF,cDR x,this,cES]
  have bCR:∀z:Nat,z<18446744073709551616->gN .and .u64 (z:Int) 4294967295=((z%4294967296:Nat):Int):=by
   intro z hz;rw[zG (by omega) (by omega)];omega
  rw[bJ,gP ⟨by omega,by omega⟩,cCQ,w1,w2,aP,aP,aP,aP,
   cCQ,cCQ,show min s 64=s from by omega,show min (64-s) 64=64-s from by omega,wy,wx,wl,<-cEO l,bOH]
  have hu:x*2^s+l/2^(64-s)<y*2^s:=by omega
  have hU:(x*18446744073709551616+l)*2^s=(x*2^s+l/2^(64-s))*18446744073709551616+l*2^s%18446744073709551616:=by
   rw[bZN,aVY,cJK];omega
  have bUX:l*2^s%18446744073709551616<18446744073709551616:=cBB _ (by omega);have hdiv:(x*18446744073709551616+l)/y=((x*2^s+l/2^(64-s))*18446744073709551616+l*2^s%18446744073709551616)/(y*2^s):=by
   rw[<-hU,cHJ _ _ Hy]
  have aHT:(x*18446744073709551616+l)%y=((x*2^s+l/2^(64-s))*18446744073709551616+l*2^s%18446744073709551616)%(y*2^s)/2^s:=by
   rw[<-hU,cHK,cIR _ Hy]
  rw[hdiv,aHT];clear hdiv aHT hU bOH wl wx wy aVY Rv bBM;generalize x*2^s+l/2^(64-s)=U at *;generalize y*2^s=Y at *;generalize l*2^s%18446744073709551616=V at *;have k:=bDO (y1:=Y/4294967296) (y0:=Y%4294967296) (u:=U) (u1:=V/4294967296) (u0:=V%4294967296) (s:=s) (by omega) (by omega) (by omega) (by omega) (by omega) (by omega) bKV;rw[show Y/4294967296*4294967296+Y%4294967296=Y from by omega,show V/4294967296*4294967296+V%4294967296=V from by omega]at k;have bWM:(Y:Int)/4294967296=((Y/4294967296:Nat):Int):=by omega
  have bQM:(V:Int)/4294967296=((V/4294967296:Nat):Int):=by omega
  have hd:U/(Y/4294967296)<=U:=cJD _ _;have bBZ:=cDZ U (Y/4294967296);have q1:u64.wrap ((U:Int).tdiv ((Y/4294967296:Nat):Int))=((U/(Y/4294967296):Nat):Int):=by
   rw[cHH (by omega),<-cEO];exact aKD (by omega)
  have r1:u64.wrap ((U:Int)-u64.wrap (((U/(Y/4294967296):Nat):Int)*((Y/4294967296:Nat):Int)))=((U%(Y/4294967296):Nat):Int):=by
   rw[<-cEP,cDR];generalize Y/4294967296*(U/(Y/4294967296))=z at *;generalize U%(Y/4294967296)=m at *;rw[wrap_u64 (n:=(z:Int)),wrap_u64];omega
  rw[bWM,bQM,aP,bCR _ (by omega),bCR _ bUX,q1,r1];exact k
def aJ:dK:=orc3 (pN .u64) (pN .u64) (pN .u64) sp
theorem ok:OK 226 aJ:=(fJ E aF (aA aQE.ok aD) func226).zR rfl spec
end tD
namespace oC
def E:=mE [(144,iB.aJ),(145,cU.aJ),(226,tD.aJ)] 45 [34,40] [(8,[0,1,7,8,9])] []
def aF:=bd f194
theorem aX:Nk E aF:=nk
def L8 a b (c:Nat) (d:List Int) e f:=tM E f194 aF 8 [iZ a,cY b,Dx 2 c 22 d,cY e,cA f]
theorem start a b:aI E f194 aF [D.s (ints u64 a),D.s (sc (int u64 b))]=letI B:=sc (slice none 0 0);letI A:=(a.length:Int);aO (a.length<=1099511627776) (aB (!iB.pT a) (some [D.s B,D.s (sc (int u64 0)),D.s (sc (int i64 2))]) (aB (b==0) (some [D.s B,D.s (sc (int u64 0)),D.s (sc (int i64 4))]) (if 0<=A/\A<=A/\A<=(8796093022208:Int)then oC.L8 a b A.toNat (cAW A.toNat (0:Int)) 0 (i64.wrap (A-(1:Int)))else none))):=eJ aX
theorem Jr a b c d e f:L8 a b c d e f=letI A:=e.toNat*18446744073709551616+(a.getD f.toNat 0).toNat;aB (decide (0<=f)) (if 0<=f/\f<(a.length:Int)then aO ((0<=e/\e<b)/\(0<=a.getD f.toNat 0/\a.getD f.toNat 0<(18446744073709551616:Int))/\b<18446744073709551616) (if 0<=f/\f<(c:Int)then oC.L8 a b c (d.set f.toNat (↑(A/b.toNat):Int)) (↑(A%b.toNat):Int) (i64.wrap (f-1))else none)else none) (aO (M6.dJ d/\d.length<=1099511627776) (some [D.s (ints u64 (bif cU.nL (M6.val d)then M6.dg (M6.val d)else [])),D.s (sc (int u64 e)),D.s (sc (int i64 0))])):=lJ aX
theorem L{a:List Int}{b:Nat}(ha:M6.cV a)(hl:a.length<=8192)(hb0:0<b)(hb:b<18446744073709551616):∀(i:Nat) (Q:List Int),i+Q.length=a.length->M6.dJ Q->M6.val Q=M6.val (a.drop i)/b ->
  L8 a b a.length (cAW i 0 ++ Q) ((M6.val (a.drop i)%b:Nat):Int) ((i:Int)-1)=some [D.s (.ints .u64 (M6.dg (M6.val a/b))),D.s (.sc (.int .u64 ((M6.val a%b:Nat):Int))),D.s (.sc (.int .i64 0))]:=by
 intro i
 induction i with
 |zero =>
  intro Q hi hd hv;have Pv:cU.nL (M6.val a/b)=true:=by
   refine decide_eq_true ?_;rw[cFG]at hv;rw[<-hv];have:=M6.uP hd;omega
  rw[cFG]at hv ⊢;rw[List.replicate_zero,cCW,Jr,aL,gP ⟨hd,by omega⟩,hv,Pv];rfl
 |succ i ih =>
  intro Q hi hd hv;have g:=ha.lM.get i;have hm:=cBB (M6.val (a.drop (i+1))) hb0;have bBZ:=cDZ (M6.val (a.drop (i+1))) b;have w:i64.wrap ((i:Int)-1)=(i:Int)-1:=by rw[wrap_i64]
  have hs:(cAW i (0:Int) ++ 0 :: Q).set i ((((M6.val (a.drop (i+1))%b)*18446744073709551616+(a.getD i 0).toNat)/b:Nat):Int)=cAW i 0 ++ (((((M6.val (a.drop (i+1))%b)*18446744073709551616+(a.getD i 0).toNat)/b:Nat):Int) :: Q):=Hh (by simp) _ _ _;have hN:M6.val (a.drop i)=b*(18446744073709551616*(M6.val (a.drop (i+1))/b))+((M6.val (a.drop (i+1))%b)*18446744073709551616+(a.getD i 0).toNat):=by
   rw[M6.kJ,cGI];generalize b*(M6.val (a.drop (i+1))/b)=z at *;omega
  have hq:((M6.val (a.drop (i+1))%b)*18446744073709551616+(a.getD i 0).toNat)/b<18446744073709551616:=by
   apply cEL;have:(M6.val (a.drop (i+1))%b+1)*18446744073709551616<=b*18446744073709551616:=cAI _ hm;omega
  have aWF:(0:Int)<=((M6.val (a.drop (i+1))%b:Nat):Int)/\((M6.val (a.drop (i+1))%b:Nat):Int)<(b:Int):=⟨cIH _,Int.ofNat_lt.2 hm⟩;have aWC:=ih (((((M6.val (a.drop (i+1))%b)*18446744073709551616+(a.getD i 0).toNat)/b:Nat):Int) :: Q) (by rw[List.length_cons];omega) (M6.nH.2 ⟨⟨cIH _,Int.ofNat_lt.2 hq⟩,hd⟩) (by
    show(((((M6.val (a.drop (i+1))%b)*18446744073709551616+(a.getD i 0).toNat)/b:Nat):Int)).toNat+18446744073709551616*M6.val Q=_;rw[cCQ,hN,cIG hb0,hv,cES])
  rw[Jr,show(((i+1:Nat):Int)-1)=(i:Int)from by omega,aQ,if_pos ⟨by omega,by omega⟩,cCQ,gP ⟨aWF,g,by omega⟩,if_pos ⟨by omega,by omega⟩,cCQ,cCQ,w,List.replicate_succ',cAO,cFH,hs];rw[hN,cKZ]at aWC;exact aWC
def sp(a:List Int)(n:Int):Prop×List D:=(M6.cV a/\a.length<=8192/\0<n/\n<18446744073709551616,[.s (.ints .u64 (M6.dg (M6.val a/n.toNat))),.s (.sc (.int .u64 ((M6.val a%n.toNat:Nat):Int))),.s (.sc (.int .i64 0))])
theorem spec:hI E f194 aF (pI .u64) (pN .u64) sp:=by
 rintro a n ⟨ha,hl,h0,h1⟩;obtain⟨b,rfl⟩:=cDX (show 0<=n by omega);refine(start a b).trans ?_;show _=some [D.s (.ints .u64 (M6.dg (M6.val a/(b:Int).toNat))),D.s (.sc (.int .u64 ((M6.val a%(b:Int).toNat:Nat):Int))),D.s (.sc (.int .i64 0))];have w:i64.wrap ((a.length:Int)-1)=(a.length:Int)-1:=by rw[wrap_i64]
 rw[cCQ,cCQ,gP,iB.oJ ha hl,cAT,bF,bJ,if_pos ⟨by omega,by omega,by omega⟩,w];have:=L (b:=b) ha hl (by omega) (by omega) a.length [] (by simp) M6.qG (by simp[M6.val]);rw[cER,List.drop_length]at this;simp only[M6.val,cGH]at this;exact this
def aJ:dK:=orc2 (pI .u64) (pN .u64) sp
theorem ok:OK 194 aJ:=(fJ E aF (aA iB.ok (aA cU.ok (aA tD.ok aD))) func194).nF rfl spec
end oC
namespace Bo
def E:=mE [] 43 [] [(7,[1,7,8,19,20])] []
def aF:=bd f196
theorem aX:Nk E aF:=nk
def L7 a (b:Nat) (c:List Int) d e f:=tM E f196 aF 7 [cA a,Dx 1 b 22 c,cY d,cA e,cA f]
theorem start a b c:aI E f196 aF [D.s (ints u64 a),D.s (sc (int i64 b)),D.s (sc (int i64 c))]=letI A:=cHY c.toNat a ++ cHX (min a.length c.toNat) (cAW c.toNat (0:Int));if 0<=c/\c<=c/\c<=8796093022208 then aB (b==0) (some [D.own 22 u64 A]) (Bo.L7 b c.toNat A 0 (c.toNat:Int) 0)else none:=eJ aX
theorem yB a b c d e f:L7 a b c d e f=aB (decide (f<e)) (if 0<=f/\f<(b:Int)then if a<0 then none else if 0<=f/\f<(b:Int)then if i64.wrap ((64:Int)-a)<0 then none else if 0<=f/\f<(b:Int)then Bo.L7 a b (c.set f.toNat (gN BinOp.or u64 (u64.wrap (c.getD f.toNat 0*(↑((2:Nat)^min a.toNat 64):Int))) d)) (c.getD f.toNat 0/(↑((2:Nat)^min (i64.wrap ((64:Int)-a)).toNat 64):Int)) e (i64.wrap (f+1))else none else none else none) (some [D.own 22 u64 c]):=lJ aX
def sp(a:List Int)(s n:Int):Prop×List D:=(M6.dJ a/\0<=s/\s<64/\0<=n/\a.length<=n.toNat/\n<=549755813888/\M6.val a*2^s.toNat<18446744073709551616^n.toNat,[.own gW .u64 (M6.qT n.toNat (M6.val a*2^s.toNat))])
theorem L{A:List Int}{s n:Nat}(hA:M6.dJ A)(bNC:A.length=n)(hn:n<=549755813888)(Uk:0<s)(hs:s<64)(hT:M6.val A*2^s<18446744073709551616^n):∀(r i:Nat) (P:List Int) (c:Int),i+r=n->P.length=i->M6.dJ P->0<=c->c<((2^s:Nat):Int) ->
  M6.val P+18446744073709551616^i*c.toNat=M6.val (A.take i)*2^s ->
  L7 s n (P ++ A.drop i) c n i=some [.own gW .u64 (M6.qT n (M6.val A*2^s))]:=by
 have Hy:2^s<2^64:=cGC (by omega) hs;intro r
 induction r with
 |zero =>
  intro i P c hi hP hd h0 h1 hv;have aBS:i=n:=by omega
  subst aBS;rw[M6.dV (by omega)]at hv;have hc:c=0:=by
   rcases Int.lt_or_le 0 c with h |h
   ·have h2:18446744073709551616^i*1<=18446744073709551616^i*c.toNat:=cBH _ (by omega);omega
   ·omega
  subst hc;simp at hv;rw[yB,aL,cKH (by omega),cER,M6.qF hd hP hv]
 |succ r ih =>
  intro i P c hi hP hd h0 h1 hv;have g:=hA.get i;have w1:i64.wrap ((i:Int)+1)=((i+1:Nat):Int):=by rw[wrap_i64];omega
  have w3:i64.wrap (64-(s:Int))=((64-s:Nat):Int):=by rw[wrap_i64];omega
  have m1:min s 64=s:=by omega
  have m2:min (64-s) 64=64-s:=by omega
  have aNN:A.drop i=A.getD i 0 :: A.drop (i+1):=by
   rw[List.drop_eq_getElem_cons (by omega)];simp[cDW,List.getElem?_eq_getElem (show i<A.length by omega)]
  obtain⟨x,hx⟩:=cDX g.1;have kD:x*2^s%18446744073709551616<18446744073709551616:=cBB _ (by omega);have Rv:u64.wrap ((x:Int)*((2^s:Nat):Int))=((x*2^s%18446744073709551616:Nat):Int):=by
   rw[fY,<-cEP,cGD];rfl
  have aSY:c.toNat+x*2^s%18446744073709551616<18446744073709551616:=by
   rw[Kn x s hs];have hm:x%2^(64-s)<2^(64-s):=cBB _ (cZ);have e:(18446744073709551616:Nat)=2^s*2^(64-s):=by rw[<-cDU,show s+(64-s)=64 from by omega]
   have h3:2^s*(x%2^(64-s)+1)<=2^s*2^(64-s):=cBH _ hm;rw[<-e,cDT]at h3;omega
  have bEO:gN .or .u64 ((x*2^s%18446744073709551616:Nat):Int) c=c+((x*2^s%18446744073709551616:Nat):Int):=by
   rw[Xk (by omega) (by omega) h0 (by omega),cCQ,cHF,Kn x s hs,Ho (by omega)];omega
  have Qg:x/2^(64-s)<2^s:=by
   apply cEL;rw[<-cDU,show 64-s+s=64 from by omega];omega
  rw[aNN,yB,aQ,aW,aP,aW,w3,aP,aW,w1,cCQ,cCQ,cCQ,m1,m2,Ia hP,Hh hP,hx,Rv,bEO];have aVY:=Hf x s hs;have:=ih (i+1) (P ++ [c+((x*2^s%18446744073709551616:Nat):Int)]) ((x/2^(64-s):Nat):Int) (by omega) (by simp[hP]) (M6.oX hd ⟨by omega,by omega⟩) (by omega) (by omega) (by
   rw[M6.oU,hP,M6.dT,hx,cCQ,cCQ,cDS,cDV,bZN];have e1:(c+(((x*2^s%18446744073709551616:Nat)):Int)).toNat=c.toNat+x*2^s%18446744073709551616:=by omega
   rw[e1];have e2:18446744073709551616^i*(c.toNat+x*2^s%18446744073709551616)+18446744073709551616^i*(18446744073709551616*(x/2^(64-s)))=18446744073709551616^i*c.toNat+18446744073709551616^i*x*2^s:=by
    rw[cDV,<-cDT,<-cDT];congr 1;omega
   omega)
  rw[cAO,cFH,cEO]at this;exact this
theorem spec:pO E f196 aF (pI .u64) (pN .i64) (pN .i64) sp:=by
 rintro a s n ⟨hd,Uk,hs,Di,hl,hn,hT⟩;obtain⟨s,rfl⟩:=cDX Uk;obtain⟨n,rfl⟩:=cDX Di;simp only[sp,cCQ]at hl hT ⊢;refine(start a s n).trans ?_;have hA:cHY n a ++ cHX (min a.length n) (cAW n (0:Int))=a ++ cAW (n-a.length) 0:=by
  rw[List.take_of_length_le hl,List.drop_replicate,Nat.min_eq_left hl]
 have aNX:M6.val (a ++ cAW (n-a.length) 0)=M6.val a:=by rw[M6.kA,M6.kR];omega
 have bQW:M6.dJ (a ++ cAW (n-a.length) 0):=M6.rZ.2 ⟨hd,M6.lS _⟩;have bNC:(a ++ cAW (n-a.length) 0).length=n:=by simp;omega
 rw[aW,cCQ,hA]
 by_cases hz:s=0
 ·subst hz;rw[cD (by rfl),cIP,bZD,M6.qF bQW bNC aNX]
 ·rw[bJ];have hp:0<((2^s:Nat):Int):=by
   have:0<2^s:=cZ;omega
  have:=L (s:=s) bQW bNC (by omega) (by omega) (by omega) (by rw[aNX];exact hT) n 0 [] 0 (by omega) rfl M6.qG (by omega) hp (by simp[M6.val]);rw[cCW,cFG,aNX]at this;exact this
def aJ:dK:=orc3 (pI .u64) (pN .i64) (pN .i64) sp
theorem ok:OK 196 aJ:=(fJ E aF aD func196).zR rfl spec
end Bo
namespace aCV
def E:=mE [(226,tD.aJ)] 20 [16] [] []
def aF:=bd f227
theorem aX:Nk E aF:=nk
theorem start a b c:aI E f227 aF [D.s (sc (int u64 a)),D.s (sc (int u64 b)),D.s (sc (int u64 c))]=aB (decide (c<=a)) (some [D.s (sc (int u64 18446744073709551615))]) (aO ((0<=a/\a<c)/\(0<=b/\b<18446744073709551616)/\c<18446744073709551616) (some [D.s (sc (int u64 (↑((a.toNat*18446744073709551616+b.toNat)/c.toNat):Int)))])):=eJ aX
def sp(a b c:Int):Prop×List D:=(0<=a/\0<=b/\b<18446744073709551616/\c<18446744073709551616,[.s (.sc (.int .u64 (if c<=a then 18446744073709551615 else(((a.toNat*18446744073709551616+b.toNat)/c.toNat:Nat):Int))))])
theorem spec:pO E f227 aF (pN .u64) (pN .u64) (pN .u64) sp:=by
 rintro a b c ⟨h1,h2,h3,h4⟩;refine(start a b c).trans ?_;simp only[sp]
 by_cases hc:c<=a
 ·rw[aQ hc,if_pos hc]
 ·rw[aL hc,if_neg hc,gP ⟨⟨h1,by omega⟩,⟨h2,h3⟩,h4⟩]
def aJ:dK:=orc3 (pN .u64) (pN .u64) (pN .u64) sp
theorem ok:OK 227 aJ:=(fJ E aF (aA tD.ok aD) func227).zR rfl spec
end aCV
namespace Pg
def E:=mE [] 51 [] [] []
def aF:=bd f250
theorem aX:Nk E aF:=nk
theorem start a b:aI E f250 aF [D.s (sc (int u64 a)),D.s (sc (int u64 b))]=letI A:=u64.wrap (a/4294967296*gN BinOp.and u64 b 4294967295)+u64.wrap (gN BinOp.and u64 a 4294967295*gN BinOp.and u64 b 4294967295)/4294967296;some [D.s (sc (int u64 (u64.wrap (u64.wrap (u64.wrap (a/4294967296*(b/4294967296))+u64.wrap A/4294967296)+u64.wrap (gN BinOp.and u64 (u64.wrap A) 4294967295+u64.wrap (gN BinOp.and u64 a 4294967295*(b/4294967296)))/4294967296)))),D.s (sc (int u64 (u64.wrap (a*b))))]:=eJ aX
def sp(a b:Int):Prop×List D:=(0<=a/\a<18446744073709551616/\0<=b/\b<18446744073709551616,[.s (.sc (.int .u64 (a*b/18446744073709551616))),.s (.sc (.int .u64 (a*b%18446744073709551616)))])
theorem spec:hI E f250 aF (pN .u64) (pN .u64) sp:=by
 rintro a b ⟨ha,bIG,hb,pW⟩;refine(start a b).trans ?_;simp only[sp];have m1:gN .and .u64 a 4294967295=a%4294967296:=zG ha bIG;have m2:gN .and .u64 b 4294967295=b%4294967296:=zG hb pW;rw[m1,m2];have bd:∀x y:Int,0<=x->x<=4294967295->0<=y->y<=4294967295->0<=x*y/\x*y<=18446744065119617025:=fun x y h1 h2 h3 h4 =>
  ⟨cKE h1 h3,by have:=Int.mul_le_mul h2 h4 h3 (by omega:(0:Int)<=4294967295);omega⟩
 have q11:=bd (a/4294967296) (b/4294967296) (by omega) (by omega) (by omega) (by omega);have bJD:=bd (a/4294967296) (b%4294967296) (by omega) (by omega) (by omega) (by omega);have q01:=bd (a%4294967296) (b/4294967296) (by omega) (by omega) (by omega) (by omega);have bSK:=bd (a%4294967296) (b%4294967296) (by omega) (by omega) (by omega) (by omega);have e:a*b=(a/4294967296)*(b/4294967296)*18446744073709551616+((a/4294967296)*(b%4294967296)+(a%4294967296)*(b/4294967296))*4294967296+(a%4294967296)*(b%4294967296):=by
  conv=>lhs;rw[<-cHO a 4294967296,<-cHO b 4294967296]
  generalize a/4294967296=x;generalize a%4294967296=y;generalize b/4294967296=z;generalize b%4294967296=t;grind
 have e0:u64.wrap (a*b)=a*b%18446744073709551616:=fY _;rw[e0];generalize a*b=ab at *;generalize (a/4294967296)*(b/4294967296)=bJI at *;generalize (a/4294967296)*(b%4294967296)=aXR at *;generalize (a%4294967296)*(b/4294967296)=bJJ at *;generalize (a%4294967296)*(b%4294967296)=aXS at *;rw[wrap_u64 (n:=aXS),wrap_u64 (n:=bJI),wrap_u64 (n:=bJJ),wrap_u64 (n:=aXR)];rw[wrap_u64 (n:=aXR+aXS/4294967296),zG (w:=aXR+aXS/4294967296) (by omega) (by omega)];rw[wrap_u64 (n:=(aXR+aXS/4294967296)%4294967296+bJJ),wrap_u64 (n:=bJI+(aXR+aXS/4294967296)/4294967296),wrap_u64];have:bJI+(aXR+aXS/4294967296)/4294967296+((aXR+aXS/4294967296)%4294967296+bJJ)/4294967296=ab/18446744073709551616:=by omega
 rw[this]
def aJ:dK:=orc2 (pN .u64) (pN .u64) sp
theorem ok:OK 250 aJ:=(fJ E aF aD func250).nF rfl spec
end Pg
namespace uH
def E:Env:={ ({ base with C:=callsOf [(250,Pg.aJ)],n0:=1,io:=[0] })with nt:=66,own:=[45,61],keep:=fun k=>(tlook [(3,[0,1,2,7,8,14,15])] k).getD [],cut:=tlook [] }
def aF:=bd f228
theorem aX:Nk E aF:=nk
def L3(a:List Int)(b:Nat)(c:Nat) d f g h i j:=tM E f228 aF 3 [(A.any,some { e:=(22:Nat),cont:=zO.ints u64 a }),(A.v (V.one (L.view 0 b c)),none),iZ d,cY f,cY g,cY h,cA i,cA j]
theorem start al ao an b c:aI E f228 aF [D.io gW u64 al ao an,D.s (ints u64 b),D.s (sc (int u64 c))]=uH.L3 al ao an b c 0 0 (b.length:Int) 0:=eJ aX
theorem Cb a b c d e f g h i:L3 a b c d e f g h i=letI C:=b+i.toNat;letI B:=(d.length:Int);letI F:=b+B.toNat;letI A:=d.getD i.toNat 0*e%18446744073709551616+f+0;aB (decide (i<h)) (if 0<=i/\i<B then aO (0<=d.getD i.toNat 0/\d.getD i.toNat 0<(18446744073709551616:Int)/\0<=e/\e<18446744073709551616) (aO (0<=d.getD i.toNat 0*e%18446744073709551616/\0<=f/\(0:Int)<=(0:Int)/\(0:Int)<=(1:Int)) (if 0<=i/\i<(c:Int)then aO (0<=a.getD C 0/\0<=A%18446744073709551616/\A%18446744073709551616<(18446744073709551616:Int)/\0<=g/\g<=1) (if 0<=i/\i<(c:Int)then uH.L3 (a.set C ((a.getD C 0-A%18446744073709551616-g)%18446744073709551616)) b c d e (u64.wrap (d.getD i.toNat 0*e/18446744073709551616+A/18446744073709551616)) (if a.getD C 0<A%18446744073709551616+g then(1:Int)else(0:Int)) h (i64.wrap (i+1))else none)else none))else none) (if 0<=B/\B<(c:Int)then aO (0<=a.getD F 0/\0<=f/\f<18446744073709551616/\0<=g/\g<=1) (if 0<=B/\B<(c:Int)then some [D.s (sc (int u64 (if a.getD F 0<f+g then(1:Int)else(0:Int)))),D.io 22 u64 (a.set F ((a.getD F 0-f-g)%18446744073709551616)) 0 0]else none)else none):=lJ aX
def Wn(v o n X:Nat):Nat:=if v/18446744073709551616^o%18446744073709551616^n<X then 1 else 0
def sp(x:List Int×Nat×Nat)(b:List Int)(w:Int):Prop×List D:=(M6.dJ x.1/\x.2.2=b.length+1/\x.2.1+x.2.2<=x.1.length/\M6.dJ b/\x.1.length<=1099511627776/\0<=w/\w<18446744073709551616,
 [.s (.sc (.int .u64 (Wn (M6.val x.1) x.2.1 x.2.2 (M6.val b*w.toNat)))),.io gW .u64 (M6.qT x.1.length (M6.val x.1+18446744073709551616^(x.2.1+x.2.2)*Wn (M6.val x.1) x.2.1 x.2.2 (M6.val b*w.toNat)-18446744073709551616^x.2.1*(M6.val b*w.toNat))) 0 0])
theorem fin{a z':List Int}{o n X c N:Nat}(bCC:c<=1)(hd:M6.dJ a)(Af:M6.dJ z')(hl:z'.length=N)(h1:z'.take o=a.take o)(h2:z'.drop (o+n)=a.drop (o+n))(h:M6.val z'+18446744073709551616^o*X=M6.val a+18446744073709551616^(o+n)*c) :
  c=Wn (M6.val a) o n X/\z'=M6.qT N (M6.val a+18446744073709551616^(o+n)*Wn (M6.val a) o n X-18446744073709551616^o*X):=by
 obtain⟨k1,k2⟩:=M6.Wt hd Af h1 h2;have e:=M6.Wr k1 k2 h;have kD:=M6.aAH (M6.val z') o n;have hc:c=Wn (M6.val a) o n X:=by
  unfold Wn;have:c=0\/c=1:=by omega
  rcases this with rfl |rfl
  ·rw[aP]
  ·rw[aW]
 subst hc;exact⟨rfl,M6.qF Af hl (by omega)⟩
theorem bCU{x C s:Int}{p:Nat}(hp:p<=340282366920938463426481119284349108225)(h0:0<=x)(h1:x<18446744073709551616)(h2:0<=C)(h3:C<18446744073709551616)(h4:0<=s)(h5:s<=1) :
  (0<=(p:Int)/18446744073709551616+((p:Int)%18446744073709551616+C+0)/18446744073709551616/\(p:Int)/18446744073709551616+((p:Int)%18446744073709551616+C+0)/18446744073709551616<18446744073709551616) /\
  ((x-((p:Int)%18446744073709551616+C+0)%18446744073709551616-s)%18446744073709551616).toNat+p+C.toNat+s.toNat=x.toNat+18446744073709551616*(((p:Int)/18446744073709551616+((p:Int)%18446744073709551616+C+0)/18446744073709551616).toNat+(if x<((p:Int)%18446744073709551616+C+0)%18446744073709551616+s then(1:Int)else 0).toNat):=by
 split <;> omega
theorem L{a b:List Int}{o:Nat}{w:Int}(hN:a.length<=1099511627776)(ha:M6.dJ a)(hb:M6.dJ b)(ho:o+(b.length+1)<=a.length)(aHO:0<=w)(bKI:w<18446744073709551616):∀(r i:Nat) (z:List Int) (C s:Int),i+r=b.length->z.length=a.length->M6.dJ z->0<=C->C<18446744073709551616->0<=s->s<=1->z.take o=a.take o->z.drop (o+(b.length+1))=a.drop (o+(b.length+1)) ->
  M6.val z+18446744073709551616^o*(M6.val (b.take i)*w.toNat)=M6.val a+18446744073709551616^(o+i)*(C.toNat+s.toNat) ->
  L3 z o (b.length+1) b w C s b.length i=some [.s (.sc (.int .u64 (Wn (M6.val a) o (b.length+1) (M6.val b*w.toNat)))),.io gW .u64 (M6.qT a.length (M6.val a+18446744073709551616^(o+(b.length+1))*Wn (M6.val a) o (b.length+1) (M6.val b*w.toNat)-18446744073709551616^o*(M6.val b*w.toNat))) 0 0]:=by
 intro r
 induction r with
 |zero =>
  intro i z C s hi hz hd h0 h1 h2 h3 ht aHY hv;have aYV:i=b.length:=by omega
  subst aYV;rw[cFF]at hv;have g:=hd.get (o+b.length);rw[Cb,aL,aW,cCQ,gP ⟨g.1,h0,h1,h2,h3⟩,aW];have hs:=M6.sH (a:=z) (j:=o+b.length) (by omega) ((z.getD (o+b.length) 0-C-s)%18446744073709551616);have hf:=fin (a:=a) (z':=z.set (o+b.length) ((z.getD (o+b.length) 0-C-s)%18446744073709551616)) (o:=o) (n:=b.length+1) (X:=M6.val b*w.toNat) (c:=(if z.getD (o+b.length) 0<C+s then(1:Int)else 0).toNat) (N:=a.length) (by split <;> omega) ha (M6.pC hd (by omega)) (by simp[hz]) (by rw[cJM (by omega)];exact ht) (by rw[cJR (by omega)];exact aHY) (by
   rw[<-cCK o,cDS,cDV];generalize z.getD (o+b.length) 0=x at *;generalize M6.val (z.set (o+b.length) _)=W at *;generalize 18446744073709551616^(o+b.length)=P at *;have e:((x-C-s)%18446744073709551616).toNat+(C.toNat+s.toNat)=x.toNat+18446744073709551616*(if x<C+s then(1:Int)else 0).toNat:=by split <;> omega
   have e2:P*((x-C-s)%18446744073709551616).toNat+P*(C.toNat+s.toNat)=P*x.toNat+P*(18446744073709551616*(if x<C+s then(1:Int)else 0).toNat):=by
    rw[<-cDT,e,cDT]
   omega)
  rw[<-hf.2,<-hf.1,cLB (by split <;> omega)]
 |succ r ih =>
  intro i z C s hi hz hd h0 h1 h2 h3 ht aHY hv;have g:=hd.get (o+i);have g2:=hb.get i;have w2:i64.wrap ((i:Int)+1)=((i+1:Nat):Int):=by rw[wrap_i64];omega
  obtain⟨X,hX⟩:=cDX g2.1;obtain⟨Y,hY⟩:=cDX aHO;have bMR:X*Y<=340282366920938463426481119284349108225:=by
   have h2:X<=18446744073709551615:=by omega
   have h3:Y<=18446744073709551615:=by omega
   have:=cJC h2 h3;omega
  obtain⟨k1,k2⟩:=bCU bMR g.1 g.2 h0 h1 h2 h3;rw[Cb,aQ,aW,w2];simp only[cCQ];have hq:b.getD i 0*w=((X*Y:Nat):Int):=by rw[hX,hY];simp
  rw[gP ⟨g2.1,g2.2,aHO,bKI⟩];simp only[hq];rw[gP ⟨by omega,by omega,by omega,by omega⟩,aW,gP ⟨g.1,by omega,by omega,h2,h3⟩,aW,wrap_u64 k1.1 k1.2];refine ih (i+1) _ _ (if z.getD (o+i) 0<(((X*Y:Nat):Int)%18446744073709551616+C+0)%18446744073709551616+s then(1:Int)else 0) (by omega) (by simp[hz]) (M6.pC hd (by omega)) k1.1 k1.2 (by split <;> omega) (by split <;> omega) (by rw[cJM (by omega)];exact ht) (by rw[cJR (by omega)];exact aHY) ?_;have hs:=M6.sH (a:=z) (j:=o+i) (by omega) ((z.getD (o+i) 0-(((X*Y:Nat):Int)%18446744073709551616+C+0)%18446744073709551616-s)%18446744073709551616);have e0:18446744073709551616^o*(M6.val (b.take (i+1))*w.toNat)=18446744073709551616^o*(M6.val (b.take i)*w.toNat)+18446744073709551616^(o+i)*(X*Y):=by
   rw[M6.dT,hX,hY,cCQ,cCQ,bZN,cDT,cDU,cDV,cDV]
  rw[e0,show o+(i+1)=(o+i)+1 from by omega,cDS,cDV];generalize ((z.getD (o+i) 0-(((X*Y:Nat):Int)%18446744073709551616+C+0)%18446744073709551616-s)%18446744073709551616)=d at *;generalize (((X*Y:Nat):Int)/18446744073709551616+(((X*Y:Nat):Int)%18446744073709551616+C+0)/18446744073709551616).toNat=C' at *;generalize (if z.getD (o+i) 0<(((X*Y:Nat):Int)%18446744073709551616+C+0)%18446744073709551616+s then(1:Int)else 0).toNat=s' at *;generalize X*Y=q at *;generalize 18446744073709551616^(o+i)=P at *;generalize M6.val (z.set (o+i) d)=W at *;generalize (z.getD (o+i) 0).toNat=x at *;generalize 18446744073709551616^o*(M6.val (b.take i)*w.toNat)=U at *;have e2:P*d.toNat+P*q+P*(C.toNat+s.toNat)=P*x+P*(18446744073709551616*(C'+s')):=by
   rw[<-cDT,<-cDT,<-cDT];congr 1;omega
  omega
theorem bound{v o n N X:Nat}(hv:v<18446744073709551616^N)(bUP:o+n<=N)(hX:X<18446744073709551616^n):v+18446744073709551616^(o+n)*Wn v o n X-18446744073709551616^o*X<18446744073709551616^N:=by
 have e1:=M6.Cj v o n;have hW:=M6.aAH v o n;have hT:v/18446744073709551616^(o+n)<18446744073709551616^(N-(o+n)):=by
  apply cEL;rw[<-cDU,show o+n+(N-(o+n))=N from by omega];exact hv
 have hL:v%18446744073709551616^o<18446744073709551616^o:=cBB _ (cZ);have s2:18446744073709551616^(o+n)*(v/18446744073709551616^(o+n)+1)<=18446744073709551616^N:=by
  have:=cBH (18446744073709551616^(o+n)) hT;rw[<-cDU,show o+n+(N-(o+n))=N from by omega]at this;exact this
 rw[cDT]at s2;unfold Wn;generalize v/18446744073709551616^o%18446744073709551616^n=W at *;generalize v%18446744073709551616^o=L at *;generalize v/18446744073709551616^(o+n)=T at *;split
 ·rename_i kD;have:18446744073709551616^o*(W+1)<=18446744073709551616^o*X:=cBH _ kD;rw[cDT]at this;omega
 ·omega
theorem spec(x:List Int×Nat×Nat)(b:List Int)(w:Int)(h:(sp x b w).1):aI E f228 aF [(Fl gW .u64).put x,(pI .u64).put b,(pN .u64).put w]=some (sp x b w).2/\∃rs nV,(sp x b w).2=rs ++ [.io gW .u64 nV 0 0]/\nV.length=x.1.length:=by
 obtain⟨xl,o,n⟩:=x;obtain⟨hd,hn,ho,hb,hN,aHO,bKI⟩:=h;simp only at hd hn ho hN;subst hn;refine⟨(start xl o (b.length+1) b w).trans ?_,[_],_,rfl,M6.iW (bound (M6.dW hd) ho ?_)⟩
 ·exact L hN hd hb ho aHO bKI b.length 0 xl 0 0 (by omega) rfl hd (by omega) (by omega) (by omega) (by omega) rfl rfl (by simp[M6.val])
 ·rw[cDS];exact cGX (M6.dW hb) (by omega)
def aJ:dK:=orc3 (Fl gW .u64) (pI .u64) (pN .u64) sp
theorem fnok:mZ prog E 228 f228 aF:=xC sT mixed (mV _ rfl (aA Pg.ok aD) (oR)) func228 rfl rfl rfl rfl rfl
theorem ok:qZ prog base.glob 228 aJ:=fnok.zR rfl spec
end uH
namespace zW
def E:Env:={ ({ base with n0:=1,io:=[0] })with nt:=44,own:=[24,39],keep:=fun k=>(tlook [(3,[0,1,5,8,9])] k).getD [],cut:=tlook [] }
def aF:=bd f229
theorem aX:Nk E aF:=nk
def L3(a:List Int)(b:Nat)(c:Nat) d f g h:=tM E f229 aF 3 [(A.any,some { e:=(22:Nat),cont:=zO.ints u64 a }),(A.v (V.one (L.view 0 b c)),none),iZ d,cY f,cA g,cA h]
theorem start al ao an b:aI E f229 aF [D.io gW u64 al ao an,D.s (ints u64 b)]=zW.L3 al ao an b 0 (b.length:Int) 0:=eJ aX
theorem Cb a b c d e f g:L3 a b c d e f g=letI G:=b+g.toNat;letI B:=a.getD G 0+d.getD g.toNat 0+e;letI A:=(d.length:Int);letI F:=b+A.toNat;letI C:=a.getD F 0+(0:Int)+e;aB (decide (g<f)) (if 0<=g/\g<(c:Int)then if 0<=g/\g<A then aO (0<=a.getD G 0/\0<=d.getD g.toNat 0/\0<=e/\e<=1) (if 0<=g/\g<(c:Int)then zW.L3 (a.set G (B%18446744073709551616)) b c d (B/18446744073709551616) f (i64.wrap (g+1))else none)else none else none) (if 0<=A/\A<(c:Int)then aO (0<=a.getD F 0/\(0:Int)<=(0:Int)/\0<=e/\e<=1) (if 0<=A/\A<(c:Int)then some [D.s (sc (int u64 (C/18446744073709551616))),D.io 22 u64 (a.set F (C%18446744073709551616)) 0 0]else none)else none):=lJ aX
def aAB(v o n X:Nat):Nat:=(v/18446744073709551616^o%18446744073709551616^n+X)/18446744073709551616^n
def sp(x:List Int×Nat×Nat)(b:List Int):Prop×List D:=(M6.dJ x.1/\x.2.2=b.length+1/\x.2.1+x.2.2<=x.1.length/\M6.dJ b/\x.1.length<=1099511627776,
 [.s (.sc (.int .u64 (aAB (M6.val x.1) x.2.1 x.2.2 (M6.val b)))),.io gW .u64 (M6.qT x.1.length (M6.val x.1+18446744073709551616^x.2.1*M6.val b-18446744073709551616^(x.2.1+x.2.2)*aAB (M6.val x.1) x.2.1 x.2.2 (M6.val b))) 0 0])
theorem fin{a z':List Int}{o n X c N:Nat}(hd:M6.dJ a)(Af:M6.dJ z')(hl:z'.length=N)(h1:z'.take o=a.take o)(h2:z'.drop (o+n)=a.drop (o+n))(h:M6.val z'+18446744073709551616^(o+n)*c=M6.val a+18446744073709551616^o*X) :
  c=aAB (M6.val a) o n X/\z'=M6.qT N (M6.val a+18446744073709551616^o*X-18446744073709551616^(o+n)*aAB (M6.val a) o n X):=by
 obtain⟨k1,k2⟩:=M6.Wt hd Af h1 h2;have e:=M6.Wr k1.symm k2.symm h.symm;have kD:=M6.aAH (M6.val z') o n;have hc:c=aAB (M6.val a) o n X:=by
  unfold aAB;rw[e];rw[cFY _ _ (cZ),cEM kD,bYV]
 subst hc;exact⟨rfl,M6.qF Af hl (by omega)⟩
theorem L{a b:List Int}{o:Nat}(hN:a.length<=1099511627776)(ha:M6.dJ a)(hb:M6.dJ b)(ho:o+(b.length+1)<=a.length):∀(r i:Nat) (z:List Int) (c:Int),i+r=b.length->z.length=a.length->M6.dJ z->0<=c->c<=1->z.take o=a.take o->z.drop (o+(b.length+1))=a.drop (o+(b.length+1)) ->
  M6.val z+18446744073709551616^(o+i)*c.toNat=M6.val a+18446744073709551616^o*M6.val (b.take i) ->
  L3 z o (b.length+1) b c b.length i=some [.s (.sc (.int .u64 (aAB (M6.val a) o (b.length+1) (M6.val b)))),.io gW .u64 (M6.qT a.length (M6.val a+18446744073709551616^o*M6.val b-18446744073709551616^(o+(b.length+1))*aAB (M6.val a) o (b.length+1) (M6.val b))) 0 0]:=by
 intro r
 induction r with
 |zero =>
  intro i z c hi hz hd h0 h1 ht aHY hv;have aYV:i=b.length:=by omega
  subst aYV;rw[cFF]at hv;have g:=hd.get (o+b.length);rw[Cb,aL,aW,cCQ,gP ⟨g.1,by omega,h0,h1⟩,aW];have hs:=M6.sH (a:=z) (j:=o+b.length) (by omega) ((z.getD (o+b.length) 0+0+c)%18446744073709551616);have hf:=fin (a:=a) (z':=z.set (o+b.length) ((z.getD (o+b.length) 0+0+c)%18446744073709551616)) (o:=o) (n:=b.length+1) (X:=M6.val b) (c:=((z.getD (o+b.length) 0+0+c)/18446744073709551616).toNat) (N:=a.length) ha (M6.pC hd (by omega)) (by simp[hz]) (by rw[cJM (by omega)];exact ht) (by rw[cJR (by omega)];exact aHY) (by
   rw[<-cCK o,cDS,cDV];generalize z.getD (o+b.length) 0=x at *;generalize M6.val (z.set (o+b.length) _)=W at *;generalize 18446744073709551616^(o+b.length)=P at *;have e:((x+0+c)%18446744073709551616).toNat+18446744073709551616*((x+0+c)/18446744073709551616).toNat=x.toNat+c.toNat:=by omega
   have e2:P*((x+0+c)%18446744073709551616).toNat+P*(18446744073709551616*((x+0+c)/18446744073709551616).toNat)=P*x.toNat+P*c.toNat:=by
    rw[<-cDT,e,cDT]
   omega)
  rw[<-hf.2,<-hf.1,cLB (by omega)]
 |succ r ih =>
  intro i z c hi hz hd h0 h1 ht aHY hv;have g:=hd.get (o+i);have g2:=hb.get i;have w2:i64.wrap ((i:Int)+1)=((i+1:Nat):Int):=by rw[wrap_i64];omega
  rw[Cb,aQ,aW,aW,cCQ,gP ⟨g.1,g2.1,h0,h1⟩,aW,w2];refine ih (i+1) _ _ (by omega) (by simp[hz]) (M6.pC hd (by omega)) (by omega) (by omega) (by rw[cJM (by omega)];exact ht) (by rw[cJR (by omega)];exact aHY) ?_;have hs:=M6.sH (a:=z) (j:=o+i) (by omega) ((z.getD (o+i) 0+b.getD i 0+c)%18446744073709551616);rw[M6.dT,cDT,<-cDV,<-cDU,show o+(i+1)=(o+i)+1 from by omega,cDS,cDV];generalize z.getD (o+i) 0=x at *;generalize b.getD i 0=y at *;generalize M6.val (z.set (o+i) _)=W at *;generalize 18446744073709551616^(o+i)=P at *;generalize 18446744073709551616^o*M6.val (b.take i)=U at *;have e:((x+y+c)%18446744073709551616).toNat+18446744073709551616*((x+y+c)/18446744073709551616).toNat=x.toNat+y.toNat+c.toNat:=by omega
  have e2:P*((x+y+c)%18446744073709551616).toNat+P*(18446744073709551616*((x+y+c)/18446744073709551616).toNat)=P*x.toNat+P*y.toNat+P*c.toNat:=by
   rw[<-cDT,e,cDT,cDT]
  omega
theorem bound{v o n N X:Nat}(hv:v<18446744073709551616^N)(bUP:o+n<=N):v+18446744073709551616^o*X-18446744073709551616^(o+n)*aAB v o n X<18446744073709551616^N:=by
 have e1:=M6.Cj v o n;unfold aAB;generalize hW:v/18446744073709551616^o%18446744073709551616^n=W at *;have h2:=cJG (W+X) (18446744073709551616^n);have h3:(W+X)%18446744073709551616^n<18446744073709551616^n:=cBB _ (cZ);generalize (W+X)/18446744073709551616^n=c at *;generalize (W+X)%18446744073709551616^n=M at *;have hL:v%18446744073709551616^o<18446744073709551616^o:=cBB _ (cZ);have hT:v/18446744073709551616^(o+n)<18446744073709551616^(N-(o+n)):=by
  apply cEL;rw[<-cDU,show o+n+(N-(o+n))=N from by omega];exact hv
 generalize v%18446744073709551616^o=L at *;generalize v/18446744073709551616^(o+n)=T at *;have e3:18446744073709551616^(o+n)*c=18446744073709551616^o*(18446744073709551616^n*c):=by rw[cDU,cDV]
 have e4:18446744073709551616^o*(W+X)=18446744073709551616^o*M+18446744073709551616^o*(18446744073709551616^n*c):=by rw[<-h2,cDT]
 rw[cDT]at e4;have e5:v+18446744073709551616^o*X-18446744073709551616^(o+n)*c=L+18446744073709551616^o*M+18446744073709551616^(o+n)*T:=by omega
 rw[e5];have s1:L+18446744073709551616^o*M<18446744073709551616^(o+n):=by
  have:18446744073709551616^o*(M+1)<=18446744073709551616^o*18446744073709551616^n:=cBH _ h3;rw[<-cDU,cDT]at this;omega
 have s2:18446744073709551616^(o+n)*(T+1)<=18446744073709551616^N:=by
  have:=cBH (18446744073709551616^(o+n)) hT;rw[<-cDU,show o+n+(N-(o+n))=N from by omega]at this;exact this
 rw[cDT]at s2;omega
theorem spec(x:List Int×Nat×Nat)(b:List Int)(h:(sp x b).1):aI E f229 aF [(Fl gW .u64).put x,(pI .u64).put b]=some (sp x b).2/\∃rs nV,(sp x b).2=rs ++ [.io gW .u64 nV 0 0]/\nV.length=x.1.length:=by
 obtain⟨xl,o,n⟩:=x;obtain⟨hd,hn,ho,hb,hN⟩:=h;simp only at hd hn ho hN;subst hn;refine⟨(start xl o (b.length+1) b).trans ?_,[_],_,rfl,M6.iW (bound (M6.dW hd) ho)⟩;exact L hN hd hb ho b.length 0 xl 0 (by omega) rfl hd (by omega) (by omega) rfl rfl (by simp[M6.val])
def aJ:dK:=orc2 (Fl gW .u64) (pI .u64) sp
theorem fnok:mZ prog E 229 f229 aF:=xC sT mixed (mV _ rfl aD (oR)) func229 rfl rfl rfl rfl rfl
theorem ok:qZ prog base.glob 229 aJ:=fnok.nF rfl spec
end zW
namespace Gn
def E:Env:={ ({ base with C:=sO [(228,uH.aJ),(229,zW.aJ)] (callsOf [(227,aCV.aJ)]),ioF:=Qc [(228,uH.aJ),(229,zW.aJ)],n0:=1,io:=[0] })with nt:=72,own:=[],keep:=fun k=>(tlook [(10,[0,1,5,6,7,8,9]),(4,[0,1,5,6,7])] k).getD [],cut:=tlook [] }
def aF:=bd f197
theorem aX:Nk E aF:=nk
def L4(a:List Int)(b:Nat)(c:Nat) d f (g:Nat) (h:List Int) i:=tM E f197 aF 4 [(A.any,some { e:=(22:Nat),cont:=zO.ints u64 a }),(A.v (V.one (L.view 0 b c)),none),iZ d,cA f,Dx 4 g 22 h,cA i]
def Ix(a:List Int)(b:Nat)(c:Nat) d f (g:Nat) (h:List Int) i j (k:Nat) (l:Nat):=tM E f197 aF 10 [(A.any,some { e:=(22:Nat),cont:=zO.ints u64 a }),(A.v (V.one (L.view 0 b c)),none),iZ d,cA f,Dx 4 g 22 h,cA i,cY j,(A.v (V.one (L.view 0 k l)),none)]
theorem start al ao an b:aI E f197 aF [D.io gW u64 al ao an,D.s (ints u64 b)]=letI B:=(an:Int);letI A:=(b.length:Int);if 0<=i64.wrap (B-A)/\i64.wrap (B-A)<=i64.wrap (B-A)/\i64.wrap (B-A)<=8796093022208 then Gn.L4 al ao an b A (i64.wrap (B-A)).toNat (cAW (i64.wrap (B-A)).toNat (0:Int)) (i64.wrap (i64.wrap (B-A)-1))else none:=eJ aX
theorem wU a b c d e f g h:L4 a b c d e f g h=letI N:=b+h.toNat;letI K:=i64.wrap (e-1);letI H:=i64.wrap (h+e)+1;letI G:=i64.wrap (h+e)-1;letI F:=b+(i64.wrap (h+e)).toNat;letI B:=b+(i64.wrap G).toNat;letI A:=i64.wrap H;letI C:=A.toNat-h.toNat;aB (decide (0<=h)) (if 0<=i64.wrap (h+e)/\i64.wrap (h+e)<(c:Int)then if 0<=i64.wrap G/\i64.wrap G<(c:Int)then if 0<=i64.wrap (e-1)/\i64.wrap (e-1)<(d.length:Int)then aO (0<=a.getD F 0/\0<=a.getD B 0/\a.getD B 0<(18446744073709551616:Int)/\d.getD K.toNat 0<(18446744073709551616:Int)) (aC (if d.getD K.toNat 0<=a.getD F 0 then(18446744073709551615:Int)else(↑(((a.getD F 0).toNat*18446744073709551616+(a.getD B 0).toNat)/(d.getD K.toNat 0).toNat):Int)) fun i=>letI I:=M6.val d*i.toNat;if 0<=h/\h<=i64.wrap H/\i64.wrap H<=(c:Int)then aO (M6.dJ a/\A.toNat-h.toNat=d.length+1/\b+h.toNat+C<=a.length/\M6.dJ d/\a.length<=1099511627776/\0<=i/\i<18446744073709551616) (aC (↑(uH.Wn (M6.val a) N C I):Int) fun j=>aC (M6.qT a.length (M6.val a+(18446744073709551616:Nat)^(b+h.toNat+C)*uH.Wn (M6.val a) N C I-(18446744073709551616:Nat)^N*I)) fun k=>aB (j==0) (if 0<=h/\h<(f:Int)then Gn.L4 k b c d e f (g.set h.toNat i) (i64.wrap (h-1))else none) (Gn.Ix k b c d e f g h i N C))else none)else none else none else none) (some [D.own 22 u64 g,D.io 22 u64 a 0 0]):=lJ aX
theorem sG a b c d e f g h i j k:Ix a b c d e f g h i j k=aO (M6.dJ a/\k=d.length+1/\j+k<=a.length/\M6.dJ d/\a.length<=1099511627776) (aC (↑(zW.aAB (M6.val a) j k (M6.val d)):Int) fun l=>aC (M6.qT a.length (M6.val a+(18446744073709551616:Nat)^j*M6.val d-(18446744073709551616:Nat)^(j+k)*zW.aAB (M6.val a) j k (M6.val d))) fun m=>aB (l==1) (if 0<=h/\h<(f:Int)then Gn.L4 m b c d e f (g.set h.toNat (u64.wrap (i-1))) (i64.wrap (h-1))else none) (Gn.Ix m b c d e f g h (u64.wrap (i-1)) j k)):=lJ aX
def sp(x:List Int×Nat×Nat)(b:List Int):Prop×List D:=(M6.dJ x.1/\x.2.1=0/\x.2.2=x.1.length/\M6.dJ b/\0<b.length/\b.length<=x.1.length/\x.1.length<=549755813888/\M6.val x.1/18446744073709551616^(x.1.length-b.length)<M6.val b,
 [.own gW .u64 (M6.qT (x.1.length-b.length) (M6.val x.1/M6.val b)),.io gW .u64 (M6.qT x.1.length (M6.val x.1%M6.val b)) 0 0])
theorem digit{z:List Int}(hd:M6.dJ z)(k:Nat):(z.getD k 0).toNat=M6.val z/18446744073709551616^k%18446744073709551616:=by
 rw[<-M6.oF hd,M6.kJ];have:=hd.get k;omega
theorem Kj{v j n:Nat}(h:v/18446744073709551616^j<18446744073709551616^n):v/18446744073709551616^j%18446744073709551616^n=v/18446744073709551616^j:=cJE h
theorem minus{v j R X:Nat}(hR:R=v/18446744073709551616^j)(hX:X<=R):(v-18446744073709551616^j*X)/18446744073709551616^j=R-X/\18446744073709551616^j*X<=v:=by
 have h1:=cJG v (18446744073709551616^j);have h2:v%18446744073709551616^j<18446744073709551616^j:=cBB _ (cZ);rw[<-hR]at h1;obtain⟨D,rfl⟩:=bZY hX;rw[cDT]at h1;have h3:v-18446744073709551616^j*X=v%18446744073709551616^j+18446744073709551616^j*D:=by omega
 rw[h3,cFY _ _ (cZ),cEM h2];omega
theorem plus{v j n R X:Nat}(hR:R=v/18446744073709551616^j)(hX:R<X)(bCD:X<=18446744073709551616^n):(v+18446744073709551616^(j+n)-18446744073709551616^j*X)/18446744073709551616^j%18446744073709551616^n=R+18446744073709551616^n-X:=by
 have h1:=cJG v (18446744073709551616^j);have h2:v%18446744073709551616^j<18446744073709551616^j:=cBB _ (cZ);rw[<-hR]at h1;have h4:18446744073709551616^j*(R+18446744073709551616^n)=18446744073709551616^j*R+18446744073709551616^(j+n):=by rw[cDT,cDU]
 obtain⟨D,hD⟩:∃D,R+18446744073709551616^n=X+D:=bZY (by omega);rw[hD,cDT]at h4;have h3:v+18446744073709551616^(j+n)-18446744073709551616^j*X=v%18446744073709551616^j+18446744073709551616^j*D:=by omega
 rw[h3,cFY _ _ (cZ),cEM h2,bYV,cJE (by omega)];omega
theorem aKQ{R V n:Nat}{hi lo d:Int}(hn:0<n)(hV:V<18446744073709551616^n)(bIL:R<18446744073709551616*V)(Qg:hi.toNat=R/18446744073709551616^n)(Rv:lo.toNat=R/18446744073709551616^(n-1)%18446744073709551616)(hd:d.toNat=V/18446744073709551616^(n-1))(h0:0<=hi) :
  R/V<=(if d<=hi then(18446744073709551615:Int)else(((hi.toNat*18446744073709551616+lo.toNat)/d.toNat:Nat):Int)).toNat/\(0<=if d<=hi then(18446744073709551615:Int)else(((hi.toNat*18446744073709551616+lo.toNat)/d.toNat:Nat):Int))/\(if d<=hi then(18446744073709551615:Int)else(((hi.toNat*18446744073709551616+lo.toNat)/d.toNat:Nat):Int))<18446744073709551616:=by
 by_cases hc:d<=hi
 ·rw[if_pos hc];refine⟨?_,by omega,by omega⟩;have:R/V<18446744073709551616:=by
   apply cEL;rw[cDR];exact bIL
  show R/V<=18446744073709551615;omega
 ·rw[if_neg hc];obtain⟨k,rfl⟩:∃k,n=k+1:=⟨n-1,by omega⟩;rw[Nat.add_sub_cancel]at Rv hd;have e1:hi.toNat*18446744073709551616+lo.toNat=R/18446744073709551616^k:=by
   rw[Qg,Rv,cDS,<-cEN];omega
  have bWB:0<d.toNat:=by omega
  have kD:hi.toNat<d.toNat:=by omega
  refine⟨?_,cIH _,?_⟩
  ·rw[cCQ,e1,cEN];apply cJI
   ·rw[hd];exact cJO _ _
   ·exact Nat.mul_pos (cZ) bWB
  ·have hlo2:lo.toNat<18446744073709551616:=by rw[Rv];exact cBB _ (by omega)
   have:(hi.toNat*18446744073709551616+lo.toNat)/d.toNat<18446744073709551616:=by
    apply cEL;have:(hi.toNat+1)*18446744073709551616<=d.toNat*18446744073709551616:=cAI _ kD;omega
   exact Int.ofNat_lt.2 this
theorem bOF{u b qs:List Int}{L j R q:Nat}(hL:L<=549755813888)(hu:u.length=L)(hd:M6.dJ u)(hb:M6.dJ b)(hj:j+(b.length+1)<=L)(hR:R=M6.val u/18446744073709551616^j)(aWM:R<18446744073709551616^(b.length+1))(hV:0<M6.val b)(hq:q=R/M6.val b)(hqs:qs.length=L-b.length):∀(k w:Nat),w=q+(k+1)->w<18446744073709551616 ->
  Ix (M6.qT L (M6.val u+18446744073709551616^(j+(b.length+1))-18446744073709551616^j*(M6.val b*w))) 0 L b b.length (L-b.length) qs j w j (b.length+1)=L4 (M6.qT L (M6.val u-18446744073709551616^j*(M6.val b*q))) 0 L b b.length (L-b.length) (qs.set j (q:Int)) ((j:Int)-1):=by
 have bGE:=M6.dW hb;have bHW:M6.val b*q<=R:=by rw[hq];exact cJO _ _
 have aYK:R<M6.val b*(q+1):=by rw[hq];exact cJY _ hV
 have bDW:=M6.dW hd;rw[hu]at bDW;intro k
 induction k with
 |zero =>
  intro w hw bTT;subst hw;have bCD:M6.val b*(q+(0+1))<=18446744073709551616^(b.length+1):=by
   rw[cDS];exact cJC (by omega) (by omega)
  have Rt:=plus (n:=b.length+1) hR (X:=M6.val b*(q+(0+1))) aYK bCD;have bFY:M6.val u+18446744073709551616^(j+(b.length+1))-18446744073709551616^j*(M6.val b*(q+(0+1)))<18446744073709551616^L:=by
   have:=uH.bound bDW hj (X:=M6.val b*(q+(0+1))) (by rw[cDS];exact cGX bGE (by omega));unfold uH.Wn at this;rw[Kj (by rw[<-hR];exact aWM),<-hR,if_pos aYK,bZD]at this;exact this
  have aZE:zW.aAB (M6.val u+18446744073709551616^(j+(b.length+1))-18446744073709551616^j*(M6.val b*(q+(0+1)))) j (b.length+1) (M6.val b)=1:=by
   unfold zW.aAB;rw[Rt];have e:R+18446744073709551616^(b.length+1)-M6.val b*(q+(0+1))+M6.val b=18446744073709551616^(b.length+1)*1+(R-M6.val b*q):=by
    rw[cDT]at bCD ⊢;omega
   have kD:R-M6.val b*q<18446744073709551616^(b.length+1):=by omega
   rw[e,cIG (cZ),cEM kD]
  have w1:u64.wrap (((q+(0+1):Nat):Int)-1)=(q:Int):=by rw[wrap_u64];omega
  have w2:i64.wrap ((j:Int)-1)=(j:Int)-1:=by rw[wrap_i64]
  rw[sG,aH,aH,M6.iW bFY,M6.mS,aZE,gP ⟨M6.mT,by trivial,hj,hb,by omega⟩,cD (by rfl),aW,w1,w2,cCQ];congr 1;congr 1;have e1:18446744073709551616^j*(M6.val b*(q+(0+1)))=18446744073709551616^j*(M6.val b*q)+18446744073709551616^j*M6.val b:=by rw[cDT,cDT];simp
  have e2:=(minus hR bHW).2;have e3:18446744073709551616^j*M6.val b<=18446744073709551616^(j+(b.length+1)):=by
   rw[cDU,cDS];exact cBH _ (by omega)
  omega
 |succ k ih =>
  intro w hw bTT;subst hw;have bFA:R<M6.val b*(q+(k+1)):=bZQ aYK (cBH _ (by omega));have aMZ:M6.val b*(q+(k+1+1))=M6.val b*(q+(k+1))+M6.val b:=by rw[<-cCK q,Nat.mul_succ]
  have bCD:M6.val b*(q+(k+1+1))<=18446744073709551616^(b.length+1):=by
   rw[cDS];exact cJC (by omega) (by omega)
  have Rt:=plus (n:=b.length+1) hR (X:=M6.val b*(q+(k+1+1))) (by omega) bCD;have bFY:M6.val u+18446744073709551616^(j+(b.length+1))-18446744073709551616^j*(M6.val b*(q+(k+1+1)))<18446744073709551616^L:=by
   have:=uH.bound bDW hj (X:=M6.val b*(q+(k+1+1))) (by rw[cDS];exact cGX bGE (by omega));unfold uH.Wn at this;rw[Kj (by rw[<-hR];exact aWM),<-hR,aW,bZD]at this;exact this
  have aZE:zW.aAB (M6.val u+18446744073709551616^(j+(b.length+1))-18446744073709551616^j*(M6.val b*(q+(k+1+1)))) j (b.length+1) (M6.val b)=0:=by
   unfold zW.aAB;rw[Rt];exact cEM (by omega)
  have w1:u64.wrap (((q+(k+1+1):Nat):Int)-1)=((q+(k+1):Nat):Int):=by rw[wrap_u64];omega
  rw[sG,aH,aH,M6.iW bFY,M6.mS,aZE,gP ⟨M6.mT,by trivial,hj,hb,by omega⟩,bJ (by decide),w1];have e4:M6.val u+18446744073709551616^(j+(b.length+1))-18446744073709551616^j*(M6.val b*(q+(k+1+1)))+18446744073709551616^j*M6.val b-18446744073709551616^(j+(b.length+1))*0=M6.val u+18446744073709551616^(j+(b.length+1))-18446744073709551616^j*(M6.val b*(q+(k+1))):=by
   have e1:18446744073709551616^j*(M6.val b*(q+(k+1+1)))=18446744073709551616^j*(M6.val b*(q+(k+1)))+18446744073709551616^j*M6.val b:=by rw[aMZ,cDT]
   have e3:18446744073709551616^j*(M6.val b*(q+(k+1+1)))<=18446744073709551616^(j+(b.length+1)):=by
    rw[cDU];exact cBH _ bCD
   omega
  rw[e4];exact ih _ rfl (by omega)
theorem aRC{α R:Type}{x:α}{k:α->Option R}{r:Option R}(Q:α->Prop)(hx:Q x)(hk:∀w,Q w->k w=r):aC x k=r:=hk x hx
theorem bYR{b:List Int}{L U0:Nat}(hL:L<=549755813888)(hb:M6.dJ b)(hn:0<b.length)(hbL:b.length<=L):∀(t:Nat) (u qs:List Int),t<=L-b.length->u.length=L->M6.dJ u->qs.length=L-b.length->M6.dJ qs->M6.val u/18446744073709551616^t<M6.val b->U0=M6.val u+M6.val b*(18446744073709551616^t*M6.val (qs.drop t)) ->
  L4 u 0 L b b.length (L-b.length) qs ((t:Int)-1)=some [.own gW .u64 (M6.qT (L-b.length) (U0/M6.val b)),.io gW .u64 (M6.qT L (U0%M6.val b)) 0 0]:=by
 have bGE:=M6.dW hb;intro t
 induction t with
 |zero =>
  intro u qs _ hu hd hq bLY kD hU;rw[cIP,Nat.div_one]at kD;rw[cIP,cCX,cFG]at hU;rw[wU,aL];have e1:U0/M6.val b=M6.val qs:=by rw[hU,cFY _ _ (by omega),cEM kD,bYV]
  have e2:U0%M6.val b=M6.val u:=by rw[hU,cKY,cJE kD]
  rw[M6.qF hd hu e2.symm,M6.qF bLY hq e1.symm]
 |succ j ih =>
  intro u qs hj hu hd hq bLY kD hU;obtain⟨R,hR⟩:∃R,R=M6.val u/18446744073709551616^j:=⟨_,rfl⟩;have hV:0<M6.val b:=cFC (cEU _) kD;have bIL:R<18446744073709551616*M6.val b:=by
   rw[cDS,<-cEN,<-hR]at kD;rw[cDR];exact(cJZ (by omega)).1 kD
  have aWM:R<18446744073709551616^(b.length+1):=by rw[cDS];omega
  obtain⟨q,bHV⟩:∃q,q=R/M6.val b:=⟨_,rfl⟩;have bHW:M6.val b*q<=R:=by rw[bHV];exact cJO _ _
  have hqB:q<18446744073709551616:=by
   rw[bHV];apply cEL;rw[cDR];exact bIL
  have bDW:=M6.dW hd;rw[hu]at bDW;have bOP:L4 (M6.qT L (M6.val u-18446744073709551616^j*(M6.val b*q))) 0 L b b.length (L-b.length) (qs.set j (q:Int)) ((j:Int)-1)=some [.own gW .u64 (M6.qT (L-b.length) (U0/M6.val b)),.io gW .u64 (M6.qT L (U0%M6.val b)) 0 0]:=by
   obtain⟨m1,m2⟩:=minus hR bHW;refine ih _ _ (by omega) (M6.iW (by omega)) M6.mT (by simp[hq]) (M6.pC bLY ⟨by omega,by omega⟩) ?_ ?_
   ·rw[M6.mS,m1];have h1:=cJG R (M6.val b);have h2:=cBB R hV;rw[<-bHV]at h1;omega
   ·rw[M6.mS,M6.yF (by omega),cCQ,hU,cDS];have e1:M6.val b*(18446744073709551616^j*(q+18446744073709551616*M6.val (qs.drop (j+1))))=18446744073709551616^j*(M6.val b*q)+M6.val b*(18446744073709551616^j*18446744073709551616*M6.val (qs.drop (j+1))):=by
     rw[cDT,cDT,cGI,cDV (18446744073709551616^j)]
    rw[e1];omega
  have hx:((j+1:Nat):Int)-1=(j:Int):=by omega
  have w1:i64.wrap ((j:Int)+(b.length:Int))=((j+b.length:Nat):Int):=by rw[wrap_i64];omega
  have w2:i64.wrap (((j+b.length:Nat):Int)-1)=((j+b.length-1:Nat):Int):=by rw[wrap_i64];omega
  have w3:i64.wrap ((b.length:Int)-1)=((b.length-1:Nat):Int):=by rw[wrap_i64];omega
  have w4:i64.wrap (((j+b.length:Nat):Int)+1)=((j+b.length+1:Nat):Int):=by rw[wrap_i64];omega
  have w5:i64.wrap ((j:Int)-1)=(j:Int)-1:=by rw[wrap_i64]
  have e5:j+b.length+1-j=b.length+1:=by omega
  have g1:=hd.get (j+b.length);have g2:=hd.get (j+b.length-1);have g3:=hb.get (b.length-1);have Qg:(u.getD (j+b.length) 0).toNat=R/18446744073709551616^b.length:=by
   rw[digit hd,cDU,<-cEN,<-hR,cJE];apply cEL;rw[cDS]at aWM;exact aWM
  have Rv:(u.getD (j+b.length-1) 0).toNat=R/18446744073709551616^(b.length-1)%18446744073709551616:=by
   rw[digit hd,show j+b.length-1=j+(b.length-1)from by omega,cDU,<-cEN,<-hR]
  have aWE:(b.getD (b.length-1) 0).toNat=M6.val b/18446744073709551616^(b.length-1):=by
   rw[digit hb,cJE];apply cEL;rw[<-cDS,show(b.length-1).succ=b.length from by omega];exact bGE
  have ht:=aKQ hn bGE bIL Qg Rv aWE g1.1;rw[hx,wU,aQ,w1,w2,w3,w4,aW,aW,aW,cCQ,cCQ,cCQ,bYV,bYV,gP ⟨g1.1,g2.1,g2.2,g3.2⟩];refine aRC (fun w:Int=>R/M6.val b<=w.toNat/\0<=w/\w<18446744073709551616) ht ?_;rintro w ⟨Dn,h0,h1⟩;obtain⟨w,rfl⟩:=cDX h0;rw[cCQ]at Dn;rw[aW];simp only[cCQ,bYV,e5];rw[hu,gP ⟨hd,by trivial,by omega,hb,by omega,h0,h1⟩,aH,aH]
  by_cases hc:M6.val b*w<=R
  ·have ho:uH.Wn (M6.val u) j (b.length+1) (M6.val b*w)=0:=by
    unfold uH.Wn;rw[Kj (by rw[<-hR];exact aWM),<-hR,aP]
   have bPB:w=q:=by
    have:w<=R/M6.val b:=by rw[cKQ hV,cDR];exact hc
    omega
   subst bPB;rw[ho,cD (by rfl),aW,Nat.mul_zero,bZR,w5];exact bOP
  ·have ho:uH.Wn (M6.val u) j (b.length+1) (M6.val b*w)=1:=by
    unfold uH.Wn;rw[Kj (by rw[<-hR];exact aWM),<-hR,aW]
   have bPB:q<w:=by
    rcases bZJ q w with h |h
    ·exact h
    ·exact absurd (bZP (cBH _ h) bHW) hc
   rw[ho,bJ (by decide),bZD];rw[bOF hL hu hd hb (by omega) hR aWM hV bHV hq (w-q-1) w (by omega) (by omega)];exact bOP
theorem spec(x:List Int×Nat×Nat)(b:List Int)(h:(sp x b).1):aI E f197 aF [(Fl gW .u64).put x,(pI .u64).put b]=some (sp x b).2/\∃rs nV,(sp x b).2=rs ++ [.io gW .u64 nV 0 0]/\nV.length=x.1.length:=by
 obtain⟨xl,xo,xn⟩:=x;obtain⟨hd,ho,hn,hb,h0,Rw,hL,kD⟩:=h;simp only at hd ho hn Rw hL kD;subst ho;subst hn;refine⟨(start xl 0 xl.length b).trans ?_,[_],_,rfl,M6.iW ?_⟩
 ·have w1:i64.wrap ((xl.length:Int)-(b.length:Int))=((xl.length-b.length:Nat):Int):=by rw[wrap_i64];omega
  have w2:i64.wrap (((xl.length-b.length:Nat):Int)-1)=((xl.length-b.length:Nat):Int)-1:=by rw[wrap_i64]
  rw[w1,w2,aW,cCQ];refine bYR hL hb h0 Rw (xl.length-b.length) xl _ (bYT _) rfl hd (by simp) (M6.lS _) kD ?_;rw[cKH (by simp)];simp[M6.val]
 ·show _<18446744073709551616^xl.length;exact cFC (Nat.mod_le _ _) (M6.dW hd)
def aJ:dK:=orc2 (Fl gW .u64) (pI .u64) sp
theorem fnok:mZ prog E 197 f197 aF:=xC sT mixed (mW _ _ rfl rfl (nG uH.ok (nG zW.ok yQ)) (aA aCV.ok aD) (oR)) func197 rfl rfl rfl rfl rfl
theorem ok:qZ prog base.glob 197 aJ:=fnok.nF rfl spec
end Gn
namespace Bs
def E:Env:={ ({ base with C:=sO [(197,Gn.aJ)] (callsOf [(144,iB.aJ),(101,Bw.aJ),(193,aQC.aJ),(194,oC.aJ),(95,oY.aJ),(195,aQE.aJ),(196,Bo.aJ),(104,Gv.aJ)]),ioF:=Qc [(197,Gn.aJ)] })with nt:=98,own:=[37,49,55,68,76,88,93],keep:=fun k=>(tlook [] k).getD [],cut:=tlook [(3,[0,1])] }
def aF:=bd f151
theorem aX:Nk E aF:=nk
def J3 a b:=mU E f151 aF 3 [iZ a,iZ b]
theorem start a b:aI E f151 aF [D.s (ints u64 a),D.s (ints u64 b)]=letI B:=sc (slice none 0 0);letI A:=some [D.s B,D.s B,D.s (sc (int i64 2))];aO (a.length<=1099511627776) (aB (!iB.pT a) A (aO (b.length<=1099511627776) (aB (!iB.pT b) A (Bs.J3 a b)))):=eJ aX
theorem iL a b:J3 a b=letI K:=sc (int i64 0);letI H:=(a.length:Int);letI O:=H+(1:Int);letI G:=sc (slice none 0 0);letI C:=i64.wrap O;letI A:=(b.length:Int);letI N:=A-(1:Int);letI F:=i64.wrap N;aB (A==(0:Int)) (some [D.s G,D.s G,D.s (sc (int i64 4))]) (aO (M6.dJ a/\M6.dJ b/\a.length<=1099511627776/\b.length<=1099511627776) (aB (decide (lY (M6.val a) (M6.val b)<0)) (aO (M6.dJ a/\a.length<=1099511627776) (aC (bif cU.nL (M6.val a)then M6.dg (M6.val a)else []) fun c=>some [D.s G,D.s (ints u64 c),D.s K])) (aB (A==(1:Int)) (if(0:Int)<=(0:Int)/\0<A then aO (M6.cV a/\a.length<=8192/\0<b.getD 0 0/\b.getD 0 0<(18446744073709551616:Int)) (aC (M6.dg (M6.val a/(b.getD 0 0).toNat)) fun d=>aC (↑(M6.val a%(b.getD 0 0).toNat):Int) fun e=>aO (0<=e/\e<18446744073709551616) (some [D.s (ints u64 d),D.s (ints u64 (M6.dg e.toNat)),D.s K]))else none) (if 0<=i64.wrap N/\i64.wrap N<A then aO (0<=b.getD F.toNat 0/\b.getD F.toNat 0<(18446744073709551616:Int)) (aC ((64:Int)-(↑(bl (b.getD F.toNat 0).toNat):Int)) fun f=>aO (M6.dJ a/\0<=f/\f<64/\0<=i64.wrap O/\a.length<=C.toNat/\i64.wrap O<=549755813888/\M6.val a*(2:Nat)^f.toNat<(18446744073709551616:Nat)^C.toNat) (aC (M6.qT C.toNat (M6.val a*(2:Nat)^f.toNat)) fun g=>aO (M6.dJ b/\0<=f/\f<64/\0<=A/\b.length<=A.toNat/\A<=(549755813888:Int)/\M6.val b*(2:Nat)^f.toNat<(18446744073709551616:Nat)^A.toNat) (aC (M6.qT A.toNat (M6.val b*(2:Nat)^f.toNat)) fun h=>letI P:=g.length-h.length;letI I:=(h.length:Int);aO (M6.dJ g/\(0:Nat)=(0:Nat)/\g.length=g.length/\M6.dJ h/\0<h.length/\h.length<=g.length/\g.length<=549755813888/\M6.val g/(18446744073709551616:Nat)^P<M6.val h) (aC (M6.qT P (M6.val g/M6.val h)) fun i=>aC (M6.qT g.length (M6.val g%M6.val h)) fun j=>letI B:=cHY (I.toNat-0) (cHX 0 j);if(0:Int)<=(0:Int)/\0<=I/\I<=(g.length:Int)then aO (M6.dJ B/\B.length<=1099511627776) (aC (bif cU.nL (M6.val B)then M6.dg (M6.val B)else []) fun k=>aO (M6.cV k/\k.length<=8192/\0<=f/\f<4611686018427387904) (aC (M6.dg (M6.val k/(2:Nat)^f.toNat)) fun l=>aO (M6.dJ i/\i.length<=1099511627776) (aC (bif cU.nL (M6.val i)then M6.dg (M6.val i)else []) fun m=>some [D.s (ints u64 m),D.s (ints u64 l),D.s K])))else none))))else none)))):=cJ aX
def sp(a b:List Int):Prop×List D:=(M6.cV a/\a.length<=8192/\M6.cV b/\1<=b.length/\b.length<=8192,[.s (.ints .u64 (M6.dg (M6.val a/M6.val b))),.s (.ints .u64 (M6.dg (M6.val a%M6.val b))),.s (.sc (.int .i64 0))])
theorem aBC{n k:Nat}(h:n<18446744073709551616^k)(hk:k<=8192):cU.nL n=true:=decide_eq_true (by have:=M6.eI h;omega)
theorem spec:Qx E f151 aF (pI .u64) (pI .u64) sp:=by
 rintro a b ⟨ha,hl,hb,h1,Rw⟩;have e:=start a b;have g:=hb.lM.get 0;have hz:M6.val b≠0:=fun h=>by have:=(M6.eF hb).2 h;omega
 rw[gP,iB.oJ ha hl,cAT,bF,gP,iB.oJ hb (by omega),cAT,bF,iL,bJ,gP ⟨ha.lM,hb.lM,by omega,by omega⟩]at e;unfold sp;simp only
 by_cases hc:M6.val a<M6.val b
 ·have Pv:cU.nL (M6.val a)=true:=aBC (M6.dW ha.lM) hl;rw[aQ (by unfold lY;rw[if_pos hc];omega),gP ⟨ha.lM,by omega⟩,aH,Pv]at e;rw[cEM hc,cJE hc,M6.cT];exact⟨_,e,.cons (Ag.nil _) (iQ.refl _)⟩
 have hm:=cBB (M6.val a) (show 0<M6.val b by omega);rw[aL (by unfold lY;rw[if_neg hc];split <;> omega)]at e
 by_cases Np:b.length=1
 ·have hv:M6.val b=(b.getD 0 0).toNat:=by
   have:=M6.dT (a:=b) 0;rw[M6.dV (by omega)]at this;simpa [M6.val] using this
  rw[cD,if_pos ⟨by omega,by omega⟩,gP ⟨ha,by omega,by omega,by omega⟩,<-hv,aH,aH,gP ⟨cIH _,by generalize M6.val a%M6.val b=m at *;omega⟩,cCQ]at e;exact⟨_,e,iQ.refl _⟩
 ·have w1:i64.wrap ((b.length:Int)-1)=((b.length-1:Nat):Int):=by rw[wrap_i64];omega
  have w2:i64.wrap ((a.length:Int)+1)=((a.length+1:Nat):Int):=by rw[wrap_i64];omega
  have gt:=hb.lM.get (b.length-1);have htop:b.getD (b.length-1) 0≠0:=by
   have:=M6.getLast_take (a:=b) (n:=b.length-1) (by omega);rw[show b.length-1+1=b.length from by omega,cFF]at this;exact hb.top this
  have bKK:=M6.dT (a:=b) (b.length-1);rw[show b.length-1+1=b.length from by omega,cFF]at bKK;have bPF:=M6.jA hb.lM (b.length-1);obtain⟨x,hx⟩:=cDX gt.1;have Wo:x≠0:=by omega
  have hbx:bl x<=64:=dG.2 (by omega);have bQK:=qJ Wo;have bPA:=wP x;obtain⟨s,hs⟩:∃s:Nat,s=64-bl x:=⟨_,rfl⟩;have ws:(64-(bl x:Int))=(s:Int):=by omega
  have aNX:=M6.dW ha.lM;have bIO:=M6.dW hb.lM;have Hy:2^s<18446744073709551616:=by
   have:2^s<2^64:=cGC (by omega) (by omega);omega
  have aNE:0<2^s:=cZ;have bQX:M6.val a*2^s<18446744073709551616^(a.length+1):=by rw[cDS];exact cGX aNX Hy
  have Ry:M6.val b*2^s<18446744073709551616^b.length:=by
   have h2:(x+1)*2^s<=2^bl x*2^s:=cAI _ bPA;rw[<-cDU,show bl x+s=64 from by omega]at h2;have h3:M6.val b+1<=18446744073709551616^(b.length-1)*(x+1):=by
    rw[bKK,hx,cCQ,cDT];omega
   have h4:(M6.val b+1)*2^s<=18446744073709551616^(b.length-1)*(x+1)*2^s:=cAI _ h3;have h5:18446744073709551616^(b.length-1)*((x+1)*2^s)<=18446744073709551616^(b.length-1)*2^64:=cBH _ h2;have h6:18446744073709551616^(b.length-1)*2^64=18446744073709551616^b.length:=by
    conv=>rhs;rw[show b.length=(b.length-1)+1 from by omega,cDS]
   rw[h6]at h5;rw[cDV]at h4;rw[bZN]at h4;omega
  have hlab:b.length<=a.length:=by
   rcases bZJ a.length b.length with h |h
   ·exact absurd (M6.vM ha.lM hb h) hc
   ·exact h
  have Dn:18446744073709551616^(b.length-1)<=M6.val b:=by
   rw[bKK,hx,cCQ];have:18446744073709551616^(b.length-1)*1<=18446744073709551616^(b.length-1)*x:=cBH _ (by omega);omega
  have aFJ:M6.val a*2^s/18446744073709551616^(a.length+1-b.length)<M6.val b*2^s:=by
   apply cEL;have h1:18446744073709551616^(a.length+1-b.length)*18446744073709551616^(b.length-1)<=18446744073709551616^(a.length+1-b.length)*M6.val b:=cBH _ Dn;rw[<-cDU,show a.length+1-b.length+(b.length-1)=a.length from by omega]at h1;rw[<-cDV];exact cLC (bZQ aNX h1) aNE
  have hQ:M6.val a*2^s/(M6.val b*2^s)=M6.val a/M6.val b:=cHJ _ _ aNE;have hR:M6.val a*2^s%(M6.val b*2^s)=M6.val a%M6.val b*2^s:=cHK _ _ _;have bIK:M6.val a%M6.val b*2^s<18446744073709551616^b.length:=Nat.lt_trans (cLC hm aNE) Ry;have hRl2:M6.val a%M6.val b*2^s<18446744073709551616^(a.length+1):=bZQ bIK (M6.rH (by omega));have bWW:M6.val a/M6.val b<18446744073709551616^a.length:=cFC (cJD _ _) aNX;have bMT:M6.val a/M6.val b<18446744073709551616^(a.length+1-b.length):=by
   apply cEL;have h1:18446744073709551616^(b.length-1)*18446744073709551616^(a.length+1-b.length)<=M6.val b*18446744073709551616^(a.length+1-b.length):=cAI _ Dn;rw[<-cDU,show b.length-1+(a.length+1-b.length)=a.length from by omega]at h1;omega
  have bEC:M6.val ((M6.qT (a.length+1) (M6.val a%M6.val b*2^s)).take b.length)=M6.val a%M6.val b*2^s:=by
   rw[M6.uI M6.mT,M6.mS,cJE bIK]
  rw[bJ,w1,w2,aW,cCQ,cCQ,cCQ,gP gt,hx,cCQ,ws,aH,cCQ,
   gP ⟨ha.lM,by omega,by omega,by omega,by omega,by omega,bQX⟩,aH,gP ⟨hb.lM,by omega,by omega,by omega,bYT _,by omega,Ry⟩,aH,
   M6.iW bQX,M6.iW Ry,M6.mS,M6.mS,cCQ,gP ⟨M6.mT,rfl,rfl,M6.mT,by omega,by omega,by omega,aFJ⟩,aH,aH,hQ,hR,
   aW,cFG,Nat.sub_zero,bEC,gP ⟨M6.mT.take _,by rw[List.length_take];omega⟩,aBC bIK Rw,cond_true,aH,
   gP ⟨M6.aZ _,by have:=M6.eI bIK;omega,by omega,by omega⟩,M6.bZ,cIR _ aNE,aH,gP ⟨M6.mT,by rw[M6.iW bMT];omega⟩,M6.mS,aBC bWW hl,cond_true,aH]at e
  exact⟨_,e,iQ.refl _⟩
def aJ:dK:=orc2 (pI .u64) (pI .u64) sp
theorem fnok:uB prog E 151 f151 aF:=aID sT mixed (mW _ _ rfl rfl (nG Gn.ok yQ) (aA iB.ok (aA Bw.ok (aA aQC.ok (aA oC.ok (aA oY.ok (aA aQE.ok (aA Bo.ok (aA Gv.ok aD)))))))) (oR)) func151 rfl rfl rfl
theorem ok:lO prog base.glob 151 aJ:=fnok.aQO rfl spec
end Bs
namespace aJD
def E:=mE [(96,fW.aJ),(151,Bs.aJ),(102,uX.aJ),(99,By.aJ)] 60 [28,50,57] [(3,[2,3,4])] [3]
def aF:=bd f109
theorem aX:Nk E aF:=nk
def J3 a b c d e:=mU E f109 aF 3 [dR 0 27 [cX a,gJ b],dR 1 27 [cX c,gJ d],dR 2 27 [cX e,sc (slice none 0 0)]]
theorem start a b c d:aI E f109 aF [D.agg [sc (bool a),ints u64 b],D.agg [sc (bool c),ints u64 d]]=letI A:=some [D.agg [sc (bool false),sc (slice none 0 0)],D.s (sc (int i64 2))];aO (b.length<=1099511627776) (aB (!fW.oN (a,b)) A (aO (d.length<=1099511627776) (aB (!fW.oN (c,d)) A (aJD.J3 a b c d false)))):=eJ aX
theorem iL a b c d e:J3 a b c d e=letI A:=M6.dg (M6.val b%M6.val d);letI F:=M6.dg (M6.val d-M6.val A);letI C:=bif (if M6.val d<M6.val A then(3:Int)else(0:Int))==0 then zs c (M6.val F)else(0:Int);letI B:=aO (M6.cV A/\A.length<=1099511627776) (some [D.agg [sc (bool (isNeg (zs c (M6.val A)))),ints u64 (M6.dg (zs c (M6.val A)).natAbs)],D.s (sc (int i64 0))]);aB ((d.length:Int)==(0:Int)) (some [D.agg [sc (bool false),sc (slice none 0 0)],D.s (sc (int i64 4))]) (aO (M6.cV b/\b.length<=8192/\M6.cV d/\1<=d.length/\d.length<=8192) (aB (a !=c) (aB (decide (0<(A.length:Int))) (aO (M6.cV d/\M6.cV A/\d.length<=8192/\A.length<=8192) (aO (M6.cV F/\F.length<=1099511627776) (some [D.agg [sc (bool (isNeg C)),ints u64 (M6.dg C.natAbs)],D.s (sc (int i64 (if M6.val d<M6.val A then(3:Int)else(0:Int))))]))) B) B)):=cJ aX
def sp(x y:Bool×List Int):Prop×List D:=(gY x/\gY y/\y.1=false/\1<=y.2.length,[wD (wv x%wv y),.s (.sc (.int .i64 0))])
theorem spec:hI E f109 aF oZ oZ sp:=by
 rintro x y ⟨hx,hy,hn,h1⟩;refine(start x.1 x.2 y.1 y.2).trans ?_;have l1:=hx.len;have l2:=hy.len;have f1:=fW.lK hx;have f2:=fW.lK hy;have b2:=hy.bl;obtain⟨p,a⟩:=x;obtain⟨q,b⟩:=y;have n1:M6.cV a:=hx.1;have n2:M6.cV b:=hy.1
 try dsimp only at *
 subst hn;unfold sp
 try dsimp only
 have hz:M6.val b≠0:=fun h=>by have:=(M6.eF n2).2 h;omega
 have hm:=cBB (M6.val a) (show 0<M6.val b by omega);have hl:=gA (n:=M6.val a%M6.val b) (k:=8192) (bZP (gM (Nat.le_of_lt hm)) b2);have bHZ:=gA (n:=M6.val b-M6.val a%M6.val b) (k:=8192) (bZP (gM (Nat.sub_le _ _)) b2);have hb:wv (false,b)=(M6.val b:Int):=Gz (x:=(false,b)) rfl;have zf:∀n:Nat,zs false n=(n:Int):=fun n=>rfl
 rw[gP,f1,cAT,bF,gP,f2,cAT,bF,iL,bJ,gP ⟨n1,l1,n2,h1,l2⟩];simp only[M6.bZ];cases p with
 |false =>
  have ha:wv (false,a)=(M6.val a:Int):=Gz (x:=(false,a)) rfl;rw[show(false !=false)=false from rfl,bF,gP ⟨M6.aZ _,by omega⟩,ha,hb,<-cGD];rfl
 |true =>
  have ha:wv (true,a)=-(M6.val a:Int):=Ta (x:=(true,a)) rfl;rw[show(true !=false)=true from rfl,bT]
  by_cases hr:M6.val a%M6.val b=0
  ·have e0:-(M6.val a:Int)%(M6.val b:Int)=0:=by
    have bBZ:=cDZ (M6.val a) (M6.val b);rw[hr,bZR]at bBZ;rw[<-bBZ,cEP,<-cHL];exact Int.mul_emod_right _ _
   rw[hr,M6.cT,aL (by simp),gP ⟨M6.Le,by simp⟩,ha,hb,e0];rfl
  ·have hd:(M6.dg (M6.val a%M6.val b)).length≠0:=fun h=>hr (M6.jE.1 h)
   have e0:-(M6.val a:Int)%(M6.val b:Int)=((M6.val b-M6.val a%M6.val b:Nat):Int):=by
    have bBZ:=cDZ (M6.val a) (M6.val b);have e1:-(M6.val a:Int)=((M6.val b-M6.val a%M6.val b:Nat):Int)+(M6.val b:Int)*(-(((M6.val a/M6.val b+1:Nat)):Int)):=by
     have e2:((M6.val b*(M6.val a/M6.val b)+M6.val a%M6.val b:Nat):Int)=(M6.val a:Int):=by rw[bBZ]
     rw[cJP,cEP]at e2;rw[cHL,cJP,Int.mul_add];generalize M6.val a%M6.val b=r at *;generalize (M6.val b:Int)*((M6.val a/M6.val b:Nat):Int)=z at *;omega
    rw[e1,Int.add_mul_emod_self_left];exact Int.emod_eq_of_lt (by omega) (by omega)
   rw[aQ,gP ⟨n2,M6.aZ _,l2,hl⟩,gP ⟨M6.aZ _,by omega⟩,aP,ha,hb,e0];rfl
def aJ:dK:=orc2 oZ oZ sp
theorem ok:OK 109 aJ:=(fJ E aF (aA fW.ok (aA Bs.ok (aA uX.ok (aA By.ok aD)))) func109).nF rfl spec
end aJD
namespace tY
def E:=mE [(96,fW.aJ)] 40 [] [(8,[1,4])] [8]
def aF:=bd f110
theorem aX:Nk E aF:=nk
def J8 a b c:=mU E f110 aF 8 [dR 0 27 [cX a,gJ b],cY c]
theorem start a b:aI E f110 aF [D.agg [sc (bool a),ints u64 b]]=letI F:=tY.J8 a b (b.getD 0 0);letI C:=(b.length:Int);letI B:=sc (int i64 0);letI A:=some [D.s B,D.s (sc (int i64 5))];aO (b.length<=1099511627776) (aB (!fW.oN (a,b)) (some [D.s B,D.s (sc (int i64 2))]) (aB (C==(0:Int)) (some [D.s B,D.s B]) (if(0:Int)<=(0:Int)/\0<C then aB (decide (1<C)) A (aB (decide (9223372036854775808<b.getD 0 0)) A (aB (b.getD 0 0==(9223372036854775808:Int)) (aB (!a) A F) F))else none))):=eJ aX
theorem Dv a b c:J8 a b c=aB a (some [D.s (sc (int i64 (i64.wrap (u64.wrap ((0:Int)-c))))),D.s (sc (int i64 0))]) (some [D.s (sc (int i64 (i64.wrap c))),D.s (sc (int i64 0))]):=cJ aX
def tG(z:Int):Bool:=decide (-9223372036854775808<=z)&&decide (z<9223372036854775808)
def sp(x:Bool×List Int):Prop×List D:=(gY x,[.s (.sc (.int .i64 (bif tG (wv x)then wv x else 0))),.s (.sc (.int .i64 (bif tG (wv x)then 0 else 5)))])
theorem spec:jL E f110 aF oZ sp:=by
 intro x h;have h:gY x:=h;refine(start x.1 x.2).trans ?_;obtain⟨b,a⟩:=x;have hl:a.length<=8192:=h.len;have h1:M6.cV a:=h.1;have g:=h1.lM.get 0;have hf:=fW.lK h
 try dsimp only
 unfold sp
 try dsimp only
 rw[gP,hf,cAT,bF];have yes:∀z:Int,-9223372036854775808<=z->z<9223372036854775808->tG z=true:=fun z h h'=>by unfold tG;rw[decide_eq_true h,decide_eq_true h'];rfl
 have no:∀z:Int,(z < -9223372036854775808\/9223372036854775808<=z)->tG z=false:=fun z h=>by
  unfold tG;rcases h with h |h
  ·rw[decide_eq_false (by omega),cEC]
  ·rw[decide_eq_false (show ¬z<_ by omega),cEF]
 by_cases hz:a.length=0
 ·have hv:=(M6.eF h1).1 hz;have:wv (b,a)=0:=by
   have:=iT (b,a);rw[show M6.val (b,a).2=0 from hv]at this;omega
  rw[cD,this];rfl
 ·rw[bJ,if_pos ⟨by omega,by omega⟩];have bKJ:M6.val a≠0:=fun h=>hz ((M6.eF h1).2 h)
  have aNT:=iT (b,a)
  try dsimp only at aNT
  by_cases h2:1<a.length
  ·have Dn:18446744073709551616<=M6.val a:=by
    have:=M6.Cu (n:=M6.val a) (k:=1) (by rw[aMH h1];exact h2);omega
   rw[aQ,no _ (by omega)];rfl
  ·have hv:M6.val a=(a.getD 0 0).toNat:=by
    have:=M6.dT (a:=a) 0;rw[M6.dV (by omega)]at this;simpa [M6.val] using this
   rw[aL];generalize a.getD 0 0=w at *
   by_cases h3:9223372036854775808<w
   ·rw[aQ h3,no _ (by omega)];rfl
   ·rw[aL h3,Dv];cases b with
    |true =>
     have hw:wv (true,a)=-(M6.val a:Int):=Ta (x:=(true,a)) rfl;have e1:i64.wrap (u64.wrap (0-w))=wv (true,a):=by rw[hw,fY,Ja];omega
     rw[yes _ (by omega) (by omega),cAT,bF,bT,e1];unfold aB;cases (w==9223372036854775808) <;> rfl
    |false =>
     have hw:wv (false,a)=(M6.val a:Int):=Gz (x:=(false,a)) rfl;rw[cKD,bT,bF]
     by_cases h4:w=9223372036854775808
     ·rw[cD h4,no _ (by omega)];rfl
     ·rw[bJ h4,yes _ (by omega) (by omega),wrap_i64];rw[show w=wv (false,a)from by omega];rfl
def aJ:dK:=orc1 oZ sp
theorem ok:OK 110 aJ:=(fJ E aF (aA fW.ok aD) func110).qB rfl spec
end tY
namespace Zo
def E:=mE [(51,aJB.aJ),(109,aJD.aJ),(110,tY.aJ)] 19 [15] [] []
def aF:=bd f60
theorem aX:Nk E aF:=nk
theorem start a b:aI E f60 aF [D.agg [sc (bool a),ints u64 b]]=letI B:=(isNeg 4,M6.dg 4);letI A:=(isNeg (wv (a,b)%wv B),M6.dg (wv (a,b)%wv B).natAbs);aO ((-9223372036854775808:Int)<=(4:Int)/\(4:Int)<(9223372036854775808:Int)) (aO (gY (a,b)/\gY B/\isNeg 4=false/\1<=(M6.dg 4).length) (aO (gY A) (some [D.s (sc (int i64 (bif tY.tG (wv A)then wv A else(0:Int))))]))):=eJ aX
def sp(x:Bool×List Int):Prop×List D:=(gY x,[.s (.sc (.int .i64 (wv x%4)))])
theorem spec:jL E f60 aF oZ sp:=by
 intro x h;have h:gY x:=h;have e4:wv (isNeg 4,M6.dg 4)=4:=nW 4;have w4:gY (isNeg 4,M6.dg 4):=gI (z:=4) (bZP (dG.2 (show(4:Int).natAbs<2^3 by decide)) (by omega));have l4:(M6.dg 4).length=1:=by
  have h1:=M6.eI (n:=4) (k:=1) (by decide);have h2:(M6.dg 4).length≠0:=fun h=>by have:=M6.jE.1 h;omega
  omega
 have hr:0<=wv x%4/\wv x%4<4:=by omega
 refine(start x.1 x.2).trans ?_;rw[gP,gP ⟨h,w4,rfl,Nat.le_of_eq l4.symm⟩,e4,nW];show aO _ _=some [D.s (.sc (.int .i64 (wv x%4)))];generalize wv (x.1,x.2)%4=r at *;rw[gP (gI (bZP (dG.2 (show r.natAbs<2^3 by omega)) (by omega)))];have:tY.tG r=true:=by unfold tY.tG;rw[decide_eq_true (by omega),decide_eq_true (by omega)];rfl
 rw[this];rfl
def aJ:dK:=orc1 oZ sp
theorem ok:OK 60 aJ:=(fJ E aF (aA aJB.ok (aA aJD.ok (aA tY.ok aD))) func60).qB rfl spec
end Zo
namespace bS
def E:=mE [(12,bC.aJ),(56,kN.aJ),(13,bQ.aJ),(57,Zp.aJ),(58,Wh.aJ),(59,Wg.aJ),(48,Bz.aJ),(60,Zo.aJ)] 71 [22,68] [] []
def aF:=bd f18
theorem aX:Nk E aF:=nk
theorem start a:aI E f18 aF [D.s (sc (int u64 a))]=letI N:=sc (int i64 0);letI I:=bif iF 1 (-1:Int)then aN 1 (-1:Int)else((0:Int),(0:Int));letI B:=bif cC.fB 64 a&&cN.jW 64 a then aN (bC.kF 64 a) (bC.lW 64 a)else((0:Int),(0:Int));aO (((64:Int)=(32:Int)\/(64:Int)=(64:Int))/\0<=a/\a<18446744073709551616) (aC (isNeg B.fst) fun b=>aC (M6.dg B.fst.natAbs) fun c=>aC B.snd fun d=>letI O:=dv (b,c,d);letI H:=bif kN.Hi O 1 then kN.Kr O 1 else((0:Int),(0:Int));aC (bif cC.fB 64 a then bif cN.jW 64 a then(0:Int)else(6:Int)else(2:Int)) fun e=>aB (e !=0) (some [D.s N,D.agg [sc (bool false),sc (slice none 0 0),sc (int i64 0)],D.s (sc (int i64 e))]) (aO (aR (b,c,d)/\(-9223372036854775808:Int)<=(1:Int)/\(1:Int)<(9223372036854775808:Int)) (aC (isNeg H.fst) fun f=>aC (M6.dg H.fst.natAbs) fun g=>aC H.snd fun h=>aO (((-9223372036854775808:Int)<=(1:Int)/\(1:Int)<(9223372036854775808:Int))/\(-9223372036854775808:Int)<=(-1:Int)/\(-1:Int)<(9223372036854775808:Int)) (aC (isNeg I.fst) fun i=>aC (M6.dg I.fst.natAbs) fun j=>aC I.snd fun k=>letI C:=bif bQ.kT (dv (f,g,h)) (dv (i,j,k))then bQ.oA (dv (f,g,h)) (dv (i,j,k))else((0:Int),(0:Int));aO (aR (f,g,h)/\aR (i,j,k)) (aC (isNeg C.fst) fun l=>aC (M6.dg C.fst.natAbs) fun m=>aC C.snd fun n=>letI G:=bif qN.tR (dv (l,m,n)) 0 then qN.Bh (dv (l,m,n)) 0 else((0:Int),(0:Int));aO (aR (l,m,n)/\(-4611686018427387904:Int)<=(0:Int)/\(0:Int)<(4611686018427387904:Int)) (aC (isNeg G.fst) fun o=>aC (M6.dg G.fst.natAbs) fun p=>aC G.snd fun q=>letI K:=bif fit (M6.val p*(2:Nat)^q.toNat)then wv (o,p)*(↑((2:Nat)^q.toNat):Int)else(0:Int);letI F:=bif kN.Hi (dv (o,p,q)) (-1:Int)then kN.Kr (dv (o,p,q)) (-1:Int)else((0:Int),(0:Int));aO (aR (o,p,q)/\(-9223372036854775808:Int)<=(-1:Int)/\(-1:Int)<(9223372036854775808:Int)) (aC (isNeg F.fst) fun r=>aC (M6.dg F.fst.natAbs) fun s=>aC F.snd fun t=>letI P:=dv (r,s,t);letI A:=bif bQ.kT O (-P.fst,P.snd)then bQ.oA O (-P.fst,P.snd)else((0:Int),(0:Int));aO (aR (b,c,d)/\aR (r,s,t)) (aC (isNeg A.fst) fun u=>aC (M6.dg A.fst.natAbs) fun v=>aC A.snd fun w=>aB (decide (q<2)) (aO (gY (o,p)/\0<=q/\q<4611686018427387904) (aC (isNeg K) fun x=>aC (M6.dg K.natAbs) fun y=>aO (gY (x,y)) (aC (wv (x,y)%4) fun z=>some [D.s (sc (int i64 z)),D.agg [sc (bool u),ints u64 v,sc (int i64 w)],D.s N]))) (some [D.s N,D.agg [sc (bool u),ints u64 v,sc (int i64 w)],D.s N]))))))))):=eJ aX
def uN(p:Int×Int):Int:=if 0<=p.2 then p.1*p2 (p.2+1)else(p.1*4+p2 (-p.2))/p2 (1-p.2)
def Qa(p:Int×Int):Int:=if 0<=p.2 then 0 else p.1*2-uN p*p2 (-p.2)
def Eb(p:Int×Int):Int×Int:=aN (Qa p) (p.2-1)
def pK(a:Int):Int×Int:=aN (bC.kF 64 a) (bC.lW 64 a)
def sp(a:Int):Prop×List D:=(0<=a/\a<18446744073709551616,[.s (.sc (.int .i64 (bif cN.jW 64 a then uN (pK a)%4 else 0))),dD (bif cN.jW 64 a then Eb (pK a)else(0,0)),.s (.sc (.int .i64 (bif cN.jW 64 a then 0 else 6)))])
theorem dW{a:Int}(_:0<=a)(hf:cN.jW 64 a=true):(bC.kF 64 a).natAbs<2^53/\-1074<=bC.lW 64 a/\bC.lW 64 a<=971:=by
 have Di:0<=a%bV.cE (aG.fD 64):=by rw[show bV.cE (aG.fD 64)=9223372036854775808 from rfl];omega
 have qE:a%bV.cE (aG.fD 64)<jU.lR (aG.fD 64):=of_decide_eq_true hf;have hm:=bC.Uf aG.uE Di;have hx:=bC.Ux aG.uE Di qE;refine⟨?_,hx.1,?_⟩
 ·unfold bC.kF;rw[mB];have:=hm.2;rw[show aG.fD 64=(64,53,-1074,9221120237041090561)from rfl]at *;omega
 ·unfold bC.lW dO.tT;rw[show jU.lR (aG.fD 64)=9218868437227405312 from rfl]at qE;rw[show cK.kV (aG.fD 64)=4503599627370496 from rfl];rw[show(aG.fD 64).2.2.1=-1074 from rfl];split <;> omega
theorem aMF{a:Int}(h0:0<=a)(hf:cN.jW 64 a=true):kE (pK a)/\(pK a).1.natAbs<2^53/\-1074<=(pK a).2/\(pK a).2<=1024:=by
 obtain⟨h1,h2,h3⟩:=dW h0 hf;have hb:bl (bC.kF 64 a).natAbs<=53:=dG.2 h1;have ha:=Mz (bC.kF 64 a) (bC.lW 64 a);refine⟨gZ (iD (by omega) (by omega)) (by omega),?_,?_⟩
 ·unfold pK;omega
 ·unfold pK
  by_cases hz:bC.kF 64 a=0
  ·rw[hz,fN];exact⟨by show(-1074:Int)<=0;omega,by show(0:Int)<=1024;omega⟩
  ·have:=(lI (e:=bC.lW 64 a) hz).2;have:=Fb (n:=(bC.kF 64 a).natAbs) (by omega);omega
theorem spec:aPW E f18 aF (pN .u64) sp:=by
 rintro a ⟨h0,h1⟩;have hp:cC.fB 64 a=true:=rfl;unfold sp
 try dsimp only
 cases hf:cN.jW 64 a with
 |false =>
  have s:=start a;rw[gP ⟨.inr rfl,h0,h1⟩,hp,hf,vl,vl,vl,vl,nZ (by decide)]at s;refine⟨_,s,.cons (Ag.refl _) (.cons ?_ (iQ.refl _))⟩;unfold dD;rw[cond_false,show((0,0):Int×Int).1.natAbs=0 from rfl,M6.cT];exact Ag.agg (.cons (Ep.refl _) (.cons (Ep.nil _) (zN.refl _)))
 |true =>
  refine⟨_,(start a).trans ((gP ⟨.inr rfl,h0,h1⟩).trans ?_),iQ.refl _⟩
  try dsimp only[cond_true]
  have e1:(bif cC.fB 64 a&&cN.jW 64 a then aN (bC.kF 64 a) (bC.lW 64 a)else((0:Int),(0:Int)))=pK a:=by rw[hp,hf];rfl
  have bYC:(bif cC.fB 64 a then bif cN.jW 64 a then(0:Int)else 6 else 2)=0:=by rw[hp,hf];rfl
  rw[e1,bYC,Dk,vl,gF rfl];obtain⟨aHQ,hm,aTI,aFN⟩:=aMF h0 hf;generalize pK a=p at *;obtain⟨m,e⟩:=p;have hs:aN m e=(m,e):=aHQ.same
  try dsimp only at hm aTI aFN
  have bm:bl m.natAbs<=53:=dG.2 hm;rw[gP ⟨dP aHQ,by omega,by omega⟩,dX];have bK:bl (uN (m,e)).natAbs<=1100:=by
   unfold uN
   try dsimp only
   split
   ·have:=Bm (n:=e+1) (k:=1025) bm (by omega);omega
   ·refine bAH ?_ _;have b1:=Bm (z:=m) (n:=2) (k:=2) bm (by omega);have b2:=Bm (z:=1) (n:=-e) (k:=1074) Il (by omega);rw[cJS]at b2;exact bZP (aCL (n:=1075) (bZP b1 (by omega)) b2) (by omega)
  have hR:Eb (m,e)=aN (if 0<=e then 0 else m*2-uN (m,e)*p2 (-e)) (e-1):=rfl;have hK:uN (m,e)=if 0<=e then m*p2 (e+1)else(m*4+p2 (-e))/p2 (1-e):=rfl
  generalize uN (m,e)=K at *;generalize Eb (m,e)=R at *;rw[<-hs];have e2:(bif kN.Hi (aN m e) 1 then kN.Kr (aN m e) 1 else((0:Int),(0:Int)))=aN m (e+1):=by
   rw[Xd (by omega) (by omega),aEE];rfl
  have e3:(bif iF 1 (-1)then aN 1 (-1)else((0:Int),(0:Int)))=aN 1 (-1):=by
   rw[iD (by omega) (by have:=Il;omega)];rfl
  have bSO:kE (aN m (e+1)):=gZ (iD (by omega) (by omega)) (by omega);have p3:kE (aN 1 (-1)):=gZ (iD (by omega) (by have:=Il;omega)) (by have:=Il;omega);rw[e2,e3,Dk,gP ⟨by omega,by omega⟩,Dk,gP ⟨dP bSO,dP p3⟩,dX,dX];obtain⟨S,G,hS,hG0,bNB,Pv,aTK,bBX⟩:∃S G:Int,bl S.natAbs<=1100/\-1100<=G/\G<=-1/\bQ.kT (aN m (e+1)) (aN 1 (-1))=true/\bQ.oA (aN m (e+1)) (aN 1 (-1))=aN S G/\S/p2 (0-G)=K:=by
   by_cases hc:0<=e
   ·have b1:=Bm (z:=m) (n:=e+1 - -1) (k:=1026) bm (by omega);have b2:=Bm (z:=1) (n:=-1 - -1) (k:=0) Il (by omega);refine⟨_,-1,bZP (aCL (n:=1080) (bZP b1 (by omega)) (bZP b2 (by omega))) (by omega),by omega,by omega,Db (G:=-1) (by omega) (by omega) (by omega) (by omega) (by omega) (by omega),Gm (by omega) (by omega),?_⟩;rw[hK,if_pos hc,show e+1 - -1=e+1+1 by omega,tJ (by omega) (by omega),show p2 (0 - -1)=2 from rfl,show p2 (-1 - -1)=1 from rfl,aLX];generalize p2 (e+1)=q;rw[<-cFA];omega
   ·have b1:=Bm (z:=m) (n:=e+1-(e-1)) (k:=2) bm (by omega);have b2:=Bm (z:=1) (n:=-1-(e-1)) (k:=1074) Il (by omega);refine⟨_,e-1,bZP (aCL (n:=1080) (bZP b1 (by omega)) (bZP b2 (by omega))) (by omega),by omega,by omega,Db (G:=e-1) (by omega) (by omega) (by omega) (by omega) (by omega) (by omega),Gm (by omega) (by omega),?_⟩;rw[hK,if_neg hc,show e+1-(e-1)=2 by omega,show -1-(e-1)=-e by omega,cJS,show p2 2=4 from rfl,show 0-(e-1)=1-e by omega]
  have e4:(bif bQ.kT (aN m (e+1)) (aN 1 (-1))then bQ.oA (aN m (e+1)) (aN 1 (-1))else((0:Int),(0:Int)))=aN S G:=by rw[Pv,aTK];rfl
  have p4:kE (aN S G):=gZ (iD (by omega) (by omega)) (by omega);have e5:(bif qN.tR (aN S G) 0 then qN.Bh (aN S G) 0 else((0:Int),(0:Int)))=aN K 0:=by
   rw[aBY (by omega) (by omega) (by rw[bBX];omega),aIA (by omega),bBX];rfl
  have p5:kE (aN K 0):=gZ (iD (by omega) (by omega)) (by omega);rw[e4,Dk,gP ⟨dP p4,by omega,by omega⟩,dX,e5,Dk,gP ⟨dP p5,by omega,by omega⟩,dX];have e6:(bif kN.Hi (aN K 0) (-1)then kN.Kr (aN K 0) (-1)else((0:Int),(0:Int)))=aN K (-1):=by
   rw[Xd (by omega) (by omega),aEE];rfl
  have p6:kE (aN K (-1)):=gZ (iD (by omega) (by omega)) (by omega);rw[e6,Dk,gP ⟨dP (hs▸aHQ),dP p6⟩,dX,<-aMG];have e7:(bif bQ.kT (aN m e) (aN (-K) (-1))then bQ.oA (aN m e) (aN (-K) (-1))else((0:Int),(0:Int)))=R:=by
   rw[hR]
   by_cases hc:0<=e
   ·have b1:=Bm (z:=m) (n:=e - -1) (k:=1026) bm (by omega);have b2:=Bm (z:=-K) (n:=-1 - -1) (k:=0) (aPQ bK) (by omega);rw[Db (G:=-1) (by omega) (by omega) (by omega) (by omega) (by omega) (by omega),Gm (G:=-1) (by omega) (by omega),if_pos hc,hK,if_pos hc,show e - -1=e+1 by omega,show p2 (-1 - -1)=1 from rfl,cKF];rw[show m*p2 (e+1)+-(m*p2 (e+1))=0 by omega,fN,fN];rfl
   ·have b1:=Bm (z:=m) (n:=e-(e-1)) (k:=1) bm (by omega);have b2:=Bm (z:=-K) (n:=-1-(e-1)) (k:=1074) (aPQ bK) (by omega);rw[Db (G:=e-1) (by omega) (by omega) (by omega) (by omega) (by omega) (by omega),Gm (G:=e-1) (by omega) (by omega),if_neg hc,show e-(e-1)=1 by omega,show -1-(e-1)=-e by omega,aLX,cID,<-Int.sub_eq_add_neg];rfl
  rw[e7,Dk];have gK:=aBD (z:=K) (e:=0) (G:=0) (by omega);rw[cJQ,Int.sub_zero,aEU,cKF]at gK;have bVC:0<=(aN K 0).2:=by
   by_cases hz:K=0
   ·rw[hz,fN];exact cJL 0
   ·exact qC hz
  have bTV:M6.val (M6.dg (aN K 0).1.natAbs)=(aN K 0).1.natAbs:=M6.bZ _;have aNL:fit (M6.val (M6.dg (aN K 0).1.natAbs)*2^(aN K 0).2.toNat)=true:=by
   rw[bTV,<-aCS,gK];exact decide_eq_true (by omega)
  by_cases hc:(aN K 0).2<2
  ·rw[aQ hc,gP ⟨(dP p5).Ez,by omega,by omega⟩,nW,aNL];have e8:(bif true then(aN K 0).1*((2^(aN K 0).2.toNat:Nat):Int)else(0:Int))=K:=gK;rw[e8,vl,vl,gP (gI (by omega)),nW,vl];rfl
  ·rw[aL hc];have:K%4=0:=by
    have e9:p2 (aN K 0).2=p2 ((aN K 0).2-2)*4:=by
     have:=tJ (m:=(aN K 0).2-2) (n:=2) (by omega) (by omega);rwa [show(aN K 0).2-2+2=(aN K 0).2 by omega]at this
    rw[e9,<-cFA]at gK;generalize (aN K 0).1*p2 ((aN K 0).2-2)=q at *;omega
   rw[this];rfl
def aJ:dK:=orc1 (pN .u64) sp
theorem ok:OK 18 aJ:=(fJ E aF (aA bC.ok (aA kN.ok (aA bQ.ok (aA Zp.ok (aA Wh.ok (aA Wg.ok (aA Bz.ok (aA Zo.ok aD)))))))) func18).bCQ rfl spec
end bS
namespace lU
def E:=mE [(78,aG.aJ)] 12 [] [] []
def aF:=bd f84
theorem aX:Nk E aF:=nk
theorem start a:aI E f84 aF [D.s (sc (int i64 a))]=letI A:=aG.fD a;aO True (aB (A.fst==0&&(A.snd.fst==0&&(A.snd.snd.fst==0&&(A.snd.snd.snd==0&&true)))) (some [D.s (sc (int u64 0)),D.s (sc (int i64 1))]) (some [D.s (sc (int u64 A.snd.snd.snd)),D.s (sc (int i64 0))])):=eJ aX
def Ab(f:Int):Bool:=decide (f=32\/f=64)
def sp(f:Int):Prop×List D:=(True,[.s (.sc (.int .u64 (aG.fD f).2.2.2)),.s (.sc (.int .i64 (bif Ab f then 0 else 1)))])
theorem spec:jL E f84 aF (pN .i64) sp:=by
 intro f h;refine(start f).trans ((gP trivial).trans ?_);unfold sp Ab
 try dsimp only
 by_cases h1:f=32
 ·subst h1;rfl
 ·by_cases h2:f=64
  ·subst h2;rfl
  ·have:aG.fD f=(0,0,0,0):=by unfold aG.fD;rw[if_neg h1,if_neg h2]
   rw[this,decide_eq_false (by omega)];rfl
def aJ:dK:=orc1 (pN .i64) sp
theorem ok:OK 84 aJ:=(fJ E aF (aA aG.ok aD) func84).qB rfl spec
end lU
namespace vW
def E:=mE [] 13 [] [] []
def aF:=bd f61
theorem aX:Nk E aF:=nk
theorem start a:aI E f61 aF [D.s (sc (int i64 a))]=letI A:=some [D.s (sc (bool true))];aB (a==4) A (aB (a==5) A (some [D.s (sc (bool (a==6)))])):=eJ aX
def Az(a:Int):Bool:=decide (a=4\/a=5\/a=6)
def sp(a:Int):Prop×List D:=(True,[.s (.sc (.bool (Az a)))])
theorem spec:jL E f61 aF (pN .i64) sp:=by
 intro a h;refine(start a).trans ?_;unfold sp Az
 try dsimp only
 by_cases h1:a=4
 ·rw[cD h1,decide_eq_true (by omega)]
 ·rw[bJ h1]
  by_cases h2:a=5
  ·rw[cD h2,decide_eq_true (by omega)]
  ·rw[bJ h2]
   by_cases h3:a=6
   ·rw[beq_iff_eq.2 h3,decide_eq_true (by omega)]
   ·rw[beq_eq_false_iff_ne.2 h3,decide_eq_false (by omega)]
def aJ:dK:=orc1 (pN .i64) sp
theorem ok:OK 61 aJ:=(fJ E aF aD func61).qB rfl spec
end vW
namespace fO
def E:=mE [(94,cK.aJ),(81,jU.aJ)] 23 [] [] []
def aF:=bd f79
theorem aX:Nk E aF:=nk
theorem start a c d e b:aI E f79 aF [D.agg [sc (int i64 a),sc (int i64 c),sc (int i64 d),sc (int u64 e)],D.s (sc (int u64 b))]=letI B:=(a,c,d,e);letI A:=aG.vY B;aB (b==0) (some [D.s (sc (int i64 0))]) (aO A (aB (decide (b<cK.kV B)) (some [D.s (sc (int i64 1))]) (aO A (aB (decide (b<jU.lR B)) (some [D.s (sc (int i64 2))]) (aO A (aB (b==jU.lR B) (some [D.s (sc (int i64 3))]) (some [D.s (sc (int i64 4))]))))))):=eJ aX
def gE(s:Int×Int×Int×Int)(n:Int):Int:=if n=0 then 0 else if n<cK.kV s then 1 else if n<jU.lR s then 2 else if n=jU.lR s then 3 else 4
def sp(s:Int×Int×Int×Int)(n:Int):Prop×List D:=(aG.vY s,[.s (.sc (.int .i64 (gE s n)))])
theorem spec:hI E f79 aF (pG (.pair (sN .i64) (.pair (sN .i64) (.pair (sN .i64) (sN .u64))))) (pN .u64) sp:=by
 intro s n h;obtain⟨s1,s2,s3,s4⟩:=s;have h:aG.vY (s1,s2,s3,s4):=h;refine(start s1 s2 s3 s4 n).trans ?_;show _=some [D.s (.sc (.int .i64 (gE (s1,s2,s3,s4) n)))];unfold gE
 by_cases h1:n=0
 ·rw[cD h1,if_pos h1]
 ·rw[bJ h1,if_neg h1,gP h]
  by_cases h2:n<cK.kV (s1,s2,s3,s4)
  ·rw[aQ h2,if_pos h2]
  ·rw[aL h2,if_neg h2,gP h]
   by_cases h3:n<jU.lR (s1,s2,s3,s4)
   ·rw[aQ h3,if_pos h3]
   ·rw[aL h3,if_neg h3,gP h]
    by_cases h4:n=jU.lR (s1,s2,s3,s4)
    ·rw[cD h4,if_pos h4]
    ·rw[bJ h4,if_neg h4]
def aJ:dK:=orc2 (pG (.pair (sN .i64) (.pair (sN .i64) (.pair (sN .i64) (sN .u64))))) (pN .u64) sp
theorem ok:OK 79 aJ:=(fJ E aF (aA cK.ok (aA jU.ok aD)) func79).nF rfl spec
end fO
namespace Cg
def E:=mE [(77,cC.aJ),(79,fO.aJ)] 24 [13,23] [] []
def aF:=bd f83
theorem aX:Nk E aF:=nk
theorem start a b:aI E f83 aF [D.s (sc (int i64 a)),D.s (sc (int u64 b))]=letI C:=bif cC.fB a b then(0:Int)else(2:Int);letI A:=aG.fD a;letI B:=(A.fst,A.snd.fst,A.snd.snd.fst,A.snd.snd.snd);aO ((a=32\/a=64)/\0<=b/\b<18446744073709551616) (aB (C !=0) (some [D.s (sc (int i64 0)),D.s (sc (int i64 C))]) (aO (aG.vY B) (some [D.s (sc (int i64 (fO.gE B (bif cC.fB a b then b%bV.cE A else(0:Int))))),D.s (sc (int i64 0))]))):=eJ aX
def sp(f b:Int):Prop×List D:=((f=32\/f=64)/\0<=b/\b<18446744073709551616,[.s (.sc (.int .i64 (bif cC.fB f b then fO.gE (aG.fD f) (b%bV.cE (aG.fD f))else 0))),.s (.sc (.int .i64 (bif cC.fB f b then 0 else 2)))])
theorem spec:hI E f83 aF (pN .i64) (pN .u64) sp:=by
 intro f b h;refine(start f b).trans ((gP h).trans ?_);unfold sp
 try dsimp only
 have ht:aG.vY (aG.fD f):=by
  rcases h.1 with rfl |rfl
  ·exact .inl rfl
  ·exact .inr rfl
 cases hp:cC.fB f b with
 |false=>rfl
 |true =>
  try dsimp only[cond_true]
  rw[gF rfl,gP ht]
def aJ:dK:=orc2 (pN .i64) (pN .u64) sp
theorem ok:OK 83 aJ:=(fJ E aF (aA cC.ok (aA fO.ok aD)) func83).nF rfl spec
end Cg
namespace Ir
def E:=mE [] 5 [] [] []
def aF:=bd f142
theorem aX:Nk E aF:=nk
theorem start a:aI E f142 aF [D.s (sc (int i64 a))]=aB (a==32) (some [D.s (sc (int u64 2139095040))]) (some [D.s (sc (int u64 9218868437227405312))]):=eJ aX
def sp(f:Int):Prop×List D:=(f=32\/f=64,[.s (.sc (.int .u64 (jU.lR (aG.fD f))))])
theorem spec:jL E f142 aF (pN .i64) sp:=by
 intro f h;refine(start f).trans ?_;rcases h with rfl |rfl <;> rfl
def aJ:dK:=orc1 (pN .i64) sp
theorem ok:OK 142 aJ:=(fJ E aF aD func142).qB rfl spec
end Ir
namespace Zv
def E:=mE [(135,bV.aJ)] 13 [] [] []
def aF:=bd f80
theorem aX:Nk E aF:=nk
theorem start a d e f b c:aI E f80 aF [D.agg [sc (int i64 a),sc (int i64 d),sc (int i64 e),sc (int u64 f)],D.s (sc (bool b)),D.s (sc (int u64 c))]=aB b (aO (aG.vY (a,d,e,f)) (some [D.s (sc (int u64 (gN BinOp.or u64 c (bV.cE (a,d,e,f)))))])) (some [D.s (sc (int u64 c))]):=eJ aX
def sp(s:Int×Int×Int×Int)(b:Bool)(c:Int):Prop×List D:=(aG.vY s,[.s (.sc (.int .u64 (bif b then gN .or .u64 c (bV.cE s)else c)))])
theorem spec:pO E f80 aF (pG (.pair (sN .i64) (.pair (sN .i64) (.pair (sN .i64) (sN .u64))))) pB (pN .u64) sp:=by
 intro s b c h;refine(start s.1 s.2.1 s.2.2.1 s.2.2.2 b c).trans ?_;cases b with
 |true=>exact gP h
 |false=>rfl
def aJ:dK:=orc3 (pG (.pair (sN .i64) (.pair (sN .i64) (.pair (sN .i64) (sN .u64))))) pB (pN .u64) sp
theorem ok:OK 80 aJ:=(fJ E aF (aA bV.ok aD) func80).zR rfl spec
end Zv
namespace gH
def E:=mE [(78,aG.aJ),(80,Zv.aJ),(136,aPV.aJ),(137,Ca.aJ),(94,cK.aJ),(81,jU.aJ)] 102 [25,80,101] [(8,[1,2,3,10]),(13,[1,2,3,10,12])] [8,13]
def aF:=bd f82
theorem aX:Nk E aF:=nk
def J8 a b c d e f g:=mU E f82 aF 8 [Jv a,cY b,cA c,dR 3 84 [dC d,dC e,dC f,aAK g]]
def Sw a b c d e f g h:=mU E f82 aF 13 [Jv a,cY b,cA c,dR 3 84 [dC d,dC e,dC f,aAK g],cA h]
theorem start a b c d:aI E f82 aF [D.s (sc (int i64 a)),D.s (sc (bool b)),D.s (sc (int u64 c)),D.s (sc (int i64 d))]=letI B:=some [D.s (sc (int u64 0)),D.s (sc (int i64 5))];letI A:=aG.fD a;letI C:=(A.fst,A.snd.fst,A.snd.snd.fst,A.snd.snd.snd);aO True (aB (A.fst==0&&(A.snd.fst==0&&(A.snd.snd.fst==0&&(A.snd.snd.snd==0&&true)))) (some [D.s (sc (int u64 0)),D.s (sc (int i64 1))]) (aB (c==0) (aO (aG.vY C) (some [D.s (sc (int u64 (bif b then gN BinOp.or u64 0 (bV.cE C)else(0:Int)))),D.s (sc (int i64 0))])) (aB (decide (d<i64.wrap (A.snd.snd.fst-64))) B (aB (decide (i64.wrap (A.snd.snd.fst+4096)<d)) B (gH.J8 b c d A.fst A.snd.fst A.snd.snd.fst A.snd.snd.snd))))):=eJ aX
theorem Dv a b c d e f g:J8 a b c d e f g=letI C:=some [D.s (sc (int u64 0)),D.s (sc (int i64 5))];letI B:=(↑(tz b.toNat):Int);letI A:=(↑((2:Nat)^min (if b=0 then(64:Int)else B).toNat 64):Int);letI F:=(↑(bl (b/A).toNat):Int);aO (0<=b/\b<18446744073709551616) (if(if b=0 then(64:Int)else B)<0 then none else aO (0<=b/A/\b/A<(18446744073709551616:Int)) (aB (decide (e<F)) C (aB (decide (i64.wrap (c+if b=0 then(64:Int)else B)<f)) C (gH.Sw a (b/A) (i64.wrap (c+if b=0 then(64:Int)else B)) d e f g F)))):=cJ aX
theorem zM a b c d e f g h:Sw a b c d e f g h=letI F:=(d,e,f,g);letI C:=aG.vY F;letI B:=b*(↑((2:Nat)^min (if i64.wrap (c-f)<i64.wrap (e-h)then i64.wrap (c-f)else i64.wrap (e-h)).toNat 64):Int);letI A:=u64.wrap (u64.wrap (u64.wrap (i64.wrap (i64.wrap (i64.wrap (c-if i64.wrap (c-f)<i64.wrap (e-h)then i64.wrap (c-f)else i64.wrap (e-h))-f)+1))-1)*cK.kV F)+u64.wrap B;if(if i64.wrap (c-f)<i64.wrap (e-h)then i64.wrap (c-f)else i64.wrap (e-h))<0 then none else aO C (aB (decide (u64.wrap B<cK.kV F)) (aO C (some [D.s (sc (int u64 (bif a then gN BinOp.or u64 (u64.wrap B) (bV.cE F)else u64.wrap B))),D.s (sc (int i64 0))])) (aO C (aO C (aB (decide (jU.lR F<=u64.wrap A)) (some [D.s (sc (int u64 0)),D.s (sc (int i64 5))]) (aO C (some [D.s (sc (int u64 (bif a then gN BinOp.or u64 (u64.wrap A) (bV.cE F)else u64.wrap A))),D.s (sc (int i64 0))])))))):=cJ aX
def aAP(s:Int×Int×Int×Int)(b:Bool)(c:Int):Int:=bif b then c+bV.cE s else c
def Py(s:Int×Int×Int×Int)(m:Nat)(e:Int):Nat:=(if e-s.2.2.1<s.2.1-(bl m:Int)then e-s.2.2.1 else s.2.1-(bl m:Int)).toNat
def Mj(s:Int×Int×Int×Int)(m:Nat)(e:Int):Option Int :=
 if((m*2^Py s m e:Nat):Int)<cK.kV s then some ((m*2^Py s m e:Nat):Int)
 else if jU.lR s<=(e-(Py s m e:Nat)-s.2.2.1)*cK.kV s+((m*2^Py s m e:Nat):Int)then none
 else some ((e-(Py s m e:Nat)-s.2.2.1)*cK.kV s+((m*2^Py s m e:Nat):Int))
def aFC(s:Int×Int×Int×Int)(m:Nat)(e:Int):Option Int :=
 if e<s.2.2.1-64\/s.2.2.1+4096<e then none
 else if s.2.1<(bl (m/2^tz m):Int)\/e+(tz m:Int)<s.2.2.1 then none
 else Mj s (m/2^tz m) (e+(tz m:Int))
def Ju(s:Int×Int×Int×Int)(b:Bool)(o:Option Int):Int:=match o with
 |some c=>aAP s b c
 |none=>0
def aOJ(o:Option Int):Int:=match o with
 |some _=>0
 |none=>5
def qU(s:Int×Int×Int×Int)(m e:Int):Option Int:=if m=0 then some 0 else aFC s m.toNat e
def bCZ(s:Int×Int×Int×Int)(b:Bool)(o:Option Int):List D:=[.s (.sc (.int .u64 (Ju s b o))),.s (.sc (.int .i64 (aOJ o)))]
theorem yN{s:Int×Int×Int×Int}(hs:aG.vY s){b:Bool}{c:Int}(h0:0<=c)(h1:c<bV.cE s):(bif b then gN .or .u64 c (bV.cE s)else c)=aAP s b c:=by
 unfold aAP;cases b with
 |false=>rfl
 |true =>
  try dsimp only[cond_true]
  obtain⟨n,rfl⟩:=cDX h0;rcases hs with rfl |rfl
  ·rw[show bV.cE (32,24,-149,2143289345)=2147483648 from rfl]at *;rw[Xk (by omega) (by omega) (by omega) (by omega)];have:=Ho (c:=n) (n:=1) (k:=31) (by omega);rw[show(2147483648:Int).toNat=2^31*1 from rfl,cCQ,this];omega
  ·rw[show bV.cE (64,53,-1074,9221120237041090561)=9223372036854775808 from rfl]at *;rw[Xk (by omega) (by omega) (by omega) (by omega)];have:=Ho (c:=n) (n:=1) (k:=63) (by omega);rw[show(9223372036854775808:Int).toNat=2^63*1 from rfl,cCQ,this];omega
theorem j13{s:Int×Int×Int×Int}(hs:aG.vY s)(b:Bool)(m:Nat)(e:Int)(h1:(bl m:Int)<=s.2.1)(h2:s.2.2.1<=e)(h3:e<=3000)(hm:m≠0) :
  Sw b (m:Int) e s.1 s.2.1 s.2.2.1 s.2.2.2 (bl m:Int)=some (bCZ s b (Mj s m e)):=by
 have hb:=qJ hm;have kD:m*2^Py s m e<2^(bl m+Py s m e):=by
  rw[cDU];exact Nat.mul_lt_mul_of_lt_of_le (wP m) (bYT _) (cBT (by decide))
 have aJQ:((bl m+Py s m e:Nat):Int)<=s.2.1:=by
  unfold Py;split <;> omega
 have bBO:((Py s m e:Nat):Int)<=e-s.2.2.1:=by
  unfold Py;split <;> omega
 rw[zM];have bHQ:∀k:Nat,s.2.1<=(k:Int)->m*2^Py s m e<2^k:=fun k hk=>bZQ kD (cBU (by decide) (by omega))
 have low:-1074<=s.2.2.1/\s.2.2.1<=0/\s.2.1<=53:=by rcases hs with rfl |rfl <;> ((try dsimp only);omega)
 rw[wrap_i64 (n:=e-s.2.2.1),wrap_i64 (n:=s.2.1-(bl m:Int))];have bTY:(if e-s.2.2.1<s.2.1-(bl m:Int)then e-s.2.2.1 else s.2.1-(bl m:Int))=((Py s m e:Nat):Int):=by
  unfold Py;split <;> omega
 rw[bTY,aP,cCQ,show min (Py s m e) 64=Py s m e by omega,<-cEP,gP hs];unfold Mj;generalize Py s m e=u at *;generalize m*2^u=M at *;rcases hs with rfl |rfl
 ·have hM:=bHQ 24 (by decide);simp only[show cK.kV (32,24,-149,2143289345)=8388608 from rfl,show jU.lR (32,24,-149,2143289345)=2139095040 from rfl]at *;rw[wrap_u64 (n:=(M:Int)),wrap_i64 (n:=e-(u:Int)),wrap_i64 (n:=e-(u:Int) - -149),wrap_i64 (n:=e-(u:Int) - -149+1),wrap_u64 (n:=e-(u:Int) - -149+1),wrap_u64 (n:=e-(u:Int) - -149+1-1),show e-(u:Int) - -149+1-1=e-(u:Int) - -149 by omega,wrap_u64 (n:=(e-(u:Int) - -149)*8388608),wrap_u64 (n:=(e-(u:Int) - -149)*8388608+(M:Int))]
  by_cases c1:(M:Int)<8388608
  ·rw[aQ c1,if_pos c1,gP aG.two32,yN aG.two32 (by omega) (by show(M:Int)<2147483648;omega)];rfl
  ·rw[aL c1,if_neg c1,gP aG.two32,gP aG.two32]
   by_cases c2:2139095040<=(e-(u:Int) - -149)*8388608+(M:Int)
   ·rw[aQ c2,if_pos c2];rfl
   ·rw[aL c2,if_neg c2,gP aG.two32,yN aG.two32 (by omega) (by show _<2147483648;omega)];rfl
 ·have hM:=bHQ 53 (by decide);simp only[show cK.kV (64,53,-1074,9221120237041090561)=4503599627370496 from rfl,show jU.lR (64,53,-1074,9221120237041090561)=9218868437227405312 from rfl]at *
  by_cases c1:(M:Int)<4503599627370496
  ·rw[wrap_u64 (n:=(M:Int)),aQ c1,if_pos c1,gP aG.uE,yN aG.uE (by omega) (by show(M:Int)<9223372036854775808;omega)];rfl
  ·rw[wrap_u64 (n:=(M:Int)),wrap_i64 (n:=e-(u:Int)),wrap_i64 (n:=e-(u:Int) - -1074),wrap_i64 (n:=e-(u:Int) - -1074+1),wrap_u64 (n:=e-(u:Int) - -1074+1),wrap_u64 (n:=e-(u:Int) - -1074+1-1),show e-(u:Int) - -1074+1-1=e-(u:Int) - -1074 by omega];rw[wrap_u64 (n:=(e-(u:Int) - -1074)*4503599627370496),wrap_u64 (n:=(e-(u:Int) - -1074)*4503599627370496+(M:Int)),aL c1,if_neg c1,gP aG.uE,gP aG.uE]
   by_cases c2:9218868437227405312<=(e-(u:Int) - -1074)*4503599627370496+(M:Int)
   ·rw[aQ c2,if_pos c2];rfl
   ·rw[aL c2,if_neg c2,gP aG.uE,yN aG.uE (by omega) (by show _<9223372036854775808;omega)];rfl
def sp(f:Int)(b:Bool)(m e:Int):Prop×List D:=((f=32\/f=64)/\(0<=m/\m<18446744073709551616)/\-4000<=e/\e<=2900,[.s (.sc (.int .u64 (Ju (aG.fD f) b (qU (aG.fD f) m e)))),.s (.sc (.int .i64 (aOJ (qU (aG.fD f) m e))))])
theorem spec:Pd E f82 aF (pN .i64) pB (pN .u64) (pN .i64) sp:=by
 rintro f b m e ⟨hf,⟨aFH,bUV⟩,aTI,aFN⟩;refine(start f b m e).trans ((gP trivial).trans ?_);show _=some (bCZ (aG.fD f) b (qU (aG.fD f) m e));unfold qU;have hs:aG.vY (aG.fD f):=by
  rcases hf with rfl |rfl
  ·exact .inl rfl
  ·exact .inr rfl
 generalize aG.fD f=s at *;obtain⟨n,rfl⟩:=cDX aFH;have low:-1074<=s.2.2.1/\s.2.2.1<=0/\s.2.1<=53:=by rcases hs with rfl |rfl <;> ((try dsimp only);omega)
 have Be:(s.1==0&&(s.2.1==0&&(s.2.2.1==0&&(s.2.2.2==0&&true))))=false:=by rcases hs with rfl |rfl <;> rfl
 have aHM:0<bV.cE s:=by unfold bV.cE;split <;> omega
 rw[Vm Be]
 by_cases h0:(n:Int)=0
 ·rw[cD h0,if_pos h0];refine(gP hs).trans ?_;rw[yN hs (by omega) aHM];rfl
 ·have Di:n≠0:=by omega
  have ht:=Lu Di;have bHU:tz n<64:=(cLD (by decide:1<2)).1 (cFC ht (by omega));rw[bJ h0,if_neg h0,wrap_i64 (n:=s.2.2.1-64),wrap_i64 (n:=s.2.2.1+4096)];unfold aFC
  by_cases c1:e<s.2.2.1-64
  ·rw[aQ c1,if_pos (.inl c1)];rfl
  ·rw[aL c1]
   by_cases c2:s.2.2.1+4096<e
   ·rw[aQ c2,if_pos (.inr c2)];rfl
   ·rw[aL c2,aP,Dv,if_neg h0,cCQ,aP,gP,cCQ,show min (tz n) 64=tz n by omega,<-cEO,cCQ,wrap_i64 (n:=e+(tz n:Int))];have hd:n/2^tz n≠0:=fun h=>by have:=(uJ n Di).2;rw[h]at this;cases this
    have hl:n/2^tz n<=n:=cJD _ _;generalize n/2^tz n=q at *;rw[gP]
    by_cases c3:s.2.1<(bl q:Int)
    ·rw[aQ c3,if_pos (.inl c3)];rfl
    ·rw[aL c3]
     by_cases c4:e+(tz n:Int)<s.2.2.1
     ·rw[aQ c4,if_pos (.inr c4)];rfl
     ·rw[aL c4,aP,j13 hs b _ _ (by omega) (by omega) (by omega) hd]
def aJ:dK:=orc4 (pN .i64) pB (pN .u64) (pN .i64) sp
theorem ok:OK 82 aJ:=(fJ E aF (aA aG.ok (aA Zv.ok (aA aPV.ok (aA Ca.ok (aA cK.ok (aA jU.ok aD)))))) func82).aME rfl spec
end gH
namespace Vt
def E:=mE [] 14 [] [] []
def aF:=bd f141
theorem aX:Nk E aF:=nk
theorem start a b c:aI E f141 aF [D.s (sc (int i64 a)),D.s (sc (bool b)),D.s (sc (int u64 c))]=aB b (if i64.wrap (a-1)<0 then none else some [D.s (sc (int u64 (gN BinOp.or u64 c (u64.wrap ((1:Int)*(↑((2:Nat)^min (i64.wrap (a-1)).toNat 64):Int))))))]) (some [D.s (sc (int u64 c))]):=eJ aX
def sp(f:Int)(b:Bool)(c:Int):Prop×List D:=((f=32\/f=64)/\0<=c/\c<bV.cE (aG.fD f),[.s (.sc (.int .u64 (gH.aAP (aG.fD f) b c)))])
theorem spec:pO E f141 aF (pN .i64) pB (pN .u64) sp:=by
 rintro f b c ⟨hf,h0,h1⟩;refine(start f b c).trans ?_;have hs:aG.vY (aG.fD f):=cN.Cl hf;unfold sp
 try dsimp only
 rw[<-gH.yN hs h0 h1];cases b with
 |false=>rfl
 |true=>rcases hf with rfl |rfl <;> rfl
def aJ:dK:=orc3 (pN .i64) pB (pN .u64) sp
theorem ok:OK 141 aJ:=(fJ E aF aD func141).zR rfl spec
end Vt
namespace kI
def E:=mE [(142,Ir.aJ),(141,Vt.aJ),(82,gH.aJ)] 27 [15,23] [] []
def aF:=bd f92
theorem aX:Nk E aF:=nk
theorem start a b c:aI E f92 aF [D.s (sc (int i64 a)),D.agg [sc (int i64 b),sc (bool c)]]=letI A:=aG.fD a;aB (b==2) (aO (a=32\/a=64) (aO ((a=32\/a=64)/\0<=jU.lR A/\jU.lR A<bV.cE A) (some [D.s (sc (int u64 (gH.aAP A c (jU.lR A))))]))) (aO ((a=32\/a=64)/\(0<=u64.wrap b/\u64.wrap b<18446744073709551616)/\(-4000:Int)<=(0:Int)/\(0:Int)<=(2900:Int)) (some [D.s (sc (int u64 (gH.Ju A c (gH.qU A (u64.wrap b) 0))))])):=eJ aX
def Ee(f:Int)(s:Int)(n:Bool):Int:=gH.aAP (aG.fD f) n (if s=2 then jU.lR (aG.fD f)else if s=1 then(if f=32 then 1065353216 else 4607182418800017408)else 0)
def sp(f:Int)(v:Int×Bool):Prop×List D:=((f=32\/f=64)/\(v.1=0\/v.1=1\/v.1=2),[.s (.sc (.int .u64 (Ee f v.1 v.2)))])
theorem Xl:gH.qU (aG.fD 64) 1 0=some 4607182418800017408/\gH.qU (aG.fD 32) 1 0=some 1065353216:=by
 have b1:bl 1=1:=rfl;have t1:tz (1:Int).toNat=0:=Ah rfl;unfold gH.qU gH.aFC gH.Mj gH.Py;rw[t1];exact⟨rfl,rfl⟩
theorem spec:hI E f92 aF (pN .i64) (pG (.pair (sN .i64) sB)) sp:=by
 rintro f v ⟨hf,hv⟩;obtain⟨s,n⟩:=v;refine(start f s n).trans ?_;unfold sp Ee
 try dsimp only at *
 have hi:0<=jU.lR (aG.fD f)/\jU.lR (aG.fD f)<bV.cE (aG.fD f):=by
  rcases hf with rfl |rfl
  ·exact⟨by show(0:Int)<=2139095040;omega,by show(2139095040:Int)<2147483648;omega⟩
  ·exact⟨by show(0:Int)<=9218868437227405312;omega,by show(9218868437227405312:Int)<9223372036854775808;omega⟩
 rcases hv with rfl |rfl |rfl
 ·rw[bJ,show u64.wrap 0=0 from rfl,gP ⟨hf,by omega,by omega⟩];rfl
 ·rw[bJ,show u64.wrap 1=1 from rfl,gP ⟨hf,by omega,by omega⟩];rcases hf with rfl |rfl
  ·rw[Xl.2];rfl
  ·rw[Xl.1];rfl
 ·rw[cD rfl,gP hf,gP ⟨hf,hi⟩];rfl
def aJ:dK:=orc2 (pN .i64) (pG (.pair (sN .i64) sB)) sp
theorem ok:OK 92 aJ:=(fJ E aF (aA Ir.ok (aA Vt.ok (aA gH.ok aD))) func92).nF rfl spec
end kI
namespace qK
def E:=mE [] 19 [] [] []
def aF:=bd f111
theorem aX:Nk E aF:=nk
theorem start a b c:aI E f111 aF [D.agg [sc (bool a),ints u64 b,sc (int i64 c)]]=aB (decide (0<c)) (some [D.s (sc (int i64 1))]) (aB (c==0) (some [D.s (sc (int i64 2))]) (aB (c==(-1:Int)) (some [D.s (sc (int i64 3))]) (aB (c==(-2:Int)) (some [D.s (sc (int i64 4))]) (some [D.s (sc (int i64 0))])))):=eJ aX
def rI(e:Int):Int:=if 0<e then 1 else if e=0 then 2 else if e=-1 then 3 else if e=-2 then 4 else 0
def sp(x:gQ):Prop×List D:=(True,[.s (.sc (.int .i64 (rI x.2.2)))])
theorem spec:jL E f111 aF jO sp:=by
 intro x h;refine(start x.1 x.2.1 x.2.2).trans ?_;unfold sp rI
 try dsimp only
 by_cases h1:0<x.2.2
 ·rw[aQ h1,if_pos h1]
 ·rw[aL h1,if_neg h1]
  by_cases h2:x.2.2=0
  ·rw[cD h2,if_pos h2]
  ·rw[bJ h2,if_neg h2]
   by_cases h3:x.2.2=-1
   ·rw[cD h3,if_pos h3]
   ·rw[bJ h3,if_neg h3]
    by_cases h4:x.2.2=-2
    ·rw[cD h4,if_pos h4]
    ·rw[bJ h4,if_neg h4]
def aJ:dK:=orc1 jO sp
theorem ok:OK 111 aJ:=(fJ E aF aD func111).qB rfl spec
end qK
namespace fL
def E:=mE [(111,qK.aJ),(60,Zo.aJ)] 97 [] [] []
def aF:=bd f63
theorem aX:Nk E aF:=nk
theorem start a b c d:aI E f63 aF [D.s (sc (int i64 a)),D.agg [sc (bool b),ints u64 c,sc (int i64 d)]]=letI Z:=bool false;letI Y:=bool (wv (b,c)%4==(3:Int));letI X:=int i64 0;letI U:=qK.rI d==1;letI O:=qK.rI d==3;letI N:=some [D.agg [sc X,sc Z],D.s (sc Z)];letI I:=qK.rI d==2;letI F:=sc (bool true);letI T:=some [D.agg [sc X,sc (bool b)],D.s F];letI Q:=some [D.agg [sc (int i64 1),sc (bool I)],D.s F];letI P:=some [D.agg [sc X,sc (bool (b !=I))],D.s F];letI G:=some [D.agg [sc (int i64 1),sc Y],D.s F];letI C:=aB (a==6) (aB (qK.rI d==4) G N) N;letI H:=aB (a==6) (aB O (some [D.agg [sc (int i64 2),sc Y],D.s F]) C) C;letI A:=aB (a==6) (aB U P (aB I P H)) H;letI K:=aB (a==5) (aB O (some [D.agg [sc X,sc Z],D.s F]) A) A;letI B:=aB (a==5) (aB U Q (aB I Q K)) K;letI W:=aB (a==4) (aB O G B) B;aO True (aO (gY (b,c)) (aB (a==4) (aB U T (aB I T W)) W)):=eJ aX
def Bj(fn:Int)(p:Int×Int):Int×Bool×Bool :=
 if fn=4 then(if 0<=p.2 then(0,isNeg p.1,true)else if p.2=-1 then(1,p.1%4==3,true)else(0,false,false))
 else if fn=5 then(if 0<=p.2 then(1,p.2==0,true)else if p.2=-1 then(0,false,true)else(0,false,false))
 else if fn=6 then(if 0<=p.2 then(0,isNeg p.1 !=(p.2==0),true)else if p.2=-1 then(2,p.1%4==3,true)else if p.2=-2 then(1,p.1%4==3,true)else(0,false,false))
 else(0,false,false)
def sp(fn:Int)(x:gQ):Prop×List D:=(aR x,[.agg [.sc (.int .i64 (Bj fn (dv x)).1),.sc (.bool (Bj fn (dv x)).2.1)],.s (.sc (.bool (Bj fn (dv x)).2.2))])
theorem spec:hI E f63 aF (pN .i64) jO sp:=by
 intro fn x h;have h:aR x:=h;refine(start fn x.1 x.2.1 x.2.2).trans ((gP trivial).trans ((gP h.Ez).trans ?_));have hw:=h.Ez.cells.1;obtain⟨b,a,e⟩:=x
 try dsimp only at *
 unfold sp Bj dv
 try dsimp only
 rw[hw];generalize wv (b,a)=z;have Rt:(0<e/\qK.rI e=1)\/(e=0/\qK.rI e=2)\/(e=-1/\qK.rI e=3)\/(e=-2/\qK.rI e=4)\/(e < -2/\qK.rI e=0):=by
  unfold qK.rI;split
  ·omega
  ·split
   ·omega
   ·split
    ·omega
    ·split <;> omega
 generalize qK.rI e=pv at *
 by_cases h4:fn=4
 ·subst h4;rcases Rt with ⟨he,rfl⟩ |⟨rfl,rfl⟩ |⟨rfl,rfl⟩ |⟨rfl,rfl⟩ |⟨he,rfl⟩
  ·rw[if_pos rfl,aW];rfl
  ·rfl
  ·rfl
  ·rfl
  ·rw[if_pos rfl,aP,aP];rfl
 ·by_cases h5:fn=5
  ·subst h5;rcases Rt with ⟨he,rfl⟩ |⟨rfl,rfl⟩ |⟨rfl,rfl⟩ |⟨rfl,rfl⟩ |⟨he,rfl⟩
   ·rw[aP,if_pos rfl,aW,beq_eq_false_iff_ne.2 (show e≠0 by omega)];rfl
   ·rfl
   ·rfl
   ·rfl
   ·rw[aP,if_pos rfl,aP,aP];rfl
  ·by_cases h6:fn=6
   ·subst h6;rcases Rt with ⟨he,rfl⟩ |⟨rfl,rfl⟩ |⟨rfl,rfl⟩ |⟨rfl,rfl⟩ |⟨he,rfl⟩
    ·rw[aP,aP,if_pos rfl,aW,beq_eq_false_iff_ne.2 (show e≠0 by omega)];rfl
    ·rfl
    ·rfl
    ·rfl
    ·rw[aP,aP,if_pos rfl,aP,aP,aP];rfl
   ·rw[if_neg h4,if_neg h5,if_neg h6];simp only[beq_eq_false_iff_ne.2 h4,beq_eq_false_iff_ne.2 h5,beq_eq_false_iff_ne.2 h6,bF]
def aJ:dK:=orc2 (pN .i64) jO sp
theorem ok:OK 63 aJ:=(fJ E aF (aA qK.ok (aA Zo.ok aD)) func63).nF rfl spec
end fL
namespace bN
def E:=mE [(84,lU.aJ),(61,vW.aJ),(83,Cg.aJ),(92,kI.aJ),(12,bC.aJ),(63,fL.aJ)] 67 [18,31,48,66] [(4,[0,1,2,9]),(15,[0,1,2])] [4,15]
def aF:=bd f39
theorem aX:Nk E aF:=nk
def J4 a b c d:=mU E f39 aF 4 [cA a,cA b,cY c,cY d]
def aKB a b c:=mU E f39 aF 15 [cA a,cA b,cY c]
theorem start a b c:aI E f39 aF [D.s (sc (int i64 a)),D.s (sc (int i64 b)),D.s (sc (int u64 c))]=letI A:=some [D.s (sc (int u64 0)),D.s (sc (bool false)),D.s (sc (int i64 1))];aO True (aC (aG.fD a).snd.snd.snd fun d=>aC (bif lU.Ab a then(0:Int)else(1:Int)) fun e=>aB (e !=0) A (aO True (aB (!vW.Az b) A (bN.J4 a b c d)))):=eJ aX
theorem Jt a b c d:J4 a b c d=letI C:=sc (int i64 0);letI B:=sc (bool true);letI A:=some [D.s (sc (int u64 d)),D.s B,D.s C];aO ((a=32\/a=64)/\0<=c/\c<18446744073709551616) (aC (bif cC.fB a c then fO.gE (aG.fD a) (c%bV.cE (aG.fD a))else(0:Int)) fun e=>aC (bif cC.fB a c then(0:Int)else(2:Int)) fun f=>aB (f !=0) (some [D.s (sc (int u64 0)),D.s (sc (bool false)),D.s (sc (int i64 f))]) (aB (e==4) A (aB (e==3) A (aB (e==0) (aB (b==5) (aO ((a=32\/a=64)/\((1:Int)=(0:Int)\/(1:Int)=(1:Int)\/(1:Int)=(2:Int))) (aC (kI.Ee a 1 false) fun g=>some [D.s (sc (int u64 g)),D.s B,D.s C])) (some [D.s (sc (int u64 c)),D.s B,D.s C])) (bN.aKB a b c))))):=cJ aX
theorem Pm a b c:aKB a b c=letI A:=bif cC.fB a c&&cN.jW a c then aN (bC.kF a c) (bC.lW a c)else((0:Int),(0:Int));aO ((a=32\/a=64)/\0<=c/\c<18446744073709551616) (aC (isNeg A.fst) fun d=>aC (M6.dg A.fst.natAbs) fun e=>aC A.snd fun f=>letI B:=fL.Bj b (dv (d,e,f));aO (aR (d,e,f)) (aC B.fst fun g=>aC B.snd.fst fun h=>aC B.snd.snd fun i=>aB (!i) (some [D.s (sc (int u64 0)),D.s (sc (bool false)),D.s (sc (int i64 0))]) (aO ((a=32\/a=64)/\(g=0\/g=1\/g=2)) (some [D.s (sc (int u64 (kI.Ee a g h))),D.s (sc (bool true)),D.s (sc (int i64 0))])))):=cJ aX
def gX(f b:Int):Int×Int:=aN (bC.kF f b) (bC.lW f b)
theorem My{f b:Int}(h:f=32\/f=64)(_:0<=b)(hf:cN.jW f b=true):kE (gX f b)/\(bC.kF f b).natAbs<2^53/\-1074<=bC.lW f b/\bC.lW f b<=1023:=by
 have hs:=cN.Cl h;have Di:0<=b%bV.cE (aG.fD f):=by unfold bV.cE;split <;> omega
 have qE:b%bV.cE (aG.fD f)<jU.lR (aG.fD f):=of_decide_eq_true hf;have hm:=bC.Uf hs Di;have hx:=bC.Ux hs Di qE;have hz:(bC.kF f b).natAbs<2^53:=by
  unfold bC.kF;rw[mB];omega
 have he:-1074<=bC.lW f b/\bC.lW f b<=1023:=⟨hx.1,by unfold bC.lW;omega⟩;have hb:bl (bC.kF f b).natAbs<=53:=dG.2 hz;exact⟨gZ (iD (by omega) (by omega)) (by omega),hz,he⟩
def vR(f fn b:Int):Int×Bool×Int :=
 if lU.Ab f=false\/vW.Az fn=false then(0,false,1)
 else if cC.fB f b=false then(0,false,2)
 else if fO.gE (aG.fD f) (b%bV.cE (aG.fD f))=4\/fO.gE (aG.fD f) (b%bV.cE (aG.fD f))=3 then((aG.fD f).2.2.2,true,0)
 else if fO.gE (aG.fD f) (b%bV.cE (aG.fD f))=0 then(if fn=5 then kI.Ee f 1 false else b,true,0)
 else if(fL.Bj fn (gX f b)).2.2=true then(kI.Ee f (fL.Bj fn (gX f b)).1 (fL.Bj fn (gX f b)).2.1,true,0)
 else(0,false,0)
def sp(f fn b:Int):Prop×List D:=(0<=b/\b<18446744073709551616,[.s (.sc (.int .u64 (vR f fn b).1)),.s (.sc (.bool (vR f fn b).2.1)),.s (.sc (.int .i64 (vR f fn b).2.2))])
theorem aFW(fn:Int)(p:Int×Int):(fL.Bj fn p).1=0\/(fL.Bj fn p).1=1\/(fL.Bj fn p).1=2:=by
 unfold fL.Bj
 repeat' split
 all_goals simp
theorem aIQ{f b:Int}(h:f=32\/f=64)(c3:fO.gE (aG.fD f) (b%bV.cE (aG.fD f))≠3)(c4:fO.gE (aG.fD f) (b%bV.cE (aG.fD f))≠4):cN.jW f b=true:=by
 unfold cN.jW;have hi:cK.kV (aG.fD f)<jU.lR (aG.fD f)/\0<cK.kV (aG.fD f):=by
  rcases h with rfl |rfl
  ·exact⟨by show(8388608:Int)<2139095040;omega,by show(0:Int)<8388608;omega⟩
  ·exact⟨by show(4503599627370496:Int)<9218868437227405312;omega,by show(0:Int)<4503599627370496;omega⟩
 generalize b%bV.cE (aG.fD f)=n at *;refine decide_eq_true ?_;unfold fO.gE at c3 c4
 by_cases h0:n=0
 ·omega
 ·by_cases h1:n<cK.kV (aG.fD f)
  ·omega
  ·by_cases h2:n<jU.lR (aG.fD f)
   ·exact h2
   ·rw[if_neg h0,if_neg h1,if_neg h2]at c3 c4
    by_cases h3:n=jU.lR (aG.fD f)
    ·rw[if_pos h3]at c3;exact(c3 rfl).elim
    ·rw[if_neg h3]at c4;exact(c4 rfl).elim
theorem spec:pO E f39 aF (pN .i64) (pN .i64) (pN .u64) sp:=by
 intro f fn b h;have h:0<=b/\b<18446744073709551616:=h;refine(start f fn b).trans ((gP trivial).trans ?_);rw[vl,vl,gP trivial];unfold sp vR;cases hq:lU.Ab f with
 |false=>rw[if_pos (.inl rfl)];rfl
 |true =>
  have hf:f=32\/f=64:=of_decide_eq_true hq;rw[cond_true,gF rfl];cases hk:vW.Az fn with
  |false=>rw[if_pos (.inr rfl)];rfl
  |true =>
   rw[if_neg (by simp),cAT,bF,Jt,gP ⟨hf,h⟩,vl,vl];cases hp:cC.fB f b with
   |false=>rw[if_pos rfl];rfl
   |true =>
    rw[if_neg (by simp),cond_true,cond_true,gF rfl]
    by_cases c4:fO.gE (aG.fD f) (b%bV.cE (aG.fD f))=4
    ·rw[cD c4,if_pos (.inl c4)]
    ·rw[bJ c4]
     by_cases c3:fO.gE (aG.fD f) (b%bV.cE (aG.fD f))=3
     ·rw[cD c3,if_pos (.inr c3)]
     ·rw[bJ c3,if_neg (fun h=>h.elim c4 c3)];have qE:=aIQ hf c3 c4
      by_cases c0:fO.gE (aG.fD f) (b%bV.cE (aG.fD f))=0
      ·rw[cD c0,if_pos c0]
       by_cases h5:fn=5
       ·rw[cD h5,if_pos h5,gP ⟨hf,.inr (.inl rfl)⟩];rfl
       ·rw[bJ h5,if_neg h5]
      ·rw[bJ c0,if_neg c0,Pm,gP ⟨hf,h⟩];have e1:(bif cC.fB f b&&cN.jW f b then aN (bC.kF f b) (bC.lW f b)else((0:Int),(0:Int)))=gX f b:=by rw[hp,qE];rfl
       rw[e1,Dk,gP (dP (My hf h.1 qE).1),dX,vl,vl,vl];cases hv:(fL.Bj fn (gX f b)).2.2 with
       |false=>rw[if_neg (by simp)];try rfl
       |true=>rw[if_pos rfl,cAT,bF,gP ⟨hf,aFW _ _⟩];try rfl
def aJ:dK:=orc3 (pN .i64) (pN .i64) (pN .u64) sp
theorem ok:OK 39 aJ:=(fJ E aF (aA lU.ok (aA vW.ok (aA Cg.ok (aA kI.ok (aA bC.ok (aA fL.ok aD)))))) func39).zR rfl spec
end bN
namespace eZ
def E:=mE [(77,cC.aJ),(78,aG.aJ),(79,fO.aJ),(80,Zv.aJ),(81,jU.aJ),(43,dO.aJ),(82,gH.aJ)] 48 [13,35,45] [] []
def aF:=bd f31
theorem aX:Nk E aF:=nk
theorem start a:aI E f31 aF [D.s (sc (int u64 a))]=letI I:=bif cC.fB 32 a then(0:Int)else(2:Int);letI F:=aG.vY ((64:Int),(53:Int),(-1074:Int),(9221120237041090561:Int));letI C:=aG.fD 32;letI H:=(C.fst,C.snd.fst,C.snd.snd.fst,C.snd.snd.snd);letI G:=bif cC.fB 32 a then a%bV.cE C else(0:Int);letI B:=bif cC.fB 32 a then a%2147483648 else(0:Int);letI A:=gH.qU (aG.fD 64) (dO.pV H G) (dO.tT H G);aO (((32:Int)=(32:Int)\/(32:Int)=(64:Int))/\0<=a/\a<18446744073709551616) (aB (I !=0) (some [D.s (sc (int u64 0)),D.s (sc (int i64 I))]) (aO True (aO (aG.vY ((32:Int),(24:Int),(-149:Int),(2143289345:Int))) (aB (fO.gE ((32:Int),(24:Int),(-149:Int),(2143289345:Int)) B==4) (some [D.s (sc (int u64 9221120237041090561)),D.s (sc (int i64 0))]) (aB (fO.gE ((32:Int),(24:Int),(-149:Int),(2143289345:Int)) B==3) (aO F (aO F (some [D.s (sc (int u64 (bif cC.fB 32 a&&decide (2147483648<=a)then gN BinOp.or u64 9218868437227405312 9223372036854775808 else(9218868437227405312:Int)))),D.s (sc (int i64 0))]))) (aO (aG.vY ((32:Int),(24:Int),(-149:Int),(2143289345:Int))/\(0<=bif cC.fB 32 a then a%2147483648 else(0:Int))/\B<9223372036854775808) (aO (((64:Int)=(32:Int)\/(64:Int)=(64:Int))/\(0<=dO.pV ((32:Int),(24:Int),(-149:Int),(2143289345:Int)) B/\dO.pV ((32:Int),(24:Int),(-149:Int),(2143289345:Int)) B<18446744073709551616)/\(-4000:Int)<=dO.tT ((32:Int),(24:Int),(-149:Int),(2143289345:Int)) B/\dO.tT ((32:Int),(24:Int),(-149:Int),(2143289345:Int)) B<=2900) (some [D.s (sc (int u64 (gH.Ju (aG.fD 64) (cC.fB 32 a&&decide (2147483648<=a)) A))),D.s (sc (int i64 (gH.aOJ A)))])))))))):=eJ aX
abbrev Fi:Int×Int×Int×Int:=(32,24,-149,2143289345)
abbrev To:Int×Int×Int×Int:=(64,53,-1074,9221120237041090561)
def aKF(b:Int):Option Int:=gH.qU To (dO.pV Fi (b%2147483648)) (dO.tT Fi (b%2147483648))
def Lr(b:Int):Int:=bif cC.fB 32 b then(if fO.gE Fi (b%2147483648)=4 then 9221120237041090561 else if fO.gE Fi (b%2147483648)=3 then gH.aAP To (decide (2147483648<=b)) 9218868437227405312 else gH.Ju To (decide (2147483648<=b)) (aKF b))else 0
def aKG(b:Int):Int:=bif cC.fB 32 b then(if fO.gE Fi (b%2147483648)=4 then 0 else if fO.gE Fi (b%2147483648)=3 then 0 else gH.aOJ (aKF b))else 2
def sp(b:Int):Prop×List D:=(0<=b/\b<18446744073709551616,[.s (.sc (.int .u64 (Lr b))),.s (.sc (.int .i64 (aKG b)))])
theorem spec:jL E f31 aF (pN .u64) sp:=by
 intro b h;refine(start b).trans ((gP ⟨.inl rfl,h⟩).trans ?_);unfold sp Lr aKG
 try dsimp only
 cases hp:cC.fB 32 b with
 |false=>rfl
 |true =>
  try dsimp only[cond_true,cBV]
  rw[gF rfl,gP trivial,gP aG.two32];have Di:0<=b%2147483648:=by omega
  by_cases c4:fO.gE Fi (b%2147483648)=4
  ·rw[cD c4,if_pos c4,if_pos c4]
  ·rw[bJ c4,if_neg c4,if_neg c4]
   by_cases c3:fO.gE Fi (b%2147483648)=3
   ·rw[cD c3,if_pos c3,if_pos c3,gP aG.uE,gP aG.uE];rw[<-gH.yN aG.uE (by show(0:Int)<=9218868437227405312;omega) (by show(9218868437227405312:Int)<9223372036854775808;omega)];rfl
   ·have hf:b%2147483648<jU.lR Fi:=by
     unfold fO.gE at c3 c4;split at c3
     ·rename_i h0;show _<(2139095040:Int);omega
     ·split at c3
      ·rename_i h0 h1;have:cK.kV Fi=8388608:=rfl;show _<(2139095040:Int);omega
      ·split at c3
       ·assumption
       ·split at c3
        ·exact(c3 rfl).elim
        ·rename_i h0 h1 h2 h3;rw[if_neg h0,if_neg h1,if_neg h2,if_neg h3]at c4;exact(c4 rfl).elim
    have hm:=bC.Uf aG.two32 Di;have hx:=bC.Ux aG.two32 Di hf;rw[bJ c3,if_neg c3,if_neg c3,gP ⟨aG.two32,by omega,by omega⟩,gP ⟨.inr rfl,⟨hm.1,by omega⟩,by omega,by omega⟩];rfl
def aJ:dK:=orc1 (pN .u64) sp
theorem ok:OK 31 aJ:=(fJ E aF (aA cC.ok (aA aG.ok (aA fO.ok (aA Zv.ok (aA jU.ok (aA dO.ok (aA gH.ok aD))))))) func31).qB rfl spec
end eZ
end W
namespace W.aKA
open Go AI M W
theorem Yr{fn:Int}(h:4<=fn/\fn<=6):vW.Az fn=true:=by
 have:fn=4\/fn=5\/fn=6:=by omega
 rcases this with rfl |rfl |rfl <;> rfl
theorem aMS{f:Int}(h:f=32\/f=64):0<cK.kV (aG.fD f)/\cK.kV (aG.fD f)<jU.lR (aG.fD f)/\jU.lR (aG.fD f)<bV.cE (aG.fD f):=by
 rcases h with rfl |rfl
 ·exact⟨by show(0:Int)<8388608;omega,by show(8388608:Int)<2139095040;omega,by show(2139095040:Int)<2147483648;omega⟩
 ·exact⟨by show(0:Int)<4503599627370496;omega,by show(4503599627370496:Int)<9218868437227405312;omega,by show(9218868437227405312:Int)<9223372036854775808;omega⟩
theorem Uy{f fn b:Int}(h:f=32\/f=64)(hf:4<=fn/\fn<=6)(hp:cC.fB f b=true)(hn:b%bV.cE (aG.fD f)=0):bN.vR f fn b=(if fn=5 then kI.Ee f 1 false else b,true,0):=by
 have hq:lU.Ab f=true:=decide_eq_true h;have hc:fO.gE (aG.fD f) (b%bV.cE (aG.fD f))=0:=by unfold fO.gE;rw[if_pos hn]
 unfold bN.vR;rw[if_neg (by rw[hq,Yr hf];simp),if_neg (by rw[hp];simp),if_neg (by rw[hc];omega),if_pos hc]
theorem aOG{f fn b:Int}(h:f=32\/f=64)(hf:4<=fn/\fn<=6)(hp:cC.fB f b=true)(hn:0<b%bV.cE (aG.fD f))(aTC:b%bV.cE (aG.fD f)<jU.lR (aG.fD f)) :
  bN.vR f fn b=if(fL.Bj fn (bN.gX f b)).2.2=true then(kI.Ee f (fL.Bj fn (bN.gX f b)).1 (fL.Bj fn (bN.gX f b)).2.1,true,0)else(0,false,0):=by
 have hq:lU.Ab f=true:=decide_eq_true h;have hc:fO.gE (aG.fD f) (b%bV.cE (aG.fD f))=1\/fO.gE (aG.fD f) (b%bV.cE (aG.fD f))=2:=by
  unfold fO.gE;rw[aP];split
  ·exact .inl rfl
  ·first |exact .inr rfl | (rw[if_pos aTC];exact .inr rfl)
 unfold bN.vR;rw[if_neg (by rw[hq,Yr hf];simp),if_neg (by rw[hp];simp),aP,aP]
theorem Lc{f b:Int}(h:f=32\/f=64)(_:0<=b)(hn:0<b%bV.cE (aG.fD f)):0<(dO.pV (aG.fD f) (b%bV.cE (aG.fD f))):=by
 have hi:=aMS h;unfold dO.pV;split
 ·rename_i hd;have:=cLE (b%bV.cE (aG.fD f)) (cK.kV (aG.fD f));rw[hd,Int.mul_zero]at this;omega
 ·have:=cHP (b%bV.cE (aG.fD f)) (show cK.kV (aG.fD f)≠0 by omega);omega
theorem aFA{f b:Int}(h:f=32\/f=64)(h0:0<=b)(hn:0<b%bV.cE (aG.fD f)):(bN.gX f b).1%2=1:=by
 have hm:=Lc h h0 hn;apply Fo;rw[Ne,dU];unfold bC.kF;rw[Ey];omega
theorem aRB{b:Int}(h0:0<=b)(h1:b<4294967296)(hn:0<b%2147483648)(aTC:b%2147483648<2139095040) :
  eZ.aKG b=0/\0<=eZ.Lr b/\eZ.Lr b<18446744073709551616/\0<eZ.Lr b%9223372036854775808/\eZ.Lr b%9223372036854775808<9218868437227405312/\bN.gX 64 (eZ.Lr b)=bN.gX 32 b:=by
 have hp:cC.fB 32 b=true:=decide_eq_true (by show b<4294967296;omega);have hc:fO.gE eZ.Fi (b%2147483648)=1\/fO.gE eZ.Fi (b%2147483648)=2:=by
  unfold fO.gE;rw[aP];split
  ·exact .inl rfl
  ·first |exact .inr rfl | (rw[if_pos (show b%2147483648<jU.lR eZ.Fi from aTC)];exact .inr rfl)
 have bBP:bV.cE (aG.fD 32)=2147483648:=rfl;have aBN:=Lc (f:=32) (.inl rfl) h0 (by rw[bBP];exact hn);rw[bBP]at aBN;have hmlt:dO.pV eZ.Fi (b%2147483648)<16777216:=by
  unfold dO.pV;rw[show cK.kV eZ.Fi=8388608 from rfl];split <;> omega
 have hexp:-149<=dO.tT eZ.Fi (b%2147483648)/\dO.tT eZ.Fi (b%2147483648)<=104:=by
  unfold dO.tT;rw[show cK.kV eZ.Fi=8388608 from rfl,show eZ.Fi.2.2.1=-149 from rfl];split <;> omega
 have aYM:bN.gX 32 b=aN (zs (decide (2147483648<=b)) (dO.pV eZ.Fi (b%2147483648)).toNat) (dO.tT eZ.Fi (b%2147483648)):=rfl;have hV:eZ.Lr b=gH.Ju eZ.To (decide (2147483648<=b)) (eZ.aKF b):=by
  unfold eZ.Lr;rw[hp,cond_true,aP,aP]
 have hE:eZ.aKG b=gH.aOJ (eZ.aKF b):=by
  unfold eZ.aKG;rw[hp,cond_true,aP,aP]
 have hO:eZ.aKF b=gH.qU eZ.To (dO.pV eZ.Fi (b%2147483648)) (dO.tT eZ.Fi (b%2147483648)):=rfl;rw[hE,hV,aYM,hO];have aBN:0<dO.pV eZ.Fi (b%2147483648):=aBN;generalize dO.pV eZ.Fi (b%2147483648)=M at *;generalize dO.tT eZ.Fi (b%2147483648)=e at *;obtain⟨m,rfl⟩:=cDX (show 0<=M by omega);have aFH:m≠0:=by omega
 have bTZ:=uJ m aFH;have hmul:m=m/2^tz m*2^tz m:=by
  have:=cDZ m (2^tz m);rw[bTZ.1]at this;rw[cDR];omega
 have bLI:m/2^tz m≠0:=by omega
 have bWH:bl m<=24:=dG.2 (by omega);have hbm':bl (m/2^tz m)<=24:=bZP (gM (cJD _ _)) bWH;have htl:=Fb aFH;have hJ:gH.qU eZ.To (m:Int) e=gH.Mj eZ.To (m/2^tz m) (e+(tz m:Int)):=by
  unfold gH.qU gH.aFC;rw[cCQ,aP,show eZ.To.2.2.1=-1074 from rfl,show eZ.To.2.1=53 from rfl,aP,aP]
 rw[hJ];generalize hg:m/2^tz m=m' at *;generalize tz m=t at *;have aJQ:gH.Py eZ.To m' (e+(t:Int))=53-bl m':=by
  unfold gH.Py;rw[show eZ.To.2.2.1=-1074 from rfl,show eZ.To.2.1=53 from rfl,aP];omega
 have aZG:2^52<=m'*2^(53-bl m')/\m'*2^(53-bl m')<2^53:=by
  have hb:bl (m'*2^(53-bl m'))=53:=by rw[cDR,zD bLI];omega
  refine⟨?_,dG.1 (by omega)⟩;have:=(rN (n:=m'*2^(53-bl m')) (k:=52)).1 (by omega);exact this
 have hS:gH.Mj eZ.To m' (e+(t:Int))=some ((e+(t:Int)-((53-bl m':Nat):Int) - -1074)*4503599627370496+((m'*2^(53-bl m'):Nat):Int)):=by
  unfold gH.Mj;rw[aJQ,show cK.kV eZ.To=4503599627370496 from rfl,show jU.lR eZ.To=9218868437227405312 from rfl,show eZ.To.2.2.1=-1074 from rfl,aP,aP]
 rw[hS];generalize hu:53-bl m'=u at *;generalize bXC:m'*2^u=MM at *;have bFV:0<=(e+(t:Int)-(u:Int) - -1074)*4503599627370496+(MM:Int)/\(e+(t:Int)-(u:Int) - -1074)*4503599627370496+(MM:Int)<9218868437227405312:=by omega
 generalize bIE:(e+(t:Int)-(u:Int) - -1074)*4503599627370496+(MM:Int)=c at *;have hsgv:bV.cE eZ.To=9223372036854775808:=rfl;have hval:gH.Ju eZ.To (decide (2147483648<=b)) (some c)=bif decide (2147483648<=b)then c+9223372036854775808 else c:=rfl
 rw[hval];have aHT:(bif decide (2147483648<=b)then c+9223372036854775808 else c)%9223372036854775808=c:=by
  cases decide (2147483648<=b)with
  |true=>rw[cond_true];omega
  |false=>rw[cond_false];omega
 have bMC:decide (9223372036854775808<=(bif decide (2147483648<=b)then c+9223372036854775808 else c))=decide (2147483648<=b):=by
  cases decide (2147483648<=b)with
  |true=>rw[cond_true];exact decide_eq_true (by omega)
  |false=>rw[cond_false];exact decide_eq_false (by omega)
 refine⟨rfl,?_,?_,?_,?_,?_⟩
 ·cases decide (2147483648<=b)with
  |true=>rw[cond_true];omega
  |false=>rw[cond_false];omega
 ·cases decide (2147483648<=b)with
  |true=>rw[cond_true];omega
  |false=>rw[cond_false];omega
 ·rw[aHT];omega
 ·rw[aHT];omega
 ·unfold bN.gX bC.kF bC.lW;rw[show bV.cE (aG.fD 64)=9223372036854775808 from rfl,aHT,bMC];have bEY:dO.pV (aG.fD 64) c=(MM:Int):=by
   unfold dO.pV;rw[show cK.kV (aG.fD 64)=4503599627370496 from rfl,aP];omega
  have bFP:dO.tT (aG.fD 64) c=e+(t:Int)-(u:Int):=by
   unfold dO.tT;rw[show cK.kV (aG.fD 64)=4503599627370496 from rfl,aP,show(aG.fD 64).2.2.1=-1074 from rfl];omega
  rw[bEY,bFP,cCQ,cCQ];have z1:zs (decide (2147483648<=b)) MM=zs (decide (2147483648<=b)) m'*p2 (u:Nat):=by
   rw[Ar,<-bXC];unfold zs;cases decide (2147483648<=b) <;> simp[cID]
  have z2:zs (decide (2147483648<=b)) m=zs (decide (2147483648<=b)) m'*p2 (t:Nat):=by
   rw[Ar,hmul];unfold zs;cases decide (2147483648<=b) <;> simp[cID]
  rw[z1,z2,Cq _ _ (by omega),Cq _ _ (by omega)];congr 1;omega
end W.aKA
namespace W.Qy
open Go AI M W
def aIV(N V k:Nat):Prop:=2*(k*N)<=2*V+N/\2*V<=2*(k*N)+N/\(2*(k*N)=2*V+N->k%2=0)/\(2*V=2*(k*N)+N->k%2=0)
theorem aLR{N V V' k k':Nat}(hN:0<N)(h:aIV N V k)(h':aIV N V' k')(hV:V<=V'):k<=k':=by
 obtain⟨a1,a2,a3,a4⟩:=h;obtain⟨b1,b2,b3,b4⟩:=h';apply cBN;intro kD;have m:(k'+1)*N<=k*N:=cAI _ kD;rw[bZN,cCX]at m;have e:k*N=(k'+1)*N:=by rw[bZN,cCX];omega
 have e2:=cKI hN e;have:=a3 (by omega);have:=b4 (by omega);omega
theorem aHA{N V k K:Nat}(hK:0<K)(h:aIV N V k):aIV (N*K) (V*K) k:=by
 obtain⟨a1,a2,a3,a4⟩:=h;have e1:2*(k*(N*K))=2*(k*N)*K:=by rw[<-cDV,<-cDV,<-cDV]
 have e2:2*(V*K)+N*K=(2*V+N)*K:=by rw[bZN,cDV]
 have e3:2*(k*(N*K))+N*K=(2*(k*N)+N)*K:=by rw[e1,bZN]
 have e4:2*(V*K)=2*V*K:=by rw[cDV]
 refine⟨?_,?_,fun h=>a3 ?_,fun h=>a4 ?_⟩
 ·rw[e1,e2];exact cAI _ a1
 ·rw[e3,e4];exact cAI _ a2
 ·rw[e1,e2]at h;exact cKI hK h
 ·rw[e3,e4]at h;exact cKI hK h
theorem aHB{N k:Nat}(hN:0<N):aIV N (k*N) k:=⟨by omega,by omega,fun h=>by omega,fun h=>by omega⟩
theorem Xq{v:Nat}{n:Int}(h:0<=n):aIV (2^n.toNat) v (oD.zS v n):=by
 unfold oD.zS nN.vJ nR.nQ;rw[show((2:Int)==0)=false from rfl,show((2:Int)==1)=false from rfl,cond_false,cond_false];have hv0:=cDZ v (2^n.toNat);have bPS:=cBB v (cBT (n:=n.toNat) (show 0<2 by omega))
 by_cases h0:n=0
 ·subst h0;have:nN.Nz v 0=-1:=rfl;rw[this];simp[aIV]
 ·obtain⟨m,hm⟩:∃m:Nat,n=(m:Int)+1:=⟨(n-1).toNat,by omega⟩;subst hm;have t1:((m:Int)+1).toNat=m+1:=by omega
  have t2:((m:Int)+1-1).toNat=m:=by omega
  unfold nN.Nz;rw[t1,t2]at *;have hp:=cBT (n:=m) (show 0<2 by omega);have hN:2^(m+1)=2^m*2:=cDS ..;have hq:v/2^(m+1)=v/2^m/2:=by rw[hN,cEN]
  have hs:=cDZ v (2^m);have bKQ:=cBB v hp;rw[decide_eq_true (show(0:Int)<=(m:Int)+1-1 by omega),cBV];rw[hq]at *;rw[hN]at *
  by_cases hb:v/2^m%2=1
  ·have hv:v≠0:=fun hz=>by rw[hz,cII]at hb;omega
   rw[decide_eq_true hb,cond_true];have ht:(tz v=m↔v%2^m=0):=by
    constructor
    ·intro e;apply Classical.byContradiction;intro Be;have a:=aKM (n:=v/2^m) bKQ Be;rw[cES,hs]at a;have b:=Lu Be;have:=(cLD (a:=2) (by omega)).1 (cFC b bKQ);omega
    ·intro e;rw[e,bZR]at hs;have a:=Td (n:=v/2^m) (by omega) m;rw[hs,Ah hb]at a;exact a
   generalize v/2^m=d at *;generalize v%2^m=s at *;generalize hM:2^m=M at *;have hd:d=2*(d/2)+1:=by omega
   generalize d/2=q at *;have bMV:M*d=2*(M*q)+M:=by rw[hd,cDT,bZD,cGI]
   have bHX:q*(M*2)=2*(M*q):=by rw[cDR q,cJK,cDR]
   have Pu:(q+1)*(M*2)=2*(M*q)+2*M:=by rw[bZN,bHX];omega
   by_cases hc:tz v=m
   ·have s0:=ht.1 hc;rw[beq_iff_eq.2 (show(tz v:Int)=(m:Int)+1-1 by omega),cond_true];rw[show decide ((0:Int)<0)=false from rfl,cAU,show((0:Int)==0)=true from rfl,cBV]
    by_cases ho:q%2=1
    ·rw[decide_eq_true ho,cond_true];unfold aIV;rw[Pu];exact⟨by omega,by omega,fun _=>by omega,fun h=>by omega⟩
    ·rw[decide_eq_false ho,cond_false,bZR];unfold aIV;rw[bHX];exact⟨by omega,by omega,fun h=>by omega,fun _=>by omega⟩
   ·have s0:s≠0:=fun h=>hc (ht.2 h)
    rw[beq_eq_false_iff_ne.2 (show(tz v:Int)≠(m:Int)+1-1 by omega),cond_false];rw[show decide ((0:Int)<1)=true from rfl,cED,cond_true];unfold aIV;rw[Pu];exact⟨by omega,by omega,fun h=>by omega,fun h=>by omega⟩
  ·rw[decide_eq_false hb,cond_false];rw[show decide ((0:Int) < -1)=false from rfl,show((-1:Int)==0)=false from rfl,cEC,cAU,cond_false,bZR];generalize v/2^m=d at *;generalize v%2^m=s at *;generalize 2^m=M at *;have hd:d=2*(d/2):=by omega
   generalize d/2=q at *;have bMV:M*d=2*(M*q):=by rw[hd,cGI]
   have bHX:q*(M*2)=2*(M*q):=by rw[cDR q,cJK,cDR]
   unfold aIV;rw[bHX];exact⟨by omega,by omega,fun h=>by omega,fun h=>by omega⟩
theorem Qz{w:Int×Int×Int}{v:Nat}{e G:Int}(h1:G<=e)(h2:G<=iR.gG w v e):aIV (2^(iR.gG w v e-G).toNat) (v*2^(e-G).toNat) (iR.vG w v e):=by
 unfold iR.vG;generalize iR.gG w v e=u at *;have hp:∀n:Nat,0<2^n:=fun n=>cZ
 split
 ·rename_i h;have r:=aHA (hp (e-G).toNat) (Xq (v:=v) (show 0<=u-e by omega));rw[<-cDU,show(u-e).toNat+(e-G).toNat=(u-G).toNat by omega]at r;exact r
 ·rename_i h;have r:=aHB (k:=v*2^(e-u).toNat) (hp (u-G).toNat);rw[cDV,<-cDU,show(e-u).toNat+(u-G).toNat=(e-G).toNat by omega]at r;exact r
theorem Kl(w:Int×Int×Int)(v:Nat)(e:Int):w.2.1<=iR.gG w v e/\e+(bl v:Nat)-w.1<=iR.gG w v e/\(iR.gG w v e=w.2.1\/iR.gG w v e=e+(bl v:Nat)-w.1):=by
 unfold iR.gG;split <;> omega
theorem Co{w:Int×Int×Int}(hw:iN.vY w){v v':Nat}{e e' G:Int}(hv:v≠0)(Nm:v'≠0)(h1:G<=e)(h2:G<=e')(h:v*2^(e-G).toNat<=v'*2^(e'-G).toNat):iR.wJ w v e<=iR.wJ w v' e':=by
 obtain⟨g,aQT,aJT⟩:∃g:Int,g<=G/\g<=w.2.1:=⟨min G w.2.1,cKJ _ _,cKK _ _⟩;have hp:∀n:Nat,0<2^n:=fun n=>cZ
 have h3:v*2^(e-g).toNat<=v'*2^(e'-g).toNat:=by
  have:=cAI (2^(G-g).toNat) h;rw[cDV,cDV,<-cDU,<-cDU,show(e-G).toNat+(G-g).toNat=(e-g).toNat by omega,show(e'-G).toNat+(G-g).toNat=(e'-g).toNat by omega]at this;exact this
 obtain⟨u1,u2,u3⟩:=Kl w v e;obtain⟨u1',u2',u3'⟩:=Kl w v' e';have r:=Qz (w:=w) (v:=v) (show g<=e by omega) (show g<=iR.gG w v e by omega);have r':=Qz (w:=w) (v:=v') (show g<=e' by omega) (show g<=iR.gG w v' e' by omega);have b:bl (v*2^(e-g).toNat)=(e-g).toNat+bl v:=by rw[cDR,zD hv]
 have b':bl (v'*2^(e'-g).toNat)=(e'-g).toNat+bl v':=by rw[cDR,zD Nm]
 have hb:=gM h3;have bp:=qJ hv;have bp':=qJ Nm;have l1:=wP (v*2^(e-g).toNat);have l2:=Zd (n:=v'*2^(e'-g).toNat) (Nat.ne_of_gt (Nat.mul_pos (Nat.pos_of_ne_zero Nm) (hp _)));have hm:1<=w.1/\w.1<=53:=by rcases hw with rfl |rfl <;> decide
 unfold iR.wJ;generalize hU:iR.gG w v e=u at *;generalize bQN:iR.gG w v' e'=u' at *;generalize iR.vG w v e=k at *;generalize iR.vG w v' e'=k' at *;generalize hV:v*2^(e-g).toNat=V at *;generalize hV':v'*2^(e'-g).toNat=V' at *
 by_cases c:1100<e+(bl v:Nat)-1
 ·rw[if_pos c,if_pos (show 1100<e'+(bl v':Nat)-1 by omega)];exact cJL _
 ·rw[if_neg c]
  by_cases c':1100<e'+(bl v':Nat)-1
  ·rw[if_pos c'];split <;> omega
  ·rw[if_neg c'];have key:(u-w.2.1)*((2^(w.1-1).toNat:Nat):Int)+(k:Int)<=(u'-w.2.1)*((2^(w.1-1).toNat:Nat):Int)+(k':Int):=by
    have hH:=hp (w.1-1).toNat;rcases Int.lt_trichotomy u u' with kD |heq |hgt
    ·
     have k1:k<=2*2^(w.1-1).toNat:=by
      apply cBN;intro hh;have a1:=r.1;have m:(2*2^(w.1-1).toNat+1)*2^(u-g).toNat<=k*2^(u-g).toNat:=cAI _ hh;have lt:V<2*2^(w.1-1).toNat*2^(u-g).toNat:=by
       refine bZQ l1 ?_;rw[show 2*2^(w.1-1).toNat=2^(w.1-1).toNat*2^1 by omega,<-cDU,<-cDU];exact iC
      rw[bZN,cCX]at m;have:=hp (u-g).toNat;generalize 2*2^(w.1-1).toNat*2^(u-g).toNat=x at *;omega
     have k2:2^(w.1-1).toNat<=k':=by
      apply cBN;intro hh;have a2:=r'.2.1;have m:(k'+1)*2^(u'-g).toNat<=2^(w.1-1).toNat*2^(u'-g).toNat:=cAI _ hh;have ge:2^(w.1-1).toNat*2^(u'-g).toNat<=V':=by
       refine bZP ?_ l2;rw[<-cDU];exact iC
      rw[bZN,cCX]at m;have:=hp (u'-g).toNat;generalize 2^(w.1-1).toNat*2^(u'-g).toNat=x at *;omega
     have hd:u-w.2.1+1<=u'-w.2.1:=by omega
     have m:=cBD hd (show(0:Int)<=((2^(w.1-1).toNat:Nat):Int) by omega);rw[Int.add_mul,cJS]at m;generalize (u-w.2.1)*((2^(w.1-1).toNat:Nat):Int)=x at *;generalize (u'-w.2.1)*((2^(w.1-1).toNat:Nat):Int)=y at *;omega
    ·subst heq;have:=aLR (hp _) r r' h3;omega
    ·omega
   generalize (u-w.2.1)*((2^(w.1-1).toNat:Nat):Int)+(k:Int)=x at *;generalize (u'-w.2.1)*((2^(w.1-1).toNat:Nat):Int)+(k':Int)=y at *;split <;> split <;> omega
def sg(f:Int):Int:=if f=32 then 2147483648 else 9223372036854775808
def ord(f w:Int):Int:=if w<sg f then w else sg f-w
def sz(f:Int)(p:Int×Int):Int:=iR.wJ (uW.vB f) p.1.natAbs p.2
theorem bCX{f:Int}(h:f=32\/f=64):(if(uW.vB f).1=24 then(2147483648:Int)else 9223372036854775808)=sg f:=by rcases h with rfl |rfl <;> rfl
theorem Rc{f:Int}(h:f=32\/f=64)(p:Int×Int):0<=sz f p/\sz f p<=iN.jV (uW.vB f)/\iN.jV (uW.vB f)<sg f:=by
 have:=iS.aEB (iS.Ha h) p.1.natAbs p.2;exact⟨this.1,this.2,by rcases h with rfl |rfl <;> decide⟩
theorem vO{f:Int}{p:Int×Int}(h:0<p.1):iS.jY f p=sz f p:=by
 unfold iS.jY sz zL.bBK;rw[aP,jB.2 (by omega),cond_false]
theorem Fp{f:Int}(hf:f=32\/f=64){p:Int×Int}(h:p.1<0):iS.jY f p=sz f p+sg f:=by
 unfold iS.jY sz zL.bBK;rw[aP,oI.2 h,cond_true,bCX hf]
theorem Xt{f:Int}{p:Int×Int}(h:p.1=0):iS.jY f p=0:=by unfold iS.jY;rw[if_pos h]
theorem Xi{f:Int}(hf:f=32\/f=64)(p:Int×Int):ord f (iS.jY f p)=if p.1<0 then -sz f p else if p.1=0 then 0 else sz f p:=by
 have hb:=Rc hf p
 by_cases h:p.1<0
 ·rw[if_pos h,Fp hf h];unfold ord;rw[aP];omega
 ·rw[if_neg h]
  by_cases h0:p.1=0
  ·rw[if_pos h0,Xt h0];unfold ord;rw[aW]
  ·rw[if_neg h0,vO (by omega)];unfold ord;rw[aW]
theorem Hs{f:Int}(hf:f=32\/f=64){p q:Int×Int}(h:R.qz p<=R.qz q):ord f (iS.jY f p)<=ord f (iS.jY f q):=by
 obtain⟨G,h1,h2⟩:∃G:Int,G<=p.2/\G<=q.2:=⟨min p.2 q.2,cKJ _ _,cKK _ _⟩;rw[R.Mp h1 h2]at h;have hp:∀n:Nat,(0:Int)<((2^n:Nat):Int):=fun n=>by have:=cBT (n:=n) (show 0<2 by omega);omega
 have s1:=Rc hf p;have s2:=Rc hf q;have a1:=hp (p.2-G).toNat;have a2:=hp (q.2-G).toNat;rw[Xi hf,Xi hf];have hP:p.1<0->p.1*((2^(p.2-G).toNat:Nat):Int)<0:=fun h=>cIM h a1
 have bQP:0<p.1->0<p.1*((2^(p.2-G).toNat:Nat):Int):=fun h=>Int.mul_pos h a1
 have hQ:q.1<0->q.1*((2^(q.2-G).toNat:Nat):Int)<0:=fun h=>cIM h a2
 have bXA:p.1=0->p.1*((2^(p.2-G).toNat:Nat):Int)=0:=fun h=>by rw[h,cEH]
 have bWZ:q.1=0->q.1*((2^(q.2-G).toNat:Nat):Int)=0:=fun h=>by rw[h,cEH]
 have Ua:∀(z:Int) (n:Nat),z.natAbs*2^n=(z*((2^n:Nat):Int)).natAbs:=fun z n=>by rw[cEG,cEJ]
 by_cases c1:p.1<0
 ·rw[if_pos c1]
  by_cases c2:q.1<0
  ·rw[if_pos c2];have:=Co (iS.Ha hf) (v:=q.1.natAbs) (v':=p.1.natAbs) (by omega) (by omega) h2 h1 (by rw[Ua,Ua];have:=hP c1;have:=hQ c2;omega);unfold sz;omega
  ·rw[if_neg c2];split <;> omega
 ·rw[if_neg c1]
  by_cases c0:p.1=0
  ·rw[if_pos c0]
   by_cases c2:q.1<0
   ·have:=hQ c2;have:=bXA c0;omega
   ·rw[if_neg c2];split <;> omega
  ·rw[if_neg c0];have p0:=bQP (by omega)
   by_cases c2:q.1<0
   ·have:=hQ c2;omega
   ·by_cases c3:q.1=0
    ·have:=bWZ c3;omega
    ·rw[if_neg c2,if_neg c3];have:=Co (iS.Ha hf) (v:=p.1.natAbs) (v':=q.1.natAbs) (by omega) (by omega) h1 h2 (by rw[Ua,Ua];omega);exact this
theorem aRM{f:Int}(hf:f=32\/f=64){p q:Int×Int}(hp:p.1≠0)(hq:q.1≠0)(h:R.qz p=R.qz q):sz f p=sz f q:=by
 obtain⟨G,h1,h2⟩:∃G:Int,G<=p.2/\G<=q.2:=⟨min p.2 q.2,cKJ _ _,cKK _ _⟩;have l1:=(R.Mp h1 h2).1 (by rw[h];exact cFB);have l2:=(R.Mp h2 h1).1 (by rw[h];exact cFB);have Ua:∀(z:Int) (n:Nat),z.natAbs*2^n=(z*((2^n:Nat):Int)).natAbs:=fun z n=>by rw[cEG,cEJ]
 have a:=Co (iS.Ha hf) (v:=p.1.natAbs) (v':=q.1.natAbs) (by omega) (by omega) h1 h2 (by rw[Ua,Ua];omega);have b:=Co (iS.Ha hf) (v:=q.1.natAbs) (v':=p.1.natAbs) (by omega) (by omega) h2 h1 (by rw[Ua,Ua];omega);unfold sz;omega
theorem Rp(v:Nat):oD.zS v 0=v:=by
 have r:=Xq (v:=v) (show(0:Int)<=0 by omega);unfold aIV at r;simp only[Int.toNat_zero,cIP,bZD]at r;omega
theorem Re{w:Int×Int×Int}{H:Nat}{Q t:Int}(hH:2^(w.1-1).toNat=H)(h1:0<t)(h2:t<iN.jV w)(hm:1<=w.1)(hQ:iN.jV w<=(Q+1)*H)(hT:w.2.1+Q+w.1<=1102) :
  iR.wJ w (if t/(H:Int)=0 then t%(H:Int)else(H:Int)+t%(H:Int)).toNat (if t/(H:Int)=0 then w.2.1 else w.2.1+t/(H:Int)-1)=t:=by
 have hp:0<H:=by rw[<-hH];exact cZ
 have d:=cLE t (H:Int);have r0:=cHP t (show(H:Int)≠0 by omega);have r1:=Int.emod_lt_of_pos t (show(0:Int)<(H:Int) by omega);have q0:0<=t/(H:Int):=Int.ediv_nonneg (by omega) (by omega);have qQ:t/(H:Int)<=Q:=by
  apply Int.le_of_not_gt;intro kD;have m:=cBD (show Q+1<=t/(H:Int) by omega) (show(0:Int)<=(H:Int) by omega);rw[Int.mul_comm (t/(H:Int))]at m;omega
 generalize t/(H:Int)=q at *;generalize t%(H:Int)=r at *
 by_cases c:q=0
 ·rw[if_pos c,if_pos c];subst c;rw[Int.mul_zero,Int.add_zero]at d;subst d;obtain⟨v,rfl⟩:=cDX r0;rw[cCQ];have hb:bl v<=(w.1-1).toNat:=dG.2 (by omega);have hu:iR.gG w v w.2.1=w.2.1:=by obtain⟨a,b,h |h⟩:=Kl w v w.2.1 <;> omega
  unfold iR.wJ iR.vG;rw[hu,if_pos (cJL _),cJQ,Rp,cEH,aP,aP];omega
 ·rw[if_neg c,if_neg c];obtain⟨v,hv⟩:∃v:Nat,(H:Int)+r=v:=⟨((H:Int)+r).toNat,by omega⟩;rw[hv,cCQ];have hb:bl v=(w.1-1).toNat+1:=aWQ (by omega) (by rw[cDS];omega);have hu:iR.gG w v (w.2.1+q-1)=w.2.1+q-1:=by obtain⟨a,b,h |h⟩:=Kl w v (w.2.1+q-1) <;> omega
  unfold iR.wJ iR.vG;rw[hu,if_pos (cJL _),cJQ,Rp,aP,hH];have e:(w.2.1+q-1-w.2.1)*(H:Int)+(v:Int)=t:=by
   rw[show w.2.1+q-1-w.2.1=q-1 by omega,Int.sub_mul,cJS,Int.mul_comm];omega
  rw[e,aP]
theorem tL{f b:Int}(h:0<=b/\b<2*sg f):b%sg f=if b<sg f then b else b-sg f:=by
 unfold sg at *;split at h <;> rename_i hf
 ·rw[if_pos hf];split <;> omega
 ·rw[if_neg hf];split <;> omega
def Fin(f b:Int):Prop:=(f=32\/f=64)/\(0<=b/\b<2*sg f)/\0<b%sg f/\b%sg f<iN.jV (uW.vB f)
theorem Fh{f:Int}(h:f=32\/f=64):bV.cE (aG.fD f)=sg f/\jU.lR (aG.fD f)=iN.jV (uW.vB f):=by rcases h with rfl |rfl <;> exact⟨rfl,rfl⟩
theorem aSN{f b:Int}(h:Fin f b):(bN.gX f b).1<0↔sg f<=b:=by
 obtain⟨hf,hb,h1,h2⟩:=h;obtain⟨e1,e2⟩:=Fh hf;have aBN:=aKA.Lc hf hb.1 (by rw[e1];exact h1);rw[e1]at aBN;have hz:bC.kF f b=zs (decide (sg f<=b)) (dO.pV (aG.fD f) (b%sg f)).toNat:=by unfold bC.kF;rw[e1]
 have bIH:bC.kF f b≠0:=by rw[hz,Ne,Ey];omega
 have e:=(lI (e:=bC.lW f b) bIH).1;have hp:=Ef (tz (bC.kF f b).natAbs:Nat);have aJO:bC.kF f b<0↔sg f<=b:=by
  rw[hz]
  by_cases c:sg f<=b
  ·rw[decide_eq_true c];unfold zs;simp only[cond_true];omega
  ·rw[decide_eq_false c];unfold zs;simp only[cond_false];omega
 rw[<-aJO];have en:(aN (bC.kF f b) (bC.lW f b))=bN.gX f b:=rfl;rw[en]at e;generalize p2 (tz (bC.kF f b).natAbs:Nat)=P at *;constructor
 ·intro h;rw[e];exact cIM h hp
 ·intro h;apply Classical.byContradiction;intro hn;have:0<=(bN.gX f b).1*P:=cKE (by omega) (by omega);omega
theorem aHI{f b:Int}(h:Fin f b):iS.jY f (bN.gX f b)=b:=by
 obtain⟨hf,hb,h1,h2⟩:=h;obtain⟨e1,e2⟩:=Fh hf;have aVY:0<sg f:=by unfold sg;split <;> omega
 have aBN:=aKA.Lc hf hb.1 (by rw[e1];exact h1);rw[e1]at aBN;have hq:R.qz (bN.gX f b)=R.qz (bC.kF f b,bC.lW f b):=nY _ _;have hz:bC.kF f b=zs (decide (sg f<=b)) (dO.pV (aG.fD f) (b%sg f)).toNat:=by unfold bC.kF;rw[e1]
 have hE:bC.lW f b=dO.tT (aG.fD f) (b%sg f):=by unfold bC.lW;rw[e1]
 have bIH:bC.kF f b≠0:=by rw[hz,Ne,Ey];omega
 have bXB:(bN.gX f b).1≠0:=fun h=>bIH (dU.1 h)
 have hS:=aRM hf bXB (q:=(bC.kF f b,bC.lW f b)) bIH hq;have hA:(bC.kF f b).natAbs=(dO.pV (aG.fD f) (b%sg f)).toNat:=by rw[hz,mB]
 have rT:sz f (bC.kF f b,bC.lW f b)=b%sg f:=by
  unfold sz;rw[hA,hE];rcases hf with rfl |rfl
  ·exact Re (w:=(24,-149,31)) (H:=8388608) (Q:=254) rfl h1 h2 (by decide) (by decide) (by decide)
  ·exact Re (w:=(53,-1074,63)) (H:=4503599627370496) (Q:=2046) rfl h1 h2 (by decide) (by decide) (by decide)
 have aTB:=aSN ⟨hf,hb,h1,h2⟩
 by_cases c:sg f<=b
 ·rw[Fp hf (aTB.2 c),hS,rT,tL hb,aP];omega
 ·rw[vO (by have:=mt aTB.1 c;omega),hS,rT,tL hb,aW]
end W.Qy
namespace W
open Go AI M
namespace Pj
def E:=mE [(149,nN.aJ)] 11 [8] [] []
def aF:=bd f191
theorem aX:Nk E aF:=nk
theorem start a c b:aI E f191 aF [D.agg [sc (bool a),ints u64 c],D.s (sc (int i64 b))]=letI A:=nN.vJ 1 a (M6.val c) b;letI B:=bif fit A then zs a A else(0:Int);aO (gY (a,c)/\0<=b/\b<4611686018427387904) (some [D.agg [sc (bool (isNeg B)),ints u64 (M6.dg B.natAbs)],D.s (sc (int i64 (bif fit A then(0:Int)else(5:Int))))]):=eJ aX
theorem up{p:Bool}{v:Nat}{n:Int}(h:0<=n):zs p (nN.vJ 1 p v n)=-(-(zs p v)/((2^n.toNat:Nat):Int)):=by
 have e1:zs p (nN.vJ 1 p v n)=-(zs (!p) (nN.vJ 0 (!p) v n)):=by
  unfold nN.vJ nR.nQ zs;cases p <;> simp
 have e2:-(zs p v)=zs (!p) v:=by unfold zs;cases p <;> simp
 rw[e1,e2,jM.down h]
theorem small{p:Bool}{v:Nat}{n:Int}(h:0<=n)(hb:bl v<=524288):fit (nN.vJ 1 p v n)=true:=by
 have e1:nN.vJ 1 p v n=nN.vJ 0 (!p) v n:=by
  unfold nN.vJ nR.nQ;cases p <;> simp
 rw[e1];exact jM.small h hb
def sp(x:Bool×List Int)(n:Int):Prop×List D:=(gY x/\0<=n/\n<4611686018427387904,[wD (-(-(wv x)/((2^n.toNat:Nat):Int))),.s (.sc (.int .i64 0))])
theorem spec:hI E f191 aF oZ (pN .i64) sp:=by
 intro x n h;have h':=h;obtain⟨hx,h0,h1⟩:=h;refine(start x.1 x.2 n).trans ((gP h').trans ?_);unfold sp
 try dsimp only
 rw[small h0 hx.bl];show some (wE true _)=_;rw[up h0];rfl
def aJ:dK:=orc2 oZ (pN .i64) sp
theorem ok:OK 191 aJ:=(fJ E aF (aA nN.ok aD) func191).nF rfl spec
end Pj
namespace kZ
def E:=mE [(192,jM.aJ),(191,Pj.aJ)] 22 [] [] []
def aF:=bd f150
theorem aX:Nk E aF:=nk
theorem start a d b c:aI E f150 aF [D.agg [sc (bool a),ints u64 d],D.s (sc (int i64 b)),D.s (sc (bool c))]=letI B:=gY (a,d)/\0<=b/\b<4611686018427387904;letI A:=(↑((2:Nat)^b.toNat):Int);aB c (aO B (some [D.agg [sc (bool (isNeg (-(-wv (a,d)/A)))),ints u64 (M6.dg (-(-wv (a,d)/A)).natAbs)]])) (aO B (some [D.agg [sc (bool (isNeg (wv (a,d)/A))),ints u64 (M6.dg (wv (a,d)/A).natAbs)]])):=eJ aX
def qI(up:Bool)(z:Int)(n:Nat):Int:=bif up then -(-z/((2^n:Nat):Int))else z/((2^n:Nat):Int)
theorem aGC(up:Bool)(z:Int)(n:Nat):(qI up z n).natAbs<=z.natAbs:=by
 unfold qI;cases up with
 |false=>exact uT (cBT (by decide))
 |true =>
  rw[cond_true,cFE];have:=uT (z:=-z) (cBT (n:=n) (show 0<2 by decide));rwa [cFE]at this
def sp(x:Bool×List Int)(n:Int)(up:Bool):Prop×List D:=(gY x/\(0<=n/\n<4611686018427387904),[wD (qI up (wv x) n.toNat)])
theorem spec:pO E f150 aF oZ (pN .i64) pB sp:=by
 rintro x n up ⟨h1,h2⟩;refine(start x.1 x.2 n up).trans ?_;cases up with
 |true=>rw[bT,gP ⟨h1,h2⟩];rfl
 |false=>rw[bF,gP ⟨h1,h2⟩];rfl
def aJ:dK:=orc3 oZ (pN .i64) pB sp
theorem ok:OK 150 aJ:=(fJ E aF (aA jM.ok (aA Pj.ok aD)) func150).zR rfl spec
end kZ
namespace cS
def E:=mE [(106,tA.aJ),(50,jQ.aJ),(150,kZ.aJ)] 33 [20,30] [] []
def aF:=bd f240
theorem aX:Nk E aF:=nk
theorem start a e b c d:aI E f240 aF [D.agg [sc (bool a),ints u64 e],D.s (sc (int i64 b)),D.s (sc (int i64 c)),D.s (sc (bool d))]=letI H:=wv (a,e);letI C:=bif iF H b then aN H b else((0:Int),(0:Int));letI B:=(↑(bl (M6.val e)):Int);letI G:=kZ.qI d H (i64.wrap (B-c)).toNat;letI F:=b+i64.wrap (B-c);letI I:=i64.wrap F;aO (M6.dJ e/\e.length<=1099511627776) (aB (decide (i64.wrap (B-c)<=0)) (aO (gY (a,e)/\(-9223372036854775808:Int)<=b/\b<9223372036854775808) (aC (isNeg C.fst) fun f=>aC (M6.dg C.fst.natAbs) fun g=>aC C.snd fun h=>aC (bif iF H b then(0:Int)else(5:Int)) fun i=>some [D.agg [sc (bool f),ints u64 g,sc (int i64 h)],D.s (sc (int i64 i))])) (aO (gY (a,e)/\0<=i64.wrap (B-c)/\i64.wrap (B-c)<4611686018427387904) (aC (isNeg G) fun j=>aC (M6.dg G.natAbs) fun k=>letI A:=bif iF (wv (j,k)) I then aN (wv (j,k)) I else((0:Int),(0:Int));aO (gY (j,k)/\(-9223372036854775808:Int)<=i64.wrap F/\i64.wrap F<9223372036854775808) (aC (isNeg A.fst) fun l=>aC (M6.dg A.fst.natAbs) fun m=>aC A.snd fun n=>aC (bif iF (wv (j,k)) I then(0:Int)else(5:Int)) fun o=>some [D.agg [sc (bool l),ints u64 m,sc (int i64 n)],D.s (sc (int i64 o))])))):=eJ aX
def oM(up:Bool)(z e p:Int):Int×Int:=if(bl z.natAbs:Int)-p<=0 then(z,e)else(kZ.qI up z ((bl z.natAbs:Int)-p).toNat,e+((bl z.natAbs:Int)-p))
def sp(x:Bool×List Int)(e p:Int)(up:Bool):Prop×List D:=(gY x/\(-4611686018427387904<=e/\e<4611686018427387904)/\1<=p/\p<=70000,dE (iF (oM up (wv x) e p).1 (oM up (wv x) e p).2) (aN (oM up (wv x) e p).1 (oM up (wv x) e p).2))
theorem spec:Pd E f240 aF oZ (pN .i64) (pN .i64) pB sp:=by
 rintro x e p up ⟨hw,he,hp⟩;have hb:=hw.bl;have hl:=hw.len;have ha:=iT x;refine(start x.1 x.2 e p up).trans ?_;unfold sp oM
 try dsimp only
 rw[gP ⟨hw.1.lM,by omega⟩,aH,ha,wrap_i64 (n:=(bl (M6.val x.2):Int)-p) (by omega) (by omega)];have hx:wv (x.1,x.2)=wv x:=rfl
 by_cases hn:(bl (M6.val x.2):Int)-p<=0
 ·rw[aQ hn,if_pos hn,gP ⟨hw,by omega,by omega⟩];simp only[aH];rfl
 ·have aHZ:=kZ.aGC up (wv x) ((bl (M6.val x.2):Int)-p).toNat;have Pv:gY (isNeg (kZ.qI up (wv x) ((bl (M6.val x.2):Int)-p).toNat),M6.dg (kZ.qI up (wv x) ((bl (M6.val x.2):Int)-p).toNat).natAbs):=gI (bZP (gM aHZ) (by rw[ha];exact hb));rw[aL hn,if_neg hn,gP ⟨hw,by omega,by omega⟩];simp only[aH];rw[wrap_i64 (n:=e+((bl (M6.val x.2):Int)-p)) (by omega) (by omega)];rw[gP ⟨Pv,by omega,by omega⟩,nW];rfl
def aJ:dK:=orc4 oZ (pN .i64) (pN .i64) pB sp
theorem ok:OK 240 aJ:=(fJ E aF (aA tA.ok (aA jQ.ok (aA kZ.ok aD))) func240).aME rfl spec
end cS
namespace oB
def E:=mE [] 8 [] [] []
def aF:=bd f252
theorem aX:Nk E aF:=nk
theorem start a:aI E f252 aF [D.s (ints u64 a)]=aB (decide (8192<(a.length:Int))) (some [D.s (sc (slice none 0 0)),D.s (sc (int i64 5))]) (some [D.s (ints u64 a),D.s (sc (int i64 0))]):=eJ aX
def can(a b:List Int):Prop:=Contract prog base.glob 253 [(pI .u64).put a,(pI .u64).put b] [.own gW .u64 (M6.dg (M6.val a*M6.val b))]
def less(n:Nat):Prop:=∀c d:List Int,M6.cV c->M6.cV d->c.length+d.length<n->can c d
def prec:dK:=orc2 (pI .u64) (pI .u64) fun a b=>(can a b,[.own gW .u64 (M6.dg (M6.val a*M6.val b))])
theorem aEQ:lO prog base.glob 253 prec:=by
 intro ds g rs hd hg;unfold prec orc2 at hd;split at hd
 ·split at hd
  ·rename_i x y hx hy;have hd:=Option.some.inj hd;have e1:g=can x y:=(Prod.mk.inj hd).1.symm;have e2:=(Prod.mk.inj hd).2;subst e1;rw[<-e2];exact⟨Contract.bJP (show Contract _ _ _ _ _ from hg) ((pI .u64).le hx) ((pI .u64).le hy),pM (c:=(f253.body).getD .skip) func253 rfl rfl⟩
  ·cases hd
 ·cases hd
def Lw(a:List Int):Bool:=decide (a.length<=8192)
def sp(a:List Int):Prop×List D:=(True,[.s (.ints .u64 (bif Lw a then a else [])),.s (.sc (.int .i64 (bif Lw a then 0 else 5)))])
theorem spec:aPW E f252 aF (pI .u64) sp:=by
 intro a _;have e:=start a;unfold sp Lw;simp only
 by_cases hc:a.length<=8192
 ·rw[aL]at e;rw[decide_eq_true hc];exact⟨_,e,iQ.refl _⟩
 ·rw[aQ]at e;rw[decide_eq_false hc];exact⟨_,e,.cons (Ag.nil _) (iQ.refl _)⟩
def aJ:dK:=orc1 (pI .u64) sp
theorem ok:OK 252 aJ:=(fJ E aF aD func252).bCQ rfl spec
end oB
namespace Jq
def E:Env:={ ({ base with C:=callsOf [(250,Pg.aJ)],n0:=1,io:=[0] })with nt:=71,own:=[],keep:=fun k=>(tlook [(5,[0,1,2,6,7,13,14,18,19]),(1,[0,1,2,13,14])] k).getD [],cut:=tlook [] }
def aF:=bd f264
theorem aX:Nk E aF:=nk
def L1(a:List Int)(b:Nat)(c:Nat) d f g h:=tM E f264 aF 1 [(A.any,some { e:=(22:Nat),cont:=zO.ints u64 a }),(A.v (V.one (L.view 0 b c)),none),iZ d,iZ f,cA g,cA h]
def L5(a:List Int)(b:Nat)(c:Nat) d f g h i j k l:=tM E f264 aF 5 [(A.any,some { e:=(22:Nat),cont:=zO.ints u64 a }),(A.v (V.one (L.view 0 b c)),none),iZ d,iZ f,cA g,cY h,cA i,cA j,cA k,cA l]
theorem start al ao an b c:aI E f264 aF [D.io gW u64 al ao an,D.s (ints u64 b),D.s (ints u64 c)]=Jq.L1 al ao an b c (c.length:Int) 0:=eJ aX
theorem Sv a b c d e f g:L1 a b c d e f g=aB (decide (g<f)) (Jq.L5 a b c d e g 0 f g (d.length:Int) 0) (some [D.io 22 u64 a 0 0]):=lJ aX
theorem aGR a b c d e f g h i j k:L5 a b c d e f g h i j k=letI C:=(d.length:Int);letI B:=b+(i64.wrap (k+f)).toNat;letI A:=d.getD k.toNat 0*e.getD f.toNat 0%(18446744073709551616:Int)+g+0;letI F:=a.getD B 0+A%18446744073709551616+(0:Int);aB (decide (k<j)) (if 0<=k/\k<C then if 0<=f/\f<(e.length:Int)then aO (0<=d.getD k.toNat 0/\d.getD k.toNat 0<(18446744073709551616:Int)/\0<=e.getD f.toNat 0/\e.getD f.toNat 0<(18446744073709551616:Int)) (aO (0<=d.getD k.toNat 0*e.getD f.toNat 0%(18446744073709551616:Int)/\0<=g/\(0:Int)<=(0:Int)/\(0:Int)<=(1:Int)) (if 0<=i64.wrap (k+f)/\i64.wrap (k+f)<(c:Int)then aO (0<=a.getD B 0/\0<=A%18446744073709551616/\(0:Int)<=(0:Int)/\(0:Int)<=(1:Int)) (if 0<=i64.wrap (k+f)/\i64.wrap (k+f)<(c:Int)then Jq.L5 (a.set B (F%18446744073709551616)) b c d e f (u64.wrap (u64.wrap (d.getD k.toNat 0*e.getD f.toNat 0/(18446744073709551616:Int)+A/18446744073709551616)+F/18446744073709551616)) h i j (i64.wrap (k+1))else none)else none))else none else none) (if 0<=i64.wrap (f+C)/\i64.wrap (f+C)<(c:Int)then Jq.L1 (a.set (b+(i64.wrap (f+C)).toNat) g) b c d e h (i64.wrap (i+1))else none):=lJ aX
def sp(x:List Int×Nat×Nat)(a b:List Int):Prop×List D:=(M6.dJ x.1/\x.2.1=0/\x.2.2=x.1.length/\M6.dJ a/\M6.dJ b/\x.1.length=a.length+b.length/\x.1.length<=1099511627776/\M6.val x.1=0,
 [.io gW .u64 (M6.qT x.1.length (M6.val a*M6.val b)) 0 0])
theorem bDL{x c:Int}{p:Nat}(hp:p<=340282366920938463426481119284349108225)(h0:0<=x)(h1:x<18446744073709551616)(h2:0<=c)(h3:c<18446744073709551616) :
  (0<=(p:Int)/18446744073709551616+((p:Int)%18446744073709551616+c+0)/18446744073709551616/\(p:Int)/18446744073709551616+((p:Int)%18446744073709551616+c+0)/18446744073709551616<18446744073709551616) /\
  (0<=(p:Int)/18446744073709551616+((p:Int)%18446744073709551616+c+0)/18446744073709551616+(x+((p:Int)%18446744073709551616+c+0)%18446744073709551616+0)/18446744073709551616/\(p:Int)/18446744073709551616+((p:Int)%18446744073709551616+c+0)/18446744073709551616+(x+((p:Int)%18446744073709551616+c+0)%18446744073709551616+0)/18446744073709551616<18446744073709551616) /\
  ((x+((p:Int)%18446744073709551616+c+0)%18446744073709551616+0)%18446744073709551616).toNat+18446744073709551616*((p:Int)/18446744073709551616+((p:Int)%18446744073709551616+c+0)/18446744073709551616+(x+((p:Int)%18446744073709551616+c+0)%18446744073709551616+0)/18446744073709551616).toNat=x.toNat+p+c.toNat:=by
 omega
theorem bJS{i j u X Y:Nat}:18446744073709551616^j*((u+18446744073709551616^i*X)*Y)=18446744073709551616^j*(u*Y)+18446744073709551616^(i+j)*(X*Y):=by
 rw[bZN,cDT,cDU];congr 1;rw[cDV,<-cDV (18446744073709551616^j),cDR (18446744073709551616^j)]
theorem bYQ{a b:List Int}{N j V:Nat}(hN:N<=1099511627776)(ha:M6.dJ a)(hb:M6.dJ b)(hj:j<b.length)(bMU:a.length+b.length=N):∀(r i:Nat) (z:List Int) (c:Int),i+r=a.length->z.length=N->M6.dJ z->0<=c->c<18446744073709551616->z.getD (a.length+j) 0=0 ->
  M6.val z+18446744073709551616^(i+j)*c.toNat=V+18446744073709551616^j*(M6.val (a.take i)*(b.getD j 0).toNat) ->
  ∃z',L5 z 0 N a b j c b.length j a.length i=L1 z' 0 N a b b.length ((j+1:Nat):Int)/\z'.length=N/\M6.dJ z'/\M6.val z'=V+18446744073709551616^j*(M6.val a*(b.getD j 0).toNat):=by
 intro r
 induction r with
 |zero =>
  intro i z c hi hz hd h0 h1 bDR hv;have w1:i64.wrap ((j:Int)+(a.length:Int))=((a.length+j:Nat):Int):=by rw[wrap_i64];omega
  have w2:i64.wrap ((j:Int)+1)=((j+1:Nat):Int):=by rw[wrap_i64];omega
  have bLR:i=a.length:=by omega
  subst bLR;refine⟨z.set (a.length+j) c,?_,by simp[hz],M6.pC hd ⟨h0,h1⟩,?_⟩
  ·rw[aGR,aL,w1,aW,cCQ,bYV,w2]
  ·have hs:=M6.sH (a:=z) (j:=a.length+j) (by omega) c;rw[bDR]at hs;rw[cFF]at hv;simp at hs;rw[hs];exact hv
 |succ r ih =>
  intro i z c hi hz hd h0 h1 bDR hv;have g:=hd.get (i+j);have ga:=ha.get i;have gb:=hb.get j;have w1:i64.wrap ((i:Int)+(j:Int))=((i+j:Nat):Int):=by rw[wrap_i64];omega
  have w2:i64.wrap ((i:Int)+1)=((i+1:Nat):Int):=by rw[wrap_i64];omega
  obtain⟨X,hX⟩:=cDX ga.1;obtain⟨Y,hY⟩:=cDX gb.1;have bMR:X*Y<=340282366920938463426481119284349108225:=by
   have h2:X<=18446744073709551615:=by omega
   have h3:Y<=18446744073709551615:=by omega
   have:=cJC h2 h3;omega
  rw[aGR,aQ,aW,aW,w1,w2];simp only[cCQ,bYV];have hs:=fun d=>M6.sH (a:=z) (j:=i+j) (by omega) d
  rw[show a.getD i 0*b.getD j 0=((X*Y:Nat):Int)from by rw[hX,hY];simp];obtain⟨k1,k2,k3⟩:=bDL bMR g.1 g.2 h0 h1;rw[gP ⟨ga.1,ga.2,gb.1,gb.2⟩,gP ⟨by omega,by omega,by omega,by omega⟩,aW,gP ⟨by omega,by omega,by omega,by omega⟩,aW];rw[wrap_u64 k1.1 k1.2,wrap_u64 k2.1 k2.2];refine ih (i+1) _ _ (by omega) (by simp[hz]) (M6.pC hd (by omega)) k2.1 k2.2 (by
   rw[cDW,List.getElem?_set_ne (by omega),<-cDW];exact bDR) ?_
  rw[M6.dT,bJS,show i+1+j=(i+j)+1 from by omega,cDS,cDV];have hs:=hs ((z.getD (i+j) 0+(((X*Y:Nat):Int)%18446744073709551616+c+0)%18446744073709551616+0)%18446744073709551616);rw[hX,hY,cCQ,cCQ];rw[hY,cCQ]at hv;generalize ((z.getD (i+j) 0+(((X*Y:Nat):Int)%18446744073709551616+c+0)%18446744073709551616+0)%18446744073709551616)=d at *;generalize ((X*Y:Nat):Int)/18446744073709551616+(((X*Y:Nat):Int)%18446744073709551616+c+0)/18446744073709551616+(z.getD (i+j) 0+(((X*Y:Nat):Int)%18446744073709551616+c+0)%18446744073709551616+0)/18446744073709551616=c' at *;generalize X*Y=q at *;generalize 18446744073709551616^(i+j)=B at *;generalize M6.val (z.set (i+j) d)=W at *;generalize (z.getD (i+j) 0).toNat=x at *;generalize 18446744073709551616^j*(M6.val (a.take i)*Y)=U at *;have e2:B*d.toNat+B*(18446744073709551616*c'.toNat)=B*x+B*q+B*c.toNat:=by
   rw[<-cDT,k3,cDT,cDT]
  omega
theorem aQZ{z:List Int}(hd:M6.dJ z){k:Nat}(h:M6.val z<18446744073709551616^k):z.getD k 0=0:=by
 have h1:=M6.oF hd k;rw[cEM h,M6.kJ]at h1;have:=hd.get k;omega
theorem bOE{a b:List Int}{N:Nat}(hN:N<=1099511627776)(ha:M6.dJ a)(hb:M6.dJ b)(bMU:a.length+b.length=N):∀(r j:Nat) (z:List Int),j+r=b.length->z.length=N->M6.dJ z->M6.val z=M6.val a*M6.val (b.take j) ->
  L1 z 0 N a b b.length j=some [.io gW .u64 (M6.qT N (M6.val a*M6.val b)) 0 0]:=by
 intro r
 induction r with
 |zero =>
  intro j z hj hz hd hv;rw[Sv,aL];rw[M6.dV (by omega)]at hv;rw[M6.qF hd hz hv]
 |succ r ih =>
  intro j z hj hz hd hv;rw[Sv,aQ];have kD:M6.val z<18446744073709551616^(a.length+j):=by
   rw[hv,cDU];exact cGX (M6.dW ha) (M6.jA hb j)
  obtain⟨z',h1,h2,h3,h4⟩:=bYQ hN ha hb (show j<b.length by omega) bMU a.length 0 z 0 (by omega) hz hd (by omega) (by omega) (aQZ hd kD) (V:=M6.val z) (by simp[M6.val]);have h1:L5 z 0 N a b j 0 b.length j a.length 0=L1 z' 0 N a b b.length ((j+1:Nat):Int):=h1;rw[h1];refine ih (j+1) z' (by omega) h2 h3 ?_;rw[h4,hv,M6.dT,cDT];congr 1;rw[<-cDV,<-cDV,cDR (18446744073709551616^j)]
theorem spec(x:List Int×Nat×Nat)(a b:List Int)(h:(sp x a b).1):aI E f264 aF [(Fl gW .u64).put x,(pI .u64).put a,(pI .u64).put b]=some (sp x a b).2/\∃rs nV,(sp x a b).2=rs ++ [.io gW .u64 nV 0 0]/\nV.length=x.1.length:=by
 obtain⟨xl,xo,xn⟩:=x;obtain⟨hd,ho,hn,ha,hb,hl,hN,hv⟩:=h;simp only at hd ho hn hl hN hv;subst ho;subst hn;refine⟨(start xl 0 xl.length a b).trans ?_,[],_,rfl,M6.iW ?_⟩
 ·exact bOE hN ha hb hl.symm b.length 0 xl (by omega) rfl hd (by simp[hv,M6.val])
 ·show _<18446744073709551616^xl.length;rw[hl,cDU];exact cGX (M6.dW ha) (M6.dW hb)
def aJ:dK:=orc3 (Fl gW .u64) (pI .u64) (pI .u64) sp
theorem fnok:mZ prog E 264 f264 aF:=xC sT mixed (mV _ rfl (aA Pg.ok aD) (oR)) func264 rfl rfl rfl rfl rfl
theorem ok:qZ prog base.glob 264 aJ:=fnok.zR rfl spec
end Jq
namespace Bt
def E:=mE [] 22 [] [(2,[0,3])] []
def aF:=bd f261
theorem aX:Nk E aF:=nk
def L2 a b:=tM E f261 aF 2 [iZ a,cA b]
theorem start a:aI E f261 aF [D.s (ints u64 a)]=Bt.L2 a (a.length:Int):=eJ aX
theorem mK a b:L2 a b=letI B:=(a.length:Int);letI A:=ints u64 (cHX 0 (cHY b.toNat a));aB (decide (0<b)) (if 0<=i64.wrap (b-1)/\i64.wrap (b-1)<B then aB (a.getD (i64.wrap (b-1)).toNat 0==(0:Int)) (Bt.L2 a (i64.wrap (b-1))) (if(0:Int)<=(0:Int)/\0<=b/\b<=b/\b<=B then some [D.s A]else none)else none) (if(0:Int)<=(0:Int)/\0<=b/\b<=b/\b<=B then some [D.s A]else none):=lJ aX
def sp(a:List Int):Prop×List D:=(M6.dJ a/\a.length<=1099511627776,[.s (.ints .u64 (M6.dg (M6.val a)))])
theorem L{xs:List Int}(hd:M6.dJ xs)(hl:xs.length<=4398046511104):∀n:Nat,n<=xs.length->L2 xs n=some [D.s (.ints .u64 (M6.dg (M6.val (xs.take n))))]
 |0,h=>by
  rw[mK,aL,aW];simp[M6.val,M6.cT]
 |n+1,h=>by
  rw[mK];have e:i64.wrap (((n+1:Nat):Int)-1)=(n:Int):=by rw[wrap_i64];omega
  rw[e,aQ,aW,cCQ]
  by_cases hz:xs.getD n 0=0
  ·rw[cD hz,L hd hl n (by omega),M6.nJ (by omega),hz];simp
  ·rw[bJ hz,aW,cCQ,cFG];have:M6.cV (xs.take (n+1)):=M6.Hp (hd.take _) fun d hg=>by
    rw[M6.getLast_take (by omega)]at hg;cases hg;exact hz
   rw[<-this]
theorem spec:jL E f261 aF (pI .u64) sp:=by
 rintro a ⟨hd,hl⟩;refine(start a).trans ?_;rw[L hd (by omega) a.length (bYT _),cFF];rfl
def aJ:dK:=orc1 (pI .u64) sp
theorem ok:OK 261 aJ:=(fJ E aF aD func261).qB rfl spec
end Bt
namespace qM
def E:Env:={ ({ base with n0:=1,io:=[0] })with nt:=55,own:=[],keep:=fun k=>(tlook [(7,[0,6,8]),(2,[0,1,2,6,10,11])] k).getD [],cut:=tlook [] }
def aF:=bd f267
theorem aX:Nk E aF:=nk
def L2(a:List Int)(b:Nat)(c:Nat) d f g h i:=tM E f267 aF 2 [(A.any,some { e:=(22:Nat),cont:=zO.ints u64 a }),(A.v (V.one (L.view 0 b c)),none),iZ d,cA f,cY g,cA h,cA i]
def L7(a:List Int)(b:Nat)(c:Nat) d f:=tM E f267 aF 7 [(A.any,some { e:=(22:Nat),cont:=zO.ints u64 a }),(A.v (V.one (L.view 0 b c)),none),cY d,cA f]
theorem start al ao an b c:aI E f267 aF [D.io gW u64 al ao an,D.s (ints u64 b),D.s (sc (int i64 c))]=qM.L2 al ao an b c 0 (b.length:Int) 0:=eJ aX
theorem mK a b c d e f g h:L2 a b c d e f g h=letI A:=b+(i64.wrap (e+h)).toNat;letI B:=a.getD A 0+d.getD h.toNat 0+f;aB (decide (h<g)) (if 0<=i64.wrap (e+h)/\i64.wrap (e+h)<(c:Int)then if 0<=h/\h<(d.length:Int)then aO (0<=a.getD A 0/\0<=d.getD h.toNat 0/\0<=f/\f<=1) (if 0<=i64.wrap (e+h)/\i64.wrap (e+h)<(c:Int)then qM.L2 (a.set A (B%18446744073709551616)) b c d e (B/18446744073709551616) g (i64.wrap (h+1))else none)else none else none) (qM.L7 a b c f (i64.wrap (e+(d.length:Int)))):=lJ aX
theorem yB a b c d e:L7 a b c d e=letI B:=b+e.toNat;letI A:=a.getD B 0+(0:Int)+d;aB (decide (0<d)) (if 0<=e/\e<(c:Int)then aO (0<=a.getD B 0/\(0:Int)<=(0:Int)/\0<=d/\d<=1) (if 0<=e/\e<(c:Int)then qM.L7 (a.set B (A%18446744073709551616)) b c (A/18446744073709551616) (i64.wrap (e+1))else none)else none) (some [D.io 22 u64 a 0 0]):=lJ aX
def sp(x:List Int×Nat×Nat)(b:List Int)(k:Int):Prop×List D:=(M6.dJ x.1/\x.2.1=0/\x.2.2=x.1.length/\M6.dJ b/\0<=k/\k.toNat+b.length<=x.1.length/\x.1.length<=1099511627776/\M6.val x.1+M6.val b*18446744073709551616^k.toNat<18446744073709551616^x.1.length,
 [.io gW .u64 (M6.qT x.1.length (M6.val x.1+M6.val b*18446744073709551616^k.toNat)) 0 0])
theorem bOB{T N:Nat}(hN:N<=1099511627776)(hT:T<18446744073709551616^N):∀(r j:Nat) (z:List Int) (c:Int),j+r=N+1->z.length=N->M6.dJ z->0<=c->c<=1->M6.val z+18446744073709551616^j*c.toNat=T ->
  L7 z 0 N c j=some [.io gW .u64 (M6.qT N T) 0 0]:=by
 intro r
 induction r with
 |zero =>
  intro j z c hj hz hd h0 h1 hv;have hc:c=0:=by
   have h2:=M6.rH (show N<=j by omega);rcases Int.lt_or_le 0 c with h3 |h3
   ·have:c=1:=by omega
    subst this;simp at hv;omega
   ·omega
  subst hc;rw[yB,aL];simp at hv;rw[M6.qF hd hz hv]
 |succ r ih =>
  intro j z c hj hz hd h0 h1 hv
  by_cases hc:c=0
  ·subst hc;rw[yB,aL];simp at hv;rw[M6.qF hd hz hv]
  ·have bCC:c=1:=by omega
   subst bCC;have bVG:j<N:=by
    rcases bZJ j N with h |h
    ·exact h
    ·have h2:=M6.rH h;simp at hv;omega
   have g:=hd.get j;have w2:i64.wrap ((j:Int)+1)=((j+1:Nat):Int):=by rw[wrap_i64];omega
   rw[yB,aQ,aW,bYV,cCQ,gP ⟨g.1,by omega,by omega,by omega⟩,aW,w2];refine ih (j+1) _ _ (by omega) (by simp[hz]) (M6.pC hd (by omega)) (by omega) (by omega) ?_;have hs:=M6.sH (a:=z) (j:=j) (by omega) ((z.getD j 0+0+1)%18446744073709551616);rw[cDS,cDV];generalize z.getD j 0=x at *;generalize M6.val (z.set j _)=V at *;generalize 18446744073709551616^j=B at *;have e:((x+0+1)%18446744073709551616).toNat+18446744073709551616*((x+0+1)/18446744073709551616).toNat=x.toNat+1:=by omega
   have e2:B*((x+0+1)%18446744073709551616).toNat+B*(18446744073709551616*((x+0+1)/18446744073709551616).toNat)=B*x.toNat+B:=by
    rw[<-cDT,e,cDT,bZD]
   simp at hv;omega
theorem bOD{b:List Int}{V N k:Nat}(hN:N<=1099511627776)(hb:M6.dJ b)(hk:k+b.length<=N)(hT:V+M6.val b*18446744073709551616^k<18446744073709551616^N):∀(r i:Nat) (z:List Int) (c:Int),i+r=b.length->z.length=N->M6.dJ z->0<=c->c<=1 ->
  M6.val z+18446744073709551616^(k+i)*c.toNat=V+M6.val (b.take i)*18446744073709551616^k ->
  L2 z 0 N b k c b.length i=some [.io gW .u64 (M6.qT N (V+M6.val b*18446744073709551616^k)) 0 0]:=by
 intro r
 induction r with
 |zero =>
  intro i z c hi hz hd h0 h1 hv;have w1:i64.wrap ((k:Int)+(b.length:Int))=((k+b.length:Nat):Int):=by rw[wrap_i64];omega
  rw[mK,aL,w1];have aYV:i=b.length:=by omega
  subst aYV;rw[cFF]at hv;exact bOB hN hT (N+1-(k+b.length)) (k+b.length) z c (by omega) hz hd h0 h1 hv
 |succ r ih =>
  intro i z c hi hz hd h0 h1 hv;have g:=hd.get (k+i);have g2:=hb.get i;have w1:i64.wrap ((k:Int)+(i:Int))=((k+i:Nat):Int):=by rw[wrap_i64];omega
  have w2:i64.wrap ((i:Int)+1)=((i+1:Nat):Int):=by rw[wrap_i64];omega
  rw[mK,aQ,w1,aW,aW,bYV,cCQ,cCQ,gP ⟨g.1,g2.1,h0,h1⟩,aW,w2];refine ih (i+1) _ _ (by omega) (by simp[hz]) (M6.pC hd (by omega)) (by omega) (by omega) ?_;have hs:=M6.sH (a:=z) (j:=k+i) (by omega) ((z.getD (k+i) 0+b.getD i 0+c)%18446744073709551616);have e0:M6.val (b.take (i+1))*18446744073709551616^k=M6.val (b.take i)*18446744073709551616^k+18446744073709551616^(k+i)*(b.getD i 0).toNat:=by
   rw[M6.dT,bZN,cDU];congr 1;rw[cJK,cDR (18446744073709551616^i)]
  rw[e0,show k+(i+1)=(k+i)+1 from by omega,cDS,cDV];generalize z.getD (k+i) 0=x at *;generalize b.getD i 0=y at *;generalize M6.val (z.set (k+i) _)=W at *;generalize 18446744073709551616^(k+i)=B at *;generalize M6.val (b.take i)*18446744073709551616^k=U at *;have e:((x+y+c)%18446744073709551616).toNat+18446744073709551616*((x+y+c)/18446744073709551616).toNat=x.toNat+y.toNat+c.toNat:=by omega
  have e2:B*((x+y+c)%18446744073709551616).toNat+B*(18446744073709551616*((x+y+c)/18446744073709551616).toNat)=B*x.toNat+B*y.toNat+B*c.toNat:=by
   rw[<-cDT,e,cDT,cDT]
  omega
theorem spec(x:List Int×Nat×Nat)(b:List Int)(k:Int)(h:(sp x b k).1):aI E f267 aF [(Fl gW .u64).put x,(pI .u64).put b,(pN .i64).put k]=some (sp x b k).2/\∃rs nV,(sp x b k).2=rs ++ [.io gW .u64 nV 0 0]/\nV.length=x.1.length:=by
 obtain⟨xl,xo,xn⟩:=x;obtain⟨hd,ho,hn,hb,hk,aJS,hl,hT⟩:=h;simp only at hd ho hn hb hk aJS hl hT;subst ho;subst hn;obtain⟨k,rfl⟩:=cDX hk;rw[cCQ]at aJS hT;refine⟨(start xl 0 xl.length b k).trans ?_,[],_,rfl,M6.iW hT⟩;have:=bOD hl hb aJS hT b.length 0 xl 0 (by omega) rfl hd (by omega) (by omega) (by simp[M6.val]);exact this
def aJ:dK:=orc3 (Fl gW .u64) (pI .u64) (pN .i64) sp
theorem fnok:mZ prog E 267 f267 aF:=xC sT mixed (mV _ rfl aD (oR)) func267 rfl rfl rfl rfl rfl
theorem ok:qZ prog base.glob 267 aJ:=fnok.zR rfl spec
end qM
end W
end Go.Proofs.YtplagoepbghhpaaGreatDoor
end
