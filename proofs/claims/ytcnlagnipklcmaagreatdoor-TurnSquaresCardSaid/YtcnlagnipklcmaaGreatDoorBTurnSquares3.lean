/- Contracts of functions and laws, for the claim on TurnSquares. -/
import Derived.KernelRfl
import Derived.Test.YtcnlagnipklcmaaGreatDoorBTurnSquares2
set_option linter.unusedVariables false
set_option linter.unusedSimpArgs false
set_option exponentiation.threshold 10000000
noncomputable section
open Go.IntKind(i8 i16 i32 i64 u8 u16 u32 u64)
open Go.Proofs.Tryz
open Int renaming toNat_natCast->bPS,eq_ofNat_of_zero_le->bQY,natCast_mul->bRU,natCast_ediv->bRM,tdiv_eq_ediv_of_nonneg->bTL,natAbs_neg->bSQ,tmod_eq_emod_of_nonneg->bTM,natCast_nonneg->bVP,mul_neg->bUW,mul_ediv_add_emod->bUZ,lt_or_le->bXK,mul_nonneg->bXW,natCast_emod->bSN,toNat_of_nonneg->bXZ,emod_nonneg->bVA,emod_lt_of_pos->bVB,mul_le_mul_of_nonneg_left->bYB,natAbs_natCast->bRO
open Nat renaming pow_add->bQX,mul_add->bQW,pow_succ->bQV,mul_assoc->bQZ,mul_comm->bQU,mod_lt->bOE,lt_of_le_of_lt->bSL,zero_add->bLY,div_le_self->bUJ,mul_le_mul_left->bOK,lt_of_lt_of_le->bMW,le_trans->bMS,div_lt_of_lt_mul->bRQ,div_eq_of_lt->bRT,pow_pos->bOV,mul_le_mul_right->bNJ,add_mul->bMQ,mul_lt_mul''->bUK,div_div_eq_div_mul->bRN,mod_eq_of_lt->bWL,div_add_mod->bRC,beq->bLX,eq_of_beq_eq_true->bMK,zero_le->bRZ,mul_one->bMG,le_refl->bLW,mul_le_mul->bWK,mod_add_div->bWN,one_mul->bPZ,pow_lt_pow_right->bSP,pow_le_pow_right->bOW,le_of_ble_eq_true->bNU,add_mul_div_left->bSM,add_zero->bMX,pow_zero->bVX,ble->bLZ,div_eq_of_lt_le->bWQ,add_assoc->bPM,div_le_div_left->bWT,testBit_mod_two_pow->bWU,le_of_not_lt->bQT,mul_div_le->bWV,mul_right_comm->bWW,lt_or_ge->bML,add_comm->bRX,testBit_and->bWZ,testBit_div_two_pow->bXA,eq_of_testBit_eq->bXB,div_mul_le_self->bXC,lt_div_mul_add->bXD,mul_left_comm->bTT,lt_mul_div_succ->bXE,div_lt_iff_lt_mul->bXF,pow_mul->bSO,div_one->bXH,zero_mod->bTS,min_eq_left->bSD,mul_add_div->bVO,testBit_two_pow->bXM,testBit_two_pow_sub_one->bXO,testBit_two_pow_sub_succ->bXP,div_le_of_le_mul->bXQ,le_div_iff_mul_le->bXS,add_mul_mod_self_left->bXV,mul_add_mod->bXY,mul_div_mul_right->bUU,mul_mod_mul_right->bUV,mul_div_cancel->bVZ,exists_eq_add_of_le->bNB,mul_lt_mul_of_pos_right->bYA,testBit_lt_two_pow->bYE,mul_lt_mul_of_pos_left->bYF,lt_succ_self->bYG
open Rat renaming le_of_lt->bRD,natCast_mul->bSW,le_trans->bRB,le_refl->bSK,intCast_natCast->bWO,intCast_mul->bWR,intCast_neg->bWX,mul_pos->bRP,mul_assoc->bXG,div_mul_cancel->bXR,intCast_add->bXT,le_antisymm->bYC
open List renaming replicate->bNZ,take->bRR,drop->bRS,take_length->bSR,drop_zero->bSE,take_set_of_le->bWS,length_take->bOM,drop_set_of_lt->bWY,length_replicate->bXI,drop_of_length_le->bXJ,getD_eq_getElem?_getD->bRA,take_of_length_le->bTH,drop_replicate->bXL,nil_append->bPY,append_nil->bRW,length_append->bMZ,take_zero->bPX,append_assoc->bNR,singleton_append->bSS
open Bool renaming not_true->bNW,true_and->bOX,false_and->bRF,false_or->bNX,or_true->bRV,true_or->bRG,and_eq_true->bMC,not_false->bXU,and_false->bRI
namespace Go.Proofs.YtcnlagnipklcmaaGreatDoor
namespace R
def gU{α:Type}(n:Nat)(k:Nat->α):α:=Nat.rec (motive:=fun _=>α) (k 0) (fun m _=>k (m+1)) n
theorem fG{α:Type}(n:Nat)(k:Nat->α):gU n k=k n:=by cases n <;> rfl
def inner(q:Nat)(f:Nat):Nat->Nat->Nat->Nat×Nat:=Nat.rec (motive:=fun _=>Nat->Nat->Nat->Nat×Nat) (fun t s _=>(t,s))
 (fun _ ih t s i=>gU (t/q) fun u=>gU (u/q) fun v=>gU (s+t/i-u/(i+2)) fun s'=>gU (i+4) fun i'=>ih v s' i') f
def outer(q:Nat)(g:Nat)(f:Nat):Nat->Nat->Nat->Nat×Nat:=Nat.rec (motive:=fun _=>Nat->Nat->Nat->Nat×Nat) (fun t s _=>(t,s))
 (fun _ ih t s i=>Prod.rec (motive:=fun _=>Nat×Nat) (fun t' s'=>ih t' s' (i+4*g)) (inner q g t s i)) f
theorem aFY(n w:Nat){j:Nat}(hn:0<n):fN n w (j+1)<=fN n w j:=by
 unfold fN;refine bMS (bWT (show 2*j+1<=2*(j+1)+1 by omega) (by omega)) (Nat.div_le_div_right ?_);exact bWT (bOW hn (by omega)) (bOV hn)
def At(n w:Nat)(j:Nat)(t s:Nat):Prop:=t=2^w/n^(2*j+1)/\(s:Rat)=sum (fun j=>sg j*(fN n w j:Rat)) j/\j%2=0
theorem aKE{n w j t s:Nat}(hn:0<n)(h:At n w j t s):At n w (j+2) (t/(n*n)/(n*n)) (s+t/(2*j+1)-t/(n*n)/(2*j+1+2)):=by
 obtain⟨h1,h2,h3⟩:=h;have e1:t/(n*n)=2^w/n^(2*(j+1)+1):=by
  rw[h1,bRN,show 2*(j+1)+1=2*j+1+2 by omega,bQX _ (2*j+1) 2,Nat.pow_two]
 have e2:t/(n*n)/(n*n)=2^w/n^(2*(j+2)+1):=by
  rw[e1,bRN,show 2*(j+2)+1=2*(j+1)+1+2 by omega,bQX _ (2*(j+1)+1) 2,Nat.pow_two]
 refine⟨e2,?_,by omega⟩;have a1:t/(2*j+1)=fN n w j:=by rw[h1];rfl
 have a2:t/(n*n)/(2*j+1+2)=fN n w (j+1):=by rw[e1];rfl
 rw[a1,a2,dA,dA,<-h2];have hle:=aFY n w (j:=j) hn;have:((s+fN n w j-fN n w (j+1):Nat):Rat)+(fN n w (j+1):Rat)=(s:Rat)+(fN n w j:Rat):=by
  exact_mod_cast(show s+fN n w j-fN n w (j+1)+fN n w (j+1)=s+fN n w j by omega)
 have g1:sg j=1:=by unfold sg;rw[if_pos h3]
 have g2:sg (j+1)=-1:=by unfold sg;rw[aX]
 rw[g1,g2];grind
theorem Tm(q f t s i:Nat):inner q (f+1) t s i=gU (t/q) fun u=>gU (u/q) fun v=>gU (s+t/i-u/(i+2)) fun s'=>gU (i+4) fun i'=>inner q f v s' i':=rfl
theorem Td(q g f t s i:Nat):outer q g (f+1) t s i=outer q g f (inner q g t s i).1 (inner q g t s i).2 (i+4*g):=rfl
theorem aDC{n w:Nat}(hn:0<n):∀(f j t s:Nat),At n w j t s->At n w (j+2*f) (inner (n*n) f t s (2*j+1)).1 (inner (n*n) f t s (2*j+1)).2:=by
 intro f
 induction f with
 |zero=>intro j t s h;exact h
 |succ f ih =>
  intro j t s h;have e:inner (n*n) (f+1) t s (2*j+1)=inner (n*n) f (t/(n*n)/(n*n)) (s+t/(2*j+1)-t/(n*n)/(2*j+1+2)) (2*(j+2)+1):=by
   rw[Tm,fG,fG,fG,fG];rfl
  rw[e,show j+2*(f+1)=(j+2)+2*f by omega];exact ih _ _ _ (aKE hn h)
theorem aCO{n w:Nat}(hn:0<n)(g:Nat):∀(f j t s:Nat),At n w j t s->At n w (j+2*(g*f)) (outer (n*n) g f t s (2*j+1)).1 (outer (n*n) g f t s (2*j+1)).2:=by
 intro f
 induction f with
 |zero=>intro j t s h;exact h
 |succ f ih =>
  intro j t s h;have e:outer (n*n) g (f+1) t s (2*j+1)=outer (n*n) g f (inner (n*n) g t s (2*j+1)).1 (inner (n*n) g t s (2*j+1)).2 (2*(j+2*g)+1):=by
   rw[Td,show 2*j+1+4*g=2*(j+2*g)+1 by omega]
  rw[e,show j+2*(g*(f+1))=(j+2*g)+2*(g*f) by rw[Nat.mul_succ];omega];exact ih _ _ _ (aDC hn g j t s h)
def aAU(n w g f:Nat):Nat×Nat:=outer (n*n) g f (2^w/n) 0 1
theorem Nq{n:Nat}(hn:2<=n)(w g f:Nat)(hJ:2*(g*f)<=1048576)(hz:(aAU n w g f).1=0):ab (((aAU n w g f).2:Rat)-((2^w:Nat):Rat)*Uo n)<=((2*(g*f):Nat):Rat)+2:=by
 have h:=aCO (n:=n) (w:=w) (by omega) g f 0 (2^w/n) 0 ⟨by rw[Nat.mul_zero,Nat.pow_one],by simp only[sum];norm_cast,rfl⟩;obtain⟨h1,h2,_⟩:=h;rw[bLY]at h1 h2;have h3:(aAU n w g f).2=(outer (n*n) g f (2^w/n) 0 (2*0+1)).2:=rfl;have h4:(aAU n w g f).1=(outer (n*n) g f (2^w/n) 0 (2*0+1)).1:=rfl;rw[h3,h2];rw[h4,h1]at hz;rw[bLY]at hz ⊢;refine Xz hn w hJ ?_;unfold fN;rw[hz,Nat.zero_div]
def Lp(u w:Nat)(f:Nat):Nat->Nat->Nat->Nat->Nat×Nat×Nat:=Nat.rec (motive:=fun _=>Nat->Nat->Nat->Nat->Nat×Nat×Nat) (fun t c s _=>(t,c,s))
 (fun _ ih t c s k=>gU (t*u/w/(k+1)) fun t1=>gU (t1*u/w/(k+2)) fun t2=>gU (t2*u/w/(k+3)) fun t3=>gU (t3*u/w/(k+4)) fun t4=>gU (c+t-t2) fun c'=>gU (s+t1-t3) fun s'=>gU (k+4) fun k'=>ih t4 c' s' k') f
def Cr(w:Nat)(h:Nat):Nat->Nat->Nat×Nat:=Nat.rec (motive:=fun _=>Nat->Nat->Nat×Nat) (fun s c=>(s,c))
 (fun _ ih s c=>gU (2*(s*c/w)) fun s'=>gU (w-2*(s*s/w)) fun c'=>ih s' c') h
def aIE(x:Nat):Bool :=
 gU (x &&& (x >>> 1)) fun x=>gU (x &&& (x >>> 2)) fun x=>gU (x &&& (x >>> 4)) fun x=>gU (x &&& (x >>> 8)) fun x=>bLX (x &&& (x >>> 8)) 0
def aNA(P w:Nat):Bool :=
 gU (P/2^102) fun u=>gU (2^w) fun W =>
 Prod.rec (motive:=fun _=>Bool) (fun t r=>Prod.rec (motive:=fun _=>Bool) (fun c s=>bLX t 0 &&
  Prod.rec (motive:=fun _=>Bool) (fun s' c'=>bLZ (2*s'*s') (W*W+2^(w+240))&&(bLZ (W*W) (2*s'*s'+2^(w+240))&&bLZ 1 c')) (Cr W 100 s c)) r) (Lp u W 320 W 0 0 0)
def aPK(w:Nat):Bool :=
 Prod.rec (motive:=fun _=>Bool) (fun t5 s5=>Prod.rec (motive:=fun _=>Bool) (fun t239 rW=>Prod.rec (motive:=fun _=>Bool) (fun t18 aHC=>Prod.rec (motive:=fun _=>Bool) (fun t57 aHB =>
  bLX t5 0&&(bLX t239 0&&(bLX t18 0&&(bLX t57 0 &&
  gU (16*s5-4*rW) fun P=>gU (48*aHC+32*aHB-20*rW) fun G =>
  bLZ P (G+2^24)&&(bLZ G (P+2^24)&&gU (P/2^64) fun Q =>
  bLX ((P+2^40)/2^64) Q&&(bLX ((P-2^40)/2^64) Q&&(bLX (Q/2^(w-104)) 3454217652357&&(aIE Q&&(aIE (2^(w-62)-1-Q)&&aNA P w)))))))))
  (aAU 57 w 78 78)) (aAU 18 w 92 92)) (aAU 239 w 66 66)) (aAU 5 w 122 122)
def Gt(x n:Nat):Prop:=∀p,∃i,i<n/\x.testBit (p+i)=false
theorem tM{x a n:Nat}(h:Gt (x &&& (x >>> a)) n):Gt x (n+a):=by
 intro p;obtain⟨i,hi,hb⟩:=h p;rw[bWZ,Nat.testBit_shiftRight,Bool.and_eq_false_iff]at hb;rcases hb with hb |hb
 ·exact⟨i,by omega,hb⟩
 ·exact⟨i+a,by omega,by rwa [show p+(i+a)=a+(p+i) by omega]⟩
theorem Wf{x:Nat}(h:aIE x=true):Gt x 24:=by
 unfold aIE at h;rw[fG,fG,fG,fG]at h;have h0:=bMK h;have n0:Gt ((((x &&& x >>> 1) &&& (x &&& x >>> 1) >>> 2) &&& ((x &&& x >>> 1) &&& (x &&& x >>> 1) >>> 2) >>> 4) &&& (((x &&& x >>> 1) &&& (x &&& x >>> 1) >>> 2) &&& ((x &&& x >>> 1) &&& (x &&& x >>> 1) >>> 2) >>> 4) >>> 8 &&& ((((x &&& x >>> 1) &&& (x &&& x >>> 1) >>> 2) &&& ((x &&& x >>> 1) &&& (x &&& x >>> 1) >>> 2) >>> 4) &&& (((x &&& x >>> 1) &&& (x &&& x >>> 1) >>> 2) &&& ((x &&& x >>> 1) &&& (x &&& x >>> 1) >>> 2) >>> 4) >>> 8) >>> 8) 1:=by
  rw[h0];exact fun p=>⟨0,by omega,by simp⟩
 exact tM (a:=1) (n:=23) (tM (a:=2) (n:=21) (tM (a:=4) (n:=17) (tM (a:=8) (n:=9) (tM (a:=8) (n:=1) n0))))
theorem Kk{x n:Nat}(h:Gt x n)(p:Nat):x/2^p%2^n≠2^n-1:=by
 intro hc;obtain⟨i,hi,hb⟩:=h p;have h1:(x/2^p%2^n).testBit i=true:=by
  rw[hc,bXO];exact decide_eq_true hi
 rw[bWU,bXA]at h1;rw[show p+i=i+p by omega]at hb;rw[hb]at h1;simp at h1
theorem Zu{x L n p:Nat}(hx:x<2^L)(hp:p+n<=L)(h:(2^L-1-x)/2^p%2^n≠2^n-1):x/2^p%2^n≠0:=by
 intro hc;apply h;apply bXB;intro i;rw[bXO,bWU,bXA,show 2^L-1-x=2^L-(x+1) by omega,bXP hx];have h1:(x/2^p%2^n).testBit i=false:=by rw[hc];simp
 rw[bWU,bXA]at h1
 by_cases hi:i<n
 ·simp[hi]at h1 ⊢;exact⟨by omega,h1⟩
 ·simp[hi]
theorem Wn(h:Nat):((4^(h+1):Nat):Rat)=4*((4^h:Nat):Rat):=by
 rw[bQV,bSW];grind
theorem Ez(h:Nat):((2^(h+1):Nat):Rat)=2*((2^h:Nat):Rat):=by
 rw[bQV,bSW];grind
theorem Gi(b h:Nat)(hb:0<b):(1:Rat)<=((b^h:Nat):Rat):=by exact_mod_cast bOV hb
theorem Kr(w h s c:Nat):Cr w (h+1) s c=Cr w h (2*(s*c/w)) (w-2*(s*s/w)):=by
 show gU _ (fun s'=>gU _ fun c'=>Cr w h s' c')=_;rw[fG,fG]
theorem aFE{W s c:Nat}{x e:Rat}(hW:1<=W)(h0:0<=x)(h1:x<=1/2)(hs:ab ((s:Rat)-W*sn x)<=e)(hc:ab ((c:Rat)-W*cs x)<=e)(he:100*(e*e)<=(W:Rat))(aYZ:(8*e+4*(W:Rat))*sQ<=1/4) :
  ab (((2*(s*c/W):Nat):Rat)-W*sn (2*x))<=4*e+4/\ab (((W-2*(s*s/W):Nat):Rat)-W*cs (2*x))<=4*e+4/\2*(s*s/W)<=W:=by
 have bKC:(1:Rat)<=(W:Rat):=by exact_mod_cast hW
 have aHG:0<=e:=bRB (aQ _) hs;have aNW:ab x<=1:=by rw[bN h0];grind
 have aNY:2*(s*s/W)<=W:=by
  have h2:=Vy h0 (by grind);have h3:=Fz h0 (by grind);rw[dY]at hs;have e1:e<=(W:Rat)/10:=by
   have:=Fx (a:=10*e) (b:=(W:Rat)) (by have:=aG (show 0<=(W:Rat)-1 by grind) (show 0<=(W:Rat) by grind);grind) (by grind);rw[bN (by grind)]at this;grind
  have e2:=aG (show 0<=(W:Rat) by grind) (show 0<=1/2-sn x by grind);have e3:(s:Rat)<=3/5*(W:Rat):=by grind
  have e4:(0:Rat)<=(s:Rat):=by exact_mod_cast bRZ _
  have e5:=cX e4 e3 e4 e3;have d:=(uT (s*s) (b:=W) (by omega)).1;rw[bSW]at d;have e6:(W:Rat)*(2*((s*s/W:Nat):Rat))<=(W:Rat)*(W:Rat):=by
   have:=aG (show 0<=(W:Rat) by grind) (show 0<=(W:Rat) by grind);grind
  have e7:=dK (show 0<(W:Rat) by grind) e6;exact_mod_cast e7
 have Zg:ab ((W:Rat)*((2*(s*c/W):Nat):Rat)-2*((s:Rat)*(c:Rat)))<=2*(W:Rat):=by
  obtain⟨d1,d2⟩:=uT (s*c) (b:=W) (by omega);rw[bSW]at d1 d2;rw[bSW,dY];have:((2:Nat):Rat)=2:=by norm_cast
  rw[this];constructor <;> grind
 have aRA:ab ((W:Rat)*((W-2*(s*s/W):Nat):Rat)-((W:Rat)*(W:Rat)-2*((s:Rat)*(s:Rat))))<=2*(W:Rat):=by
  obtain⟨d1,d2⟩:=uT (s*s) (b:=W) (by omega);have aLX:((W-2*(s*s/W):Nat):Rat)+2*((s*s/W:Nat):Rat)=(W:Rat):=by
   exact_mod_cast(show W-2*(s*s/W)+2*(s*s/W)=W by omega)
  rw[bSW]at d1 d2;generalize ((W-2*(s*s/W):Nat):Rat)=z at *;generalize ((s*s/W:Nat):Rat)=y at *;have:z=(W:Rat)-2*y:=by grind
  subst this;rw[dY];constructor <;> grind
 obtain⟨r1,r2⟩:=aRD bKC aNW hs hc (by have:=aG aHG aHG;grind) aYZ Zg aRA;exact⟨r1,r2,aNY⟩
theorem Xm{W:Nat}(hW:1<=W){E:Rat}(hE:100*(E*E)<=(W:Rat))(aYZ:(8*E+4*(W:Rat))*sQ<=1/4):∀(h:Nat) (x e:Rat) (s c:Nat),0<=x->((2^h:Nat):Rat)*x<=1->ab ((s:Rat)-W*sn x)<=e->ab ((c:Rat)-W*cs x)<=e->((4^h:Nat):Rat)*(e+2)<=E ->
  ab (((Cr W h s c).1:Rat)-W*sn (((2^h:Nat):Rat)*x))<=((4^h:Nat):Rat)*(e+2)-2/\ab (((Cr W h s c).2:Rat)-W*cs (((2^h:Nat):Rat)*x))<=((4^h:Nat):Rat)*(e+2)-2:=by
 intro h
 induction h with
 |zero =>
  intro x e s c h0 h1 hs hc bFA;rw[bVX,show((1:Nat):Rat)*x=x by grind];have:((1:Nat):Rat)=1:=by norm_cast
  rw[this];exact⟨by show ab ((s:Rat)-_)<=_;grind,by show ab ((c:Rat)-_)<=_;grind⟩
 |succ h ih =>
  intro x e s c h0 h1 hs hc bFA;rw[Ez]at h1;rw[Wn]at bFA;have aHG:0<=e:=bRB (aQ _) hs;have g2:=Gi 2 h (by omega);have g4:=Gi 4 h (by omega);have aAM:x<=1/2:=by
   have:=aG (show 0<=((2^h:Nat):Rat)-1 by grind) h0;grind
  have aJB:e<=E:=by
   have:=aG (show 0<=((4^h:Nat):Rat)-1 by grind) (show 0<=e+2 by grind);grind
  have hsq:=cX aHG aJB aHG aJB;have aOP:=oW;have hsm2:=aG (show 0<=E-e by grind) (bRD aOP);obtain⟨r1,r2,_⟩:=aFE hW h0 aAM hs hc (by grind) (by grind);have:=ih (2*x) (4*e+4) _ _ (by grind) (by grind) r1 r2 (by grind);rw[Kr,Ez,Wn,show 2*((2^h:Nat):Rat)*x=((2^h:Nat):Rat)*(2*x) by grind];refine⟨bRB this.1 ?_,bRB this.2 ?_⟩ <;> grind
theorem Fw{u W:Nat}(h:u<=W)(k:Nat):sq u W (k+1)<=sq u W k:=by
 rw[sq];refine bMS (bUJ _ _) ?_
 by_cases hW:W=0
 ·rw[hW,Nat.div_zero];omega
 ·exact bXQ (by rw[bQU];exact bNJ _ h)
theorem Ye(u w f t c s k:Nat):Lp u w (f+1) t c s k=gU (t*u/w/(k+1)) fun t1=>gU (t1*u/w/(k+2)) fun t2=>gU (t2*u/w/(k+3)) fun t3=>gU (t3*u/w/(k+4)) fun t4=>gU (c+t-t2) fun c'=>gU (s+t1-t3) fun s'=>gU (k+4) fun k'=>Lp u w f t4 c' s' k':=rfl
theorem aHY{u W:Nat}(hu:u<=W):∀(f k t c s:Nat),k%4=0->t=sq u W k->(c:Rat)=sum (fun k=>cc k*(sq u W k:Rat)) k->(s:Rat)=sum (fun k=>ss k*(sq u W k:Rat)) k ->
  (Lp u W f t c s k).1=sq u W (k+4*f)/\(((Lp u W f t c s k).2.1:Nat):Rat)=sum (fun k=>cc k*(sq u W k:Rat)) (k+4*f)/\(((Lp u W f t c s k).2.2:Nat):Rat)=sum (fun k=>ss k*(sq u W k:Rat)) (k+4*f):=by
 intro f
 induction f with
 |zero=>intro k t c s _ h1 h2 h3;exact⟨h1,h2,h3⟩
 |succ f ih =>
  intro k t c s hk h1 h2 h3;have e:Lp u W (f+1) t c s k=Lp u W f (sq u W (k+4)) (c+sq u W k-sq u W (k+2)) (s+sq u W (k+1)-sq u W (k+3)) (k+4):=by
   rw[Ye,fG,fG,fG,fG,fG,fG,fG,h1];rfl
  have l1:sq u W (k+1)<=sq u W k:=Fw hu k;have l2:sq u W (k+2)<=sq u W (k+1):=Fw hu (k+1);have l3:sq u W (k+3)<=sq u W (k+2):=Fw hu (k+2);rw[e,show k+4*(f+1)=k+4+4*f by omega];have c0:cc k=1/\cc (k+1)=0/\cc (k+2)=-1/\cc (k+3)=0:=by
   unfold cc;refine⟨?_,?_,?_,?_⟩
   ·rw[if_pos hk]
   ·rw[aX,aX]
   ·rw[aX,aT]
   ·rw[aX,aX]
  have s0:ss k=0/\ss (k+1)=1/\ss (k+2)=0/\ss (k+3)=-1:=by
   unfold ss;refine⟨?_,?_,?_,?_⟩
   ·rw[aX,aX]
   ·rw[aT]
   ·rw[aX,aX]
   ·rw[aX,aT]
  refine ih (k+4) _ _ _ (by omega) rfl ?_ ?_
  ·rw[dA,dA,dA,dA,<-h2,c0.1,c0.2.1,c0.2.2.1,c0.2.2.2];have:((c+sq u W k-sq u W (k+2):Nat):Rat)+(sq u W (k+2):Rat)=(c:Rat)+(sq u W k:Rat):=by exact_mod_cast(show c+sq u W k-sq u W (k+2)+sq u W (k+2)=c+sq u W k by omega)
   grind
  ·rw[dA,dA,dA,dA,<-h3,s0.1,s0.2.1,s0.2.2.1,s0.2.2.2];have:((s+sq u W (k+1)-sq u W (k+3):Nat):Rat)+(sq u W (k+3):Rat)=(s:Rat)+(sq u W (k+1):Rat):=by exact_mod_cast(show s+sq u W (k+1)-sq u W (k+3)+sq u W (k+3)=s+sq u W (k+1) by omega)
   grind
set_option maxRecDepth 10000
def pi:Rat:=16*Uo 5-4*Uo 239
def aXP:Rat:=48*Uo 18+32*Uo 57-20*Uo 239
theorem hZ{a b:Bool}(h:(a&&b)=true):a=true/\b=true:=by simpa using h
structure Oc(w:Nat)(Q:Nat):Prop where
 lo:(Q:Rat)<=((2^(w-64):Nat):Rat)*pi
 hi:((2^(w-64):Nat):Rat)*pi<(Q:Rat)+1
 gauss:ab (((2^w:Nat):Rat)*(pi-aXP))<=33554432
 top:Q/2^(w-104)=3454217652357
 aXS:Gt Q 24
 aIQ:Gt (2^(w-62)-1-Q) 24
 cos:ab (((2^w:Nat):Rat)*cs (pi/2))<=((2^250:Nat):Rat)
theorem vK(w:Nat)(hw:64<=w):2^w=2^64*2^(w-64):=by rw[<-bQX];congr 1;omega
theorem Wp{u W:Nat}(hW:0<W):∃x:Rat,x*(W:Rat)=(u:Rat)/\0<=x:=by
 have h:(0:Rat)<(W:Rat):=by exact_mod_cast hW
 have h1:(W:Rat)≠0:=by grind
 refine⟨(u:Rat)/(W:Rat),bXR h1,?_⟩;have hu:(0:Rat)<=(u:Rat):=by exact_mod_cast bRZ _
 refine Rat.not_lt.1 fun hn=>?_
 have:=bRP h (show 0 < -((u:Rat)/(W:Rat)) by grind);have e:(u:Rat)/(W:Rat)*(W:Rat)=u:=bXR h1;grind
theorem Aw{w:Nat}(hw:w<=1000000):((2^w:Nat):Rat)*sQ<=1/1048576:=by
 have h1:=Cp (n:=w+20) (by omega);have h2:=Tu w;have h3:=Mv w 20;have h4:hf 20=1/1048576:=by simp only[hf];grind
 have h5:(0:Rat)<=((2^w:Nat):Rat):=by exact_mod_cast bRZ _
 have h6:=aG h5 (show 0<=hf (w+20)-sQ by grind);rw[h3,h4]at h6;generalize ((2^w:Nat):Rat)=W at *;generalize hf w=H at *;clear h1 h3 h4;grind
theorem Pf{W E:Rat}(h:E<=W)(aOP:W*sQ<=1/1048576):(8*E+4*W)*sQ<=1/4:=by
 have:=aG (show 0<=W-E by grind) (bRD oW);grind
theorem aJR{W u P p x y:Rat}(hx:x*W=u)(hy:y=1267650600228229401496703205376*x)(v1:u*5070602400912917605986812821504<=P)(v2:P<u*5070602400912917605986812821504+5070602400912917605986812821504)(hp:ab (P-W*p)<=524288):ab (W*(p/2-2*y))<=10141204801825835211973625643008:=by
 rw[dY]at hp ⊢;subst hy;have:W*(p/2-2*(1267650600228229401496703205376*x))=W*p/2-2535301200456458802993406410752*u:=by rw[<-hx];grind
 rw[this];grind
theorem aPF{w P:Nat}(hw:1000<=w)(aSV:w<=1000000)(hP:P<3454217652358*2^(w-40)){p:Rat}(hp:ab ((P:Rat)-((2^w:Nat):Rat)*p)<=524288)(h:aNA P w=true):ab (((2^w:Nat):Rat)*cs (p/2))<=((2^250:Nat):Rat):=by
 unfold aNA at h;rw[fG,fG]at h;have aHI:0<2^w:=cP;have aDI:P/2^102*2^102<=P:=bXC P (2^102);have aWI:P<P/2^102*2^102+2^102:=bXD (cP);have bLF:2^w=2^40*2^(w-40):=by rw[<-bQX];congr 1;omega
 have bDS:P/2^102*2^100<=2^w:=by
  rw[show 2^102=4*2^100 from rfl,show 2^40=1099511627776 from rfl]at *;generalize 2^100=b at *;generalize 2^(w-40)=q at *;generalize P/(4*b)=u at *;have:u*(4*b)=4*(u*b):=by rw[bTT]
  omega
 obtain⟨x,hx,Ou⟩:=Wp (u:=P/2^102) aHI;have ht:=aHY (u:=P/2^102) (W:=2^w) (by omega) 320 0 (2^w) 0 0 rfl rfl (by simp only[sum];norm_cast) (by simp only[sum];norm_cast);generalize Lp (P/2^102) (2^w) 320 (2^w) 0 0 0=T at *;obtain⟨t,c,s⟩:=T;dsimp only at h ht;rw[bLY,show 4*320=1280 from rfl]at ht;obtain⟨ht0,bDU,aWJ⟩:=ht;obtain⟨z0,h⟩:=hZ h;have z0:=bMK z0;rw[z0]at ht0;have hW:(0:Rat)<((2^w:Nat):Rat):=by exact_mod_cast aHI
 have aWG:((2^100:Nat):Rat)*x<=1:=by
  refine dK hW ?_;have h1:((P/2^102:Nat):Rat)*((2^100:Nat):Rat)<=((2^w:Nat):Rat):=by exact_mod_cast bDS
  grind
 have aAM:x<=1/2:=by
  have n1:((2^100:Nat):Rat)=1267650600228229401496703205376:=by norm_cast
  rw[n1]at aWG;grind
 have ec:=aBO aHI hx Ou aAM (n:=1280) (by omega) (by omega) ht0.symm;have es:=aBN aHI hx Ou aAM (n:=1280) (by omega) (by omega) ht0.symm;rw[<-bDU]at ec;rw[<-aWJ]at es;have aLI:((1280:Nat):Rat)=1280:=by norm_cast
 rw[aLI]at ec es;have aOP:=Aw aSV;have n4:((4^100:Nat):Rat)=1606938044258990275541962092341162602522202993782792835301376:=by norm_cast
 have aUS:(100000000000000000000000000000000000000000000000000000000000000000000000000000000000000000000000000000000000000000000000000000000000000000000000000000000000000000000000000000000000000000000000000000000:Rat)<=((2^w:Nat):Rat):=by
  have e:2^w=2^200*(2^200*(2^200*(2^200*2^(w-800)))):=by simp only[<-bQX];congr 1;omega
  have h1:100000000000000000000000000000000000000000000000000000000000000000000000000000000000000000000000000000000000000000000000000000000000000000000000000000000000000000000000000000000000000000000000000000000<=2^200*(2^200*(2^200*(2^200*1))):=bNU rfl;have h2:100000000000000000000000000000000000000000000000000000000000000000000000000000000000000000000000000000000000000000000000000000000000000000000000000000000000000000000000000000000000000000000000000000000<=2^w:=by
   rw[e];exact bMS h1 (bOK _ (bOK _ (bOK _ (bOK _ (cP)))))
  exact_mod_cast h2
 have hepp:=oW;have hept:=aEQ;have hd:=Xm (W:=2^w) aHI (E:=4499426523925172771517493858555255287062168382591819938843852800) (bRB (by grind) aUS) (Pf (bRB (by grind) aUS) aOP) 100 x 2564 s c Ou aWG (by grind) (by grind) (by rw[n4];grind);generalize Cr (2^w) 100 s c=R at *;obtain⟨s',c'⟩:=R;dsimp only at h hd;obtain⟨k1,h⟩:=hZ h;obtain⟨k2,k3⟩:=hZ h;have k1:=bNU k1;have k2:=bNU k2;have nY:=hd.1;rw[n4]at nY;have aSH:((2^100:Nat):Rat)=1267650600228229401496703205376:=by norm_cast
 rw[aSH]at nY aWG;obtain⟨y,hy⟩:∃y:Rat,y=1267650600228229401496703205376*x:=⟨_,rfl⟩;rw[<-hy]at nY aWG;have aLO:0<=y:=by grind
 have bEN:=Ks (x:=y) (by rw[bN aLO];grind);have bDI:2*(s':Rat)*(s':Rat)<=((2^w:Nat):Rat)*((2^w:Nat):Rat)+((2^w:Nat):Rat)*((2^240:Nat):Rat):=by
  rw[bQX]at k1;exact_mod_cast k1
 have bDH:((2^w:Nat):Rat)*((2^w:Nat):Rat)<=2*(s':Rat)*(s':Rat)+((2^w:Nat):Rat)*((2^240:Nat):Rat):=by
  rw[bQX]at k2;exact_mod_cast k2
 have aSF:((2^240:Nat):Rat)=1766847064778384329583297500742918515827483896875618958121606201292619776:=by norm_cast
 have aSE:((2^250:Nat):Rat)=1809251394333065553493296640760748560207343510400633813116524750123642650624:=by norm_cast
 rw[aSF]at bDI bDH;rw[aSE];have Xc:ab (((2^w:Nat):Rat)*(p/2-2*y))<=10141204801825835211973625643008:=by
  have v1:((P/2^102:Nat):Rat)*((2^102:Nat):Rat)<=(P:Rat):=by exact_mod_cast aDI
  have v2:(P:Rat)<((P/2^102:Nat):Rat)*((2^102:Nat):Rat)+((2^102:Nat):Rat):=by exact_mod_cast aWI
  have aYB:((2^102:Nat):Rat)=5070602400912917605986812821504:=by norm_cast
  rw[aYB]at v1 v2;exact aJR hx hy v1 v2 hp
 generalize ((2^w:Nat):Rat)=W at *;have Iy:(0:Rat)<=(s':Rat):=by exact_mod_cast bRZ _
 generalize (s':Rat)=S at *;clear hd k1 k2 k3 ec es bDU aWJ aLI Ou aAM aDI aWI bDS bLF hx n4 aSH aSF aSE;have bKK:S<=W:=by
  refine Rat.not_lt.1 fun hn=>?_
  have:=cX (bRD hW) (bRD hn) (bRD hW) (bRD hn);have:=aG (bRD hW) (show 0<=W-1000000000000000000000000000000000000000000000000000000000000000000000000000000000000000000 by grind);grind
 have aLY:ab (W*cs (2*y))<=56539106072908298546665520023773392506479484700019806659891398441363832832:=by
  obtain⟨a,ha⟩:∃a,a=S-W*sn y:=⟨_,rfl⟩;rw[<-ha]at nY;have eS:W*sn y=S-a:=by grind
  have q1:=cX (aQ S) (show ab S<=W by rwa [bN Iy]) (aQ a) nY;have q2:=cX (aQ a) nY (aQ a) nY;rw[<-fS]at q1 q2;have e2:W*(W*(1-2*(sn y*sn y)))=W*W-2*((S-a)*(S-a)):=by rw[<-eS];grind
  have w1:=aG (bRD hW) (bRD hW);rw[dY]at bEN q1 q2 ⊢;have w2:=aG w1 (show 0<=2*sQ-(cs (2*y)-(1-2*(sn y*sn y))) by grind);have w3:=aG w1 (show 0<=2*sQ+(cs (2*y)-(1-2*(sn y*sn y))) by grind);have w4:=aG (bRD hW) (show 0<=1/1048576-W*sQ by grind);generalize cs (2*y)=C2 at *;generalize sn y=Sy at *;constructor
  ·refine dK hW ?_;grind
  ·refine dK hW ?_;grind
 have aLW:ab (p/2-2*y)<=1:=by
  have e3:ab (W*(p/2-2*y))=W*ab (p/2-2*y):=by rw[fS,bN (bRD hW)]
  rw[e3]at Xc;refine dK hW ?_;grind
 have aNU:ab (2*y)<=4:=by rw[bN (by grind)];grind
 have aJG:=Hn aNU (show ab (p/2-2*y)<=4 by grind);rw[show 2*y+(p/2-2*y)=p/2 by grind]at aJG;have b1:=Su aLW;have b2:=aMI (show ab (p/2-2*y)<=4 by grind);have b3:=aKX aNU;have m1:=cX (aQ _) aLY (aQ _) b2;have m2:=cX (aQ _) b3 (aQ _) b1;have m3:W*ab (p/2-2*y)<=10141204801825835211973625643008:=by
  rw[fS,bN (bRD hW)]at Xc;exact Xc
 rw[<-fS]at m1 m2;have m4:=aG (bRD hW) (show 0<=(1+sQ)*ab (p/2-2*y)-ab (sn (2*y)*sn (p/2-2*y)) by grind);have m5:=aG (show 0<=1+sQ by grind) (show 0<=10141204801825835211973625643008-W*ab (p/2-2*y) by grind);have l1:=Pv (sn (2*y)*sn (p/2-2*y));have l2:=tN (sn (2*y)*sn (p/2-2*y));have m6:=aG (bRD hW) (show 0<=ab (sn (2*y)*sn (p/2-2*y))-sn (2*y)*sn (p/2-2*y) by grind);have m7:=aG (bRD hW) (show 0<=ab (sn (2*y)*sn (p/2-2*y))+sn (2*y)*sn (p/2-2*y) by grind);rw[dY]at aJG m1 ⊢;have m8:=aG (bRD hW) (show 0<=sQ-(cs (p/2)-(cs (2*y)*cs (p/2-2*y)-sn (2*y)*sn (p/2-2*y))) by grind);have m9:=aG (bRD hW) (show 0<=sQ+(cs (p/2)-(cs (2*y)*cs (p/2-2*y)-sn (2*y)*sn (p/2-2*y))) by grind);generalize cs (2*y)=C2 at *;generalize sn (2*y)*sn (p/2-2*y)=SS at *;generalize ab SS=aS at *;generalize cs (p/2-2*y)=Cd at *;generalize ab (p/2-2*y)=dd at *;generalize cs (p/2)=X at *;clear bEN nY bDI bDH bKK Xc aLW b1 b2 b3 aNU aLY;constructor <;> grind
theorem aEM{w:Nat}(hw:1000<=w)(aSV:w<=1000000)(h:aPK w=true):∃Q,Oc w Q:=by
 unfold aPK at h;have h5:=Nq (n:=5) (by omega) w 122 122 (by omega);have aJH:=Nq (n:=239) (by omega) w 66 66 (by omega);have bBK:=Nq (n:=18) (by omega) w 92 92 (by omega);have bBH:=Nq (n:=57) (by omega) w 78 78 (by omega);generalize aAU 5 w 122 122=A at *;generalize aAU 239 w 66 66=B at *;generalize aAU 18 w 92 92=C at *;generalize aAU 57 w 78 78=D at *;obtain⟨t5,s5⟩:=A;obtain⟨t239,rW⟩:=B;obtain⟨t18,aHC⟩:=C;obtain⟨t57,aHB⟩:=D;dsimp only at *;obtain⟨z5,h⟩:=hZ h;obtain⟨aXI,h⟩:=hZ h;obtain⟨bFW,h⟩:=hZ h;obtain⟨bFV,h⟩:=hZ h;rw[fG,fG]at h;obtain⟨g1,h⟩:=hZ h;obtain⟨g2,h⟩:=hZ h;rw[fG]at h;obtain⟨q1,h⟩:=hZ h;obtain⟨q2,h⟩:=hZ h;obtain⟨q3,h⟩:=hZ h;obtain⟨r1,h⟩:=hZ h;obtain⟨r2,aZA⟩:=hZ h;have g1:=bNU g1;have g2:=bNU g2;have q1:=bMK q1;have q2:=bMK q2;have q3:=bMK q3;have h5:=h5 (bMK z5);have aJH:=aJH (bMK aXI);have bBK:=bBK (bMK bFW);have bBH:=bBH (bMK bFV);have aQZ:ab (((16*s5-4*rW:Nat):Rat)-((2^w:Nat):Rat)*pi)<=524288:=by
  have pJ:4*rW<=16*s5:=by
   refine bQT fun hn=>?_
   rw[show 16*s5-4*rW=0 by omega]at q3;simp at q3
  have hc:((16*s5-4*rW:Nat):Rat)+4*(rW:Rat)=16*(s5:Rat):=by exact_mod_cast(show 16*s5-4*rW+4*rW=16*s5 by omega)
  have n1:((2*(122*122):Nat):Rat)=29768:=by norm_cast
  have n2:((2*(66*66):Nat):Rat)=8712:=by norm_cast
  rw[n1]at h5;rw[n2]at aJH;unfold pi;rw[dY]at *;generalize ((2^w:Nat):Rat)=W at *;grind
 have bBE:20*rW<=48*aHC+32*aHB->ab (((48*aHC+32*aHB-20*rW:Nat):Rat)-((2^w:Nat):Rat)*aXP)<=2097152:=by
  intro hle;have hc:((48*aHC+32*aHB-20*rW:Nat):Rat)+20*(rW:Rat)=48*(aHC:Rat)+32*(aHB:Rat):=by exact_mod_cast(show 48*aHC+32*aHB-20*rW+20*rW=48*aHC+32*aHB by omega)
  have n1:((2*(92*92):Nat):Rat)=16928:=by norm_cast
  have n3:((2*(78*78):Nat):Rat)=12168:=by norm_cast
  have n2:((2*(66*66):Nat):Rat)=8712:=by norm_cast
  rw[n1]at bBK;rw[n2]at aJH;rw[n3]at bBH;unfold aXP;rw[dY]at *;generalize ((2^w:Nat):Rat)=W at *;grind
 have hple:2^104<=16*s5-4*rW:=by
  refine bQT fun hn=>?_
  have:(16*s5-4*rW)/2^64<2^40:=bRQ (by rw[<-bQX];exact hn);have h2:(16*s5-4*rW)/2^64/2^(w-104)<=(16*s5-4*rW)/2^64:=bUJ _ _;omega
 have bBD:20*rW<=48*aHC+32*aHB:=by omega
 have bBE:=bBE bBD;generalize hP:16*s5-4*rW=P at *;generalize 48*aHC+32*aHB-20*rW=G at *;have aMH:=vK w (by omega);refine⟨P/2^64,?_,?_,?_,q3,Wf r1,Wf r2,?_⟩
 ·have:2^64*(P/2^64)<=P-2^40:=by
   have:=bWV (P-2^40) (2^64);rwa [q2]at this
  have h2:2^64*(P/2^64)+2^40<=P:=by omega
  have h3:((2^64:Nat):Rat)*((P/2^64:Nat):Rat)+((2^40:Nat):Rat)<=(P:Rat):=by exact_mod_cast h2
  rw[aMH,bSW,dY]at aQZ;have n1:((2^64:Nat):Rat)=18446744073709551616:=by norm_cast
  have n2:((2^40:Nat):Rat)=1099511627776:=by norm_cast
  rw[n1]at aQZ h3;rw[n2]at h3;refine dK (q:=18446744073709551616) (by grind) ?_;generalize ((2^(w-64):Nat):Rat)=W at *;grind
 ·have:P+2^40<2^64*(P/2^64+1):=by
   have:=bXE (P+2^40) (show 0<2^64 by omega);rwa [q1]at this
  have h3:(P:Rat)+((2^40:Nat):Rat)<((2^64:Nat):Rat)*(((P/2^64:Nat):Rat)+1):=by exact_mod_cast this
  rw[aMH,bSW,dY]at aQZ;have n1:((2^64:Nat):Rat)=18446744073709551616:=by norm_cast
  have n2:((2^40:Nat):Rat)=1099511627776:=by norm_cast
  rw[n1]at aQZ h3;rw[n2]at h3;refine oO (q:=18446744073709551616) (by grind) ?_;generalize ((2^(w-64):Nat):Rat)=W at *;grind
 ·have c1:(P:Rat)<=(G:Rat)+((2^24:Nat):Rat):=by exact_mod_cast g1
  have c2:(G:Rat)<=(P:Rat)+((2^24:Nat):Rat):=by exact_mod_cast g2
  have n1:((2^24:Nat):Rat)=16777216:=by norm_cast
  rw[n1]at c1 c2;rw[dY]at *;generalize ((2^w:Nat):Rat)=W at *;grind
 ·refine aPF hw aSV ?_ aQZ aZA;have h1:P/2^64/2^(w-104)<3454217652358:=by omega
  have h2:P/2^64<2^(w-104)*3454217652358:=(bXF (cP)).1 h1 |> fun h=>by rwa [bQU]at h
  have h3:P<2^64*(2^(w-104)*3454217652358):=by
   have:=(bXF (show 0<2^64 by omega)).1 h2;rwa [bQU]at this
  have e:2^(w-40)=2^64*2^(w-104):=by rw[<-bQX];congr 1;omega
  rw[e,bQU,bQZ];exact h3
theorem bLM:aPK 136064=true:=by kernel_rfl
theorem Wj:∃w,w=136064/\∃Q,Oc w Q:=⟨136064,rfl,aEM (by omega) (by omega) bLM⟩
def pw:Nat:=Classical.choose Wj
theorem aCK:pw=136064:=(Classical.choose_spec Wj).1
def pq:Nat:=Classical.choose (Classical.choose_spec Wj).2
theorem Gj:Oc pw pq:=Classical.choose_spec (Classical.choose_spec Wj).2
theorem sA:314159/100000<pi/\pi<314160/100000:=by
 have h:=Gj;have h1:=h.lo;have h2:=h.hi;have h3:=h.top;have e:2^(pw-64)=2^40*2^(pw-104):=by have:=aCK;rw[<-bQX];congr 1;omega
 have hp:0<2^(pw-104):=cP;have l1:=bXC pq (2^(pw-104));have l2:=bXD hp (a:=pq);rw[h3]at l1 l2;have bHA:(3454217652357:Rat)*((2^(pw-104):Nat):Rat)<=(pq:Rat):=by exact_mod_cast l1
 have bGZ:(pq:Rat)+1<=(3454217652357:Rat)*((2^(pw-104):Nat):Rat)+((2^(pw-104):Nat):Rat):=by exact_mod_cast l2
 rw[e,bSW]at h1 h2;have n40:((2^40:Nat):Rat)=1099511627776:=by norm_cast
 rw[n40]at h1 h2;have hq:(0:Rat)<((2^(pw-104):Nat):Rat):=by exact_mod_cast hp
 generalize ((2^(pw-104):Nat):Rat)=W at *;generalize (pq:Rat)=Q at *;clear h h3 e hp l1 l2 n40;constructor
 ·refine oO hq ?_;grind
 ·refine oO hq ?_;grind
def rs(k:Int)(s c:Rat):Rat:=if k%4=0 then s else if k%4=1 then c else if k%4=2 then -s else -c
def rc(k:Int)(s c:Rat):Rat:=if k%4=0 then c else if k%4=1 then -s else if k%4=2 then -c else s
def Sf(x:Rat)(k:Int):Rat:=rs k (sn (x-(k:Rat)*(pi/2))) (cs (x-(k:Rat)*(pi/2)))
def Cf(x:Rat)(k:Int):Rat:=rc k (sn (x-(k:Rat)*(pi/2))) (cs (x-(k:Rat)*(pi/2)))
end R
namespace R
def pF(q:Nat):Nat:=pq/2^(pw-64-q)
theorem Zk{x:Rat}{Q m:Nat}(h1:(Q:Rat)<=((2^m:Nat):Rat)*x)(h2:((2^m:Nat):Rat)*x<(Q:Rat)+1):((Q/2^m:Nat):Rat)<=x/\x<((Q/2^m:Nat):Rat)+1:=by
 have hp:0<2^m:=cP;obtain⟨d1,d2⟩:=uT Q hp;have hq:(0:Rat)<((2^m:Nat):Rat):=by exact_mod_cast hp
 have hs:(Q:Rat)+1<=((2^m:Nat):Rat)*((Q/2^m:Nat):Rat)+((2^m:Nat):Rat):=by
  have:=bXE Q hp;exact_mod_cast(show Q+1<=2^m*(Q/2^m)+2^m by rw[bQW,bMG]at this;omega)
 constructor
 ·exact dK hq (by grind)
 ·exact oO hq (by grind)
theorem Gl{q:Nat}(hq:q<=136000):(pF q:Rat)<=((2^q:Nat):Rat)*pi/\((2^q:Nat):Rat)*pi<(pF q:Rat)+1:=by
 have h:=Gj;have h1:=h.lo;have h2:=h.hi;have hw:=aCK;have e:2^(pw-64)=2^(pw-64-q)*2^q:=by rw[<-bQX];congr 1;omega
 rw[e,bSW,bXG]at h1 h2;exact Zk h1 h2
theorem aNH{q:Nat}(hq:q+24<=136000):16777216*(pF q:Rat)+1<=((2^(q+24):Nat):Rat)*pi/\((2^(q+24):Nat):Rat)*pi<16777216*(pF q:Rat)+16777215:=by
 obtain⟨h1,h2⟩:=Gl hq;have hw:=aCK;have e:pF q=pF (q+24)/2^24:=by
  unfold pF;rw[bRN,<-bQX];congr 2;omega
 have aZO:pF (q+24)%2^24≠2^24-1:=Kk Gj.aXS _;have hx:pq<2^(pw-62):=by
  have h3:=Gj.top;have hp:0<2^(pw-104):=cP;have l2:=bXD hp (a:=pq);rw[h3]at l2;have e:2^(pw-62)=4398046511104*2^(pw-104):=by
   rw[show 4398046511104=2^42 from rfl,<-bQX];congr 1;omega
  omega
 have aQO:pF (q+24)%2^24≠0:=Zu hx (by omega) (Kk Gj.aIQ _);have hd:=bRC (pF (q+24)) (2^24);rw[<-e]at hd;have l1:16777216*pF q+1<=pF (q+24):=by omega
 have aTS:=bOE (pF (q+24)) (show 0<2^24 by omega);have l2:pF (q+24)+1<=16777216*pF q+16777215:=by omega
 have bHA:(16777216:Rat)*(pF q:Rat)+1<=(pF (q+24):Rat):=by exact_mod_cast l1
 have bGZ:(pF (q+24):Rat)+1<=(16777216:Rat)*(pF q:Rat)+16777215:=by exact_mod_cast l2
 grind
theorem aRZ{q g X off:Nat}(hq:q+24<=136000)(hg:24<=g)(aZJ:2*off<=2^(g-24))(hX:ab ((X:Rat)-((2^(q+g):Nat):Rat)*pi)<=(off:Rat)):off<=X/\(X-off)/2^g=pF q/\(X+off)/2^g=pF q:=by
 obtain⟨h1,h2⟩:=aNH hq;have e:2^(q+g)=2^(g-24)*2^(q+24):=by rw[<-bQX];congr 1;omega
 have eg:2^g=2^(g-24)*16777216:=by rw[show 16777216=2^24 from rfl,<-bQX];congr 1;omega
 rw[e,bSW,bXG,dY]at hX;have hG:(0:Rat)<=((2^(g-24):Nat):Rat):=by exact_mod_cast bRZ _
 have ho:(2:Rat)*(off:Rat)<=((2^(g-24):Nat):Rat):=by exact_mod_cast aZJ
 have m1:=aG hG (show 0<=((2^(q+24):Nat):Rat)*pi-(16777216*(pF q:Rat)+1) by grind);have bKP:(0:Rat)<((2^(g-24):Nat):Rat):=by exact_mod_cast cP
 have m2:=bRP bKP (show 0<16777216*(pF q:Rat)+16777215-((2^(q+24):Nat):Rat)*pi by grind);have r1:2^(g-24)*16777216*pF q+off<=X:=by
  have:((2^(g-24):Nat):Rat)*16777216*(pF q:Rat)+(off:Rat)<=(X:Rat):=by grind
  exact_mod_cast this
 have r2:X+off<2^(g-24)*16777216*(pF q+1):=by
  have:(X:Rat)+(off:Rat)<((2^(g-24):Nat):Rat)*16777216*((pF q:Rat)+1):=by grind
  exact_mod_cast this
 rw[eg];generalize 2^(g-24)*16777216=B at *;refine⟨by omega,?_,?_⟩
 ·refine bWQ ?_ ?_
  ·rw[bQU];omega
  ·rw[bQU];omega
 ·refine bWQ ?_ ?_
  ·rw[bQU];omega
  ·rw[bQU];omega
theorem Vv{u W:Nat}(h:2*u<=W)(hW:0<W):∀k,sq u W k*2^k<=W
 |0=>by simp[sq]
 |k+1=>by
  have ih:=Vv h hW k;have h1:sq u W (k+1)<=sq u W k/2:=by
   rw[sq];refine bMS (bUJ _ _) ?_;rw[bXS (by omega)];have h2:=bXC (sq u W k*u) W;have h3:sq u W k*u*2<=sq u W k*W:=by
    rw[bQZ];exact bOK _ (by omega)
   generalize sq u W k*u/W=z at *;have h4:z*2*W<=sq u W k*W:=by
    rw[bWW];omega
   exact Nat.le_of_mul_le_mul_right h4 hW
  have h2:sq u W (k+1)*2<=sq u W k:=by omega
  rw[bQV,bQU (2^k) 2,<-bQZ];exact bMS (bNJ _ h2) ih
theorem Vu{u w:Nat}(h:2*u<=2^w):sq u (2^w) (w+1)=0:=by
 have h1:=Vv h (cP) (w+1);refine Nat.eq_zero_of_not_pos fun hp=>?_
 have:1*2^(w+1)<=sq u (2^w) (w+1)*2^(w+1):=bNJ _ hp;rw[bQV]at this h1;have:=bOV (n:=w) (show 0<2 by omega);omega
theorem Pd{u W m:Nat}(h:sq u W m=0):∀k,sq u W (m+k)=0
 |0=>h
 |k+1=>by rw[<-bPM,sq,Pd h k];simp
theorem Hj(h:Nat):4^h=2^(2*h):=by rw[bSO]
theorem aKA{T:Rat}(hT0:0<=T)(bKJ:T<=1){w1 h u s0 c0:Nat}(aDI:(u:Rat)<=((2^w1:Nat):Rat)*T)(aWI:((2^w1:Nat):Rat)*T<(u:Rat)+1)(hh:1<=h)(hw:w1+h<=1000000)(bDO:4*h+50<=w1+h)
  (Iy:(s0:Rat)=sum (fun k=>ss k*(sq u (2^(w1+h)) k:Rat)) (w1+h+1)) (aWW:(c0:Rat)=sum (fun k=>cc k*(sq u (2^(w1+h)) k:Rat)) (w1+h+1)) :
  ab (((Cr (2^(w1+h)) h s0 c0).1:Rat)-((2^(w1+h):Nat):Rat)*sn T)<=((4^h*(2*(w1+h)+10):Nat):Rat)/\ab (((Cr (2^(w1+h)) h s0 c0).2:Rat)-((2^(w1+h):Nat):Rat)*cs T)<=((4^h*(2*(w1+h)+10):Nat):Rat):=by
 have aHI:0<2^(w1+h):=cP;have aUV:(0:Rat)<((2^w1:Nat):Rat):=by exact_mod_cast cP
 have eW:((2^(w1+h):Nat):Rat)=((2^w1:Nat):Rat)*((2^h:Nat):Rat):=by rw[bQX,bSW]
 have g2:=Gi 2 h (by omega);have g2':(2:Rat)<=((2^h:Nat):Rat):=by
  exact_mod_cast(show 2<=2^h from bOW (n:=2) (by omega) hh)
 have aYT:u<=2^w1:=by
  have:=aG (bRD aUV) (show 0<=1-T by grind);have:(u:Rat)<=((2^w1:Nat):Rat):=by grind
  exact_mod_cast this
 have aYW:2*u<=2^(w1+h):=by
  have e:2^(w1+h)=2^w1*2^h:=bQX _ _ _;have:2^w1*2<=2^w1*2^h:=bOK _ (bOW (n:=2) (by omega) hh);omega
 obtain⟨x,hx,Ou⟩:=Wp (u:=u) aHI;have bHH:((2^h:Nat):Rat)*x*((2^w1:Nat):Rat)=(u:Rat):=by rw[eW]at hx;grind
 have aST:((2^h:Nat):Rat)*x<=1:=by
  have:(u:Rat)<=((2^w1:Nat):Rat):=by exact_mod_cast aYT
  refine dK aUV ?_;grind
 have aAM:x<=1/2:=by
  have:=aG (show 0<=((2^h:Nat):Rat)-2 by grind) Ou;grind
 have hz:=Vu aYW;have ec:=aBO aHI hx Ou aAM (n:=w1+h+1) (by omega) (by omega) hz;have es:=aBN aHI hx Ou aAM (n:=w1+h+1) (by omega) (by omega) hz;rw[<-aWW]at ec;rw[<-Iy]at es;have hn:((w1+h+1:Nat):Rat)=((w1+h:Nat):Rat)+1:=by norm_cast
 have aAO:((w1+h:Nat):Rat)<=1000000:=by exact_mod_cast hw
 have Eg:(0:Rat)<=((w1+h:Nat):Rat):=by exact_mod_cast bRZ _
 rw[hn]at ec es;have aOP:=Aw (w:=w1+h) (by omega);have e4:((4^h*(2*(w1+h)+10):Nat):Rat)=((4^h:Nat):Rat)*(2*((w1+h:Nat):Rat)+10):=by
  rw[bSW];congr 1;push_cast;grind
 have aEC:((4^h:Nat):Rat)*((4^h:Nat):Rat)*1125899906842624<=((2^(w1+h):Nat):Rat):=by
  have:4^h*4^h*2^50<=2^(w1+h):=by
   rw[Hj,<-bQX,<-bQX];exact fQ
  have bGT:(2^50:Nat)=1125899906842624:=by rfl
  rw[bGT]at this;exact_mod_cast this
 have g4:=Gi 4 h (by omega);have g42:((2^h:Nat):Rat)<=((4^h:Nat):Rat):=by exact_mod_cast Nat.pow_le_pow_left (show 2<=4 by omega) h
 have hq4:=aG (show 0<=((4^h:Nat):Rat) by grind) (show 0<=((4^h:Nat):Rat)-1 by grind);have hE:((4^h:Nat):Rat)*(2*((w1+h:Nat):Rat)+8)<=((4^h:Nat):Rat)*2097152:=by
  have:=aG (show 0<=((4^h:Nat):Rat) by grind) (show 0<=2097152-(2*((w1+h:Nat):Rat)+8) by grind);grind
 have bEZ:0<=((4^h:Nat):Rat)*(2*((w1+h:Nat):Rat)+8):=aG (by grind) (by grind);have vP:100*(((4^h:Nat):Rat)*(2*((w1+h:Nat):Rat)+8)*(((4^h:Nat):Rat)*(2*((w1+h:Nat):Rat)+8)))<=((2^(w1+h):Nat):Rat):=by
  refine bRB ?_ aEC;have:=cX bEZ hE bEZ hE;grind
 have aJF:((4^h:Nat):Rat)*(2*((w1+h:Nat):Rat)+8)<=((2^(w1+h):Nat):Rat):=by
  refine bRB (bRB hE ?_) aEC;grind
 have hd:=Xm (W:=2^(w1+h)) aHI vP (Pf aJF aOP) h x (2*((w1+h:Nat):Rat)+6) s0 c0 Ou aST (bRB es (by grind)) (bRB ec (by grind)) (by grind);have hT:ab T<=1:=by rw[bN hT0];exact bKJ
 have hX:ab (((2^h:Nat):Rat)*x)<=1:=by rw[bN (aG (by grind) Ou)];exact aST
 have l1:=Vx hX hT;have l2:=aFI hX hT;have hd0:0<=T-((2^h:Nat):Rat)*x:=by
  have:((2^w1:Nat):Rat)*(((2^h:Nat):Rat)*x)<=((2^w1:Nat):Rat)*T:=by grind
  have:=dK aUV this;grind
 have aWV:((2^(w1+h):Nat):Rat)*(T-((2^h:Nat):Rat)*x)<=((2^h:Nat):Rat):=by
  rw[eW];have:((2^w1:Nat):Rat)*(T-((2^h:Nat):Rat)*x)<=1:=by grind
  have:=aG (show 0<=((2^h:Nat):Rat) by grind) (show 0<=1-((2^w1:Nat):Rat)*(T-((2^h:Nat):Rat)*x) by grind);grind
 rw[bN hd0]at l1 l2;have hW:(0:Rat)<=((2^(w1+h):Nat):Rat):=by exact_mod_cast bRZ _
 obtain⟨r1,r2⟩:=hd;rw[e4];clear aDI aWI vP aJF aEC bHH hx eW ec es Iy aWW hz;generalize ((2^(w1+h):Nat):Rat)=W at *;generalize ((w1+h:Nat):Rat)=wr at *;generalize ((4^h:Nat):Rat)=F at *;generalize ((2^h:Nat):Rat)*x=y at *;generalize ((2^h:Nat):Rat)=H at *;rw[dY]at l1 l2 r1 r2;have m1:=aG hW (show 0<=2*(T-y)-(sn T-sn y) by grind);have m2:=aG hW (show 0<=2*(T-y)+(sn T-sn y) by grind);have m3:=aG hW (show 0<=(T-y+2*sQ)-(cs T-cs y) by grind);have m4:=aG hW (show 0<=(T-y+2*sQ)+(cs T-cs y) by grind);rw[dY,dY];refine⟨⟨?_,?_⟩,?_,?_⟩ <;> grind
end R
namespace R
def pz(e:Int):Rat:=if 0<=e then((2^e.toNat:Nat):Rat)else hf (-e).toNat
theorem oF(k:Nat):pz (k:Int)=((2^k:Nat):Rat):=by unfold pz;rw[aT,bPS]
theorem zC(k:Nat):pz (-(k:Int))=hf k:=by
 unfold pz
 by_cases h:k=0
 ·subst h;simp[hf]
 ·rw[aX,Int.neg_neg,bPS]
theorem fC:pz 0=1:=by rw[show(0:Int)=((0:Nat):Int)from rfl,oF];norm_cast
theorem dS(e:Int):0<pz e:=by
 unfold pz;split
 ·exact_mod_cast cP
 ·exact wV _
theorem jG(e:Int):pz (e+1)=2*pz e:=by
 by_cases h:0<=e
 ·obtain⟨k,rfl⟩:=bQY h;rw[show(k:Int)+1=((k+1:Nat):Int) by omega,oF,oF,Ez]
 ·obtain⟨k,hk⟩:=bQY (show 0<=-e by omega);have e1:e=-(k:Int):=by omega
  subst e1;obtain⟨j,rfl⟩:∃j,k=j+1:=⟨k-1,by omega⟩;rw[show -((j+1:Nat):Int)+1=-(j:Int) by omega,zC,zC,hf];grind
theorem dT(a:Int):∀k:Nat,pz (a+k)=pz a*((2^k:Nat):Rat)
 |0=>by rw[show a+((0:Nat):Int)=a by omega,bVX];grind
 |k+1=>by
  rw[show a+((k+1:Nat):Int)=(a+k)+1 by omega,jG,dT a k,Ez];grind
theorem mD(a b:Int):pz (a+b)=pz a*pz b:=by
 by_cases h:0<=b
 ·obtain⟨k,rfl⟩:=bQY h;rw[dT,oF]
 ·obtain⟨k,hk⟩:=bQY (show 0<=-b by omega);have h1:=dT (a+b) k;rw[show a+b+(k:Int)=a by omega]at h1;have e1:b=-(k:Int):=by omega
  have h2:=Tu k;rw[show pz b=hf k by rw[e1,zC],h1];rw[bXG,Rat.mul_comm ((2^k:Nat):Rat),h2];grind
theorem dM{a b:Int}(h:a<=b):pz a<=pz b:=by
 obtain⟨k,hk⟩:=bQY (show 0<=b-a by omega);rw[show b=a+(k:Int) by omega,dT];have h1:=dS a;have:=aG (bRD h1) (show 0<=((2^k:Nat):Rat)-1 by have:=Gi 2 k (by omega);grind);grind
theorem Tc(e:Int):pz e*pz (-e)=1:=by rw[<-mD,Int.add_right_neg,fC]
def qz(p:Int×Int):Rat:=(p.1:Rat)*pz p.2
theorem nA{p:Int×Int}(h:p.1=0):qz p=0:=by
 unfold qz;rw[h];have:((0:Int):Rat)=0:=by norm_cast
 rw[this];grind
theorem aCI{p q:Int×Int}{g:Int}(hp:g<=p.2)(hq:g<=q.2):qz p<=qz q↔p.1*((2^(p.2-g).toNat:Nat):Int)<=q.1*((2^(q.2-g).toNat:Nat):Int):=by
 unfold qz;have e1:pz p.2=pz g*((2^(p.2-g).toNat:Nat):Rat):=by
  rw[<-dT];congr 1;omega
 have e2:pz q.2=pz g*((2^(q.2-g).toNat:Nat):Rat):=by
  rw[<-dT];congr 1;omega
 have hg:=dS g;have c1:((p.1*((2^(p.2-g).toNat:Nat):Int):Int):Rat)=(p.1:Rat)*((2^(p.2-g).toNat:Nat):Rat):=by push_cast;rfl
 have c2:((q.1*((2^(q.2-g).toNat:Nat):Int):Int):Rat)=(q.1:Rat)*((2^(q.2-g).toNat:Nat):Rat):=by push_cast;rfl
 rw[<-Rat.intCast_le_intCast,c1,c2,e1,e2];generalize ((2^(p.2-g).toNat:Nat):Rat)=x;generalize ((2^(q.2-g).toNat:Nat):Rat)=y;constructor
 ·intro h;exact dK hg (by grind)
 ·intro h;have:=aG (bRD hg) (show 0<=(q.1:Rat)*y-(p.1:Rat)*x by grind);grind
end R
namespace M
open Go AI W
def bZ(p q:Int×Int):Int:=lE (bA.lH p q) (bA.lG p q)
def bC(p:Int×Int):Int:=p.2+(bl p.1.natAbs:Nat)-1
abbrev qN:=Bool×List Int×Int×Bool×List Int×Int
def fB(s:qN):dR:=(s.1,s.2.1,s.2.2.1)
def fF(s:qN):dR:=(s.2.2.2.1,s.2.2.2.2.1,s.2.2.2.2.2)
def dP(s:qN):Prop:=aJ (fB s)/\aJ (fF s)/\bZ (dv (fB s)) (dv (fF s))<=0
def vU(a b:Int×Int):D:=.agg [.sc (.bool (isNeg a.1)),.ints .u64 (M6.dg a.1.natAbs),.sc (.int .i64 a.2),.sc (.bool (isNeg b.1)),.ints .u64 (M6.dg b.1.natAbs),.sc (.int .i64 b.2)]
def mI(a b:Int×Int):qN:=(isNeg a.1,M6.dg a.1.natAbs,a.2,isNeg b.1,M6.dg b.1.natAbs,b.2)
theorem nU(a b:Int×Int):dv (fB (mI a b))=a:=cT a
theorem nV(a b:Int×Int):dv (fF (mI a b))=b:=cT b
theorem uL{a b:Int×Int}(ha:iS a)(hb:iS b)(h:bZ a b<=0):dP (mI a b):=by
 refine⟨cK ha,cK hb,?_⟩;rw[nU,nV];exact h
theorem dP.vU{s:qN}(h:dP s):M.vU (dv (fB s)) (dv (fF s))=.agg [.sc (.bool s.1),.ints .u64 s.2.1,.sc (.int .i64 s.2.2.1),.sc (.bool s.2.2.2.1),.ints .u64 s.2.2.2.2.1,.sc (.int .i64 s.2.2.2.2.2)]:=by
 have h1:=h.1.Eb.cells;have h2:=h.2.1.Eb.cells;unfold M.vU;have e1:(dv (fB s)).1=wv ((fB s).1,(fB s).2.1):=rfl;have e2:(dv (fF s)).1=wv ((fF s).1,(fF s).2.1):=rfl;rw[e1,e2,h1.1,h1.2,h2.1,h2.2];rfl
theorem aJV{a b:Int}:lE a b<=0↔a<=b:=by unfold lE;split <;> (try split) <;> omega
theorem aJW{a b:Int}:lE a b=0↔a=b:=by unfold lE;split <;> (try split) <;> omega
theorem Fk(p q:Int×Int):bA.fH p q<=p.2/\bA.fH p q<=q.2:=Mf
theorem jR{p q:Int×Int}:bZ p q<=0↔R.qz p<=R.qz q:=by
 obtain⟨h1,h2⟩:=Fk p q;unfold bZ;rw[aJV,R.aCI h1 h2];rfl
theorem nD{p q:Int×Int}:0<bZ p q↔R.qz q<R.qz p:=by
 have:=jR (p:=p) (q:=q);constructor
 ·intro h;refine Rat.not_le.1 fun hn=>?_;have:=this.2 hn;omega
 ·intro h;refine Int.not_le.1 fun hn=>?_;exact Rat.not_lt.2 (this.1 hn) h
theorem Kv(p:Int×Int):bZ p p<=0:=jR.2 bSK
theorem mB(z e:Int):R.qz (aL z e)=(z:Rat)*R.pz e:=by
 by_cases hz:z=0
 ·subst hz;rw[cV,R.nA rfl];have:((0:Int):Rat)=0:=by norm_cast
  rw[this];grind
 ·obtain⟨h1,h2⟩:=jH (e:=e) hz;unfold R.qz;rw[h2]
  conv=>rhs;rw[h1]
  rw[Gn,R.dT,bWR,bWO];grind
theorem rY(p:Int×Int):R.qz (-p.1,p.2)=- R.qz p:=by
 unfold R.qz;rw[bWX];grind
theorem Gf(p q:Int×Int):R.qz (bA.jL p q)=R.qz p+R.qz q:=by
 unfold bA.jL;split
 ·rename_i h;rw[R.nA h];grind
 ·split
  ·rename_i h;rw[R.nA h];grind
  ·obtain⟨h1,h2⟩:=Fk p q;rw[mB];unfold bA.lH bA.lG R.qz;have e1:R.pz p.2=R.pz (bA.fH p q)*((2^(p.2-bA.fH p q).toNat:Nat):Rat):=by rw[<-R.dT];congr 1;omega
   have e2:R.pz q.2=R.pz (bA.fH p q)*((2^(q.2-bA.fH p q).toNat:Nat):Rat):=by rw[<-R.dT];congr 1;omega
   rw[e1,e2,bXT,bWR,bWR,bWO,bWO];grind
end M
open Go.Value(int bool slice)
open AI.S(sc ints)
namespace W
open Go AI M
namespace aAD
def E:=mE [] 24 [] [(3,[0,1])] [3]
def aE:=bd f210
theorem aU:Nk E aE:=nk
def J3 a b:=kV E f210 aE 3 [fW a,bP b]
theorem start a b:aF E f210 aE [D.s (ints u64 a),D.s (sc (int i64 b))]=letI A:=some [D.s (sc (bool false))];aB (decide (b<0)) A (aB (decide ((a.length:Int)<=i64.wrap (b.tdiv 64))) A (aAD.J3 a b)):=eJ aU
theorem fR a b:J3 a b=letI A:=b.tdiv 64;if 0<=i64.wrap A/\i64.wrap A<(a.length:Int)then if b.tmod 64<(0:Int)then none else some [D.s (sc (bool (eN BinOp.and u64 (a.getD (i64.wrap A).toNat 0/(↑((2:Nat)^min (b.tmod 64).toNat 64):Int)) 1==(1:Int))))]else none:=cJ aU
def sp(a:List Int)(i:Int):Prop×List D:=(M6.cE a/\a.length<=1099511627776/\-9223372036854775808<=i/\i<9223372036854775808,[.s (.sc (.bool (decide (0<=i)&&decide (M6.val a/2^i.toNat%2=1))))])
theorem aKF{x:Int}(h:0<=x)(h':x<18446744073709551616):eN .and .u64 x 1=x%2:=by
 rw[Rk h h' (by omega) (by omega)];have:x.toNat &&& 1=x.toNat%2:=Nat.and_one_is_mod _;show((x.toNat &&& 1:Nat):Int)=_;rw[this];omega
theorem spec:fI E f210 aE (pI .u64) (pN .i64) sp:=by
 rintro a i ⟨ha,hl,h1,h2⟩;refine(start a i).trans ?_;show _=some [D.s (.sc (.bool (decide (0<=i)&&decide (M6.val a/2^i.toNat%2=1))))]
 by_cases hn:i<0
 ·rw[aN hn,decide_eq_false (show ¬0<=i by omega),bRF]
 ·have t1:i.tdiv 64=i/64:=bTL (by omega);have t2:i.tmod 64=i%64:=bTM (by omega);have e1:(i/64).toNat=i.toNat/64:=by omega
  have e2:(i%64).toNat=i.toNat%64:=by omega
  have ps:2^i.toNat=18446744073709551616^(i.toNat/64)*2^(i.toNat%64):=by
   rw[show(18446744073709551616:Nat)=2^64 from rfl,<-bSO,<-bQX];congr 1;omega
  rw[aI hn,decide_eq_true (show 0<=i by omega),bOX,t1,wrap_i64 (n:=i/64),ps,<-bRN]
  by_cases hz:(a.length:Int)<=i/64
  ·have hv:M6.val a/18446744073709551616^(i.toNat/64)=0:=by
    apply bRT;exact bMW (M6.cO ha) (fQ)
   rw[aN hz,hv,Nat.zero_div];rfl
  ·have g:=ha.get (i.toNat/64);have hv:=M6.fX a (n:=i.toNat/64) (by omega);have hq:M6.val a/18446744073709551616^(i.toNat/64)=M6.val (a.drop (i.toNat/64)):=by
    rw[hv,bSM _ _ (cP),bRT (M6.gH ha _),bLY]
   rw[aI hz,fR,t1,t2,wrap_i64 (n:=i/64),aT,aX,e1,e2,hq,M6.fY];have em:min (i.toNat%64) 64=i.toNat%64:=by omega
   have iN:i.toNat%64<64:=bOE _ (by omega);rw[em];generalize i.toNat%64=k at *;generalize a.getD (i.toNat/64) 0=x at *;generalize M6.val (a.drop (i.toNat/64+1))=r at *;have hp:0<2^k:=cP;have e3:(x.toNat+18446744073709551616*r)/2^k%2=x.toNat/2^k%2:=by
    have:18446744073709551616*r=2^k*(2*(2^(63-k)*r)):=by
     rw[show(18446744073709551616:Nat)=2^64 from rfl,show 64=k+(1+(63-k))from by omega,bQX,bQX,bQZ,bQZ]
    rw[this,bSM _ _ hp];omega
   rw[e3];have ex:x/((2^k:Nat):Int)=((x.toNat/2^k:Nat):Int):=by
    obtain⟨n,rfl⟩:=bQY g.1;rw[<-bRM];rfl
   have hle:x.toNat/2^k<=x.toNat:=bUJ _ _;rw[ex];clear ex e3 hq hv ps;generalize x.toNat/2^k=q at *;rw[aKF (by omega) (by omega)];congr 4
   by_cases h:q%2=1
   ·rw[decide_eq_true h];have:((q:Int)%2)=1:=by omega
    rw[this];rfl
   ·rw[decide_eq_false h];have:((q:Int)%2)=0:=by omega
    rw[this];rfl
def aH:dG:=orc2 (pI .u64) (pN .i64) sp
theorem ok:OK 210 aH:=(eF E aE aD func210).lA rfl spec
end aAD
namespace oB
def E:=mE [] 34 [] [] []
def aE:=bd f236
theorem aU:Nk E aE:=nk
theorem start a b c d e:aF E f236 aE [D.s (sc (int i64 a)),D.s (sc (bool b)),D.s (sc (bool c)),D.s (sc (bool d)),D.s (sc (int i64 e))]=letI B:=some [D.s (sc (bool d))];letI A:=some [D.s (sc (bool false))];aB (a==0) (aB b B A) (aB (a==1) (aB (!b) B A) (aB (decide (0<e)) (some [D.s (sc (bool true))]) (aB (e==0) (some [D.s (sc (bool c))]) A))):=eJ aU
def nW(w:Int)(neg bGP rest:Bool)(half:Int):Bool:=bif w==0 then neg&&rest else bif w==1 then !neg&&rest else(decide (0<half)||(half==0&&bGP))
def sp(a:Int)(b c d:Bool)(e:Int):Prop×List D:=(True,[.s (.sc (.bool (nW a b c d e)))])
theorem spec(a:Int)(b c d:Bool)(e:Int)(h:(sp a b c d e).1):aF E f236 aE [(pN .i64).put a,pB.put b,pB.put c,pB.put d,(pN .i64).put e]=some (sp a b c d e).2:=by
 refine(start a b c d e).trans ?_;show _=some [D.s (.sc (.bool (nW a b c d e)))];unfold nW aB;cases (a==0) <;> cases (a==1) <;> cases b <;> cases c <;> cases d <;> cases (decide (0<e)) <;> cases (e==0) <;> rfl
def aH:dG:=orc5 (pN .i64) pB pB pB (pN .i64) sp
theorem ok:OK 236 aH:=(eF E aE aD func236).aXV rfl spec
end oB
namespace mM
def E:=mE [] 7 [] [] []
def aE:=bd f117
theorem aU:Nk E aE:=nk
theorem start a:aF E f117 aE [D.s (sc (int u64 a))]=aB (a==0) (some [D.s (sc (slice none 0 0))]) (some [D.own 22 u64 [a]]):=eJ aU
def sp(w:Int):Prop×List D:=(0<=w/\w<18446744073709551616,[.s (.ints .u64 (M6.dg w.toNat))])
theorem spec:aGC E f117 aE (pN .u64) sp:=by
 intro w h;have e:=start w;obtain⟨h1,h2⟩:=h;unfold sp;simp only
 by_cases hz:w=0
 ·rw[cN hz]at e;subst hz;rw[show(0:Int).toNat=0 from rfl,M6.bJ];exact⟨_,e,.cons (vW.nil _) .nil⟩
 ·rw[bV hz]at e;have:M6.dg w.toNat=[w]:=by
   rw[M6.mP (by omega),bWL (by omega),bRT (by omega),M6.bJ];congr 1;omega
  rw[this];exact⟨_,e,.cons (vW.own _ _ _) .nil⟩
def aH:dG:=orc1 (pN .u64) sp
theorem ok:OK 117 aH:=(eF E aE aD func117).aRM rfl spec
end mM
namespace aGM
def E:=mE [(210,aAD.aH),(236,oB.aH),(123,xL.aH),(117,mM.aH),(124,rH.aH)] 39 [24,36] [] []
def aE:=bd f211
theorem aU:Nk E aE:=nk
theorem start a b c d e:aF E f211 aE [D.s (sc (int i64 a)),D.s (sc (bool b)),D.s (ints u64 c),D.s (sc (bool d)),D.s (sc (int i64 e))]=letI C:=M6.val c+M6.val (M6.dg 1);letI B:=bif cC.kU C then(0:Int)else(5:Int);letI A:=bif cC.kU C then M6.dg C else [];letI F:=bif B==0 then zs b (M6.val A)else(0:Int);aO (M6.cE c/\c.length<=1099511627776/\(-9223372036854775808:Int)<=(0:Int)/\(0:Int)<(9223372036854775808:Int)) (aO True (aB (!oB.nW a b (true&&decide (M6.val c/1%(2:Nat)=(1:Nat))) d e) (aO (M6.cF c/\c.length<=1099511627776) (some [D.agg [sc (bool (isNeg (zs b (M6.val c)))),ints u64 (M6.dg (zs b (M6.val c)).natAbs)],D.s (sc (int i64 0))])) (aO ((0:Int)<=(1:Int)/\(1:Int)<(18446744073709551616:Int)) (aO (M6.cF c/\M6.cF (M6.dg 1)/\c.length<=8192/\(M6.dg 1).length<=8192) (aO (M6.cF A/\A.length<=1099511627776) (some [D.agg [sc (bool (isNeg F)),ints u64 (M6.dg F.natAbs)],D.s (sc (int i64 B))])))))):=eJ aU
def sp(w:Int)(neg:Bool)(q:List Int)(rest:Bool)(half:Int):Prop×List D:=(M6.cF q/\q.length<=8192,
 wE (fit (M6.val q+bif oB.nW w neg (decide (M6.val q%2=1)) rest half then 1 else 0)) (zs neg (M6.val q+bif oB.nW w neg (decide (M6.val q%2=1)) rest half then 1 else 0)))
theorem spec(w:Int)(neg:Bool)(q:List Int)(rest:Bool)(half:Int)(h:(sp w neg q rest half).1):aF E f211 aE [(pN .i64).put w,pB.put neg,(pI .u64).put q,pB.put rest,(pN .i64).put half]=some (sp w neg q rest half).2:=by
 obtain⟨h1,h2⟩:=h;have hb:=yE h1.iU h2;refine(start w neg q rest half).trans ?_;unfold sp
 try dsimp only
 rw[gP ⟨h1.iU,by omega,by omega,by omega⟩,gP trivial,bXH,bOX];cases hm:oB.nW w neg (decide (M6.val q%2=1)) rest half with
 |false =>
  have hf:fit (M6.val q+0)=true:=decide_eq_true (by rw[bMX];omega);rw[bXU,bT,gP ⟨h1,by omega⟩,cond_false,hf];rfl
 |true =>
  have o1:=eQ (n:=1) (k:=1) (dU.2 (by omega));rw[bNW,bF,gP ⟨by omega,by omega⟩,gP ⟨h1,M6.aW _,h2,by omega⟩,M6.bI,gP (Ff (fun h=>by rw[show cC.kU _=_ from xX]at h;exact wY h)),Eo,show cC.kU _=_ from xX,cond_true]
def aH:dG:=orc5 (pN .i64) pB (pI .u64) pB (pN .i64) sp
theorem ok:OK 211 aH:=(eF E aE (aA aAD.ok (aA oB.ok (aA xL.ok (aA mM.ok (aA rH.ok aD))))) func211).aXV rfl spec
end aGM
namespace pP
def E:=mE [(112,gG.aH),(115,Bm.aH),(114,zR.aH),(210,aAD.aH),(211,aGM.aH)] 61 [23,58] [(9,[0,2,4,6,8,10]),(14,[0,4,6,8,10,11])] [9,14]
def aE:=bd f177
theorem aU:Nk E aE:=nk
def J9 a b c d e f g:=kV E f177 aE 9 [bP a,bP b,cQ 2 27 [bW c,dZ d],cQ 3 27 [bW e,sc (slice none 0 0)],fW f,Lk g]
def aKM a b c d e f g:=kV E f177 aE 14 [bP a,cQ 1 27 [bW b,dZ c],cQ 2 27 [bW d,sc (slice none 0 0)],fW e,Lk f,bP g]
theorem start a b d c:aF E f177 aE [D.s (sc (int i64 a)),D.agg [sc (bool b),ints u64 d],D.s (sc (int i64 c))]=letI A:=M6.dg (M6.val d/(2:Nat)^c.toNat);aB (decide (c<0)) (some [D.agg [sc (bool false),sc (slice none 0 0)],D.s (sc (int i64 1))]) (aO (d.length<=1099511627776) (aB (!gG.qL (b,d)) (some [D.agg [sc (bool false),sc (slice none 0 0)],D.s (sc (int i64 2))]) (aO (M6.cF d/\d.length<=8192/\0<=c/\c<4611686018427387904) (aB (decide (0<(d.length:Int))) (aO (M6.cE d/\d.length<=1099511627776) (pP.J9 a c b d false A (decide ((↑(tz (M6.val d)):Int)<c)))) (pP.J9 a c b d false A false))))):=eJ aU
theorem Ru a b c d e f g:J9 a b c d e f g=aO (M6.cE d/\d.length<=1099511627776/\(-9223372036854775808:Int)<=i64.wrap (b-1)/\i64.wrap (b-1)<9223372036854775808) (aB (decide (0<=i64.wrap (b-1))&&decide (M6.val d/(2:Nat)^(i64.wrap (b-1)).toNat%2=(1:Nat))) (aO (M6.cE d/\d.length<=1099511627776) (aB ((↑(tz (M6.val d)):Int)==i64.wrap (b-1)) (pP.aKM a c d e f g 0) (pP.aKM a c d e f g 1))) (pP.aKM a c d e f g (-1:Int))):=cJ aU
theorem Oi a b c d e f g:aKM a b c d e f g=letI A:=M6.val e+bif oB.nW a b (decide (M6.val e%2=(1:Nat))) f g then(1:Nat)else(0:Nat);letI B:=bif fit A then zs b A else(0:Int);aO (M6.cF e/\e.length<=8192) (some [D.agg [sc (bool (isNeg B)),ints u64 (M6.dg B.natAbs)],D.s (sc (int i64 (bif fit A then(0:Int)else(5:Int))))]):=cJ aU
def Wg(v:Nat)(n:Int):Bool:=decide (v≠0)&&decide ((tz v:Int)<n)
def Xf(v:Nat)(n:Int):Int:=bif decide (0<=n-1)&&decide (v/2^(n-1).toNat%2=1)then(bif ((tz v:Int)==n-1)then 0 else 1)else -1
def wH(w:Int)(neg:Bool)(v:Nat)(n:Int):Nat:=v/2^n.toNat+bif oB.nW w neg (decide (v/2^n.toNat%2=1)) (Wg v n) (Xf v n)then 1 else 0
def sp(w:Int)(x:Bool×List Int)(n:Int):Prop×List D:=(jY x/\0<=n/\n<4611686018427387904,wE (fit (wH w x.1 (M6.val x.2) n)) (zs x.1 (wH w x.1 (M6.val x.2) n)))
theorem spec:sR E f177 aE (pN .i64) vY (pN .i64) sp:=by
 rintro w x n ⟨hx,h0,h1⟩;refine(start w x.1 x.2 n).trans ?_;have l1:=hx.len;have f1:=gG.nB hx;have b1:=hx.bl;obtain⟨p,a⟩:=x;have n1:M6.cF a:=hx.1
 try dsimp only at *
 unfold sp
 try dsimp only
 have hq:=eQ (n:=M6.val a/2^n.toNat) (k:=8192) (bMS (gN (bUJ _ _)) b1);have j14:∀(r:Bool) (hf:Int),aKM w p a false (M6.dg (M6.val a/2^n.toNat)) r hf=some (wE (fit (M6.val a/2^n.toNat+bif oB.nW w p (decide (M6.val a/2^n.toNat%2=1)) r hf then 1 else 0)) (zs p (M6.val a/2^n.toNat+bif oB.nW w p (decide (M6.val a/2^n.toNat%2=1)) r hf then 1 else 0))):=by
  intro r hf;rw[Oi,gP ⟨M6.aW _,hq⟩,M6.bI];rfl
 have wn:i64.wrap (n-1)=n-1:=by rw[wrap_i64]
 have j9:∀r:Bool,J9 w n p a false (M6.dg (M6.val a/2^n.toNat)) r=some (wE (fit (M6.val a/2^n.toNat+bif oB.nW w p (decide (M6.val a/2^n.toNat%2=1)) r (Xf (M6.val a) n)then 1 else 0)) (zs p (M6.val a/2^n.toNat+bif oB.nW w p (decide (M6.val a/2^n.toNat%2=1)) r (Xf (M6.val a) n)then 1 else 0))):=by
  intro r;rw[Ru,wn,gP ⟨n1.iU,by omega,by omega,by omega⟩,j14,j14,j14,gP ⟨n1.iU,by omega⟩];unfold Xf aB;cases (decide (0<=n-1)&&decide (M6.val a/2^(n-1).toNat%2=1))with
  |false=>rfl
  |true=>cases ((tz (M6.val a):Int)==n-1) <;> rfl
 have hz:=M6.cS n1;rw[aI,gP,f1,bNW,bF,gP ⟨n1,l1,h0,h1⟩,j9,j9,gP ⟨n1.iU,by omega⟩];unfold wH Wg
 by_cases h:M6.val a=0
 ·rw[aI (by have:=hz.2 h;omega),decide_eq_false (show ¬(M6.val a≠0) by omega),bRF]
 ·rw[aN (by have:a.length≠0:=fun hl=>h (hz.1 hl);omega),decide_eq_true (show(M6.val a≠0) by omega),bOX]
def aH:dG:=orc3 (pN .i64) vY (pN .i64) sp
theorem ok:OK 177 aH:=(eF E aE (aA gG.ok (aA Bm.ok (aA zR.ok (aA aAD.ok (aA aGM.ok aD))))) func177).Al rfl spec
end pP
namespace lW
def E:=mE [(177,pP.aH)] 11 [8] [] []
def aE:=bd f148
theorem aU:Nk E aE:=nk
theorem start a c b:aF E f148 aE [D.agg [sc (bool a),ints u64 c],D.s (sc (int i64 b))]=letI A:=pP.wH 0 a (M6.val c) b;letI B:=bif fit A then zs a A else(0:Int);aO (jY (a,c)/\0<=b/\b<4611686018427387904) (some [D.agg [sc (bool (isNeg B)),ints u64 (M6.dg B.natAbs)],D.s (sc (int i64 (bif fit A then(0:Int)else(5:Int))))]):=eJ aU
theorem Pk{v:Nat}{n:Int}(h:0<=n):pP.Wg v n=decide (v%2^n.toNat≠0):=by
 unfold pP.Wg
 by_cases hv:v=0
 ·subst hv;rw[decide_eq_false (by omega),bRF,bTS];rfl
 ·rw[decide_eq_true hv,bOX];have hs:=oS v hv;obtain⟨k,rfl⟩:=bQY h;rw[bPS];generalize tz v=j at *
  by_cases hk:j<k
  ·have:v%2^k≠0:=by
    intro hm;have e1:v=2^k*(v/2^k):=by have:=bRC v (2^k);omega
    have e2:v/2^j=2*(2^(k-j-1)*(v/2^k)):=by
     have hp:2^k=2^j*(2*2^(k-j-1)):=by
      rw[<-Nat.pow_succ',<-bQX];congr 1;omega
     generalize v/2^k=t at e1 ⊢;rw[e1,hp,bQZ,Nat.mul_div_cancel_left _ (bOV (by decide)),bQZ]
    omega
   rw[decide_eq_true (by omega),decide_eq_true this]
  ·have:v%2^k=0:=by
    have hp:2^j=2^k*2^(j-k):=by rw[<-bQX];congr 1;omega
    have e1:v=2^j*(v/2^j):=by have:=bRC v (2^j);omega
    rw[e1,hp,bQZ,Nat.mul_mod_right]
   rw[decide_eq_false (by omega),decide_eq_false (by omega)]
theorem down{p:Bool}{v:Nat}{n:Int}(h:0<=n):zs p (pP.wH 0 p v n)=zs p v/((2^n.toNat:Nat):Int):=by
 unfold pP.wH oB.nW;rw[Pk h,show((0:Int)==0)=true from rfl,cond_true];have hp:0<2^n.toNat:=cP;have hd:=bRC v (2^n.toNat);have hm:=bOE v hp;generalize 2^n.toNat=q at *;cases p with
 |false =>
  rw[bRF,cond_false,bMX];show((v/q:Nat):Int)=(v:Int)/(q:Int);rw[bRM]
 |true =>
  rw[bOX];show -(((v/q+bif decide (v%q≠0)then 1 else 0:Nat)):Int)=-(v:Int)/(q:Int)
  by_cases hz:v%q=0
  ·rw[decide_eq_false (by omega),cond_false,bMX];have e:-(v:Int)=(q:Int)*(-((v/q:Nat):Int)):=by
    rw[bUW,<-bRU];omega
   rw[e,Int.mul_ediv_cancel_left _ (by omega)]
  ·rw[decide_eq_true hz,cond_true];have e:-(v:Int)=((q-v%q:Nat):Int)+(q:Int)*(-((v/q+1:Nat):Int)):=by
    rw[bUW,<-bRU,bQW];omega
   rw[e,Int.add_mul_ediv_left _ _ (by omega),Int.ediv_eq_zero_of_lt (by omega) (by omega),Int.zero_add]
theorem small{p:Bool}{v:Nat}{n:Int}(h:0<=n)(hb:bl v<=524288):fit (pP.wH 0 p v n)=true:=by
 refine decide_eq_true (bMS (gN ?_) hb);unfold pP.wH oB.nW;rw[Pk h,show((0:Int)==0)=true from rfl,cond_true];have hp:0<2^n.toNat:=cP
 by_cases hz:v%2^n.toNat=0
 ·rw[decide_eq_false (by omega),bRI,cond_false];exact bUJ _ _
 ·have h2:2<=2^n.toNat:=by
   refine bQT fun hc=>hz ?_
   rw[show 2^n.toNat=1 from by omega,Nat.mod_one]
  have:v/2^n.toNat<=v/2:=bWT h2 (by omega);have hv:v≠0:=fun h=>hz (by rw[h,bTS])
  have:(bif p&&decide (v%2^n.toNat≠0)then(1:Nat)else 0)<=1:=by cases p <;> cases decide (v%2^n.toNat≠0) <;> decide
  omega
def sp(x:Bool×List Int)(n:Int):Prop×List D:=(jY x/\0<=n/\n<4611686018427387904,[wD (wv x/((2^n.toNat:Nat):Int)),.s (.sc (.int .i64 0))])
theorem spec:fI E f148 aE vY (pN .i64) sp:=by
 intro x n h;have h':=h;obtain⟨hx,h0,h1⟩:=h;refine(start x.1 x.2 n).trans ((gP h').trans ?_);unfold sp
 try dsimp only
 rw[small h0 hx.bl];show some (wE true _)=_;rw[down h0];rfl
def aH:dG:=orc2 vY (pN .i64) sp
theorem ok:OK 148 aH:=(eF E aE (aA pP.ok aD) func148).lA rfl spec
end lW
namespace Ik
def E:=mE [(177,pP.aH)] 11 [8] [] []
def aE:=bd f212
theorem aU:Nk E aE:=nk
theorem start a c b:aF E f212 aE [D.agg [sc (bool a),ints u64 c],D.s (sc (int i64 b))]=letI A:=pP.wH 1 a (M6.val c) b;letI B:=bif fit A then zs a A else(0:Int);aO (jY (a,c)/\0<=b/\b<4611686018427387904) (some [D.agg [sc (bool (isNeg B)),ints u64 (M6.dg B.natAbs)],D.s (sc (int i64 (bif fit A then(0:Int)else(5:Int))))]):=eJ aU
theorem up{p:Bool}{v:Nat}{n:Int}(h:0<=n):zs p (pP.wH 1 p v n)=-(-(zs p v)/((2^n.toNat:Nat):Int)):=by
 have e1:zs p (pP.wH 1 p v n)=-(zs (!p) (pP.wH 0 (!p) v n)):=by
  unfold pP.wH oB.nW zs;cases p <;> simp
 have e2:-(zs p v)=zs (!p) v:=by unfold zs;cases p <;> simp
 rw[e1,e2,lW.down h]
theorem small{p:Bool}{v:Nat}{n:Int}(h:0<=n)(hb:bl v<=524288):fit (pP.wH 1 p v n)=true:=by
 have e1:pP.wH 1 p v n=pP.wH 0 (!p) v n:=by
  unfold pP.wH oB.nW;cases p <;> simp
 rw[e1];exact lW.small h hb
def sp(x:Bool×List Int)(n:Int):Prop×List D:=(jY x/\0<=n/\n<4611686018427387904,[wD (-(-(wv x)/((2^n.toNat:Nat):Int))),.s (.sc (.int .i64 0))])
theorem spec:fI E f212 aE vY (pN .i64) sp:=by
 intro x n h;have h':=h;obtain⟨hx,h0,h1⟩:=h;refine(start x.1 x.2 n).trans ((gP h').trans ?_);unfold sp
 try dsimp only
 rw[small h0 hx.bl];show some (wE true _)=_;rw[up h0];rfl
def aH:dG:=orc2 vY (pN .i64) sp
theorem ok:OK 212 aH:=(eF E aE (aA pP.ok aD) func212).lA rfl spec
end Ik
namespace iK
def E:=mE [(148,lW.aH),(212,Ik.aH)] 22 [] [] []
def aE:=bd f178
theorem aU:Nk E aE:=nk
theorem start a d b c:aF E f178 aE [D.agg [sc (bool a),ints u64 d],D.s (sc (int i64 b)),D.s (sc (bool c))]=letI B:=jY (a,d)/\0<=b/\b<4611686018427387904;letI A:=(↑((2:Nat)^b.toNat):Int);aB c (aO B (some [D.agg [sc (bool (isNeg (-(-wv (a,d)/A)))),ints u64 (M6.dg (-(-wv (a,d)/A)).natAbs)]])) (aO B (some [D.agg [sc (bool (isNeg (wv (a,d)/A))),ints u64 (M6.dg (wv (a,d)/A).natAbs)]])):=eJ aU
def mU(up:Bool)(z:Int)(n:Nat):Int:=bif up then -(-z/((2^n:Nat):Int))else z/((2^n:Nat):Int)
theorem Xo(up:Bool)(z:Int)(n:Nat):(mU up z n).natAbs<=z.natAbs:=by
 unfold mU;cases up with
 |false=>exact Ax (bOV (by decide))
 |true =>
  rw[cond_true,bSQ];have:=Ax (z:=-z) (bOV (n:=n) (show 0<2 by decide));rwa [bSQ]at this
def sp(x:Bool×List Int)(n:Int)(up:Bool):Prop×List D:=(jY x/\(0<=n/\n<4611686018427387904),[wD (mU up (wv x) n.toNat)])
theorem spec:sR E f178 aE vY (pN .i64) pB sp:=by
 rintro x n up ⟨h1,h2⟩;refine(start x.1 x.2 n up).trans ?_;cases up with
 |true=>rw[bT,gP ⟨h1,h2⟩];rfl
 |false=>rw[bF,gP ⟨h1,h2⟩];rfl
def aH:dG:=orc3 vY (pN .i64) pB sp
theorem ok:OK 178 aH:=(eF E aE (aA lW.ok (aA Ik.ok aD)) func178).Al rfl spec
end iK
namespace bR
def E:=mE [(127,uE.aH),(63,iJ.aH),(178,iK.aH)] 33 [20,30] [] []
def aE:=bd f166
theorem aU:Nk E aE:=nk
theorem start a e b c d:aF E f166 aE [D.agg [sc (bool a),ints u64 e],D.s (sc (int i64 b)),D.s (sc (int i64 c)),D.s (sc (bool d))]=letI H:=wv (a,e);letI C:=bif fM H b then aL H b else((0:Int),(0:Int));letI B:=(↑(bl (M6.val e)):Int);letI G:=iK.mU d H (i64.wrap (B-c)).toNat;letI F:=b+i64.wrap (B-c);letI I:=i64.wrap F;aO (M6.cE e/\e.length<=1099511627776) (aB (decide (i64.wrap (B-c)<=0)) (aO (jY (a,e)/\(-9223372036854775808:Int)<=b/\b<9223372036854775808) (aC (isNeg C.fst) fun f=>aC (M6.dg C.fst.natAbs) fun g=>aC C.snd fun h=>aC (bif fM H b then(0:Int)else(5:Int)) fun i=>some [D.agg [sc (bool f),ints u64 g,sc (int i64 h)],D.s (sc (int i64 i))])) (aO (jY (a,e)/\0<=i64.wrap (B-c)/\i64.wrap (B-c)<4611686018427387904) (aC (isNeg G) fun j=>aC (M6.dg G.natAbs) fun k=>letI A:=bif fM (wv (j,k)) I then aL (wv (j,k)) I else((0:Int),(0:Int));aO (jY (j,k)/\(-9223372036854775808:Int)<=i64.wrap F/\i64.wrap F<9223372036854775808) (aC (isNeg A.fst) fun l=>aC (M6.dg A.fst.natAbs) fun m=>aC A.snd fun n=>aC (bif fM (wv (j,k)) I then(0:Int)else(5:Int)) fun o=>some [D.agg [sc (bool l),ints u64 m,sc (int i64 n)],D.s (sc (int i64 o))])))):=eJ aU
def lO(up:Bool)(z e p:Int):Int×Int:=if(bl z.natAbs:Int)-p<=0 then(z,e)else(iK.mU up z ((bl z.natAbs:Int)-p).toNat,e+((bl z.natAbs:Int)-p))
def sp(x:Bool×List Int)(e p:Int)(up:Bool):Prop×List D:=(jY x/\(-4611686018427387904<=e/\e<4611686018427387904)/\1<=p/\p<=70000,dE (fM (lO up (wv x) e p).1 (lO up (wv x) e p).2) (aL (lO up (wv x) e p).1 (lO up (wv x) e p).2))
theorem spec:aGD E f166 aE vY (pN .i64) (pN .i64) pB sp:=by
 rintro x e p up ⟨hw,he,hp⟩;have hb:=hw.bl;have hl:=hw.len;have ha:=iW x;refine(start x.1 x.2 e p up).trans ?_;unfold sp lO
 try dsimp only
 rw[gP ⟨hw.1.iU,by omega⟩,aK,ha,wrap_i64 (n:=(bl (M6.val x.2):Int)-p) (by omega) (by omega)];have hx:wv (x.1,x.2)=wv x:=rfl
 by_cases hn:(bl (M6.val x.2):Int)-p<=0
 ·rw[aN hn,if_pos hn,gP ⟨hw,by omega,by omega⟩];simp only[aK];rfl
 ·have Ze:=iK.Xo up (wv x) ((bl (M6.val x.2):Int)-p).toNat;have Qb:jY (isNeg (iK.mU up (wv x) ((bl (M6.val x.2):Int)-p).toNat),M6.dg (iK.mU up (wv x) ((bl (M6.val x.2):Int)-p).toNat).natAbs):=mN (bMS (gN Ze) (by rw[ha];exact hb));rw[aI hn,if_neg hn,gP ⟨hw,by omega,by omega⟩];simp only[aK];rw[wrap_i64 (n:=e+((bl (M6.val x.2):Int)-p)) (by omega) (by omega)];rw[gP ⟨Qb,by omega,by omega⟩,rT];rfl
def aH:dG:=orc4 vY (pN .i64) (pN .i64) pB sp
theorem ok:OK 166 aH:=(eF E aE (aA uE.ok (aA iJ.ok (aA iK.ok aD))) func166).aSB rfl spec
end bR
end W
namespace M6
open Go M
def nR(n v:Nat):List Int:=dg v ++ bNZ (n-(dg v).length) 0
theorem kE{n v:Nat}:val (nR n v)=v:=by
 unfold nR;rw[iA,iG,bI];omega
theorem kF{n v:Nat}:cE (nR n v):=oN.2 ⟨iO _,iI _⟩
theorem gA{n v:Nat}(h:v<18446744073709551616^n):(nR n v).length=n:=by
 have:=cR h;unfold nR;rw[bMZ,bXI];omega
theorem nC {a : List Int} {n v : Nat} (h : cE a) (hl : a.length = n) (hv : val a = v) : a = nR n v := by
  subst hl; subst hv
  obtain ⟨k, hk⟩ := Cq h
  unfold nR
  have : a.length = (dg (val a)).length + k := by conv => lhs; rw [hk]
                                                  simp
  rw [this, Nat.add_sub_cancel_left]
  exact hk
theorem aEK{n:Nat}:nR n 0=bNZ n 0:=by simp[nR,bJ]
theorem aEL{n v:Nat}:(nR n v).take (dg v).length=dg v:=by
 unfold nR;exact List.take_left
theorem oR{a:List Int}{j:Nat}(hj:j<a.length)(d:Int):val (a.set j d)+18446744073709551616^j*(a.getD j 0).toNat=val a+18446744073709551616^j*d.toNat:=by
 have h1:=fX (a.set j d) (n:=j) (by simp;omega);have h2:=fX a (n:=j) (by omega);rw[qP hj,bWS (bLW j)]at h1;rw[fY (a:=a) j]at h2;rw[h1,h2,bQW,bQW];omega
theorem oG{m n:Nat}(h:m<=n):18446744073709551616^m<=18446744073709551616^n:=bOW (by omega) h
theorem Pr{a:List Int}(h:cF a):∀k,cF (a.drop k)
 |0=>h
 |k+1=>by
  match a,h with
  | [],h=>simpa using h
  |d :: a,h=>exact Pr (Pq h) k
theorem qO{a:List Int}(h:cE a)(k:Nat):val (a.take k)=val a%18446744073709551616^k:=by
 by_cases hk:k<=a.length
 ·rw[fX a hk,bXV,bWL (gH h k)]
 ·rw[cG (by omega),bWL];exact bMW (cO h) (oG (by omega))
theorem jD{a:List Int}(h:cE a)(k:Nat):val (a.drop k)=val a/18446744073709551616^k:=by
 by_cases hk:k<=a.length
 ·have h1:=fX a hk;have h2:=gH h k;rw[h1,bSM _ _ (cP),bRT h2,bLY]
 ·rw[bXJ (by omega),bRT]
  ·rfl
  ·exact bMW (cO h) (oG (by omega))
theorem xP(v o n:Nat):v=v%18446744073709551616^o+18446744073709551616^o*(v/18446744073709551616^o%18446744073709551616^n)+18446744073709551616^(o+n)*(v/18446744073709551616^(o+n)):=by
 have h1:=bWN v (18446744073709551616^o);have h2:=bWN (v/18446744073709551616^o) (18446744073709551616^n);rw[bRN,<-bQX]at h2
 conv=>lhs;rw[<-h1,<-h2]
 rw[bQW,<-bQZ,<-bQX];omega
theorem Ow{v v' o n X c:Nat}(h1:v'%18446744073709551616^o=v%18446744073709551616^o)(h2:v'/18446744073709551616^(o+n)=v/18446744073709551616^(o+n))(h:v'+18446744073709551616^o*X=v+18446744073709551616^(o+n)*c) :
  v'/18446744073709551616^o%18446744073709551616^n+X=v/18446744073709551616^o%18446744073709551616^n+18446744073709551616^n*c:=by
 have e1:=xP v o n;have e2:=xP v' o n;rw[h1,h2]at e2;apply Nat.eq_of_mul_eq_mul_left (bOV (n:=o) (by omega:0<18446744073709551616));have e3:18446744073709551616^(o+n)*c=18446744073709551616^o*(18446744073709551616^n*c):=by rw[bQX,bQZ]
 rw[e3]at h;rw[bQW,bQW];omega
theorem Sl(v o n:Nat):v/18446744073709551616^o%18446744073709551616^n<18446744073709551616^n:=bOE _ (cP)
theorem Ox{z z':List Int}(hd:cE z)(Dr:cE z'){o n:Nat}(h1:z'.take o=z.take o)(h2:z'.drop (o+n)=z.drop (o+n)):val z'%18446744073709551616^o=val z%18446744073709551616^o/\val z'/18446744073709551616^(o+n)=val z/18446744073709551616^(o+n):=by
 rw[<-qO hd,<-qO Dr,h1,<-jD hd,<-jD Dr,h2];exact⟨rfl,rfl⟩
end M6
namespace W
open Go AI M
namespace lL
def E:=mE [] 8 [] [] []
def aE:=bd f198
theorem aU:Nk E aE:=nk
theorem start a:aF E f198 aE [D.s (ints u64 a)]=aB (decide (8192<(a.length:Int))) (some [D.s (sc (slice none 0 0)),D.s (sc (int i64 5))]) (some [D.s (ints u64 a),D.s (sc (int i64 0))]):=eJ aU
def can(a b:List Int):Prop:=Contract prog base.glob 199 [(pI .u64).put a,(pI .u64).put b] [.own eX .u64 (M6.dg (M6.val a*M6.val b))]
def less(n:Nat):Prop:=∀c d:List Int,M6.cF c->M6.cF d->c.length+d.length<n->can c d
def prec:dG:=orc2 (pI .u64) (pI .u64) fun a b=>(can a b,[.own eX .u64 (M6.dg (M6.val a*M6.val b))])
theorem Wk:kZ prog base.glob 199 prec:=by
 intro ds g rs hd hg;unfold prec orc2 at hd;split at hd
 ·split at hd
  ·rename_i x y hx hy;have hd:=Option.some.inj hd;have e1:g=can x y:=(Prod.mk.inj hd).1.symm;have e2:=(Prod.mk.inj hd).2;subst e1;rw[<-e2];exact⟨Contract.aXX (show Contract _ _ _ _ _ from hg) ((pI .u64).le hx) ((pI .u64).le hy),uX (c:=(f199.body).getD .skip) func199 rfl rfl⟩
  ·cases hd
 ·cases hd
def jV(a:List Int):Bool:=decide (a.length<=8192)
def sp(a:List Int):Prop×List D:=(True,[.s (.ints .u64 (bif jV a then a else [])),.s (.sc (.int .i64 (bif jV a then 0 else 5)))])
theorem spec:aGC E f198 aE (pI .u64) sp:=by
 intro a _;have e:=start a;unfold sp jV;simp only
 by_cases hc:a.length<=8192
 ·rw[aI]at e;rw[decide_eq_true hc];exact⟨_,e,fP.refl _⟩
 ·rw[aN]at e;rw[decide_eq_false hc];exact⟨_,e,.cons (vW.nil _) (fP.refl _)⟩
def aH:dG:=orc1 (pI .u64) sp
theorem ok:OK 198 aH:=(eF E aE aD func198).aRM rfl spec
end lL
namespace Ii
def E:=mE [] 51 [] [] []
def aE:=bd f252
theorem aU:Nk E aE:=nk
theorem start a b:aF E f252 aE [D.s (sc (int u64 a)),D.s (sc (int u64 b))]=letI A:=u64.wrap (a/4294967296*eN BinOp.and u64 b 4294967295)+u64.wrap (eN BinOp.and u64 a 4294967295*eN BinOp.and u64 b 4294967295)/4294967296;some [D.s (sc (int u64 (u64.wrap (u64.wrap (u64.wrap (a/4294967296*(b/4294967296))+u64.wrap A/4294967296)+u64.wrap (eN BinOp.and u64 (u64.wrap A) 4294967295+u64.wrap (eN BinOp.and u64 a 4294967295*(b/4294967296)))/4294967296)))),D.s (sc (int u64 (u64.wrap (a*b))))]:=eJ aU
def sp(a b:Int):Prop×List D:=(0<=a/\a<18446744073709551616/\0<=b/\b<18446744073709551616,[.s (.sc (.int .u64 (a*b/18446744073709551616))),.s (.sc (.int .u64 (a*b%18446744073709551616)))])
theorem spec:fI E f252 aE (pN .u64) (pN .u64) sp:=by
 rintro a b ⟨ha,aWZ,hb,vQ⟩;refine(start a b).trans ?_;simp only[sp];have m1:eN .and .u64 a 4294967295=a%4294967296:=oP ha aWZ;have m2:eN .and .u64 b 4294967295=b%4294967296:=oP hb vQ;rw[m1,m2];have bd:∀x y:Int,0<=x->x<=4294967295->0<=y->y<=4294967295->0<=x*y/\x*y<=18446744065119617025:=fun x y h1 h2 h3 h4 =>
  ⟨bXW h1 h3,by have:=Int.mul_le_mul h2 h4 h3 (by omega:(0:Int)<=4294967295);omega⟩
 have q11:=bd (a/4294967296) (b/4294967296) (by omega) (by omega) (by omega) (by omega);have aXO:=bd (a/4294967296) (b%4294967296) (by omega) (by omega) (by omega) (by omega);have q01:=bd (a%4294967296) (b/4294967296) (by omega) (by omega) (by omega) (by omega);have aRY:=bd (a%4294967296) (b%4294967296) (by omega) (by omega) (by omega) (by omega);have e:a*b=(a/4294967296)*(b/4294967296)*18446744073709551616+((a/4294967296)*(b%4294967296)+(a%4294967296)*(b/4294967296))*4294967296+(a%4294967296)*(b%4294967296):=by
  conv=>lhs;rw[<-bUZ a 4294967296,<-bUZ b 4294967296]
  generalize a/4294967296=x;generalize a%4294967296=y;generalize b/4294967296=z;generalize b%4294967296=t;grind
 have e0:u64.wrap (a*b)=a*b%18446744073709551616:=eE _;rw[e0];generalize a*b=ab at *;generalize (a/4294967296)*(b/4294967296)=aXQ at *;generalize (a/4294967296)*(b%4294967296)=aNI at *;generalize (a%4294967296)*(b/4294967296)=aXR at *;generalize (a%4294967296)*(b%4294967296)=aNJ at *;rw[wrap_u64 (n:=aNJ),wrap_u64 (n:=aXQ),wrap_u64 (n:=aXR),wrap_u64 (n:=aNI)];rw[wrap_u64 (n:=aNI+aNJ/4294967296),oP (w:=aNI+aNJ/4294967296) (by omega) (by omega)];rw[wrap_u64 (n:=(aNI+aNJ/4294967296)%4294967296+aXR),wrap_u64 (n:=aXQ+(aNI+aNJ/4294967296)/4294967296),wrap_u64];have:aXQ+(aNI+aNJ/4294967296)/4294967296+((aNI+aNJ/4294967296)%4294967296+aXR)/4294967296=ab/18446744073709551616:=by omega
 rw[this]
def aH:dG:=orc2 (pN .u64) (pN .u64) sp
theorem ok:OK 252 aH:=(eF E aE aD func252).lA rfl spec
end Ii
namespace Dz
def E:Env:={ ({ base with C:=callsOf [(252,Ii.aH)],n0:=1,io:=[0] })with nt:=71,own:=[],keep:=fun k=>(tlook [(5,[0,1,2,6,7,13,14,18,19]),(1,[0,1,2,13,14])] k).getD [],cut:=tlook [] }
def aE:=bd f248
theorem aU:Nk E aE:=nk
def L1(a:List Int)(b:Nat)(c:Nat) d f g h:=nO E f248 aE 1 [(A.any,some { e:=(22:Nat),cont:=rI.ints u64 a }),(A.v (V.one (L.view 0 b c)),none),fW d,fW f,bP g,bP h]
def L5(a:List Int)(b:Nat)(c:Nat) d f g h x7 i j k:=nO E f248 aE 5 [(A.any,some { e:=(22:Nat),cont:=rI.ints u64 a }),(A.v (V.one (L.view 0 b c)),none),fW d,fW f,bP g,cZ h,bP x7,bP i,bP j,bP k]
theorem start al ao an b c:aF E f248 aE [D.io eX u64 al ao an,D.s (ints u64 b),D.s (ints u64 c)]=Dz.L1 al ao an b c (c.length:Int) 0:=eJ aU
theorem Lg a b c d e f g:L1 a b c d e f g=aB (decide (g<f)) (Dz.L5 a b c d e g 0 f g (d.length:Int) 0) (some [D.io 22 u64 a 0 0]):=lJ aU
theorem Ya a b c d e f g h i j k:L5 a b c d e f g h i j k=letI C:=(d.length:Int);letI B:=b+(i64.wrap (k+f)).toNat;letI A:=d.getD k.toNat 0*e.getD f.toNat 0%(18446744073709551616:Int)+g+0;letI F:=a.getD B 0+A%18446744073709551616+(0:Int);aB (decide (k<j)) (if 0<=k/\k<C then if 0<=f/\f<(e.length:Int)then aO (0<=d.getD k.toNat 0/\d.getD k.toNat 0<(18446744073709551616:Int)/\0<=e.getD f.toNat 0/\e.getD f.toNat 0<(18446744073709551616:Int)) (aO (0<=d.getD k.toNat 0*e.getD f.toNat 0%(18446744073709551616:Int)/\0<=g/\(0:Int)<=(0:Int)/\(0:Int)<=(1:Int)) (if 0<=i64.wrap (k+f)/\i64.wrap (k+f)<(c:Int)then aO (0<=a.getD B 0/\0<=A%18446744073709551616/\(0:Int)<=(0:Int)/\(0:Int)<=(1:Int)) (if 0<=i64.wrap (k+f)/\i64.wrap (k+f)<(c:Int)then Dz.L5 (a.set B (F%18446744073709551616)) b c d e f (u64.wrap (u64.wrap (d.getD k.toNat 0*e.getD f.toNat 0/(18446744073709551616:Int)+A/18446744073709551616)+F/18446744073709551616)) h i j (i64.wrap (k+1))else none)else none))else none else none) (if 0<=i64.wrap (f+C)/\i64.wrap (f+C)<(c:Int)then Dz.L1 (a.set (b+(i64.wrap (f+C)).toNat) g) b c d e h (i64.wrap (i+1))else none):=lJ aU
def sp(x:List Int×Nat×Nat)(a b:List Int):Prop×List D:=(M6.cE x.1/\x.2.1=0/\x.2.2=x.1.length/\M6.cE a/\M6.cE b/\x.1.length=a.length+b.length/\x.1.length<=1099511627776/\M6.val x.1=0,
 [.io eX .u64 (M6.nR x.1.length (M6.val a*M6.val b)) 0 0])
theorem aSI{x c:Int}{p:Nat}(hp:p<=340282366920938463426481119284349108225)(h0:0<=x)(h1:x<18446744073709551616)(h2:0<=c)(h3:c<18446744073709551616) :
  (0<=(p:Int)/18446744073709551616+((p:Int)%18446744073709551616+c+0)/18446744073709551616/\(p:Int)/18446744073709551616+((p:Int)%18446744073709551616+c+0)/18446744073709551616<18446744073709551616) /\
  (0<=(p:Int)/18446744073709551616+((p:Int)%18446744073709551616+c+0)/18446744073709551616+(x+((p:Int)%18446744073709551616+c+0)%18446744073709551616+0)/18446744073709551616/\(p:Int)/18446744073709551616+((p:Int)%18446744073709551616+c+0)/18446744073709551616+(x+((p:Int)%18446744073709551616+c+0)%18446744073709551616+0)/18446744073709551616<18446744073709551616) /\
  ((x+((p:Int)%18446744073709551616+c+0)%18446744073709551616+0)%18446744073709551616).toNat+18446744073709551616*((p:Int)/18446744073709551616+((p:Int)%18446744073709551616+c+0)/18446744073709551616+(x+((p:Int)%18446744073709551616+c+0)%18446744073709551616+0)/18446744073709551616).toNat=x.toNat+p+c.toNat:=by
 omega
theorem aYC{i j u X Y:Nat}:18446744073709551616^j*((u+18446744073709551616^i*X)*Y)=18446744073709551616^j*(u*Y)+18446744073709551616^(i+j)*(X*Y):=by
 rw[bMQ,bQW,bQX];congr 1;rw[bQZ,<-bQZ (18446744073709551616^j),bQU (18446744073709551616^j)]
theorem bLT{a b:List Int}{N j V:Nat}(hN:N<=1099511627776)(ha:M6.cE a)(hb:M6.cE b)(hj:j<b.length)(bAY:a.length+b.length=N):∀(r i:Nat) (z:List Int) (c:Int),i+r=a.length->z.length=N->M6.cE z->0<=c->c<18446744073709551616->z.getD (a.length+j) 0=0 ->
  M6.val z+18446744073709551616^(i+j)*c.toNat=V+18446744073709551616^j*(M6.val (a.take i)*(b.getD j 0).toNat) ->
  ∃z',L5 z 0 N a b j c b.length j a.length i=L1 z' 0 N a b b.length ((j+1:Nat):Int)/\z'.length=N/\M6.cE z'/\M6.val z'=V+18446744073709551616^j*(M6.val a*(b.getD j 0).toNat):=by
 intro r
 induction r with
 |zero =>
  intro i z c hi hz hd h0 h1 aSO hv;have w1:i64.wrap ((j:Int)+(a.length:Int))=((a.length+j:Nat):Int):=by rw[wrap_i64];omega
  have w2:i64.wrap ((j:Int)+1)=((j+1:Nat):Int):=by rw[wrap_i64];omega
  have aZX:i=a.length:=by omega
  subst aZX;refine⟨z.set (a.length+j) c,?_,by simp[hz],M6.lT hd ⟨h0,h1⟩,?_⟩
  ·rw[Ya,aI,w1,aT,bPS,bLY,w2]
  ·have hs:=M6.oR (a:=z) (j:=a.length+j) (by omega) c;rw[aSO]at hs;rw[bSR]at hv;simp at hs;rw[hs];exact hv
 |succ r ih =>
  intro i z c hi hz hd h0 h1 aSO hv;have g:=hd.get (i+j);have ga:=ha.get i;have gb:=hb.get j;have w1:i64.wrap ((i:Int)+(j:Int))=((i+j:Nat):Int):=by rw[wrap_i64];omega
  have w2:i64.wrap ((i:Int)+1)=((i+1:Nat):Int):=by rw[wrap_i64];omega
  obtain⟨X,hX⟩:=bQY ga.1;obtain⟨Y,hY⟩:=bQY gb.1;have bAW:X*Y<=340282366920938463426481119284349108225:=by
   have h2:X<=18446744073709551615:=by omega
   have h3:Y<=18446744073709551615:=by omega
   have:=bWK h2 h3;omega
  rw[Ya,aN,aT,aT,w1,w2];simp only[bPS,bLY];have hs:=fun d=>M6.oR (a:=z) (j:=i+j) (by omega) d
  rw[show a.getD i 0*b.getD j 0=((X*Y:Nat):Int)from by rw[hX,hY];simp];obtain⟨k1,k2,k3⟩:=aSI bAW g.1 g.2 h0 h1;rw[gP ⟨ga.1,ga.2,gb.1,gb.2⟩,gP ⟨by omega,by omega,by omega,by omega⟩,aT,gP ⟨by omega,by omega,by omega,by omega⟩,aT];rw[wrap_u64 k1.1 k1.2,wrap_u64 k2.1 k2.2];refine ih (i+1) _ _ (by omega) (by simp[hz]) (M6.lT hd (by omega)) k2.1 k2.2 (by
   rw[bRA,List.getElem?_set_ne (by omega),<-bRA];exact aSO) ?_
  rw[M6.cD,aYC,show i+1+j=(i+j)+1 from by omega,bQV,bQZ];have hs:=hs ((z.getD (i+j) 0+(((X*Y:Nat):Int)%18446744073709551616+c+0)%18446744073709551616+0)%18446744073709551616);rw[hX,hY,bPS,bPS];rw[hY,bPS]at hv;generalize ((z.getD (i+j) 0+(((X*Y:Nat):Int)%18446744073709551616+c+0)%18446744073709551616+0)%18446744073709551616)=d at *;generalize ((X*Y:Nat):Int)/18446744073709551616+(((X*Y:Nat):Int)%18446744073709551616+c+0)/18446744073709551616+(z.getD (i+j) 0+(((X*Y:Nat):Int)%18446744073709551616+c+0)%18446744073709551616+0)/18446744073709551616=c' at *;generalize X*Y=q at *;generalize 18446744073709551616^(i+j)=B at *;generalize M6.val (z.set (i+j) d)=W at *;generalize (z.getD (i+j) 0).toNat=x at *;generalize 18446744073709551616^j*(M6.val (a.take i)*Y)=U at *;have e2:B*d.toNat+B*(18446744073709551616*c'.toNat)=B*x+B*q+B*c.toNat:=by
   rw[<-bQW,k3,bQW,bQW]
  omega
theorem aHP{z:List Int}(hd:M6.cE z){k:Nat}(h:M6.val z<18446744073709551616^k):z.getD k 0=0:=by
 have h1:=M6.jD hd k;rw[bRT h,M6.fY]at h1;have:=hd.get k;omega
theorem bCL{a b:List Int}{N:Nat}(hN:N<=1099511627776)(ha:M6.cE a)(hb:M6.cE b)(bAY:a.length+b.length=N):∀(r j:Nat) (z:List Int),j+r=b.length->z.length=N->M6.cE z->M6.val z=M6.val a*M6.val (b.take j) ->
  L1 z 0 N a b b.length j=some [.io eX .u64 (M6.nR N (M6.val a*M6.val b)) 0 0]:=by
 intro r
 induction r with
 |zero =>
  intro j z hj hz hd hv;rw[Lg,aI];rw[M6.cG (by omega)]at hv;rw[M6.nC hd hz hv]
 |succ r ih =>
  intro j z hj hz hd hv;rw[Lg,aN];have iN:M6.val z<18446744073709551616^(a.length+j):=by
   rw[hv,bQX];exact bUK (M6.cO ha) (M6.gH hb j)
  obtain⟨z',h1,h2,h3,h4⟩:=bLT hN ha hb (show j<b.length by omega) bAY a.length 0 z 0 (by omega) hz hd (by omega) (by omega) (aHP hd iN) (V:=M6.val z) (by simp[M6.val]);have h1:L5 z 0 N a b j 0 b.length j a.length 0=L1 z' 0 N a b b.length ((j+1:Nat):Int):=h1;rw[h1];refine ih (j+1) z' (by omega) h2 h3 ?_;rw[h4,hv,M6.cD,bQW];congr 1;rw[<-bQZ,<-bQZ,bQU (18446744073709551616^j)]
theorem spec(x:List Int×Nat×Nat)(a b:List Int)(h:(sp x a b).1):aF E f248 aE [(Aj eX .u64).put x,(pI .u64).put a,(pI .u64).put b]=some (sp x a b).2/\∃rs lB,(sp x a b).2=rs ++ [.io eX .u64 lB 0 0]/\lB.length=x.1.length:=by
 obtain⟨xl,xo,xn⟩:=x;obtain⟨hd,ho,hn,ha,hb,hl,hN,hv⟩:=h;simp only at hd ho hn hl hN hv;subst ho;subst hn;refine⟨(start xl 0 xl.length a b).trans ?_,[],_,rfl,M6.gA ?_⟩
 ·exact bCL hN ha hb hl.symm b.length 0 xl (by omega) rfl hd (by simp[hv,M6.val])
 ·show _<18446744073709551616^xl.length;rw[hl,bQX];exact bUK (M6.cO ha) (M6.cO hb)
def aH:dG:=orc3 (Aj eX .u64) (pI .u64) (pI .u64) sp
theorem fnok:kK prog E 248 f248 aE:=tG pD mixed (kG _ rfl (aA Ii.ok aD) (mF)) func248 rfl rfl rfl rfl rfl
theorem ok:oA prog base.glob 248 aH:=fnok.Al rfl spec
end Dz
namespace xI
def E:=mE [] 22 [] [(2,[0,3])] []
def aE:=bd f226
theorem aU:Nk E aE:=nk
def L2 a b:=nO E f226 aE 2 [fW a,bP b]
theorem start a:aF E f226 aE [D.s (ints u64 a)]=xI.L2 a (a.length:Int):=eJ aU
theorem jZ a b:L2 a b=letI B:=(a.length:Int);letI A:=ints u64 (bRS 0 (bRR b.toNat a));aB (decide (0<b)) (if 0<=i64.wrap (b-1)/\i64.wrap (b-1)<B then aB (a.getD (i64.wrap (b-1)).toNat 0==(0:Int)) (xI.L2 a (i64.wrap (b-1))) (if(0:Int)<=(0:Int)/\0<=b/\b<=b/\b<=B then some [D.s A]else none)else none) (if(0:Int)<=(0:Int)/\0<=b/\b<=b/\b<=B then some [D.s A]else none):=lJ aU
def sp(a:List Int):Prop×List D:=(M6.cE a/\a.length<=1099511627776,[.s (.ints .u64 (M6.dg (M6.val a)))])
theorem L{xs:List Int}(hd:M6.cE xs)(hl:xs.length<=4398046511104):∀n:Nat,n<=xs.length->L2 xs n=some [D.s (.ints .u64 (M6.dg (M6.val (xs.take n))))]
 |0,h=>by
  rw[jZ,aI,aT];simp[M6.val,M6.bJ]
 |n+1,h=>by
  rw[jZ];have e:i64.wrap (((n+1:Nat):Int)-1)=(n:Int):=by rw[wrap_i64];omega
  rw[e,aN,aT,bPS]
  by_cases hz:xs.getD n 0=0
  ·rw[cN hz,L hd hl n (by omega),M6.jO (by omega),hz];simp
  ·rw[bV hz,aT,bPS,bSE];have:M6.cF (xs.take (n+1)):=M6.wL (hd.take _) fun d hg=>by
    rw[M6.getLast_take (by omega)]at hg;cases hg;exact hz
   rw[<-this]
theorem spec:gO E f226 aE (pI .u64) sp:=by
 rintro a ⟨hd,hl⟩;refine(start a).trans ?_;rw[L hd (by omega) a.length (bLW _),bSR];rfl
def aH:dG:=orc1 (pI .u64) sp
theorem ok:OK 226 aH:=(eF E aE aD func226).nN rfl spec
end xI
namespace nL
def E:Env:={ ({ base with n0:=1,io:=[0] })with nt:=55,own:=[],keep:=fun k=>(tlook [(7,[0,6,8]),(2,[0,1,2,6,10,11])] k).getD [],cut:=tlook [] }
def aE:=bd f265
theorem aU:Nk E aE:=nk
def L2(a:List Int)(b:Nat)(c:Nat) d f g h x7:=nO E f265 aE 2 [(A.any,some { e:=(22:Nat),cont:=rI.ints u64 a }),(A.v (V.one (L.view 0 b c)),none),fW d,bP f,cZ g,bP h,bP x7]
def L7(a:List Int)(b:Nat)(c:Nat) d f:=nO E f265 aE 7 [(A.any,some { e:=(22:Nat),cont:=rI.ints u64 a }),(A.v (V.one (L.view 0 b c)),none),cZ d,bP f]
theorem start al ao an b c:aF E f265 aE [D.io eX u64 al ao an,D.s (ints u64 b),D.s (sc (int i64 c))]=nL.L2 al ao an b c 0 (b.length:Int) 0:=eJ aU
theorem jZ a b c d e f g h:L2 a b c d e f g h=letI A:=b+(i64.wrap (e+h)).toNat;letI B:=a.getD A 0+d.getD h.toNat 0+f;aB (decide (h<g)) (if 0<=i64.wrap (e+h)/\i64.wrap (e+h)<(c:Int)then if 0<=h/\h<(d.length:Int)then aO (0<=a.getD A 0/\0<=d.getD h.toNat 0/\0<=f/\f<=1) (if 0<=i64.wrap (e+h)/\i64.wrap (e+h)<(c:Int)then nL.L2 (a.set A (B%18446744073709551616)) b c d e (B/18446744073709551616) g (i64.wrap (h+1))else none)else none else none) (nL.L7 a b c f (i64.wrap (e+(d.length:Int)))):=lJ aU
theorem uF a b c d e:L7 a b c d e=letI B:=b+e.toNat;letI A:=a.getD B 0+(0:Int)+d;aB (decide (0<d)) (if 0<=e/\e<(c:Int)then aO (0<=a.getD B 0/\(0:Int)<=(0:Int)/\0<=d/\d<=1) (if 0<=e/\e<(c:Int)then nL.L7 (a.set B (A%18446744073709551616)) b c (A/18446744073709551616) (i64.wrap (e+1))else none)else none) (some [D.io 22 u64 a 0 0]):=lJ aU
def sp(x:List Int×Nat×Nat)(b:List Int)(k:Int):Prop×List D:=(M6.cE x.1/\x.2.1=0/\x.2.2=x.1.length/\M6.cE b/\0<=k/\k.toNat+b.length<=x.1.length/\x.1.length<=1099511627776/\M6.val x.1+M6.val b*18446744073709551616^k.toNat<18446744073709551616^x.1.length,
 [.io eX .u64 (M6.nR x.1.length (M6.val x.1+M6.val b*18446744073709551616^k.toNat)) 0 0])
theorem bCI{T N:Nat}(hN:N<=1099511627776)(hT:T<18446744073709551616^N):∀(r j:Nat) (z:List Int) (c:Int),j+r=N+1->z.length=N->M6.cE z->0<=c->c<=1->M6.val z+18446744073709551616^j*c.toNat=T ->
  L7 z 0 N c j=some [.io eX .u64 (M6.nR N T) 0 0]:=by
 intro r
 induction r with
 |zero =>
  intro j z c hj hz hd h0 h1 hv;have hc:c=0:=by
   have h2:=M6.oG (show N<=j by omega);rcases bXK 0 c with h3 |h3
   ·have:c=1:=by omega
    subst this;simp at hv;omega
   ·omega
  subst hc;rw[uF,aI];simp at hv;rw[M6.nC hd hz hv]
 |succ r ih =>
  intro j z c hj hz hd h0 h1 hv
  by_cases hc:c=0
  ·subst hc;rw[uF,aI];simp at hv;rw[M6.nC hd hz hv]
  ·have aQW:c=1:=by omega
   subst aQW;have bIW:j<N:=by
    rcases bML j N with h |h
    ·exact h
    ·have h2:=M6.oG h;simp at hv;omega
   have g:=hd.get j;have w2:i64.wrap ((j:Int)+1)=((j+1:Nat):Int):=by rw[wrap_i64];omega
   rw[uF,aN,aT,bLY,bPS,gP ⟨g.1,by omega,by omega,by omega⟩,aT,w2];refine ih (j+1) _ _ (by omega) (by simp[hz]) (M6.lT hd (by omega)) (by omega) (by omega) ?_;have hs:=M6.oR (a:=z) (j:=j) (by omega) ((z.getD j 0+0+1)%18446744073709551616);rw[bQV,bQZ];generalize z.getD j 0=x at *;generalize M6.val (z.set j _)=V at *;generalize 18446744073709551616^j=B at *;have e:((x+0+1)%18446744073709551616).toNat+18446744073709551616*((x+0+1)/18446744073709551616).toNat=x.toNat+1:=by omega
   have e2:B*((x+0+1)%18446744073709551616).toNat+B*(18446744073709551616*((x+0+1)/18446744073709551616).toNat)=B*x.toNat+B:=by
    rw[<-bQW,e,bQW,bMG]
   simp at hv;omega
theorem bCK{b:List Int}{V N k:Nat}(hN:N<=1099511627776)(hb:M6.cE b)(hk:k+b.length<=N)(hT:V+M6.val b*18446744073709551616^k<18446744073709551616^N):∀(r i:Nat) (z:List Int) (c:Int),i+r=b.length->z.length=N->M6.cE z->0<=c->c<=1 ->
  M6.val z+18446744073709551616^(k+i)*c.toNat=V+M6.val (b.take i)*18446744073709551616^k ->
  L2 z 0 N b k c b.length i=some [.io eX .u64 (M6.nR N (V+M6.val b*18446744073709551616^k)) 0 0]:=by
 intro r
 induction r with
 |zero =>
  intro i z c hi hz hd h0 h1 hv;have w1:i64.wrap ((k:Int)+(b.length:Int))=((k+b.length:Nat):Int):=by rw[wrap_i64];omega
  rw[jZ,aI,w1];have aOJ:i=b.length:=by omega
  subst aOJ;rw[bSR]at hv;exact bCI hN hT (N+1-(k+b.length)) (k+b.length) z c (by omega) hz hd h0 h1 hv
 |succ r ih =>
  intro i z c hi hz hd h0 h1 hv;have g:=hd.get (k+i);have g2:=hb.get i;have w1:i64.wrap ((k:Int)+(i:Int))=((k+i:Nat):Int):=by rw[wrap_i64];omega
  have w2:i64.wrap ((i:Int)+1)=((i+1:Nat):Int):=by rw[wrap_i64];omega
  rw[jZ,aN,w1,aT,aT,bLY,bPS,bPS,gP ⟨g.1,g2.1,h0,h1⟩,aT,w2];refine ih (i+1) _ _ (by omega) (by simp[hz]) (M6.lT hd (by omega)) (by omega) (by omega) ?_;have hs:=M6.oR (a:=z) (j:=k+i) (by omega) ((z.getD (k+i) 0+b.getD i 0+c)%18446744073709551616);have e0:M6.val (b.take (i+1))*18446744073709551616^k=M6.val (b.take i)*18446744073709551616^k+18446744073709551616^(k+i)*(b.getD i 0).toNat:=by
   rw[M6.cD,bMQ,bQX];congr 1;rw[bWW,bQU (18446744073709551616^i)]
  rw[e0,show k+(i+1)=(k+i)+1 from by omega,bQV,bQZ];generalize z.getD (k+i) 0=x at *;generalize b.getD i 0=y at *;generalize M6.val (z.set (k+i) _)=W at *;generalize 18446744073709551616^(k+i)=B at *;generalize M6.val (b.take i)*18446744073709551616^k=U at *;have e:((x+y+c)%18446744073709551616).toNat+18446744073709551616*((x+y+c)/18446744073709551616).toNat=x.toNat+y.toNat+c.toNat:=by omega
  have e2:B*((x+y+c)%18446744073709551616).toNat+B*(18446744073709551616*((x+y+c)/18446744073709551616).toNat)=B*x.toNat+B*y.toNat+B*c.toNat:=by
   rw[<-bQW,e,bQW,bQW]
  omega
theorem spec(x:List Int×Nat×Nat)(b:List Int)(k:Int)(h:(sp x b k).1):aF E f265 aE [(Aj eX .u64).put x,(pI .u64).put b,(pN .i64).put k]=some (sp x b k).2/\∃rs lB,(sp x b k).2=rs ++ [.io eX .u64 lB 0 0]/\lB.length=x.1.length:=by
 obtain⟨xl,xo,xn⟩:=x;obtain⟨hd,ho,hn,hb,hk,aAP,hl,hT⟩:=h;simp only at hd ho hn hb hk aAP hl hT;subst ho;subst hn;obtain⟨k,rfl⟩:=bQY hk;rw[bPS]at aAP hT;refine⟨(start xl 0 xl.length b k).trans ?_,[],_,rfl,M6.gA hT⟩;have:=bCK hl hb aAP hT b.length 0 xl 0 (by omega) rfl hd (by omega) (by omega) (by simp[M6.val]);exact this
def aH:dG:=orc3 (Aj eX .u64) (pI .u64) (pN .i64) sp
theorem fnok:kK prog E 265 f265 aE:=tG pD mixed (kG _ rfl aD (mF)) func265 rfl rfl rfl rfl rfl
theorem ok:oA prog base.glob 265 aH:=fnok.Al rfl spec
end nL
namespace Dd
def E:Env:={ ({ base with C:=oY [(265,nL.aH)] (callsOf [(226,xI.aH),(199,lL.prec)]),ioF:=Je [(265,nL.aH)],n0:=1,io:=[0] })with nt:=34,own:=[],keep:=fun k=>(tlook [(1,[0,1,2,6])] k).getD [],cut:=tlook [] }
def aE:=bd f249
theorem aU:Nk E aE:=nk
def L1(a:List Int)(b:Nat)(c:Nat) d f g:=nO E f249 aE 1 [(A.any,some { e:=(22:Nat),cont:=rI.ints u64 a }),(A.v (V.one (L.view 0 b c)),none),fW d,fW f,bP g]
theorem start al ao an b c:aF E f249 aE [D.io eX u64 al ao an,D.s (ints u64 b),D.s (ints u64 c)]=Dd.L1 al ao an b c 0:=eJ aU
theorem Lg a b c d e f:L1 a b c d e f=letI C:=(d.length:Int);letI B:=f+(e.length:Int);letI A:=bRS f.toNat (bRR (if C<i64.wrap B then C else i64.wrap B).toNat d);aB (decide (f<C)) (if 0<=f/\(f<=if C<i64.wrap B then C else i64.wrap B)/\((if C<i64.wrap B then C else i64.wrap B)<=if C<i64.wrap B then C else i64.wrap B)/\(if C<i64.wrap B then C else i64.wrap B)<=C then aO (M6.cE A/\A.length<=1099511627776) (aC (M6.dg (M6.val A)) fun g=>aO (lL.can g e) (aC (M6.dg (M6.val g*M6.val e)) fun h=>aO (M6.cE a/\b=0/\c=a.length/\M6.cE h/\0<=f/\f.toNat+h.length<=a.length/\a.length<=1099511627776/\M6.val a+M6.val h*(18446744073709551616:Nat)^f.toNat<(18446744073709551616:Nat)^a.length) (aC (M6.nR a.length (M6.val a+M6.val h*(18446744073709551616:Nat)^f.toNat)) fun i=>Dd.L1 i b c d e (i64.wrap B))))else none) (some [D.io 22 u64 a 0 0]):=lJ aU
def sp(x:List Int×Nat×Nat)(a b:List Int):Prop×List D:=(M6.cE x.1/\x.2.1=0/\x.2.2=x.1.length/\M6.cF a/\M6.cF b/\x.1.length=a.length+b.length/\x.1.length<=549755813888/\M6.val x.1=0/\0<b.length/\2*b.length<=a.length/\lL.less (a.length+b.length),
 [.io eX .u64 (M6.nR x.1.length (M6.val a*M6.val b)) 0 0])
theorem bCL{a b:List Int}{N:Nat}(hN:N<=549755813888)(ha:M6.cF a)(hb:M6.cF b)(bAY:N=a.length+b.length)(h0:0<b.length)(h2:2*b.length<=a.length)(hc:lL.less (a.length+b.length)):∀(r at_:Nat) (z:List Int),a.length<=at_+r->at_<=N->z.length=N->M6.cE z->M6.val z=M6.val (a.take at_)*M6.val b ->
  L1 z 0 N a b at_=some [.io eX .u64 (M6.nR N (M6.val a*M6.val b)) 0 0]:=by
 intro r
 induction r with
 |zero =>
  intro t z hr ht hz hd hv;rw[Lg,aI];rw[M6.cG (by omega)]at hv;rw[M6.nC hd hz hv]
 |succ r ih =>
  intro t z hr ht hz hd hv
  by_cases iN:t<a.length
  ·have w:i64.wrap ((t:Int)+(b.length:Int))=((t+b.length:Nat):Int):=by rw[wrap_i64];omega
   obtain⟨e,he⟩:∃e:Nat,e=min a.length (t+b.length):=⟨_,rfl⟩;have bJB:(if(a.length:Int)<((t+b.length:Nat):Int)then(a.length:Int)else((t+b.length:Nat):Int))=(e:Int):=by split <;> omega
   have Sg:((a.take e).drop t).length=e-t:=by rw[List.length_drop,bOM];omega
   have bEC:M6.cE ((a.take e).drop t):=(ha.iU.take _).drop _;have aZI:=M6.cO bEC;rw[Sg]at aZI;have Iw:M6.val (a.take e)=M6.val (a.take t)+18446744073709551616^t*M6.val ((a.take e).drop t):=by
    have:=M6.fX (a.take e) (n:=t) (by rw[bOM];omega);rw[List.take_take,show min t e=t from by omega]at this;exact this
   have bER:=M6.cO hb.iU;have gR:=M6.gH ha.iU e;have h1:M6.val ((a.take e).drop t)*M6.val b<18446744073709551616^(e-t+b.length):=by
    rw[bQX];exact bUK aZI bER
   have h3:M6.val (a.take e)*M6.val b<18446744073709551616^N:=by
    have:M6.val (a.take e)*M6.val b<18446744073709551616^(e+b.length):=by
     rw[bQX];exact bUK gR bER
    exact bMW this (M6.oG (by omega))
   have h4:M6.val z+M6.val ((a.take e).drop t)*M6.val b*18446744073709551616^t=M6.val (a.take e)*M6.val b:=by
    rw[hv,Iw,bMQ];congr 1;rw[bQU (18446744073709551616^t),bWW]
   rw[Lg,aN,w,bJB,if_pos ⟨by omega,by omega,by omega,by omega⟩];simp only[bPS];rw[gP ⟨bEC,by omega⟩,aK,gP (hc _ _ (M6.aW _) hb (by have:=M6.cR aZI;omega)),aK,M6.bI,M6.bI];have Dq:=M6.cR h1;rw[gP ⟨hd,by trivial,by omega,M6.iO _,by omega,by omega,by omega,by rw[h4,hz];exact h3⟩,aK,hz,h4];refine ih (t+b.length) _ (by omega) (by omega) (M6.gA h3) M6.kF ?_;rw[M6.kE];congr 1
   by_cases aUP:t+b.length<=a.length
   ·rw[he,Nat.min_eq_right aUP]
   ·rw[he,bSD (by omega),bSR,M6.cG (by omega)]
  ·rw[Lg,aI];rw[M6.cG (by omega)]at hv;rw[M6.nC hd hz hv]
theorem spec(x:List Int×Nat×Nat)(a b:List Int)(h:(sp x a b).1):aF E f249 aE [(Aj eX .u64).put x,(pI .u64).put a,(pI .u64).put b]=some (sp x a b).2/\∃rs lB,(sp x a b).2=rs ++ [.io eX .u64 lB 0 0]/\lB.length=x.1.length:=by
 obtain⟨xl,xo,xn⟩:=x;obtain⟨hd,ho,hn,ha,hb,hl,hN,hv,h0,h2,hc⟩:=h;simp only at hd ho hn hl hN hv;subst ho;subst hn;refine⟨(start xl 0 xl.length a b).trans ?_,[],_,rfl,M6.gA ?_⟩
 ·exact bCL hN ha hb hl h0 h2 hc a.length 0 xl (by omega) (by omega) rfl hd (by simp[hv,M6.val])
 ·show _<18446744073709551616^xl.length;rw[hl,bQX];exact bUK (M6.cO ha.iU) (M6.cO hb.iU)
def aH:dG:=orc3 (Aj eX .u64) (pI .u64) (pI .u64) sp
theorem fnok:kK prog E 249 f249 aE:=tG pD mixed (kI _ _ rfl rfl (kR nL.ok uW) (aA xI.ok (aA lL.Wk aD)) (mF)) func249 rfl rfl rfl rfl rfl
theorem ok:oA prog base.glob 249 aH:=fnok.Al rfl spec
end Dd
namespace aPT
def E:=mE [(226,xI.aH)] 29 [16,21] [] []
def aE:=bd f266
theorem aU:Nk E aE:=nk
theorem start a b:aF E f266 aE [D.s (ints u64 a),D.s (sc (int i64 b))]=letI C:=bRS 0 (bRR b.toNat a);letI A:=(a.length:Int);letI F:=bRR A.toNat a;letI B:=bRS 0 F;aB (decide (A<=b)) (if(0:Int)<=(0:Int)/\0<=A/\A<=A/\A<=A then aO (M6.cE B/\B.length<=1099511627776) (some [D.s (ints u64 (M6.dg (M6.val B))),D.s (sc (slice none 0 0))])else none) (if(0:Int)<=(0:Int)/\0<=b/\b<=b/\b<=A then aO (M6.cE C/\C.length<=1099511627776) (if 0<=b/\b<=A/\A<=A/\A<=A then some [D.s (ints u64 (M6.dg (M6.val C))),D.s (ints u64 (bRS b.toNat F))]else none)else none):=eJ aU
def sp(a:List Int)(k:Int):Prop×List D:=(M6.cF a/\a.length<=1099511627776/\0<=k,[.s (.ints .u64 (M6.dg (M6.val a%18446744073709551616^k.toNat))),.s (.ints .u64 (M6.dg (M6.val a/18446744073709551616^k.toNat)))])
theorem spec:El E f266 aE (pI .u64) (pN .i64) sp:=by
 rintro a k ⟨ha,hl,h0⟩;obtain⟨k,rfl⟩:=bQY h0;simp only[sp,bPS];have Yx:=start a (k:Int)
 by_cases hk:a.length<=k
 ·rw[aN,aT,bPS,bSR,bSE,gP ⟨ha.iU,hl⟩]at Yx;refine⟨_,Yx,?_⟩;have h1:M6.val a<18446744073709551616^k:=bMW (M6.cO ha.iU) (M6.oG hk);rw[bWL h1,bRT h1,M6.bJ];exact .cons (.refl _) (.cons (.nil _) .nil)
 ·rw[aI,aT,bPS,bPS,bSE,gP ⟨ha.iU.take _,by rw[bOM];omega⟩,aT,bSR,M6.qO ha.iU]at Yx;refine⟨_,Yx,?_⟩;have h2:a.drop k=M6.dg (M6.val a/18446744073709551616^k):=by
   rw[<-M6.jD ha.iU];exact M6.Pr ha k
  rw[h2];exact .refl _
def aH:dG:=orc2 (pI .u64) (pN .i64) sp
theorem ok:OK 266 aH:=(eF E aE (aA xI.ok aD) func266).aAF rfl spec
end aPT
namespace PSum
def E:Env:={ ({ base with C:=oY [(265,nL.aH)] (callsOf [(226,xI.aH)]),ioF:=Je [(265,nL.aH)] })with nt:=25,own:=[24],keep:=fun k=>(tlook [] k).getD [],cut:=tlook [(3,[0,1])] }
def aE:=bd f267
theorem aU:Nk E aE:=nk
def J3 a b:=kV E f267 aE 3 [fW a,fW b]
theorem start a b:aF E f267 aE [D.s (ints u64 a),D.s (ints u64 b)]=aB (decide ((a.length:Int)<(b.length:Int))) (PSum.J3 b a) (PSum.J3 a b):=eJ aU
theorem fR a b:J3 a b=letI F:=(a.length:Int);letI G:=F+(1:Int);letI B:=i64.wrap G;letI A:=bRR B.toNat a ++ bRS (min a.length B.toNat) (bNZ B.toNat (0:Int));letI C:=M6.nR A.length (M6.val A+M6.val b*1);if 0<=i64.wrap G/\i64.wrap G<=i64.wrap G/\i64.wrap G<=8796093022208 then aO (M6.cE A/\(0:Nat)=(0:Nat)/\B.toNat=A.length/\M6.cE b/\(0:Int)<=(0:Int)/\(0:Nat)+b.length<=A.length/\A.length<=1099511627776/\M6.val A+M6.val b*1<(18446744073709551616:Nat)^A.length) (aO (M6.cE C/\C.length<=1099511627776) (some [D.s (ints u64 (M6.dg (M6.val C)))]))else none:=cJ aU
def sp(a b:List Int):Prop×List D:=(M6.cF a/\M6.cF b/\a.length<=549755813888/\b.length<=549755813888,[.s (.ints .u64 (M6.dg (M6.val a+M6.val b)))])
theorem aJU{a:List Int}{n:Nat}:bRR (a.length+n) a ++ bRS (min a.length (a.length+n)) (bNZ (a.length+n) (0:Int))=a ++ bNZ n 0:=by
 rw[bTH (by omega),bXL];congr 2;omega
theorem J{a b:List Int}(ha:M6.cF a)(hb:M6.cF b)(hl:a.length<=549755813888)(aMB:b.length<=a.length):J3 a b=some [.s (.ints .u64 (M6.dg (M6.val a+M6.val b)))]:=by
 have w:i64.wrap ((a.length:Int)+1)=((a.length+1:Nat):Int):=by rw[wrap_i64];omega
 have h1:=M6.cO ha.iU;have h2:=M6.cO hb.iU;have h3:=M6.oG aMB;have aIX:M6.val a+M6.val b<18446744073709551616^(a.length+1):=by rw[bQV];omega
 have hv:M6.val (a ++ bNZ 1 0)=M6.val a:=by rw[M6.iA,M6.iG];omega
 rw[fR,w,bPS,aJU,aT,hv,bMG,bMZ,bXI,
  gP ⟨M6.oN.2 ⟨ha.iU,M6.iI _⟩,rfl,rfl,hb.iU,by omega,by omega,by omega,aIX⟩,gP ⟨M6.kF,by rw[M6.gA aIX];omega⟩,M6.kE]
theorem spec:fI E f267 aE (pI .u64) (pI .u64) sp:=by
 rintro a b ⟨ha,hb,h1,h2⟩;refine(start a b).trans ?_
 by_cases hl:a.length<b.length
 ·rw[aN,J hb ha h2 (by omega),bRX];rfl
 ·rw[aI,J ha hb h1 (by omega)];rfl
def aH:dG:=orc2 (pI .u64) (pI .u64) sp
theorem fnok:qI prog E 267 f267 aE:=Zj pD mixed (kI _ _ rfl rfl (kR nL.ok uW) (aA xI.ok aD) (mF)) func267 rfl rfl rfl
theorem ok:kZ prog base.glob 267 aH:=fnok.lA rfl spec
end PSum
namespace Dy
def E:Env:={ ({ base with n0:=1,io:=[0] })with nt:=47,own:=[],keep:=fun k=>(tlook [(7,[0,4,6]),(2,[0,1,4,8,9])] k).getD [],cut:=tlook [] }
def aE:=bd f268
theorem aU:Nk E aE:=nk
def L2(a:List Int)(b:Nat)(c:Nat) d f g h:=nO E f268 aE 2 [(A.any,some { e:=(22:Nat),cont:=rI.ints u64 a }),(A.v (V.one (L.view 0 b c)),none),fW d,cZ f,bP g,bP h]
def L7(a:List Int)(b:Nat)(c:Nat) d f:=nO E f268 aE 7 [(A.any,some { e:=(22:Nat),cont:=rI.ints u64 a }),(A.v (V.one (L.view 0 b c)),none),cZ d,bP f]
theorem start al ao an b:aF E f268 aE [D.io eX u64 al ao an,D.s (ints u64 b)]=Dy.L2 al ao an b 0 (b.length:Int) 0:=eJ aU
theorem jZ a b c d e f g:L2 a b c d e f g=letI A:=b+g.toNat;aB (decide (g<f)) (if 0<=g/\g<(c:Int)then if 0<=g/\g<(d.length:Int)then aO (0<=a.getD A 0/\0<=d.getD g.toNat 0/\d.getD g.toNat 0<(18446744073709551616:Int)/\0<=e/\e<=1) (if 0<=g/\g<(c:Int)then Dy.L2 (a.set A ((a.getD A 0-d.getD g.toNat 0-e)%18446744073709551616)) b c d (if a.getD A 0<d.getD g.toNat 0+e then(1:Int)else(0:Int)) f (i64.wrap (g+1))else none)else none else none) (Dy.L7 a b c e (d.length:Int)):=lJ aU
theorem uF a b c d e:L7 a b c d e=letI A:=b+e.toNat;aB (decide (0<d)) (if 0<=e/\e<(c:Int)then aO (0<=a.getD A 0/\(0:Int)<=(0:Int)/\(0:Int)<(18446744073709551616:Int)/\0<=d/\d<=1) (if 0<=e/\e<(c:Int)then Dy.L7 (a.set A ((a.getD A 0-(0:Int)-d)%18446744073709551616)) b c (if a.getD A 0<(0:Int)+d then(1:Int)else(0:Int)) (i64.wrap (e+1))else none)else none) (some [D.io 22 u64 a 0 0]):=lJ aU
def sp(x:List Int×Nat×Nat)(b:List Int):Prop×List D:=(M6.cE x.1/\x.2.1=0/\x.2.2=x.1.length/\M6.cE b/\b.length<=x.1.length/\x.1.length<=1099511627776/\M6.val b<=M6.val x.1,
 [.io eX .u64 (M6.nR x.1.length (M6.val x.1-M6.val b)) 0 0])
theorem bCI{V W N:Nat}(hN:N<=1099511627776)(hT:W<=V):∀(r j:Nat) (z:List Int) (c:Int),j+r=N+1->z.length=N->M6.cE z->0<=c->c<=1->M6.val z+W=V+18446744073709551616^j*c.toNat ->
  L7 z 0 N c j=some [.io eX .u64 (M6.nR N (V-W)) 0 0]:=by
 intro r
 induction r with
 |zero =>
  intro j z c hj hz hd h0 h1 hv;have hc:c=0:=by
   have h2:=M6.oG (show N<=j by omega);have h3:=M6.cO hd;rw[hz]at h3;rcases bXK 0 c with h4 |h4
   ·have:c=1:=by omega
    subst this;simp at hv;omega
   ·omega
  subst hc;rw[uF,aI];simp at hv;rw[M6.nC hd hz (v:=V-W) (by omega)]
 |succ r ih =>
  intro j z c hj hz hd h0 h1 hv
  by_cases hc:c=0
  ·subst hc;rw[uF,aI];simp at hv;rw[M6.nC hd hz (v:=V-W) (by omega)]
  ·have aQW:c=1:=by omega
   subst aQW;have bIW:j<N:=by
    rcases bML j N with h |h
    ·exact h
    ·have h2:=M6.oG h;have h3:=M6.cO hd;rw[hz]at h3;simp at hv;omega
   have g:=hd.get j;have w2:i64.wrap ((j:Int)+1)=((j+1:Nat):Int):=by rw[wrap_i64];omega
   rw[uF,aN,aT,bLY,bPS,gP ⟨g.1,by omega,by omega,by omega,by omega⟩,aT,w2];refine ih (j+1) _ _ (by omega) (by simp[hz]) (M6.lT hd (by omega)) (by split <;> omega) (by split <;> omega) ?_;have hs:=M6.oR (a:=z) (j:=j) (by omega) ((z.getD j 0-0-1)%18446744073709551616);rw[bQV,bQZ];generalize z.getD j 0=x at *;generalize M6.val (z.set j _)=U at *;generalize 18446744073709551616^j=B at *;have e:((x-0-1)%18446744073709551616).toNat+1=x.toNat+18446744073709551616*(if x<0+1 then(1:Int)else 0).toNat:=by split <;> omega
   have e2:B*((x-0-1)%18446744073709551616).toNat+B=B*x.toNat+B*(18446744073709551616*(if x<0+1 then(1:Int)else 0).toNat):=by
    rw[<-bQW,<-e,bQW,bMG]
   simp at hv;omega
theorem bCK{b:List Int}{V N:Nat}(hN:N<=1099511627776)(hb:M6.cE b)(hk:b.length<=N)(hT:M6.val b<=V):∀(r i:Nat) (z:List Int) (c:Int),i+r=b.length->z.length=N->M6.cE z->0<=c->c<=1 ->
  M6.val z+M6.val (b.take i)=V+18446744073709551616^i*c.toNat ->
  L2 z 0 N b c b.length i=some [.io eX .u64 (M6.nR N (V-M6.val b)) 0 0]:=by
 intro r
 induction r with
 |zero =>
  intro i z c hi hz hd h0 h1 hv;rw[jZ,aI];have aOJ:i=b.length:=by omega
  subst aOJ;rw[bSR]at hv;exact bCI hN hT (N+1-b.length) b.length z c (by omega) hz hd h0 h1 hv
 |succ r ih =>
  intro i z c hi hz hd h0 h1 hv;have g:=hd.get i;have g2:=hb.get i;have w2:i64.wrap ((i:Int)+1)=((i+1:Nat):Int):=by rw[wrap_i64];omega
  rw[jZ,aN,aT,aT,bLY,bPS,gP ⟨g.1,g2.1,g2.2,h0,h1⟩,aT,w2];refine ih (i+1) _ _ (by omega) (by simp[hz]) (M6.lT hd (by omega)) (by split <;> omega) (by split <;> omega) ?_;have hs:=M6.oR (a:=z) (j:=i) (by omega) ((z.getD i 0-b.getD i 0-c)%18446744073709551616);rw[M6.cD,bQV,bQZ];generalize z.getD i 0=x at *;generalize b.getD i 0=y at *;generalize M6.val (z.set i _)=W at *;generalize 18446744073709551616^i=B at *;generalize M6.val (b.take i)=U at *;have e:((x-y-c)%18446744073709551616).toNat+y.toNat+c.toNat=x.toNat+18446744073709551616*(if x<y+c then(1:Int)else 0).toNat:=by split <;> omega
  have e2:B*((x-y-c)%18446744073709551616).toNat+B*y.toNat+B*c.toNat=B*x.toNat+B*(18446744073709551616*(if x<y+c then(1:Int)else 0).toNat):=by
   rw[<-bQW,<-bQW,e,bQW]
  omega
theorem spec(x:List Int×Nat×Nat)(b:List Int)(h:(sp x b).1):aF E f268 aE [(Aj eX .u64).put x,(pI .u64).put b]=some (sp x b).2/\∃rs lB,(sp x b).2=rs ++ [.io eX .u64 lB 0 0]/\lB.length=x.1.length:=by
 obtain⟨xl,xo,xn⟩:=x;obtain⟨hd,ho,hn,hb,aAP,hl,hT⟩:=h;simp only at hd ho hn hb aAP hl hT;subst ho;subst hn;refine⟨(start xl 0 xl.length b).trans ?_,[],_,rfl,M6.gA (by have:=M6.cO hd;simp only;omega)⟩;have:=bCK hl hb aAP hT b.length 0 xl 0 (by omega) rfl hd (by omega) (by omega) (by simp[M6.val]);exact this
def aH:dG:=orc2 (Aj eX .u64) (pI .u64) sp
theorem fnok:kK prog E 268 f268 aE:=tG pD mixed (kG _ rfl aD (mF)) func268 rfl rfl rfl rfl rfl
theorem ok:oA prog base.glob 268 aH:=fnok.lA rfl spec
end Dy
namespace Fl
def E:Env:={ ({ base with C:=oY [(265,nL.aH),(268,Dy.aH)] (callsOf [(226,xI.aH),(266,aPT.aH),(267,PSum.aH),(199,lL.prec)]),ioF:=Je [(265,nL.aH),(268,Dy.aH)],n0:=1,io:=[0] })with nt:=62,own:=[42],keep:=fun k=>(tlook [] k).getD [],cut:=tlook [] }
def aE:=bd f250
theorem aU:Nk E aE:=nk
theorem start al ao an b c:aF E f250 aE [D.io eX u64 al ao an,D.s (ints u64 b),D.s (ints u64 c)]=letI B:=i64.wrap ((b.length:Int)+(1:Int));letI H:=B.tdiv 2;letI F:=i64.wrap ((2:Int)*i64.wrap H);letI C:=i64.wrap H;aO (M6.cF b/\b.length<=1099511627776/\0<=i64.wrap H) (aC (M6.dg (M6.val b%(18446744073709551616:Nat)^C.toNat)) fun a=>aC (M6.dg (M6.val b/(18446744073709551616:Nat)^C.toNat)) fun d=>aO (M6.cF c/\c.length<=1099511627776/\0<=i64.wrap H) (aC (M6.dg (M6.val c%(18446744073709551616:Nat)^C.toNat)) fun e=>aC (M6.dg (M6.val c/(18446744073709551616:Nat)^C.toNat)) fun f=>aO (lL.can a e) (aC (M6.dg (M6.val a*M6.val e)) fun g=>letI A:=bRR ao al ++ (bRR an g ++ bRS (ao+min g.length an) al);aO (lL.can d f) (aC (M6.dg (M6.val d*M6.val f)) fun h=>aO (M6.cF a/\M6.cF d/\a.length<=549755813888/\d.length<=549755813888) (aC (M6.dg (M6.val a+M6.val d)) fun i=>aO (M6.cF e/\M6.cF f/\e.length<=549755813888/\f.length<=549755813888) (aC (M6.dg (M6.val e+M6.val f)) fun j=>aO (lL.can i j) (aC (M6.dg (M6.val i*M6.val j)) fun k=>aO (M6.cE k/\(0:Nat)=(0:Nat)/\k.length=k.length/\M6.cE g/\g.length<=k.length/\k.length<=1099511627776/\M6.val g<=M6.val k) (aC (M6.nR k.length (M6.val k-M6.val g)) fun l=>aO (M6.cE l/\(0:Nat)=(0:Nat)/\k.length=l.length/\M6.cE h/\h.length<=l.length/\l.length<=1099511627776/\M6.val h<=M6.val l) (aC (M6.nR l.length (M6.val l-M6.val h)) fun m=>letI G:=M6.dg (M6.val m);if u64=u64/\ao+an<=al.length then aO (M6.cE m/\m.length<=1099511627776) (aO (M6.cE A/\ao=0/\an=A.length/\M6.cE G/\0<=i64.wrap H/\C.toNat+G.length<=A.length/\A.length<=1099511627776/\M6.val A+M6.val G*(18446744073709551616:Nat)^C.toNat<(18446744073709551616:Nat)^A.length) (aC (M6.nR A.length (M6.val A+M6.val G*(18446744073709551616:Nat)^C.toNat)) fun n=>aO (M6.cE n/\ao=0/\an=n.length/\M6.cE h/\0<=i64.wrap ((2:Int)*i64.wrap H)/\F.toNat+h.length<=n.length/\n.length<=1099511627776/\M6.val n+M6.val h*(18446744073709551616:Nat)^F.toNat<(18446744073709551616:Nat)^n.length) (aC (M6.nR n.length (M6.val n+M6.val h*(18446744073709551616:Nat)^F.toNat)) fun o=>some [D.io 22 u64 o 0 0])))else none))))))))):=eJ aU
def sp(x:List Int×Nat×Nat)(a b:List Int):Prop×List D:=(M6.cE x.1/\x.2.1=0/\x.2.2=x.1.length/\M6.cF a/\M6.cF b/\x.1.length=a.length+b.length/\x.1.length<=274877906944/\M6.val x.1=0/\4<=b.length/\b.length<=a.length/\lL.less (a.length+b.length),
 [.io eX .u64 (M6.nR x.1.length (M6.val a*M6.val b)) 0 0])
theorem aYH(a0 a1 b0 b1 K:Nat):(a0+K*a1)*(b0+K*b1)=a0*b0+(a0*b1+a1*b0)*K+a1*b1*(K*K):=by grind
theorem aYG(a0 a1 b0 b1:Nat):(a0+a1)*(b0+b1)=a0*b0+a1*b1+(a0*b1+a1*b0):=by grind
theorem Bq{v n k:Nat}(h:v<18446744073709551616^n):v/18446744073709551616^k<18446744073709551616^(n-k):=by
 apply bRQ;rw[<-bQX];exact bMW h (M6.oG (by omega))
theorem Wm{v k N:Nat}(hk:k<=N)(h:v*18446744073709551616^k<18446744073709551616^N):v<18446744073709551616^(N-k):=by
 have e:18446744073709551616^N=18446744073709551616^(N-k)*18446744073709551616^k:=by rw[<-bQX];congr 1;omega
 rw[e]at h;exact Nat.lt_of_mul_lt_mul_right h
theorem spec(x:List Int×Nat×Nat)(a b:List Int)(h:(sp x a b).1):aF E f250 aE [(Aj eX .u64).put x,(pI .u64).put a,(pI .u64).put b]=some (sp x a b).2/\∃rs lB,(sp x a b).2=rs ++ [.io eX .u64 lB 0 0]/\lB.length=x.1.length:=by
 obtain⟨xl,xo,xn⟩:=x;obtain⟨hd,ho,hn,ha,hb,hl,hN,hv,h4,aMB,hc⟩:=h;simp only at hd ho hn hl hN hv;subst ho;subst hn;have aED:=M6.cO ha.iU;have aXD:=M6.cO hb.iU;have aUZ:M6.val a*M6.val b<18446744073709551616^xl.length:=by rw[hl,bQX];exact bUK aED aXD
 refine⟨(start xl 0 xl.length a b).trans ?_,[],_,rfl,M6.gA aUZ⟩;obtain⟨k,hk⟩:∃k:Nat,k=(a.length+1)/2:=⟨_,rfl⟩;have w:i64.wrap ((i64.wrap ((a.length:Int)+1)).tdiv 2)=(k:Int):=by
  rw[wrap_i64 (n:=(a.length:Int)+1),bTL (by omega),wrap_i64];omega
 have w2:i64.wrap (2*(k:Int))=((2*k:Nat):Int):=by rw[wrap_i64];omega
 have Sc:xl=bNZ xl.length 0:=by
  have:=M6.nC hd rfl hv;rw[M6.aEK]at this;exact this
 rw[w,w2,gP ⟨ha,by omega,by omega⟩];simp only[aK,bPS];have a0l:=M6.cR (bOE (M6.val a) (bOV (n:=k) (by omega:0<18446744073709551616)));have b0l:=M6.cR (bOE (M6.val b) (bOV (n:=k) (by omega:0<18446744073709551616)));have a1l:=M6.cR (Bq (k:=k) aED);have b1l:=M6.cR (Bq (k:=k) aXD);have hA:=bWN (M6.val a) (18446744073709551616^k);have hB:=bWN (M6.val b) (18446744073709551616^k);have ea0:M6.val a%18446744073709551616^k<18446744073709551616^k:=bOE _ (cP);have eb0:M6.val b%18446744073709551616^k<18446744073709551616^k:=bOE _ (cP);have ea1:M6.val a/18446744073709551616^k<18446744073709551616^k:=bMW (Bq aED) (M6.oG (by omega));have eb1:M6.val b/18446744073709551616^k<18446744073709551616^k:=bMW (Bq aXD) (M6.oG (by omega));generalize M6.val a%18446744073709551616^k=a0 at *;generalize M6.val a/18446744073709551616^k=a1 at *;generalize M6.val b%18446744073709551616^k=b0 at *;generalize M6.val b/18446744073709551616^k=b1 at *;have s6:a0+a1<18446744073709551616^(k+1):=by rw[bQV];omega
 have s7:b0+b1<18446744073709551616^(k+1):=by rw[bQV];omega
 have s6l:=M6.cR s6;have s7l:=M6.cR s7;have Wz:=aYH a0 a1 b0 b1 (18446744073709551616^k);rw[hA,hB]at Wz;have hmid:=aYG a0 a1 b0 b1;have s8:(a0+a1)*(b0+b1)<18446744073709551616^(2*(k+1)):=by
  rw[Nat.two_mul,bQX];exact bUK s6 s7
 have s8l:=M6.cR s8;have bKO:18446744073709551616^k*18446744073709551616^k=18446744073709551616^(2*k):=by rw[<-bQX,Nat.two_mul]
 rw[bKO]at Wz;have low:a0*b0<=(a0+a1)*(b0+b1):=by omega
 have aZN:=M6.sV low;have aYD:a1*b1<=(a0+a1)*(b0+b1):=by omega
 have aZM:=M6.sV aYD;rw[gP ⟨hb,by omega,by omega⟩,gP (hc _ _ (M6.aW _) (M6.aW _) (by omega)),gP (hc _ _ (M6.aW _) (M6.aW _) (by omega)),gP ⟨M6.aW _,M6.aW _,by omega,by omega⟩,gP ⟨M6.aW _,M6.aW _,by omega,by omega⟩];simp only[M6.bI];have f9:(a0+a1)*(b0+b1)-a0*b0<18446744073709551616^(M6.dg ((a0+a1)*(b0+b1))).length:=by
  have:=M6.tQ (n:=(a0+a1)*(b0+b1));omega
 have bKZ:=M6.gA f9;rw[gP (hc _ _ (M6.aW _) (M6.aW _) (by omega)),gP ⟨M6.iO _,by trivial,by trivial,M6.iO _,aZN,by omega,low⟩,bKZ,M6.kE,
  gP ⟨M6.kF,by trivial,by trivial,M6.iO _,aZM,by omega,by omega⟩]
 have bLI:(a0+a1)*(b0+b1)-a0*b0-a1*b1=a0*b1+a1*b0:=by omega
 rw[bLI];have f10:a0*b1+a1*b0<18446744073709551616^(M6.dg ((a0+a1)*(b0+b1))).length:=by
  have:=M6.tQ (n:=(a0+a1)*(b0+b1));omega
 have Tr:a0*b0<18446744073709551616^xl.length:=by omega
 have bEH:=M6.cR Tr;have aUO:bRR 0 xl ++ (bRR xl.length (M6.dg (a0*b0)) ++ bRS (0+min (M6.dg (a0*b0)).length xl.length) xl)=M6.nR xl.length (a0*b0):=by
  rw[bPX,bPY,bTH bEH,bLY,bSD bEH]
  conv=>lhs;rw[Sc,bXL]
  rfl
 rw[aUO,if_pos ⟨by trivial,by omega⟩,gP ⟨M6.kF,by rw[M6.gA f10];omega⟩,M6.kE,M6.kE,M6.gA Tr];have bIJ:(a0*b1+a1*b0)*18446744073709551616^k<18446744073709551616^xl.length:=by omega
 have aTS:=M6.cR (Wm (by omega) bIJ);have aTD:a0*b0+(a0*b1+a1*b0)*18446744073709551616^k<18446744073709551616^xl.length:=by omega
 rw[gP ⟨M6.kF,by trivial,by trivial,M6.iO _,by omega,by omega,by omega,aTD⟩,M6.gA aTD,M6.kE];have bJD:a1*b1*18446744073709551616^(2*k)<18446744073709551616^xl.length:=by omega
 have hhl:=M6.cR (Wm (by omega) bJD);rw[gP ⟨M6.kF,by trivial,by trivial,M6.iO _,by omega,by omega,by omega,by rw[<-Wz];exact aUZ⟩,<-Wz];rfl
def aH:dG:=orc3 (Aj eX .u64) (pI .u64) (pI .u64) sp
theorem fnok:kK prog E 250 f250 aE:=tG pD mixed (kI _ _ rfl rfl (kR nL.ok (kR Dy.ok uW)) (aA xI.ok (aA aPT.ok (aA PSum.ok (aA lL.Wk aD)))) (mF)) func250 rfl rfl rfl rfl rfl
theorem ok:oA prog base.glob 250 aH:=fnok.Al rfl spec
end Fl
namespace Lb
def E:Env:={ ({ base with C:=oY [(248,Dz.aH),(249,Dd.aH),(250,Fl.aH)] (callsOf []),ioF:=Je [(248,Dz.aH),(249,Dd.aH),(250,Fl.aH)],n0:=1,io:=[0] })with nt:=36,own:=[],keep:=fun k=>(tlook [] k).getD [],cut:=tlook [(3,[0,1,2])] }
def aE:=bd f225
theorem aU:Nk E aE:=nk
def J3(a:List Int)(b:Nat)(c:Nat) d f:=kV E f225 aE 3 [(A.any,some { e:=(22:Nat),cont:=rI.ints u64 a }),(A.v (V.one (L.view 0 b c)),none),fW d,fW f]
theorem start al ao an b c:aF E f225 aE [D.io eX u64 al ao an,D.s (ints u64 b),D.s (ints u64 c)]=aB (decide ((b.length:Int)<(c.length:Int))) (Lb.J3 al ao an c b) (Lb.J3 al ao an b c):=eJ aU
theorem fR a b c d e:J3 a b c d e=letI B:=d.length+e.length;letI A:=some [D.io 22 u64 (M6.nR a.length (M6.val d*M6.val e)) 0 0];aB (decide ((e.length:Int)<(40:Int))) (aO (M6.cE a/\b=0/\c=a.length/\M6.cE d/\M6.cE e/\a.length=d.length+e.length/\a.length<=1099511627776/\M6.val a=0) A) (aB (decide (i64.wrap ((2:Int)*(e.length:Int))<=(d.length:Int))) (aO (M6.cE a/\b=0/\c=a.length/\M6.cF d/\M6.cF e/\a.length=d.length+e.length/\a.length<=549755813888/\M6.val a=0/\0<e.length/\(2:Nat)*e.length<=d.length/\lL.less B) A) (aO (M6.cE a/\b=0/\c=a.length/\M6.cF d/\M6.cF e/\a.length=d.length+e.length/\a.length<=274877906944/\M6.val a=0/\4<=e.length/\e.length<=d.length/\lL.less B) A)):=cJ aU
def sp(x:List Int×Nat×Nat)(a b:List Int):Prop×List D:=(M6.cE x.1/\x.2.1=0/\x.2.2=x.1.length/\M6.cF a/\M6.cF b/\x.1.length=a.length+b.length/\x.1.length<=274877906944/\M6.val x.1=0/\lL.less (a.length+b.length),
 [.io eX .u64 (M6.nR x.1.length (M6.val a*M6.val b)) 0 0])
theorem J{z a b:List Int}(hd:M6.cE z)(ha:M6.cF a)(hb:M6.cF b)(hl:z.length=a.length+b.length)(hN:z.length<=274877906944)(hv:M6.val z=0)(hc:lL.less (a.length+b.length))(aMB:b.length<=a.length) :
  J3 z 0 z.length a b=some [.io eX .u64 (M6.nR z.length (M6.val a*M6.val b)) 0 0]:=by
 have w:i64.wrap (2*(b.length:Int))=((2*b.length:Nat):Int):=by rw[wrap_i64];omega
 rw[fR,w]
 by_cases h1:b.length<40
 ·rw[aN,gP ⟨hd,rfl,rfl,ha.iU,hb.iU,hl,by omega,hv⟩]
 ·rw[aI]
  by_cases h2:2*b.length<=a.length
  ·rw[aN,gP ⟨hd,rfl,rfl,ha,hb,hl,by omega,hv,by omega,h2,hc⟩]
  ·rw[aI,gP ⟨hd,rfl,rfl,ha,hb,hl,by omega,hv,by omega,aMB,hc⟩]
theorem spec(x:List Int×Nat×Nat)(a b:List Int)(h:(sp x a b).1):aF E f225 aE [(Aj eX .u64).put x,(pI .u64).put a,(pI .u64).put b]=some (sp x a b).2/\∃rs lB,(sp x a b).2=rs ++ [.io eX .u64 lB 0 0]/\lB.length=x.1.length:=by
 obtain⟨xl,xo,xn⟩:=x;obtain⟨hd,ho,hn,ha,hb,hl,hN,hv,hc⟩:=h;simp only at hd ho hn hl hN hv;subst ho;subst hn;refine⟨(start xl 0 xl.length a b).trans ?_,[],_,rfl,M6.gA ?_⟩
 ·by_cases iN:a.length<b.length
  ·rw[aN,J hd hb ha (by omega) hN hv (by rw[bRX];exact hc) (by omega),bQU];rfl
  ·rw[aI,J hd ha hb hl hN hv hc (by omega)];rfl
 ·show _<18446744073709551616^xl.length;rw[hl,bQX];exact bUK (M6.cO ha.iU) (M6.cO hb.iU)
def aH:dG:=orc3 (Aj eX .u64) (pI .u64) (pI .u64) sp
theorem fnok:kK prog E 225 f225 aE:=tG pD mixed (kI _ _ rfl rfl (kR Dz.ok (kR Dd.ok (kR Fl.ok uW))) aD (mF)) func225 rfl rfl rfl rfl rfl
theorem ok:oA prog base.glob 225 aH:=fnok.Al rfl spec
end Lb
namespace Dc
def E:Env:={ ({ base with n0:=1,io:=[0] })with nt:=22,own:=[],keep:=fun k=>(tlook [(2,[0,3])] k).getD [],cut:=tlook [] }
def aE:=bd f226
theorem aU:Nk E aE:=nk
def L2(a:List Int)(b:Nat)(c:Nat) d:=nO E f226 aE 2 [(A.any,some { e:=(22:Nat),cont:=rI.ints u64 a }),(A.v (V.one (L.view 0 b c)),none),bP d]
theorem start al ao an:aF E f226 aE [D.io eX u64 al ao an]=Dc.L2 al ao an (an:Int):=eJ aU
theorem jZ a b c d:L2 a b c d=aB (decide (0<d)) (if 0<=i64.wrap (d-1)/\i64.wrap (d-1)<(c:Int)then aB (a.getD (b+(i64.wrap (d-1)).toNat) 0==(0:Int)) (Dc.L2 a b c (i64.wrap (d-1))) (if(0:Int)<=(0:Int)/\0<=d/\d<=d/\d<=(c:Int)then some [D.back 0 (b+0) (d.toNat-0),D.io 22 u64 a 0 0]else none)else none) (if(0:Int)<=(0:Int)/\0<=d/\d<=d/\d<=(c:Int)then some [D.back 0 (b+0) (d.toNat-0),D.io 22 u64 a 0 0]else none):=lJ aU
def sp(x:List Int×Nat×Nat):Prop×List D:=(M6.cE x.1/\x.2.1=0/\x.2.2=x.1.length/\x.1.length<=1099511627776,[.back 0 0 (M6.dg (M6.val x.1)).length,.io eX .u64 x.1 0 0])
theorem L{xs:List Int}(hd:M6.cE xs)(hl:xs.length<=4398046511104):∀n:Nat,n<=xs.length->L2 xs 0 xs.length n=some [.back 0 0 (M6.dg (M6.val (xs.take n))).length,.io eX .u64 xs 0 0]
 |0,h=>by
  rw[jZ,aI,aT];simp[M6.val,M6.bJ]
 |n+1,h=>by
  rw[jZ];have e:i64.wrap (((n+1:Nat):Int)-1)=(n:Int):=by rw[wrap_i64];omega
  rw[e,aN,aT,bPS,bLY]
  by_cases hz:xs.getD n 0=0
  ·rw[cN hz,L hd hl n (by omega),M6.jO (by omega),hz];simp
  ·rw[bV hz,aT,bPS];have:M6.cF (xs.take (n+1)):=M6.wL (hd.take _) fun d hg=>by
    rw[M6.getLast_take (by omega)]at hg;cases hg;exact hz
   have hlen:(xs.take (n+1)).length=n+1:=by rw[bOM];omega
   rw[<-this,hlen];rfl
theorem spec(x:List Int×Nat×Nat)(h:(sp x).1):aF E f226 aE [(Aj eX .u64).put x]=some (sp x).2/\∃rs lB,(sp x).2=rs ++ [.io eX .u64 lB 0 0]/\lB.length=x.1.length:=by
 obtain⟨xl,xo,xn⟩:=x;obtain⟨hd,ho,hn,hl⟩:=h;simp only at hd ho hn hl;subst ho;subst hn;refine⟨(start xl 0 xl.length).trans ?_,[_],xl,rfl,rfl⟩;rw[L hd (by omega) xl.length (bLW _),bSR];rfl
def aH:dG:=orc1 (Aj eX .u64) sp
theorem fnok:kK prog E 226 f226 aE:=tG pD mixed (kG _ rfl aD (mF)) func226 rfl rfl rfl rfl rfl
theorem ok:oA prog base.glob 226 aH:=fnok.nN rfl spec
end Dc
namespace Ig
def E:Env:={ ({ base with C:=oY [(225,Lb.aH),(226,Dc.aH)] (callsOf []),ioF:=Je [(225,Lb.aH),(226,Dc.aH)] })with nt:=18,own:=[17],keep:=fun k=>(tlook [] k).getD [],cut:=tlook [] }
def aE:=bd f199
theorem aU:Nk E aE:=nk
theorem start a b:aF E f199 aE [D.s (ints u64 a),D.s (ints u64 b)]=letI F:=(a.length:Int);letI G:=F+(b.length:Int);letI C:=i64.wrap G;letI A:=bNZ C.toNat (0:Int);letI B:=M6.nR A.length (M6.val a*M6.val b);if 0<=i64.wrap G/\i64.wrap G<=i64.wrap G/\i64.wrap G<=8796093022208 then aO (M6.cE A/\(0:Nat)=(0:Nat)/\C.toNat=A.length/\M6.cF a/\M6.cF b/\A.length=a.length+b.length/\A.length<=274877906944/\M6.val A=0/\lL.less (a.length+b.length)) (aO (M6.cE B/\(0:Nat)=(0:Nat)/\C.toNat=B.length/\B.length<=1099511627776) (some [D.own 22 u64 (bRR (M6.dg (M6.val B)).length B)]))else none:=eJ aU
theorem eval{a b:List Int}(ha:M6.cF a)(hb:M6.cF b)(hN:a.length+b.length<=274877906944)(hc:lL.less (a.length+b.length)):aF E f199 aE [(pI .u64).put a,(pI .u64).put b]=some [.own eX .u64 (M6.dg (M6.val a*M6.val b))]:=by
 refine(start a b).trans ?_;have w:i64.wrap ((a.length:Int)+(b.length:Int))=((a.length+b.length:Nat):Int):=by rw[wrap_i64];omega
 have aUZ:M6.val a*M6.val b<18446744073709551616^(a.length+b.length):=by rw[bQX];exact bUK (M6.cO ha.iU) (M6.cO hb.iU)
 rw[w,aT];simp only[bPS,bXI];rw[gP ⟨M6.iI _,by trivial,by trivial,ha,hb,by trivial,hN,M6.iG _,hc⟩,gP ⟨M6.kF,by trivial,(M6.gA aUZ).symm,by rw[M6.gA aUZ];omega⟩,M6.kE,M6.aEL]
theorem fnok:qI prog E 199 f199 aE:=Zj pD mixed (kI _ _ rfl rfl (kR Lb.ok (kR Dc.ok uW)) aD (mF)) func199 rfl rfl rfl
theorem all(n:Nat)(hn:n<=274877906944):lL.less (n+1):=by
 induction n with
 |zero =>
  intro a b ha hb hl;refine fn_contract fnok.ty fnok.calls fnok.mix fnok.fnc fnok.body fnok.nt fnok.io (by exact bNU rfl) (eval ha hb (by omega) fun c d _ _ h=>by omega)
 |succ n ih =>
  intro a b ha hb hl;have ih:=ih (by omega);refine fn_contract fnok.ty fnok.calls fnok.mix fnok.fnc fnok.body fnok.nt fnok.io (by exact bNU rfl) (eval ha hb (by omega) fun c d hc hd h=>ih c d hc hd (by omega))
def sp(a b:List Int):Prop×List D:=(M6.cF a/\M6.cF b/\a.length+b.length<=274877906944,[.own eX .u64 (M6.dg (M6.val a*M6.val b))])
theorem spec:fI E f199 aE (pI .u64) (pI .u64) sp:=by
 rintro a b ⟨ha,hb,hN⟩;exact eval ha hb hN fun c d hc hd h=>all (a.length+b.length) hN c d hc hd (by omega)
def aH:dG:=orc2 (pI .u64) (pI .u64) sp
theorem ok:kZ prog base.glob 199 aH:=fnok.lA rfl spec
end Ig
namespace aGI
def E:=mE [(167,fA.aH),(199,Ig.aH),(198,lL.aH)] 20 [17] [] []
def aE:=bd f154
theorem aU:Nk E aE:=nk
theorem start a b:aF E f154 aE [D.s (ints u64 a),D.s (ints u64 b)]=letI A:=some [D.s (sc (slice none 0 0)),D.s (sc (int i64 2))];aO (a.length<=1099511627776) (aB (!fA.mR a) A (aO (b.length<=1099511627776) (aB (!fA.mR b) A (aO (M6.cF a/\M6.cF b/\a.length+b.length<=274877906944) (aC (M6.dg (M6.val a*M6.val b)) fun c=>aO True (aC (bif lL.jV c then c else []) fun d=>aC (bif lL.jV c then(0:Int)else(5:Int)) fun e=>some [D.s (ints u64 d),D.s (sc (int i64 e))])))))):=eJ aU
def sp(a b:List Int):Prop×List D:=(M6.cF a/\M6.cF b/\a.length<=8192/\b.length<=8192,[.s (.ints .u64 (bif cC.kU (M6.val a*M6.val b)then M6.dg (M6.val a*M6.val b)else [])),.s (.sc (.int .i64 (bif cC.kU (M6.val a*M6.val b)then 0 else 5)))])
theorem spec:fI E f154 aE (pI .u64) (pI .u64) sp:=by
 rintro a b ⟨ha,hb,h1,h2⟩;refine(start a b).trans ?_;simp only[aK];rw[gP,gP,fA.lS ha h1,fA.lS hb h2,bNW,bF,bF,gP ⟨ha,hb,by omega⟩,gP trivial];rfl
def aH:dG:=orc2 (pI .u64) (pI .u64) sp
theorem ok:OK 154 aH:=(eF E aE (aA fA.ok (aA Ig.ok (aA lL.ok aD))) func154).lA rfl spec
end aGI
namespace aKJ
def E:=mE [(112,gG.aH),(154,aGI.aH),(123,xL.aH)] 35 [32] [(3,[2,3,4])] [3]
def aE:=bd f99
theorem aU:Nk E aE:=nk
def J3 a b c d e:=kV E f99 aE 3 [cQ 0 27 [bW a,dZ b],cQ 1 27 [bW c,dZ d],cQ 2 27 [bW e,sc (slice none 0 0)]]
theorem start a b c d:aF E f99 aE [D.agg [sc (bool a),ints u64 b],D.agg [sc (bool c),ints u64 d]]=letI A:=some [D.agg [sc (bool false),sc (slice none 0 0)],D.s (sc (int i64 2))];aO (b.length<=1099511627776) (aB (!gG.qL (a,b)) A (aO (d.length<=1099511627776) (aB (!gG.qL (c,d)) A (aKJ.J3 a b c d false)))):=eJ aU
theorem fR a b c d e:J3 a b c d e=letI F:=M6.val b*M6.val d;letI B:=bif cC.kU F then(0:Int)else(5:Int);letI A:=bif cC.kU F then M6.dg F else [];letI C:=bif B==0 then zs (a !=c) (M6.val A)else(0:Int);aO (M6.cF b/\M6.cF d/\b.length<=8192/\d.length<=8192) (aO (M6.cF A/\A.length<=1099511627776) (some [D.agg [sc (bool (isNeg C)),ints u64 (M6.dg C.natAbs)],D.s (sc (int i64 B))])):=cJ aU
def sp(x y:Bool×List Int):Prop×List D:=(jY x/\jY y,wE (fit (wv x*wv y).natAbs) (wv x*wv y))
theorem spec:fI E f99 aE vY vY sp:=by
 rintro x y ⟨hx,hy⟩;refine(start x.1 x.2 y.1 y.2).trans ?_;have l1:=hx.len;have l2:=hy.len;have f1:=gG.nB hx;have f2:=gG.nB hy;have hs:wv x*wv y=zs (x.1 !=y.1) (M6.val x.2*M6.val y.2):=by
  unfold wv zs;cases x.1 <;> cases y.1 <;> simp[Int.neg_mul,bUW]
 rw[gP,f1,bNW,bF,gP,f2,bNW,bF,fR,gP ⟨hx.1,hy.1,l1,l2⟩,gP (Ff (fun h=>by rw[show cC.kU _=_ from xX]at h;exact wY h)),Eo,show cC.kU _=_ from xX];unfold sp
 try dsimp only
 rw[hs,kB]
def aH:dG:=orc2 vY vY sp
theorem ok:OK 99 aH:=(eF E aE (aA gG.ok (aA aGI.ok (aA xL.ok aD))) func99).lA rfl spec
end aKJ
namespace aZ
def E:=mE [(61,kA.aH),(99,aKJ.aH),(63,iJ.aH)] 38 [22,35] [(3,[2,3,4])] [3]
def aE:=bd f41
theorem aU:Nk E aE:=nk
def J3 a b c d e f g h:=kV E f41 aE 3 [cQ 0 29 [bW a,dZ b,cI c],cQ 1 29 [bW d,dZ e,cI f],cQ 2 29 [bW g,sc (slice none 0 0),cI h]]
theorem start a b c d e f:aF E f41 aE [D.agg [sc (bool a),ints u64 b,sc (int i64 c)],D.agg [sc (bool d),ints u64 e,sc (int i64 f)]]=aO (aJ (a,b,c)) (aO (aJ (d,e,f)) (aZ.J3 a b c d e f false 0)):=eJ aU
theorem fR a b c d e f g h:J3 a b c d e f g h=letI F:=wv (a,b)*wv (d,e);letI C:=i64.wrap (c+f);letI B:=bif fit F.natAbs then wv (a,b)*wv (d,e)else(0:Int);aO (jY (a,b)/\jY (d,e)) (aC (isNeg B) fun i=>aC (M6.dg B.natAbs) fun j=>letI A:=bif fM (wv (i,j)) C then aL (wv (i,j)) C else((0:Int),(0:Int));aC (bif fit F.natAbs then(0:Int)else(5:Int)) fun k=>aB (k !=0) (some [D.agg [sc (bool false),sc (slice none 0 0),sc (int i64 0)],D.s (sc (int i64 k))]) (aO (jY (i,j)/\(-9223372036854775808:Int)<=i64.wrap (c+f)/\i64.wrap (c+f)<9223372036854775808) (aC (isNeg A.fst) fun l=>aC (M6.dg A.fst.natAbs) fun m=>aC A.snd fun n=>aC (bif fM (wv (i,j)) C then(0:Int)else(5:Int)) fun o=>some [D.agg [sc (bool l),ints u64 m,sc (int i64 n)],D.s (sc (int i64 o))]))):=cJ aU
def fU(p q:Int×Int):Bool:=fit (p.1*q.1).natAbs&&fM (p.1*q.1) (p.2+q.2)
def bQ(p q:Int×Int):Int×Int:=aL (p.1*q.1) (p.2+q.2)
def sp(x y:dR):Prop×List D:=(aJ x/\aJ y,dE (fU (dv x) (dv y)) (bQ (dv x) (dv y)))
theorem spec:El E f41 aE gZ gZ sp:=by
 rintro x y ⟨hx,hy⟩;have ex:=hx.2.1;have ey:=hy.2.1;have s:=start x.1 x.2.1 x.2.2 y.1 y.2.1 y.2.2;have w:i64.wrap (x.2.2+y.2.2)=x.2.2+y.2.2:=wrap_i64;rw[gP hx,gP hy,fR]at s;simp only[aK]at s;have hz:wv (x.1,x.2.1)*wv (y.1,y.2.1)=(dv x).1*(dv y).1:=rfl;rw[gP ⟨hx.Eb,hy.Eb⟩,hz]at s;have h2:x.2.2+y.2.2=(dv x).2+(dv y).2:=rfl;unfold sp fU bQ
 try dsimp only
 cases hf:fit ((dv x).1*(dv y).1).natAbs with
 |false =>
  rw[hf]at s;rw[bRF];refine⟨_,s,iJ.kC _⟩
 |true =>
  rw[hf,cond_true,cond_true,fD rfl,w,gP ⟨mN (wY hf),by omega,by omega⟩,rT,h2]at s;rw[bOX];exact⟨_,s,fP.refl _⟩
def aH:dG:=orc2 gZ gZ sp
theorem ok:OK 41 aH:=(eF E aE (aA kA.ok (aA aKJ.ok (aA iJ.ok aD))) func41).aAF rfl spec
end aZ
namespace xO
def E:=mE [] 9 [] [] []
def aE:=bd f164
theorem aU:Nk E aE:=nk
theorem start a:aF E f164 aE [D.s (sc (int i64 a))]=aB (decide (1<=a)) (some [D.s (sc (bool (decide (a<=70000))))]) (some [D.s (sc (bool false))]):=eJ aU
def sp(p:Int):Prop×List D:=(True,[.s (.sc (.bool (decide (1<=p)&&decide (p<=70000))))])
theorem spec:gO E f164 aE (pN .i64) sp:=by
 intro p h;refine(start p).trans ?_;unfold sp aB;cases (decide ((1:Int)<=p)) <;> cases (decide (p<=(70000:Int))) <;> rfl
def aH:dG:=orc1 (pN .i64) sp
theorem ok:OK 164 aH:=(eF E aE aD func164).nN rfl spec
end xO
namespace aGJ
def E:=mE [(174,xJ.aH)] 18 [] [] []
def aE:=bd f205
theorem aU:Nk E aE:=nk
theorem start a:aF E f205 aE [D.s (ints u64 a)]=letI B:=M6.dg (M6.val a);letI A:=(B.length:Int);aO (M6.cE a/\a.length<=1099511627776) (aB (decide (8192<A)) (some [D.s (sc (slice none 0 0)),D.s (sc (int i64 5))]) (if 0<=A/\A<=A/\A<=(8796093022208:Int)then some [D.own 22 u64 (bRR A.toNat B ++ bRS (min B.length A.toNat) (bNZ A.toNat (0:Int))),D.s (sc (int i64 0))]else none)):=eJ aU
def sp(a:List Int):Prop×List D:=(M6.cE a/\a.length<=1099511627776,[.s (.ints .u64 (bif cC.kU (M6.val a)then M6.dg (M6.val a)else [])),.s (.sc (.int .i64 (bif cC.kU (M6.val a)then 0 else 5)))])
theorem spec:aGC E f205 aE (pI .u64) sp:=by
 intro a h;have hl:=M6.oU h.1;have h2:=h.2;have e:=(start a).trans (gP h);unfold sp cC.kU;simp only;generalize M6.dg (M6.val a)=d at *
 by_cases hc:d.length<=8192
 ·rw[aI,if_pos ⟨by omega,by omega,by omega⟩]at e;rw[decide_eq_true hc];refine⟨_,e,.cons ?_ (fP.refl _)⟩;simp only[bPS,bSR,Nat.min_self,cond_true];have:bRS d.length (bNZ d.length (0:Int))=[]:=List.drop_eq_nil_of_le (by simp);rw[this,bRW];exact vW.own _ _ _
 ·rw[aN]at e;rw[decide_eq_false hc];exact⟨_,e,.cons (vW.nil _) (fP.refl _)⟩
def aH:dG:=orc1 (pI .u64) sp
theorem ok:OK 205 aH:=(eF E aE (aA xJ.ok aD) func205).aRM rfl spec
end aGJ
namespace aGN
def E:=mE [(176,xM.aH)] 6 [] [] []
def aE:=bd f207
theorem aU:Nk E aE:=nk
theorem start a:aF E f207 aE [D.s (sc (int u64 a))]=aO (0<=a/\a<18446744073709551616) (some [D.s (sc (int i64 (i64.wrap ((64:Int)-(↑(bl a.toNat):Int)))))]):=eJ aU
def sp(a:Int):Prop×List D:=(0<=a/\a<18446744073709551616,[.s (.sc (.int .i64 (64-(bl a.toNat:Int))))])
theorem spec:gO E f207 aE (pN .u64) sp:=by
 intro a h;refine(start a).trans ((gP h).trans ?_);obtain⟨h1,h2⟩:=h;have:bl a.toNat<=64:=dU.2 (by omega);rw[wrap_i64];rfl
def aH:dG:=orc1 (pN .u64) sp
theorem ok:OK 207 aH:=(eF E aE (aA xM.ok aD) func207).nN rfl spec
end aGN
namespace pS
def E:=mE [(207,aGN.aH)] 135 [] [(24,[2,8,9,10,14,15,16,17,18]),(17,[2,8,9,10,11,13,14,15,16]),(3,[0,1,2]),(5,[0,1,2]),(18,[2,8,9,10,11,13,14,15,16]),(21,[2,8,9,10,11,13,14,15]),(25,[2,8,9,10,14,15,16,17,18]),(28,[2,8,14,15,17,18])] [3,5,18,21,25,28]
def aE:=bd f232
theorem aU:Nk E aE:=nk
def J3 a b c:=kV E f232 aE 3 [cZ a,cZ b,cZ c]
def J5 a b c:=kV E f232 aE 5 [cZ a,cZ b,cZ c]
def aRG a b c d e f g h i:=nO E f232 aE 17 [cZ a,cZ b,cZ c,cZ d,cZ e,cZ f,cZ g,cZ h,cZ i]
def bCO a b c d e f g h i:=kV E f232 aE 18 [cZ a,cZ b,cZ c,cZ d,cZ e,cZ f,cZ g,cZ h,cZ i]
def aVY a b c d e f g h:=kV E f232 aE 21 [cZ a,cZ b,cZ c,cZ d,cZ e,cZ f,cZ g,cZ h]
def aVV a b c d e f g h i:=nO E f232 aE 24 [cZ a,cZ b,cZ c,cZ d,cZ e,cZ f,cZ g,cZ h,cZ i]
def bCN a b c d e f g h i:=kV E f232 aE 25 [cZ a,cZ b,cZ c,cZ d,cZ e,cZ f,cZ g,cZ h,cZ i]
def aVX a b c d e f:=kV E f232 aE 28 [cZ a,cZ b,cZ c,cZ d,cZ e,cZ f]
theorem start a b c:aF E f232 aE [D.s (sc (int u64 a)),D.s (sc (int u64 b)),D.s (sc (int u64 c))]=aB (c==0) none (pS.J3 a b c):=eJ aU
theorem fR a b c:J3 a b c=aB (decide (c<=a)) none (pS.J5 a b c):=cJ aU
theorem Ip a b c:J5 a b c=letI C:=(↑(bl c.toNat):Int);letI H:=u64.wrap ((64:Int)-C);letI B:=b/(↑((2:Nat)^min (u64.wrap ((64:Int)-u64.wrap ((64:Int)-C))).toNat 64):Int);letI A:=(↑((2:Nat)^min H.toNat 64):Int);letI G:=eN BinOp.or u64 (u64.wrap (a*A)) B;letI F:=u64.wrap (c*A)/4294967296;aB (a==0) (if c=0 then none else if c=0 then none else some [D.s (sc (int u64 (u64.wrap (b.tdiv c)))),D.s (sc (int u64 (b.tmod c)))]) (aO (0<=c/\c<18446744073709551616) (if u64.wrap ((64:Int)-C)<0 then none else if u64.wrap ((64:Int)-C)<0 then none else if u64.wrap ((64:Int)-u64.wrap ((64:Int)-C))<0 then none else if u64.wrap ((64:Int)-C)<0 then none else if u64.wrap (c*A)/4294967296=(0:Int)then none else pS.aRG (u64.wrap (c*A)) H F (eN BinOp.and u64 (u64.wrap (c*A)) 4294967295) G (u64.wrap (b*A)/4294967296) (eN BinOp.and u64 (u64.wrap (b*A)) 4294967295) (u64.wrap (G.tdiv F)) (u64.wrap (eN BinOp.or u64 (u64.wrap (a*A)) B-u64.wrap (u64.wrap (G.tdiv F)*F))))):=cJ aU
theorem aPW a b c d e f g h i:aRG a b c d e f g h i=letI A:=pS.bCO a b c d e f g h i;aB (decide (4294967296<=h)) A (aB (decide (u64.wrap (u64.wrap ((4294967296:Int)*i)+f)<u64.wrap (h*d))) A (pS.aVY a b c d e f g h)):=lJ aU
theorem aQB a b c d e f g h i:bCO a b c d e f g h i=aB (decide (4294967296<=u64.wrap (i+c))) (pS.aVY a b c d e f g (u64.wrap (h-1))) (pS.aRG a b c d e f g (u64.wrap (h-1)) (u64.wrap (i+c))):=cJ aU
theorem aQA a b c d e f g h:aVY a b c d e f g h=letI A:=u64.wrap (u64.wrap (e*4294967296)+f)-u64.wrap (h*a);letI B:=u64.wrap A;if c=0 then none else pS.aVV a b c d g h (u64.wrap (u64.wrap A-u64.wrap (u64.wrap (B.tdiv c)*c))) B (u64.wrap (B.tdiv c)):=cJ aU
theorem aPV a b c d e f g h i:aVV a b c d e f g h i=letI A:=pS.bCN a b c d e f g h i;aB (decide (4294967296<=i)) A (aB (decide (u64.wrap (u64.wrap ((4294967296:Int)*g)+e)<u64.wrap (i*d))) A (pS.aVX a b e f h i)):=lJ aU
theorem aPZ a b c d e f g h i:bCN a b c d e f g h i=aB (decide (4294967296<=u64.wrap (g+c))) (pS.aVX a b e f h (u64.wrap (i-1))) (pS.aVV a b c d e f (u64.wrap (g+c)) h (u64.wrap (i-1))):=cJ aU
theorem aPY a b c d e f:aVX a b c d e f=if b<0 then none else some [D.s (sc (int u64 (u64.wrap (u64.wrap (d*4294967296)+f)))),D.s (sc (int u64 (u64.wrap (u64.wrap (u64.wrap (e*4294967296)+c)-u64.wrap (f*a))/(↑((2:Nat)^min b.toNat 64):Int))))]:=cJ aU
theorem aAX{n:Nat}(h:n<18446744073709551616):u64.wrap (n:Int)=(n:Int):=wrap_u64 (bVP _) (Int.ofNat_lt.2 h)
theorem loop{y1 y0 u u1:Nat}(aDG:2147483648<=y1)(aNV:y1<4294967296)(aLO:y0<4294967296)(hu:u<y1*4294967296+y0)(aDI:u1<4294967296)
  (Lf Jf:Int->Int->Option (List D)) (Kf:Int->Option (List D))
  (hL:∀q r,Lf q r=aB (decide (4294967296<=q)) (Jf q r) (aB (decide (u64.wrap (u64.wrap (4294967296*r)+(u1:Int))<u64.wrap (q*(y0:Int)))) (Jf q r) (Kf q)))
  (hJ:∀q r,Jf q r=aB (decide (4294967296<=u64.wrap (r+(y1:Int)))) (Kf (u64.wrap (q-1))) (Lf (u64.wrap (q-1)) (u64.wrap (r+(y1:Int))))) :
  ∀(q r:Nat),u=q*y1+r->r<4294967296->u*4294967296+u1<(q+1)*(y1*4294967296+y0) ->
   Lf (q:Int) (r:Int)=Kf (((u*4294967296+u1)/(y1*4294967296+y0):Nat):Int):=by
 have hy:0<y1*4294967296+y0:=by omega
 intro q
 induction q with
 |zero =>
  intro r h1 h2 h3;have h0:(u*4294967296+u1)/(y1*4294967296+y0)=0:=bRT (by omega);rw[hL,aI,h0,show(((0:Nat):Int)*(y0:Int))=0 from by omega,wrap_u64 (n:=0),aI ?_];rw[wrap_u64 (n:=4294967296*(r:Int)),wrap_u64];omega
 |succ q ih =>
  intro r h1 h2 h3;have hq:q<=4294967296:=by
   refine bQT fun hc=>?_
   have:4294967297*y1<=q*y1:=bNJ _ hc;rw[bMQ]at h1;omega
  have w1:u64.wrap (((q+1:Nat):Int)-1)=(q:Int):=by rw[wrap_u64];omega
  have w2:u64.wrap ((r:Int)+(y1:Int))=((r+y1:Nat):Int):=by rw[wrap_u64];omega
  have hle:(q+1)*y0<=4294967297*4294967295:=bWK (by omega) (by omega);have w3:u64.wrap (((q+1:Nat):Int)*(y0:Int))=(((q+1)*y0:Nat):Int):=by
   rw[<-bRU];exact wrap_u64
  have w4:u64.wrap (u64.wrap (4294967296*(r:Int))+(u1:Int))=((4294967296*r+u1:Nat):Int):=by
   rw[wrap_u64 (n:=4294967296*(r:Int)),wrap_u64];omega
  have ex:(q+1)*(y1*4294967296+y0)=(q*y1+y1)*4294967296+(q+1)*y0:=by
   rw[bQW,<-bQZ,bMQ q 1 y1,bPZ]
  have bLC:q*(y1*4294967296+y0)=(q*y1)*4294967296+q*y0:=by
   rw[bQW,<-bQZ]
  have Zg:u=q*y1+(r+y1):=by rw[bMQ]at h1;omega
  have Ze:u*4294967296+u1<(q+1)*(y1*4294967296+y0)->Jf ((q+1:Nat):Int) r=Kf (((u*4294967296+u1)/(y1*4294967296+y0):Nat):Int):=by
   intro hT;rw[hJ,w1,w2]
   by_cases hc:4294967296<=r+y1
   ·have aQM:q*y0<=4294967296*4294967295:=bWK hq (by omega);have:(u*4294967296+u1)/(y1*4294967296+y0)=q:=by
     refine bWQ ?_ hT;rw[bLC,Zg];omega
    rw[aN,this]
   ·rw[aI];exact ih (r+y1) Zg (by omega) hT
  rw[hL,w3,w4]
  by_cases hb:4294967296<=q+1
  ·rw[aN];apply Ze;have:4294967296*(y1*4294967296+y0)<=(q+1)*(y1*4294967296+y0):=bNJ _ hb;omega
  ·rw[aI]
   by_cases hc:4294967296*r+u1<(q+1)*y0
   ·rw[aN];apply Ze;rw[ex];omega
   ·have:(u*4294967296+u1)/(y1*4294967296+y0)=q+1:=by
     refine bWQ ?_ h3;rw[ex,Zg];rw[bMQ (q*y1)];omega
    rw[aI,this]
theorem aRL(P b Q:Int):u64.wrap (u64.wrap (u64.wrap P+b)-u64.wrap Q)=u64.wrap (P+b-Q):=by
 rw[eE,eE,eE,eE,eE];omega
theorem aSJ{u u1 y:Nat}(hy:0<y)(aYN:y<=18446744073709551616):u64.wrap ((u:Int)*4294967296+(u1:Int)-(((u*4294967296+u1)/y:Nat):Int)*(y:Int))=(((u*4294967296+u1)%y:Nat):Int):=by
 have h:=bRC (u*4294967296+u1) y;have hm:=bOE (u*4294967296+u1) hy;rw[<-bRU,bQU _ y];generalize y*((u*4294967296+u1)/y)=z at *;generalize (u*4294967296+u1)%y=m at *;rw[wrap_u64];omega
theorem aSL{y1 y0 u u1 u0 s:Nat}(aDG:2147483648<=y1)(aNV:y1<4294967296)(aLO:y0<4294967296)(hu:u<y1*4294967296+y0)(aDI:u1<4294967296)(aSZ:u0<4294967296)(hs:s<=63) :
  aRG ((y1*4294967296+y0:Nat):Int) s y1 y0 u u1 u0 ((u/y1:Nat):Int) ((u%y1:Nat):Int) =
   some [D.s (.sc (.int .u64 (((u*18446744073709551616+(u1*4294967296+u0))/(y1*4294967296+y0):Nat):Int))),D.s (.sc (.int .u64 (((u*18446744073709551616+(u1*4294967296+u0))%(y1*4294967296+y0)/2^s:Nat):Int)))]:=by
 have hy:0<y1*4294967296+y0:=by omega
 have aBT:∀v:Nat,∀w:Nat,w<4294967296->v*4294967296+w<(v/y1+1)*(y1*4294967296+y0):=by
  intro v w hw;have h:=bRC v y1;have hm:=bOE v (show 0<y1 by omega);have:(v/y1+1)*(y1*4294967296+y0)=(y1*(v/y1)+y1)*4294967296+(v/y1+1)*y0:=by
   rw[bQW,<-bQZ,bMQ,bPZ,bQU y1]
  rw[this];omega
 have dm:∀v:Nat,v=v/y1*y1+v%y1:=by
  intro v;rw[bQU];exact(bRC v y1).symm
 obtain⟨Y,hY⟩:∃Y:Int,Y=((y1*4294967296+y0:Nat):Int):=⟨_,rfl⟩;rw[<-hY];have l1:aRG Y s y1 y0 u u1 u0 ((u/y1:Nat):Int) ((u%y1:Nat):Int)=aVY Y s y1 y0 u u1 u0 (((u*4294967296+u1)/(y1*4294967296+y0):Nat):Int) :=
  loop aDG aNV aLO hu aDI (aRG Y s y1 y0 u u1 u0) (bCO Y s y1 y0 u u1 u0) (aVY Y s y1 y0 u u1 u0) (fun q r=>aPW ..) (fun q r=>aQB ..) (u/y1) (u%y1) (dm u) (by have:=bOE u (show 0<y1 by omega);omega) (aBT u u1 aDI)
 refine l1.trans ?_;rw[aQA,aX,aRL];have m1:=aSJ (u:=u) (u1:=u1) hy (by omega);rw[<-hY]at m1;rw[m1];obtain⟨q1,Ms⟩:∃q1,(u*4294967296+u1)/(y1*4294967296+y0)=q1:=⟨_,rfl⟩;rw[Ms];have hv:=bOE (u*4294967296+u1) hy;have hT:=bRC (u*4294967296+u1) (y1*4294967296+y0);rw[Ms]at hT;obtain⟨v,bHL⟩:∃v,(u*4294967296+u1)%(y1*4294967296+y0)=v:=⟨_,rfl⟩;rw[bHL]at hv hT ⊢;have hd:v/y1<=v:=bUJ _ _;have w5:u64.wrap ((v:Int).tdiv (y1:Int))=((v/y1:Nat):Int):=by
  rw[bTL (by omega),<-bRM];exact aAX (by omega)
 have w6:u64.wrap ((v:Int)-u64.wrap (((v/y1:Nat):Int)*(y1:Int)))=((v%y1:Nat):Int):=by
  have:=dm v;have hm:=bOE v (show 0<y1 by omega);rw[<-bRU];generalize v/y1*y1=z at *;generalize v%y1=m at *;rw[wrap_u64 (n:=(z:Int)),wrap_u64];omega
 have l2:aVV Y s y1 y0 u0 q1 ((v%y1:Nat):Int) v ((v/y1:Nat):Int)=aVX Y s u0 q1 v (((v*4294967296+u0)/(y1*4294967296+y0):Nat):Int) :=
  loop aDG aNV aLO hv aSZ (fun q r=>aVV Y s y1 y0 u0 q1 r v q) (fun q r=>bCN Y s y1 y0 u0 q1 r v q) (aVX Y s u0 q1 v) (fun q r=>aPV ..) (fun q r=>aPZ ..) (v/y1) (v%y1) (dm v) (by have:=bOE v (show 0<y1 by omega);omega) (aBT v u0 aSZ)
 rw[w5,w6,l2];rw[aPY,aX,aRL];have m2:=aSJ (u:=v) (u1:=u0) hy (by omega);rw[<-hY]at m2;rw[m2];have hw:=bOE (v*4294967296+u0) hy;have hT0:=bRC (v*4294967296+u0) (y1*4294967296+y0);have aQM:(v*4294967296+u0)/(y1*4294967296+y0)<4294967296:=bRQ (by omega);have hq1':q1<4294967296:=by rw[<-Ms];exact bRQ (by omega)
 obtain⟨q0,bHZ⟩:∃q0,(v*4294967296+u0)/(y1*4294967296+y0)=q0:=⟨_,rfl⟩;obtain⟨w,bHJ⟩:∃w,(v*4294967296+u0)%(y1*4294967296+y0)=w:=⟨_,rfl⟩;rw[bHZ]at hT0 aQM ⊢;rw[bHJ]at hT0 hw ⊢;have key:u*18446744073709551616+(u1*4294967296+u0)=(y1*4294967296+y0)*(q1*4294967296+q0)+w:=by
  rw[bQW,<-bQZ];generalize (y1*4294967296+y0)*q1=A at *;generalize (y1*4294967296+y0)*q0=C at *;omega
 rw[key,bVO hy,bRT hw,bXY,bWL hw,bMX,bPS,show min s 64=s from by omega];have w7:u64.wrap (u64.wrap ((q1:Int)*4294967296)+(q0:Int))=((q1*4294967296+q0:Nat):Int):=by
  rw[wrap_u64 (n:=(q1:Int)*4294967296),wrap_u64];omega
 rw[w7,<-bRM]
def sp(a b c:Int):Prop×List D:=((0<=a/\a<c)/\(0<=b/\b<18446744073709551616)/\c<18446744073709551616,[.s (.sc (.int .u64 (((a.toNat*18446744073709551616+b.toNat)/c.toNat:Nat):Int))),.s (.sc (.int .u64 (((a.toNat*18446744073709551616+b.toNat)%c.toNat:Nat):Int)))])
theorem spec:sR E f232 aE (pN .u64) (pN .u64) (pN .u64) sp:=by
 rintro a b c ⟨⟨h1,h2⟩,⟨h3,h4⟩,h5⟩;refine(start a b c).trans ?_;obtain⟨x,rfl⟩:=bQY h1;obtain⟨l,rfl⟩:=bQY h3;obtain⟨y,rfl⟩:=bQY (show 0<=c by omega);show _=some [D.s (.sc (.int .u64 ((((x:Int).toNat*18446744073709551616+(l:Int).toNat)/(y:Int).toNat:Nat):Int))),D.s (.sc (.int .u64 ((((x:Int).toNat*18446744073709551616+(l:Int).toNat)%(y:Int).toNat:Nat):Int)))];rw[bPS,bPS,bPS,bV,fR,aI,Ip]
 by_cases hx:x=0
 ·subst hx;have hd:l/y<=l:=bUJ _ _;rw[cN (a:=((0:Nat):Int)) (b:=0) rfl,aX,aX,bTL (by omega),bTM (by omega),<-bRM,<-bSN,aAX (by omega),Nat.zero_mul,bLY]
 ·have aLO:y≠0:=by omega
  have bET:=qE aLO;have hb64:bl y<=64:=dU.2 (by omega);have yP:=Xy aLO;have iN:=vM y;obtain⟨s,hs⟩:∃s,s=64-bl y:=⟨_,rfl⟩;have aZE:s<=63:=by omega
  have w1:u64.wrap (64-(bl y:Int))=(s:Int):=by rw[wrap_u64];omega
  have w2:u64.wrap (64-(s:Int))=((64-s:Nat):Int):=by rw[wrap_u64];omega
  have aMH:2^(64-s)*2^s=18446744073709551616:=by rw[<-bQX,show 64-s+s=64 from by omega]
  have bLE:2^(bl y-1)*2^s=9223372036854775808:=by rw[<-bQX,show bl y-1+s=63 from by omega]
  have Pz:0<2^s:=cP;have hyp:y+1<=2^(64-s):=by rw[show 64-s=bl y from by omega];omega
  have aYM:(y+1)*2^s<=18446744073709551616:=by rw[<-aMH];exact bNJ _ hyp
  have hyp2:9223372036854775808<=y*2^s:=by rw[<-bLE];exact bNJ _ yP
  have aQL:(x+1)*2^s<=y*2^s:=bNJ _ (by omega);rw[bMQ,bPZ]at aYM aQL;have wy:u64.wrap ((y:Int)*((2^s:Nat):Int))=((y*2^s:Nat):Int):=by rw[<-bRU];exact wrap_u64
  have wx:u64.wrap ((x:Int)*((2^s:Nat):Int))=((x*2^s:Nat):Int):=by rw[<-bRU];exact wrap_u64
  have wl:u64.wrap ((l:Int)*((2^s:Nat):Int))=((l*2^s%18446744073709551616:Nat):Int):=by rw[<-bRU,eE];omega
  have Ts:l/2^(64-s)<2^s:=by
   apply bRQ;rw[aMH];omega
  have aOA:=Bu l s (by omega);have bCP:eN .or .u64 ((x*2^s:Nat):Int) (((l/2^(64-s):Nat)):Int)=((x*2^s+l/2^(64-s):Nat):Int):=by
   have:=Cc (n:=x) Ts;rw[Ym (by omega) (by omega) (by omega) (by omega),bPS,bPS,Nat.or_comm,bQU x,this,bRX]
  have aRN:∀z:Nat,z<18446744073709551616->eN .and .u64 (z:Int) 4294967295=((z%4294967296:Nat):Int):=by
   intro z hz;rw[oP (by omega) (by omega)];omega
  rw[bV,gP ⟨by omega,by omega⟩,bPS,w1,w2,aX,aX,aX,aX,
   bPS,bPS,show min s 64=s from by omega,show min (64-s) 64=64-s from by omega,wy,wx,wl,<-bRM l,bCP]
  have hu:x*2^s+l/2^(64-s)<y*2^s:=by omega
  have hU:(x*18446744073709551616+l)*2^s=(x*2^s+l/2^(64-s))*18446744073709551616+l*2^s%18446744073709551616:=by
   rw[bMQ,aOA,bWW];omega
  have bIM:l*2^s%18446744073709551616<18446744073709551616:=bOE _ (by omega);have hdiv:(x*18446744073709551616+l)/y=((x*2^s+l/2^(64-s))*18446744073709551616+l*2^s%18446744073709551616)/(y*2^s):=by
   rw[<-hU,bUU _ _ Pz]
  have aTR:(x*18446744073709551616+l)%y=((x*2^s+l/2^(64-s))*18446744073709551616+l*2^s%18446744073709551616)%(y*2^s)/2^s:=by
   rw[<-hU,bUV,bVZ _ Pz]
  rw[hdiv,aTR];clear hdiv aTR hU bCP wl wx wy aOA Ts aQL;generalize x*2^s+l/2^(64-s)=U at *;generalize y*2^s=Y at *;generalize l*2^s%18446744073709551616=V at *;have k:=aSL (y1:=Y/4294967296) (y0:=Y%4294967296) (u:=U) (u1:=V/4294967296) (u0:=V%4294967296) (s:=s) (by omega) (by omega) (by omega) (by omega) (by omega) (by omega) aZE;rw[show Y/4294967296*4294967296+Y%4294967296=Y from by omega,show V/4294967296*4294967296+V%4294967296=V from by omega]at k;have bKA:(Y:Int)/4294967296=((Y/4294967296:Nat):Int):=by omega
  have bEW:(V:Int)/4294967296=((V/4294967296:Nat):Int):=by omega
  have hd:U/(Y/4294967296)<=U:=bUJ _ _;have aJC:=bRC U (Y/4294967296);have q1:u64.wrap ((U:Int).tdiv ((Y/4294967296:Nat):Int))=((U/(Y/4294967296):Nat):Int):=by
   rw[bTL (by omega),<-bRM];exact aAX (by omega)
  have r1:u64.wrap ((U:Int)-u64.wrap (((U/(Y/4294967296):Nat):Int)*((Y/4294967296:Nat):Int)))=((U%(Y/4294967296):Nat):Int):=by
   rw[<-bRU,bQU];generalize Y/4294967296*(U/(Y/4294967296))=z at *;generalize U%(Y/4294967296)=m at *;rw[wrap_u64 (n:=(z:Int)),wrap_u64];omega
  rw[bKA,bEW,aX,aRN _ (by omega),aRN _ bIM,q1,r1];exact k
def aH:dG:=orc3 (pN .u64) (pN .u64) (pN .u64) sp
theorem ok:OK 232 aH:=(eF E aE (aA aGN.ok aD) func232).Al rfl spec
end pS
namespace lM
def E:=mE [(167,fA.aH),(171,cC.aH),(232,pS.aH)] 45 [34,40] [(8,[0,1,7,8,9])] []
def aE:=bd f206
theorem aU:Nk E aE:=nk
def L8 a b (c:Nat) (d:List Int) e f:=nO E f206 aE 8 [fW a,cZ b,yG 2 c 22 d,cZ e,bP f]
theorem start a b:aF E f206 aE [D.s (ints u64 a),D.s (sc (int u64 b))]=letI B:=sc (slice none 0 0);letI A:=(a.length:Int);aO (a.length<=1099511627776) (aB (!fA.mR a) (some [D.s B,D.s (sc (int u64 0)),D.s (sc (int i64 2))]) (aB (b==0) (some [D.s B,D.s (sc (int u64 0)),D.s (sc (int i64 4))]) (if 0<=A/\A<=A/\A<=(8796093022208:Int)then lM.L8 a b A.toNat (bNZ A.toNat (0:Int)) 0 (i64.wrap (A-(1:Int)))else none))):=eJ aU
theorem Ea a b c d e f:L8 a b c d e f=letI A:=e.toNat*18446744073709551616+(a.getD f.toNat 0).toNat;aB (decide (0<=f)) (if 0<=f/\f<(a.length:Int)then aO ((0<=e/\e<b)/\(0<=a.getD f.toNat 0/\a.getD f.toNat 0<(18446744073709551616:Int))/\b<18446744073709551616) (if 0<=f/\f<(c:Int)then lM.L8 a b c (d.set f.toNat (↑(A/b.toNat):Int)) (↑(A%b.toNat):Int) (i64.wrap (f-1))else none)else none) (aO (M6.cE d/\d.length<=1099511627776) (some [D.s (ints u64 (bif cC.kU (M6.val d)then M6.dg (M6.val d)else [])),D.s (sc (int u64 e)),D.s (sc (int i64 0))])):=lJ aU
theorem L{a:List Int}{b:Nat}(ha:M6.cF a)(hl:a.length<=8192)(hb0:0<b)(hb:b<18446744073709551616):∀(i:Nat) (Q:List Int),i+Q.length=a.length->M6.cE Q->M6.val Q=M6.val (a.drop i)/b ->
  L8 a b a.length (bNZ i 0 ++ Q) ((M6.val (a.drop i)%b:Nat):Int) ((i:Int)-1)=some [D.s (.ints .u64 (M6.dg (M6.val a/b))),D.s (.sc (.int .u64 ((M6.val a%b:Nat):Int))),D.s (.sc (.int .i64 0))]:=by
 intro i
 induction i with
 |zero =>
  intro Q hi hd hv;have Qb:cC.kU (M6.val a/b)=true:=by
   refine decide_eq_true ?_;rw[bSE]at hv;rw[<-hv];have:=M6.oU hd;omega
  rw[bSE]at hv ⊢;rw[List.replicate_zero,bPY,Ea,aI,gP ⟨hd,by omega⟩,hv,Qb];rfl
 |succ i ih =>
  intro Q hi hd hv;have g:=ha.iU.get i;have hm:=bOE (M6.val (a.drop (i+1))) hb0;have aJC:=bRC (M6.val (a.drop (i+1))) b;have w:i64.wrap ((i:Int)-1)=(i:Int)-1:=by rw[wrap_i64]
  have hs:(bNZ i (0:Int) ++ 0 :: Q).set i ((((M6.val (a.drop (i+1))%b)*18446744073709551616+(a.getD i 0).toNat)/b:Nat):Int)=bNZ i 0 ++ (((((M6.val (a.drop (i+1))%b)*18446744073709551616+(a.getD i 0).toNat)/b:Nat):Int) :: Q):=Bw (by simp) _ _ _;have hN:M6.val (a.drop i)=b*(18446744073709551616*(M6.val (a.drop (i+1))/b))+((M6.val (a.drop (i+1))%b)*18446744073709551616+(a.getD i 0).toNat):=by
   rw[M6.fY,bTT];generalize b*(M6.val (a.drop (i+1))/b)=z at *;omega
  have hq:((M6.val (a.drop (i+1))%b)*18446744073709551616+(a.getD i 0).toNat)/b<18446744073709551616:=by
   apply bRQ;have:(M6.val (a.drop (i+1))%b+1)*18446744073709551616<=b*18446744073709551616:=bNJ _ hm;omega
  have aLX:(0:Int)<=((M6.val (a.drop (i+1))%b:Nat):Int)/\((M6.val (a.drop (i+1))%b:Nat):Int)<(b:Int):=⟨bVP _,Int.ofNat_lt.2 hm⟩;have aLS:=ih (((((M6.val (a.drop (i+1))%b)*18446744073709551616+(a.getD i 0).toNat)/b:Nat):Int) :: Q) (by rw[List.length_cons];omega) (M6.jK.2 ⟨⟨bVP _,Int.ofNat_lt.2 hq⟩,hd⟩) (by
    show(((((M6.val (a.drop (i+1))%b)*18446744073709551616+(a.getD i 0).toNat)/b:Nat):Int)).toNat+18446744073709551616*M6.val Q=_;rw[bPS,hN,bVO hb0,hv,bRX])
  rw[Ea,show(((i+1:Nat):Int)-1)=(i:Int)from by omega,aN,if_pos ⟨by omega,by omega⟩,bPS,gP ⟨aLX,g,by omega⟩,if_pos ⟨by omega,by omega⟩,bPS,bPS,w,List.replicate_succ',bNR,bSS,hs];rw[hN,bXY]at aLS;exact aLS
def sp(a:List Int)(n:Int):Prop×List D:=(M6.cF a/\a.length<=8192/\0<n/\n<18446744073709551616,[.s (.ints .u64 (M6.dg (M6.val a/n.toNat))),.s (.sc (.int .u64 ((M6.val a%n.toNat:Nat):Int))),.s (.sc (.int .i64 0))])
theorem spec:fI E f206 aE (pI .u64) (pN .u64) sp:=by
 rintro a n ⟨ha,hl,h0,h1⟩;obtain⟨b,rfl⟩:=bQY (show 0<=n by omega);refine(start a b).trans ?_;show _=some [D.s (.ints .u64 (M6.dg (M6.val a/(b:Int).toNat))),D.s (.sc (.int .u64 ((M6.val a%(b:Int).toNat:Nat):Int))),D.s (.sc (.int .i64 0))];have w:i64.wrap ((a.length:Int)-1)=(a.length:Int)-1:=by rw[wrap_i64]
 rw[bPS,bPS,gP,fA.lS ha hl,bNW,bF,bV,if_pos ⟨by omega,by omega,by omega⟩,w];have:=L (b:=b) ha hl (by omega) (by omega) a.length [] (by simp) M6.lU (by simp[M6.val]);rw[bRW,List.drop_length]at this;simp only[M6.val,bTS]at this;exact this
def aH:dG:=orc2 (pI .u64) (pN .u64) sp
theorem ok:OK 206 aH:=(eF E aE (aA fA.ok (aA cC.ok (aA pS.ok aD))) func206).lA rfl spec
end lM
namespace xD
def E:=mE [] 43 [] [(7,[1,7,8,19,20])] []
def aE:=bd f208
theorem aU:Nk E aE:=nk
def L7 a (b:Nat) (c:List Int) d e f:=nO E f208 aE 7 [bP a,yG 1 b 22 c,cZ d,bP e,bP f]
theorem start a b c:aF E f208 aE [D.s (ints u64 a),D.s (sc (int i64 b)),D.s (sc (int i64 c))]=letI A:=bRR c.toNat a ++ bRS (min a.length c.toNat) (bNZ c.toNat (0:Int));if 0<=c/\c<=c/\c<=8796093022208 then aB (b==0) (some [D.own 22 u64 A]) (xD.L7 b c.toNat A 0 (c.toNat:Int) 0)else none:=eJ aU
theorem uF a b c d e f:L7 a b c d e f=aB (decide (f<e)) (if 0<=f/\f<(b:Int)then if a<0 then none else if 0<=f/\f<(b:Int)then if i64.wrap ((64:Int)-a)<0 then none else if 0<=f/\f<(b:Int)then xD.L7 a b (c.set f.toNat (eN BinOp.or u64 (u64.wrap (c.getD f.toNat 0*(↑((2:Nat)^min a.toNat 64):Int))) d)) (c.getD f.toNat 0/(↑((2:Nat)^min (i64.wrap ((64:Int)-a)).toNat 64):Int)) e (i64.wrap (f+1))else none else none else none) (some [D.own 22 u64 c]):=lJ aU
def sp(a:List Int)(s n:Int):Prop×List D:=(M6.cE a/\0<=s/\s<64/\0<=n/\a.length<=n.toNat/\n<=549755813888/\M6.val a*2^s.toNat<18446744073709551616^n.toNat,[.own eX .u64 (M6.nR n.toNat (M6.val a*2^s.toNat))])
theorem L{A:List Int}{s n:Nat}(hA:M6.cE A)(bBG:A.length=n)(hn:n<=549755813888)(Iy:0<s)(hs:s<64)(hT:M6.val A*2^s<18446744073709551616^n):∀(r i:Nat) (P:List Int) (c:Int),i+r=n->P.length=i->M6.cE P->0<=c->c<((2^s:Nat):Int) ->
  M6.val P+18446744073709551616^i*c.toNat=M6.val (A.take i)*2^s ->
  L7 s n (P ++ A.drop i) c n i=some [.own eX .u64 (M6.nR n (M6.val A*2^s))]:=by
 have Pz:2^s<2^64:=bSP (by omega) hs;intro r
 induction r with
 |zero =>
  intro i P c hi hP hd h0 h1 hv;have Iz:i=n:=by omega
  subst Iz;rw[M6.cG (by omega)]at hv;have hc:c=0:=by
   rcases bXK 0 c with h |h
   ·have h2:18446744073709551616^i*1<=18446744073709551616^i*c.toNat:=bOK _ (by omega);omega
   ·omega
  subst hc;simp at hv;rw[uF,aI,bXJ (by omega),bRW,M6.nC hd hP hv]
 |succ r ih =>
  intro i P c hi hP hd h0 h1 hv;have g:=hA.get i;have w1:i64.wrap ((i:Int)+1)=((i+1:Nat):Int):=by rw[wrap_i64];omega
  have w3:i64.wrap (64-(s:Int))=((64-s:Nat):Int):=by rw[wrap_i64];omega
  have m1:min s 64=s:=by omega
  have m2:min (64-s) 64=64-s:=by omega
  have aDW:A.drop i=A.getD i 0 :: A.drop (i+1):=by
   rw[List.drop_eq_getElem_cons (by omega)];simp[bRA,List.getElem?_eq_getElem (show i<A.length by omega)]
  obtain⟨x,hx⟩:=bQY g.1;have iN:x*2^s%18446744073709551616<18446744073709551616:=bOE _ (by omega);have Ts:u64.wrap ((x:Int)*((2^s:Nat):Int))=((x*2^s%18446744073709551616:Nat):Int):=by
   rw[eE,<-bRU,bSN];rfl
  have aIX:c.toNat+x*2^s%18446744073709551616<18446744073709551616:=by
   rw[Es x s hs];have hm:x%2^(64-s)<2^(64-s):=bOE _ (cP);have e:(18446744073709551616:Nat)=2^s*2^(64-s):=by rw[<-bQX,show s+(64-s)=64 from by omega]
   have h3:2^s*(x%2^(64-s)+1)<=2^s*2^(64-s):=bOK _ hm;rw[<-e,bQW]at h3;omega
  have aTJ:eN .or .u64 ((x*2^s%18446744073709551616:Nat):Int) c=c+((x*2^s%18446744073709551616:Nat):Int):=by
   rw[Ym (by omega) (by omega) h0 (by omega),bPS,Nat.or_comm,Es x s hs,Cc (by omega)];omega
  have Si:x/2^(64-s)<2^s:=by
   apply bRQ;rw[<-bQX,show 64-s+s=64 from by omega];omega
  rw[aDW,uF,aN,aT,aX,aT,w3,aX,aT,w1,bPS,bPS,bPS,m1,m2,Cn hP,Bw hP,hx,Ts,aTJ];have aOA:=Bu x s hs;have:=ih (i+1) (P ++ [c+((x*2^s%18446744073709551616:Nat):Int)]) ((x/2^(64-s):Nat):Int) (by omega) (by simp[hP]) (M6.lD hd ⟨by omega,by omega⟩) (by omega) (by omega) (by
   rw[M6.lC,hP,M6.cD,hx,bPS,bPS,bQV,bQZ,bMQ];have e1:(c+(((x*2^s%18446744073709551616:Nat)):Int)).toNat=c.toNat+x*2^s%18446744073709551616:=by omega
   rw[e1];have e2:18446744073709551616^i*(c.toNat+x*2^s%18446744073709551616)+18446744073709551616^i*(18446744073709551616*(x/2^(64-s)))=18446744073709551616^i*c.toNat+18446744073709551616^i*x*2^s:=by
    rw[bQZ,<-bQW,<-bQW];congr 1;omega
   omega)
  rw[bNR,bSS,bRM]at this;exact this
theorem spec:sR E f208 aE (pI .u64) (pN .i64) (pN .i64) sp:=by
 rintro a s n ⟨hd,Iy,hs,Eg,hl,hn,hT⟩;obtain⟨s,rfl⟩:=bQY Iy;obtain⟨n,rfl⟩:=bQY Eg;simp only[sp,bPS]at hl hT ⊢;refine(start a s n).trans ?_;have hA:bRR n a ++ bRS (min a.length n) (bNZ n (0:Int))=a ++ bNZ (n-a.length) 0:=by
  rw[bTH hl,bXL,bSD hl]
 have aED:M6.val (a ++ bNZ (n-a.length) 0)=M6.val a:=by rw[M6.iA,M6.iG];omega
 have bFB:M6.cE (a ++ bNZ (n-a.length) 0):=M6.oN.2 ⟨hd,M6.iI _⟩;have bBG:(a ++ bNZ (n-a.length) 0).length=n:=by simp;omega
 rw[aT,bPS,hA]
 by_cases hz:s=0
 ·subst hz;rw[cN (by rfl),bVX,bMG,M6.nC bFB bBG aED]
 ·rw[bV];have hp:0<((2^s:Nat):Int):=by
   have:0<2^s:=cP;omega
  have:=L (s:=s) bFB bBG (by omega) (by omega) (by omega) (by rw[aED];exact hT) n 0 [] 0 (by omega) rfl M6.lU (by omega) hp (by simp[M6.val]);rw[bPY,bSE,aED]at this;exact this
def aH:dG:=orc3 (pI .u64) (pN .i64) (pN .i64) sp
theorem ok:OK 208 aH:=(eF E aE aD func208).Al rfl spec
end xD
namespace Ux
def E:=mE [(232,pS.aH)] 20 [16] [] []
def aE:=bd f233
theorem aU:Nk E aE:=nk
theorem start a b c:aF E f233 aE [D.s (sc (int u64 a)),D.s (sc (int u64 b)),D.s (sc (int u64 c))]=aB (decide (c<=a)) (some [D.s (sc (int u64 18446744073709551615))]) (aO ((0<=a/\a<c)/\(0<=b/\b<18446744073709551616)/\c<18446744073709551616) (some [D.s (sc (int u64 (↑((a.toNat*18446744073709551616+b.toNat)/c.toNat):Int)))])):=eJ aU
def sp(a b c:Int):Prop×List D:=(0<=a/\0<=b/\b<18446744073709551616/\c<18446744073709551616,[.s (.sc (.int .u64 (if c<=a then 18446744073709551615 else(((a.toNat*18446744073709551616+b.toNat)/c.toNat:Nat):Int))))])
theorem spec:sR E f233 aE (pN .u64) (pN .u64) (pN .u64) sp:=by
 rintro a b c ⟨h1,h2,h3,h4⟩;refine(start a b c).trans ?_;simp only[sp]
 by_cases hc:c<=a
 ·rw[aN hc,if_pos hc]
 ·rw[aI hc,if_neg hc,gP ⟨⟨h1,by omega⟩,⟨h2,h3⟩,h4⟩]
def aH:dG:=orc3 (pN .u64) (pN .u64) (pN .u64) sp
theorem ok:OK 233 aH:=(eF E aE (aA pS.ok aD) func233).Al rfl spec
end Ux
namespace qM
def E:Env:={ ({ base with C:=callsOf [(252,Ii.aH)],n0:=1,io:=[0] })with nt:=66,own:=[45,61],keep:=fun k=>(tlook [(3,[0,1,2,7,8,14,15])] k).getD [],cut:=tlook [] }
def aE:=bd f234
theorem aU:Nk E aE:=nk
def L3(a:List Int)(b:Nat)(c:Nat) d f g h x7 i:=nO E f234 aE 3 [(A.any,some { e:=(22:Nat),cont:=rI.ints u64 a }),(A.v (V.one (L.view 0 b c)),none),fW d,cZ f,cZ g,cZ h,bP x7,bP i]
theorem start al ao an b c:aF E f234 aE [D.io eX u64 al ao an,D.s (ints u64 b),D.s (sc (int u64 c))]=qM.L3 al ao an b c 0 0 (b.length:Int) 0:=eJ aU
theorem pQ a b c d e f g h i:L3 a b c d e f g h i=letI C:=b+i.toNat;letI B:=(d.length:Int);letI F:=b+B.toNat;letI A:=d.getD i.toNat 0*e%18446744073709551616+f+0;aB (decide (i<h)) (if 0<=i/\i<B then aO (0<=d.getD i.toNat 0/\d.getD i.toNat 0<(18446744073709551616:Int)/\0<=e/\e<18446744073709551616) (aO (0<=d.getD i.toNat 0*e%18446744073709551616/\0<=f/\(0:Int)<=(0:Int)/\(0:Int)<=(1:Int)) (if 0<=i/\i<(c:Int)then aO (0<=a.getD C 0/\0<=A%18446744073709551616/\A%18446744073709551616<(18446744073709551616:Int)/\0<=g/\g<=1) (if 0<=i/\i<(c:Int)then qM.L3 (a.set C ((a.getD C 0-A%18446744073709551616-g)%18446744073709551616)) b c d e (u64.wrap (d.getD i.toNat 0*e/18446744073709551616+A/18446744073709551616)) (if a.getD C 0<A%18446744073709551616+g then(1:Int)else(0:Int)) h (i64.wrap (i+1))else none)else none))else none) (if 0<=B/\B<(c:Int)then aO (0<=a.getD F 0/\0<=f/\f<18446744073709551616/\0<=g/\g<=1) (if 0<=B/\B<(c:Int)then some [D.s (sc (int u64 (if a.getD F 0<f+g then(1:Int)else(0:Int)))),D.io 22 u64 (a.set F ((a.getD F 0-f-g)%18446744073709551616)) 0 0]else none)else none):=lJ aU
def Ot(v o n X:Nat):Nat:=if v/18446744073709551616^o%18446744073709551616^n<X then 1 else 0
def sp(x:List Int×Nat×Nat)(b:List Int)(w:Int):Prop×List D:=(M6.cE x.1/\x.2.2=b.length+1/\x.2.1+x.2.2<=x.1.length/\M6.cE b/\x.1.length<=1099511627776/\0<=w/\w<18446744073709551616,
 [.s (.sc (.int .u64 (Ot (M6.val x.1) x.2.1 x.2.2 (M6.val b*w.toNat)))),.io eX .u64 (M6.nR x.1.length (M6.val x.1+18446744073709551616^(x.2.1+x.2.2)*Ot (M6.val x.1) x.2.1 x.2.2 (M6.val b*w.toNat)-18446744073709551616^x.2.1*(M6.val b*w.toNat))) 0 0])
theorem fin{a z':List Int}{o n X c N:Nat}(aQW:c<=1)(hd:M6.cE a)(Dr:M6.cE z')(hl:z'.length=N)(h1:z'.take o=a.take o)(h2:z'.drop (o+n)=a.drop (o+n))(h:M6.val z'+18446744073709551616^o*X=M6.val a+18446744073709551616^(o+n)*c) :
  c=Ot (M6.val a) o n X/\z'=M6.nR N (M6.val a+18446744073709551616^(o+n)*Ot (M6.val a) o n X-18446744073709551616^o*X):=by
 obtain⟨k1,k2⟩:=M6.Ox hd Dr h1 h2;have e:=M6.Ow k1 k2 h;have iN:=M6.Sl (M6.val z') o n;have hc:c=Ot (M6.val a) o n X:=by
  unfold Ot;have:c=0\/c=1:=by omega
  rcases this with rfl |rfl
  ·rw[aX]
  ·rw[aT]
 subst hc;exact⟨rfl,M6.nC Dr hl (by omega)⟩
theorem aRR{x C s:Int}{p:Nat}(hp:p<=340282366920938463426481119284349108225)(h0:0<=x)(h1:x<18446744073709551616)(h2:0<=C)(h3:C<18446744073709551616)(h4:0<=s)(h5:s<=1) :
  (0<=(p:Int)/18446744073709551616+((p:Int)%18446744073709551616+C+0)/18446744073709551616/\(p:Int)/18446744073709551616+((p:Int)%18446744073709551616+C+0)/18446744073709551616<18446744073709551616) /\
  ((x-((p:Int)%18446744073709551616+C+0)%18446744073709551616-s)%18446744073709551616).toNat+p+C.toNat+s.toNat=x.toNat+18446744073709551616*(((p:Int)/18446744073709551616+((p:Int)%18446744073709551616+C+0)/18446744073709551616).toNat+(if x<((p:Int)%18446744073709551616+C+0)%18446744073709551616+s then(1:Int)else 0).toNat):=by
 split <;> omega
theorem L{a b:List Int}{o:Nat}{w:Int}(hN:a.length<=1099511627776)(ha:M6.cE a)(hb:M6.cE b)(ho:o+(b.length+1)<=a.length)(Yv:0<=w)(aYP:w<18446744073709551616):∀(r i:Nat) (z:List Int) (C s:Int),i+r=b.length->z.length=a.length->M6.cE z->0<=C->C<18446744073709551616->0<=s->s<=1->z.take o=a.take o->z.drop (o+(b.length+1))=a.drop (o+(b.length+1)) ->
  M6.val z+18446744073709551616^o*(M6.val (b.take i)*w.toNat)=M6.val a+18446744073709551616^(o+i)*(C.toNat+s.toNat) ->
  L3 z o (b.length+1) b w C s b.length i=some [.s (.sc (.int .u64 (Ot (M6.val a) o (b.length+1) (M6.val b*w.toNat)))),.io eX .u64 (M6.nR a.length (M6.val a+18446744073709551616^(o+(b.length+1))*Ot (M6.val a) o (b.length+1) (M6.val b*w.toNat)-18446744073709551616^o*(M6.val b*w.toNat))) 0 0]:=by
 intro r
 induction r with
 |zero =>
  intro i z C s hi hz hd h0 h1 h2 h3 ht aHH hv;have aOJ:i=b.length:=by omega
  subst aOJ;rw[bSR]at hv;have g:=hd.get (o+b.length);rw[pQ,aI,aT,bPS,gP ⟨g.1,h0,h1,h2,h3⟩,aT];have hs:=M6.oR (a:=z) (j:=o+b.length) (by omega) ((z.getD (o+b.length) 0-C-s)%18446744073709551616);have hf:=fin (a:=a) (z':=z.set (o+b.length) ((z.getD (o+b.length) 0-C-s)%18446744073709551616)) (o:=o) (n:=b.length+1) (X:=M6.val b*w.toNat) (c:=(if z.getD (o+b.length) 0<C+s then(1:Int)else 0).toNat) (N:=a.length) (by split <;> omega) ha (M6.lT hd (by omega)) (by simp[hz]) (by rw[bWS (by omega)];exact ht) (by rw[bWY (by omega)];exact aHH) (by
   rw[<-bPM o,bQV,bQZ];generalize z.getD (o+b.length) 0=x at *;generalize M6.val (z.set (o+b.length) _)=W at *;generalize 18446744073709551616^(o+b.length)=P at *;have e:((x-C-s)%18446744073709551616).toNat+(C.toNat+s.toNat)=x.toNat+18446744073709551616*(if x<C+s then(1:Int)else 0).toNat:=by split <;> omega
   have e2:P*((x-C-s)%18446744073709551616).toNat+P*(C.toNat+s.toNat)=P*x.toNat+P*(18446744073709551616*(if x<C+s then(1:Int)else 0).toNat):=by
    rw[<-bQW,e,bQW]
   omega)
  rw[<-hf.2,<-hf.1,bXZ (by split <;> omega)]
 |succ r ih =>
  intro i z C s hi hz hd h0 h1 h2 h3 ht aHH hv;have g:=hd.get (o+i);have g2:=hb.get i;have w2:i64.wrap ((i:Int)+1)=((i+1:Nat):Int):=by rw[wrap_i64];omega
  obtain⟨X,hX⟩:=bQY g2.1;obtain⟨Y,hY⟩:=bQY Yv;have bAW:X*Y<=340282366920938463426481119284349108225:=by
   have h2:X<=18446744073709551615:=by omega
   have h3:Y<=18446744073709551615:=by omega
   have:=bWK h2 h3;omega
  obtain⟨k1,k2⟩:=aRR bAW g.1 g.2 h0 h1 h2 h3;rw[pQ,aN,aT,w2];simp only[bPS];have hq:b.getD i 0*w=((X*Y:Nat):Int):=by rw[hX,hY];simp
  rw[gP ⟨g2.1,g2.2,Yv,aYP⟩];simp only[hq];rw[gP ⟨by omega,by omega,by omega,by omega⟩,aT,gP ⟨g.1,by omega,by omega,h2,h3⟩,aT,wrap_u64 k1.1 k1.2];refine ih (i+1) _ _ (if z.getD (o+i) 0<(((X*Y:Nat):Int)%18446744073709551616+C+0)%18446744073709551616+s then(1:Int)else 0) (by omega) (by simp[hz]) (M6.lT hd (by omega)) k1.1 k1.2 (by split <;> omega) (by split <;> omega) (by rw[bWS (by omega)];exact ht) (by rw[bWY (by omega)];exact aHH) ?_;have hs:=M6.oR (a:=z) (j:=o+i) (by omega) ((z.getD (o+i) 0-(((X*Y:Nat):Int)%18446744073709551616+C+0)%18446744073709551616-s)%18446744073709551616);have e0:18446744073709551616^o*(M6.val (b.take (i+1))*w.toNat)=18446744073709551616^o*(M6.val (b.take i)*w.toNat)+18446744073709551616^(o+i)*(X*Y):=by
   rw[M6.cD,hX,hY,bPS,bPS,bMQ,bQW,bQX,bQZ,bQZ]
  rw[e0,show o+(i+1)=(o+i)+1 from by omega,bQV,bQZ];generalize ((z.getD (o+i) 0-(((X*Y:Nat):Int)%18446744073709551616+C+0)%18446744073709551616-s)%18446744073709551616)=d at *;generalize (((X*Y:Nat):Int)/18446744073709551616+(((X*Y:Nat):Int)%18446744073709551616+C+0)/18446744073709551616).toNat=C' at *;generalize (if z.getD (o+i) 0<(((X*Y:Nat):Int)%18446744073709551616+C+0)%18446744073709551616+s then(1:Int)else 0).toNat=s' at *;generalize X*Y=q at *;generalize 18446744073709551616^(o+i)=P at *;generalize M6.val (z.set (o+i) d)=W at *;generalize (z.getD (o+i) 0).toNat=x at *;generalize 18446744073709551616^o*(M6.val (b.take i)*w.toNat)=U at *;have e2:P*d.toNat+P*q+P*(C.toNat+s.toNat)=P*x+P*(18446744073709551616*(C'+s')):=by
   rw[<-bQW,<-bQW,<-bQW];congr 1;omega
  omega
theorem bound{v o n N X:Nat}(hv:v<18446744073709551616^N)(bIF:o+n<=N)(hX:X<18446744073709551616^n):v+18446744073709551616^(o+n)*Ot v o n X-18446744073709551616^o*X<18446744073709551616^N:=by
 have e1:=M6.xP v o n;have hW:=M6.Sl v o n;have hT:v/18446744073709551616^(o+n)<18446744073709551616^(N-(o+n)):=by
  apply bRQ;rw[<-bQX,show o+n+(N-(o+n))=N from by omega];exact hv
 have hL:v%18446744073709551616^o<18446744073709551616^o:=bOE _ (cP);have s2:18446744073709551616^(o+n)*(v/18446744073709551616^(o+n)+1)<=18446744073709551616^N:=by
  have:=bOK (18446744073709551616^(o+n)) hT;rw[<-bQX,show o+n+(N-(o+n))=N from by omega]at this;exact this
 rw[bQW]at s2;unfold Ot;generalize v/18446744073709551616^o%18446744073709551616^n=W at *;generalize v%18446744073709551616^o=L at *;generalize v/18446744073709551616^(o+n)=T at *;split
 ·rename_i iN;have:18446744073709551616^o*(W+1)<=18446744073709551616^o*X:=bOK _ iN;rw[bQW]at this;omega
 ·omega
theorem spec(x:List Int×Nat×Nat)(b:List Int)(w:Int)(h:(sp x b w).1):aF E f234 aE [(Aj eX .u64).put x,(pI .u64).put b,(pN .u64).put w]=some (sp x b w).2/\∃rs lB,(sp x b w).2=rs ++ [.io eX .u64 lB 0 0]/\lB.length=x.1.length:=by
 obtain⟨xl,o,n⟩:=x;obtain⟨hd,hn,ho,hb,hN,Yv,aYP⟩:=h;simp only at hd hn ho hN;subst hn;refine⟨(start xl o (b.length+1) b w).trans ?_,[_],_,rfl,M6.gA (bound (M6.cO hd) ho ?_)⟩
 ·exact L hN hd hb ho Yv aYP b.length 0 xl 0 0 (by omega) rfl hd (by omega) (by omega) (by omega) (by omega) rfl rfl (by simp[M6.val])
 ·rw[bQV];exact bUK (M6.cO hb) (by omega)
def aH:dG:=orc3 (Aj eX .u64) (pI .u64) (pN .u64) sp
theorem fnok:kK prog E 234 f234 aE:=tG pD mixed (kG _ rfl (aA Ii.ok aD) (mF)) func234 rfl rfl rfl rfl rfl
theorem ok:oA prog base.glob 234 aH:=fnok.Al rfl spec
end qM
namespace vR
def E:Env:={ ({ base with n0:=1,io:=[0] })with nt:=44,own:=[24,39],keep:=fun k=>(tlook [(3,[0,1,5,8,9])] k).getD [],cut:=tlook [] }
def aE:=bd f235
theorem aU:Nk E aE:=nk
def L3(a:List Int)(b:Nat)(c:Nat) d f g h:=nO E f235 aE 3 [(A.any,some { e:=(22:Nat),cont:=rI.ints u64 a }),(A.v (V.one (L.view 0 b c)),none),fW d,cZ f,bP g,bP h]
theorem start al ao an b:aF E f235 aE [D.io eX u64 al ao an,D.s (ints u64 b)]=vR.L3 al ao an b 0 (b.length:Int) 0:=eJ aU
theorem pQ a b c d e f g:L3 a b c d e f g=letI G:=b+g.toNat;letI B:=a.getD G 0+d.getD g.toNat 0+e;letI A:=(d.length:Int);letI F:=b+A.toNat;letI C:=a.getD F 0+(0:Int)+e;aB (decide (g<f)) (if 0<=g/\g<(c:Int)then if 0<=g/\g<A then aO (0<=a.getD G 0/\0<=d.getD g.toNat 0/\0<=e/\e<=1) (if 0<=g/\g<(c:Int)then vR.L3 (a.set G (B%18446744073709551616)) b c d (B/18446744073709551616) f (i64.wrap (g+1))else none)else none else none) (if 0<=A/\A<(c:Int)then aO (0<=a.getD F 0/\(0:Int)<=(0:Int)/\0<=e/\e<=1) (if 0<=A/\A<(c:Int)then some [D.s (sc (int u64 (C/18446744073709551616))),D.io 22 u64 (a.set F (C%18446744073709551616)) 0 0]else none)else none):=lJ aU
def Sj(v o n X:Nat):Nat:=(v/18446744073709551616^o%18446744073709551616^n+X)/18446744073709551616^n
def sp(x:List Int×Nat×Nat)(b:List Int):Prop×List D:=(M6.cE x.1/\x.2.2=b.length+1/\x.2.1+x.2.2<=x.1.length/\M6.cE b/\x.1.length<=1099511627776,
 [.s (.sc (.int .u64 (Sj (M6.val x.1) x.2.1 x.2.2 (M6.val b)))),.io eX .u64 (M6.nR x.1.length (M6.val x.1+18446744073709551616^x.2.1*M6.val b-18446744073709551616^(x.2.1+x.2.2)*Sj (M6.val x.1) x.2.1 x.2.2 (M6.val b))) 0 0])
theorem fin{a z':List Int}{o n X c N:Nat}(hd:M6.cE a)(Dr:M6.cE z')(hl:z'.length=N)(h1:z'.take o=a.take o)(h2:z'.drop (o+n)=a.drop (o+n))(h:M6.val z'+18446744073709551616^(o+n)*c=M6.val a+18446744073709551616^o*X) :
  c=Sj (M6.val a) o n X/\z'=M6.nR N (M6.val a+18446744073709551616^o*X-18446744073709551616^(o+n)*Sj (M6.val a) o n X):=by
 obtain⟨k1,k2⟩:=M6.Ox hd Dr h1 h2;have e:=M6.Ow k1.symm k2.symm h.symm;have iN:=M6.Sl (M6.val z') o n;have hc:c=Sj (M6.val a) o n X:=by
  unfold Sj;rw[e];rw[bSM _ _ (cP),bRT iN,bLY]
 subst hc;exact⟨rfl,M6.nC Dr hl (by omega)⟩
theorem L{a b:List Int}{o:Nat}(hN:a.length<=1099511627776)(ha:M6.cE a)(hb:M6.cE b)(ho:o+(b.length+1)<=a.length):∀(r i:Nat) (z:List Int) (c:Int),i+r=b.length->z.length=a.length->M6.cE z->0<=c->c<=1->z.take o=a.take o->z.drop (o+(b.length+1))=a.drop (o+(b.length+1)) ->
  M6.val z+18446744073709551616^(o+i)*c.toNat=M6.val a+18446744073709551616^o*M6.val (b.take i) ->
  L3 z o (b.length+1) b c b.length i=some [.s (.sc (.int .u64 (Sj (M6.val a) o (b.length+1) (M6.val b)))),.io eX .u64 (M6.nR a.length (M6.val a+18446744073709551616^o*M6.val b-18446744073709551616^(o+(b.length+1))*Sj (M6.val a) o (b.length+1) (M6.val b))) 0 0]:=by
 intro r
 induction r with
 |zero =>
  intro i z c hi hz hd h0 h1 ht aHH hv;have aOJ:i=b.length:=by omega
  subst aOJ;rw[bSR]at hv;have g:=hd.get (o+b.length);rw[pQ,aI,aT,bPS,gP ⟨g.1,by omega,h0,h1⟩,aT];have hs:=M6.oR (a:=z) (j:=o+b.length) (by omega) ((z.getD (o+b.length) 0+0+c)%18446744073709551616);have hf:=fin (a:=a) (z':=z.set (o+b.length) ((z.getD (o+b.length) 0+0+c)%18446744073709551616)) (o:=o) (n:=b.length+1) (X:=M6.val b) (c:=((z.getD (o+b.length) 0+0+c)/18446744073709551616).toNat) (N:=a.length) ha (M6.lT hd (by omega)) (by simp[hz]) (by rw[bWS (by omega)];exact ht) (by rw[bWY (by omega)];exact aHH) (by
   rw[<-bPM o,bQV,bQZ];generalize z.getD (o+b.length) 0=x at *;generalize M6.val (z.set (o+b.length) _)=W at *;generalize 18446744073709551616^(o+b.length)=P at *;have e:((x+0+c)%18446744073709551616).toNat+18446744073709551616*((x+0+c)/18446744073709551616).toNat=x.toNat+c.toNat:=by omega
   have e2:P*((x+0+c)%18446744073709551616).toNat+P*(18446744073709551616*((x+0+c)/18446744073709551616).toNat)=P*x.toNat+P*c.toNat:=by
    rw[<-bQW,e,bQW]
   omega)
  rw[<-hf.2,<-hf.1,bXZ (by omega)]
 |succ r ih =>
  intro i z c hi hz hd h0 h1 ht aHH hv;have g:=hd.get (o+i);have g2:=hb.get i;have w2:i64.wrap ((i:Int)+1)=((i+1:Nat):Int):=by rw[wrap_i64];omega
  rw[pQ,aN,aT,aT,bPS,gP ⟨g.1,g2.1,h0,h1⟩,aT,w2];refine ih (i+1) _ _ (by omega) (by simp[hz]) (M6.lT hd (by omega)) (by omega) (by omega) (by rw[bWS (by omega)];exact ht) (by rw[bWY (by omega)];exact aHH) ?_;have hs:=M6.oR (a:=z) (j:=o+i) (by omega) ((z.getD (o+i) 0+b.getD i 0+c)%18446744073709551616);rw[M6.cD,bQW,<-bQZ,<-bQX,show o+(i+1)=(o+i)+1 from by omega,bQV,bQZ];generalize z.getD (o+i) 0=x at *;generalize b.getD i 0=y at *;generalize M6.val (z.set (o+i) _)=W at *;generalize 18446744073709551616^(o+i)=P at *;generalize 18446744073709551616^o*M6.val (b.take i)=U at *;have e:((x+y+c)%18446744073709551616).toNat+18446744073709551616*((x+y+c)/18446744073709551616).toNat=x.toNat+y.toNat+c.toNat:=by omega
  have e2:P*((x+y+c)%18446744073709551616).toNat+P*(18446744073709551616*((x+y+c)/18446744073709551616).toNat)=P*x.toNat+P*y.toNat+P*c.toNat:=by
   rw[<-bQW,e,bQW,bQW]
  omega
theorem bound{v o n N X:Nat}(hv:v<18446744073709551616^N)(bIF:o+n<=N):v+18446744073709551616^o*X-18446744073709551616^(o+n)*Sj v o n X<18446744073709551616^N:=by
 have e1:=M6.xP v o n;unfold Sj;generalize hW:v/18446744073709551616^o%18446744073709551616^n=W at *;have h2:=bWN (W+X) (18446744073709551616^n);have h3:(W+X)%18446744073709551616^n<18446744073709551616^n:=bOE _ (cP);generalize (W+X)/18446744073709551616^n=c at *;generalize (W+X)%18446744073709551616^n=M at *;have hL:v%18446744073709551616^o<18446744073709551616^o:=bOE _ (cP);have hT:v/18446744073709551616^(o+n)<18446744073709551616^(N-(o+n)):=by
  apply bRQ;rw[<-bQX,show o+n+(N-(o+n))=N from by omega];exact hv
 generalize v%18446744073709551616^o=L at *;generalize v/18446744073709551616^(o+n)=T at *;have e3:18446744073709551616^(o+n)*c=18446744073709551616^o*(18446744073709551616^n*c):=by rw[bQX,bQZ]
 have e4:18446744073709551616^o*(W+X)=18446744073709551616^o*M+18446744073709551616^o*(18446744073709551616^n*c):=by rw[<-h2,bQW]
 rw[bQW]at e4;have e5:v+18446744073709551616^o*X-18446744073709551616^(o+n)*c=L+18446744073709551616^o*M+18446744073709551616^(o+n)*T:=by omega
 rw[e5];have s1:L+18446744073709551616^o*M<18446744073709551616^(o+n):=by
  have:18446744073709551616^o*(M+1)<=18446744073709551616^o*18446744073709551616^n:=bOK _ h3;rw[<-bQX,bQW]at this;omega
 have s2:18446744073709551616^(o+n)*(T+1)<=18446744073709551616^N:=by
  have:=bOK (18446744073709551616^(o+n)) hT;rw[<-bQX,show o+n+(N-(o+n))=N from by omega]at this;exact this
 rw[bQW]at s2;omega
theorem spec(x:List Int×Nat×Nat)(b:List Int)(h:(sp x b).1):aF E f235 aE [(Aj eX .u64).put x,(pI .u64).put b]=some (sp x b).2/\∃rs lB,(sp x b).2=rs ++ [.io eX .u64 lB 0 0]/\lB.length=x.1.length:=by
 obtain⟨xl,o,n⟩:=x;obtain⟨hd,hn,ho,hb,hN⟩:=h;simp only at hd hn ho hN;subst hn;refine⟨(start xl o (b.length+1) b).trans ?_,[_],_,rfl,M6.gA (bound (M6.cO hd) ho)⟩;exact L hN hd hb ho b.length 0 xl 0 (by omega) rfl hd (by omega) (by omega) rfl rfl (by simp[M6.val])
def aH:dG:=orc2 (Aj eX .u64) (pI .u64) sp
theorem fnok:kK prog E 235 f235 aE:=tG pD mixed (kG _ rfl aD (mF)) func235 rfl rfl rfl rfl rfl
theorem ok:oA prog base.glob 235 aH:=fnok.lA rfl spec
end vR
namespace Bg
def E:Env:={ ({ base with C:=oY [(234,qM.aH),(235,vR.aH)] (callsOf [(233,Ux.aH)]),ioF:=Je [(234,qM.aH),(235,vR.aH)],n0:=1,io:=[0] })with nt:=72,own:=[],keep:=fun k=>(tlook [(10,[0,1,5,6,7,8,9]),(4,[0,1,5,6,7])] k).getD [],cut:=tlook [] }
def aE:=bd f209
theorem aU:Nk E aE:=nk
def L4(a:List Int)(b:Nat)(c:Nat) d f (g:Nat) (h:List Int) x7:=nO E f209 aE 4 [(A.any,some { e:=(22:Nat),cont:=rI.ints u64 a }),(A.v (V.one (L.view 0 b c)),none),fW d,bP f,yG 4 g 22 h,bP x7]
def Im(a:List Int)(b:Nat)(c:Nat) d f (g:Nat) (h:List Int) x7 i (j:Nat) (k:Nat):=nO E f209 aE 10 [(A.any,some { e:=(22:Nat),cont:=rI.ints u64 a }),(A.v (V.one (L.view 0 b c)),none),fW d,bP f,yG 4 g 22 h,bP x7,cZ i,(A.v (V.one (L.view 0 j k)),none)]
theorem start al ao an b:aF E f209 aE [D.io eX u64 al ao an,D.s (ints u64 b)]=letI B:=(an:Int);letI A:=(b.length:Int);if 0<=i64.wrap (B-A)/\i64.wrap (B-A)<=i64.wrap (B-A)/\i64.wrap (B-A)<=8796093022208 then Bg.L4 al ao an b A (i64.wrap (B-A)).toNat (bNZ (i64.wrap (B-A)).toNat (0:Int)) (i64.wrap (i64.wrap (B-A)-1))else none:=eJ aU
theorem kS a b c d e f g h:L4 a b c d e f g h=letI N:=b+h.toNat;letI K:=i64.wrap (e-1);letI H:=i64.wrap (h+e)+1;letI G:=i64.wrap (h+e)-1;letI F:=b+(i64.wrap (h+e)).toNat;letI B:=b+(i64.wrap G).toNat;letI A:=i64.wrap H;letI C:=A.toNat-h.toNat;aB (decide (0<=h)) (if 0<=i64.wrap (h+e)/\i64.wrap (h+e)<(c:Int)then if 0<=i64.wrap G/\i64.wrap G<(c:Int)then if 0<=i64.wrap (e-1)/\i64.wrap (e-1)<(d.length:Int)then aO (0<=a.getD F 0/\0<=a.getD B 0/\a.getD B 0<(18446744073709551616:Int)/\d.getD K.toNat 0<(18446744073709551616:Int)) (aC (if d.getD K.toNat 0<=a.getD F 0 then(18446744073709551615:Int)else(↑(((a.getD F 0).toNat*18446744073709551616+(a.getD B 0).toNat)/(d.getD K.toNat 0).toNat):Int)) fun i=>letI I:=M6.val d*i.toNat;if 0<=h/\h<=i64.wrap H/\i64.wrap H<=(c:Int)then aO (M6.cE a/\A.toNat-h.toNat=d.length+1/\b+h.toNat+C<=a.length/\M6.cE d/\a.length<=1099511627776/\0<=i/\i<18446744073709551616) (aC (↑(qM.Ot (M6.val a) N C I):Int) fun j=>aC (M6.nR a.length (M6.val a+(18446744073709551616:Nat)^(b+h.toNat+C)*qM.Ot (M6.val a) N C I-(18446744073709551616:Nat)^N*I)) fun k=>aB (j==0) (if 0<=h/\h<(f:Int)then Bg.L4 k b c d e f (g.set h.toNat i) (i64.wrap (h-1))else none) (Bg.Im k b c d e f g h i N C))else none)else none else none else none) (some [D.own 22 u64 g,D.io 22 u64 a 0 0]):=lJ aU
theorem sM a b c d e f g h i j k:Im a b c d e f g h i j k=aO (M6.cE a/\k=d.length+1/\j+k<=a.length/\M6.cE d/\a.length<=1099511627776) (aC (↑(vR.Sj (M6.val a) j k (M6.val d)):Int) fun l=>aC (M6.nR a.length (M6.val a+(18446744073709551616:Nat)^j*M6.val d-(18446744073709551616:Nat)^(j+k)*vR.Sj (M6.val a) j k (M6.val d))) fun m=>aB (l==1) (if 0<=h/\h<(f:Int)then Bg.L4 m b c d e f (g.set h.toNat (u64.wrap (i-1))) (i64.wrap (h-1))else none) (Bg.Im m b c d e f g h (u64.wrap (i-1)) j k)):=lJ aU
def sp(x:List Int×Nat×Nat)(b:List Int):Prop×List D:=(M6.cE x.1/\x.2.1=0/\x.2.2=x.1.length/\M6.cE b/\0<b.length/\b.length<=x.1.length/\x.1.length<=549755813888/\M6.val x.1/18446744073709551616^(x.1.length-b.length)<M6.val b,
 [.own eX .u64 (M6.nR (x.1.length-b.length) (M6.val x.1/M6.val b)),.io eX .u64 (M6.nR x.1.length (M6.val x.1%M6.val b)) 0 0])
theorem digit{z:List Int}(hd:M6.cE z)(k:Nat):(z.getD k 0).toNat=M6.val z/18446744073709551616^k%18446744073709551616:=by
 rw[<-M6.jD hd,M6.fY];have:=hd.get k;omega
theorem En{v j n:Nat}(h:v/18446744073709551616^j<18446744073709551616^n):v/18446744073709551616^j%18446744073709551616^n=v/18446744073709551616^j:=bWL h
theorem minus{v j R X:Nat}(hR:R=v/18446744073709551616^j)(hX:X<=R):(v-18446744073709551616^j*X)/18446744073709551616^j=R-X/\18446744073709551616^j*X<=v:=by
 have h1:=bWN v (18446744073709551616^j);have h2:v%18446744073709551616^j<18446744073709551616^j:=bOE _ (cP);rw[<-hR]at h1;obtain⟨D,rfl⟩:=bNB hX;rw[bQW]at h1;have h3:v-18446744073709551616^j*X=v%18446744073709551616^j+18446744073709551616^j*D:=by omega
 rw[h3,bSM _ _ (cP),bRT h2];omega
theorem plus{v j n R X:Nat}(hR:R=v/18446744073709551616^j)(hX:R<X)(aQX:X<=18446744073709551616^n):(v+18446744073709551616^(j+n)-18446744073709551616^j*X)/18446744073709551616^j%18446744073709551616^n=R+18446744073709551616^n-X:=by
 have h1:=bWN v (18446744073709551616^j);have h2:v%18446744073709551616^j<18446744073709551616^j:=bOE _ (cP);rw[<-hR]at h1;have h4:18446744073709551616^j*(R+18446744073709551616^n)=18446744073709551616^j*R+18446744073709551616^(j+n):=by rw[bQW,bQX]
 obtain⟨D,hD⟩:∃D,R+18446744073709551616^n=X+D:=bNB (by omega);rw[hD,bQW]at h4;have h3:v+18446744073709551616^(j+n)-18446744073709551616^j*X=v%18446744073709551616^j+18446744073709551616^j*D:=by omega
 rw[h3,bSM _ _ (cP),bRT h2,bLY,bWL (by omega)];omega
theorem aBC{R V n:Nat}{hi lo d:Int}(hn:0<n)(hV:V<18446744073709551616^n)(aXB:R<18446744073709551616*V)(Si:hi.toNat=R/18446744073709551616^n)(Ts:lo.toNat=R/18446744073709551616^(n-1)%18446744073709551616)(hd:d.toNat=V/18446744073709551616^(n-1))(h0:0<=hi) :
  R/V<=(if d<=hi then(18446744073709551615:Int)else(((hi.toNat*18446744073709551616+lo.toNat)/d.toNat:Nat):Int)).toNat/\(0<=if d<=hi then(18446744073709551615:Int)else(((hi.toNat*18446744073709551616+lo.toNat)/d.toNat:Nat):Int))/\(if d<=hi then(18446744073709551615:Int)else(((hi.toNat*18446744073709551616+lo.toNat)/d.toNat:Nat):Int))<18446744073709551616:=by
 by_cases hc:d<=hi
 ·rw[if_pos hc];refine⟨?_,by omega,by omega⟩;have:R/V<18446744073709551616:=by
   apply bRQ;rw[bQU];exact aXB
  show R/V<=18446744073709551615;omega
 ·rw[if_neg hc];obtain⟨k,rfl⟩:∃k,n=k+1:=⟨n-1,by omega⟩;rw[Nat.add_sub_cancel]at Ts hd;have e1:hi.toNat*18446744073709551616+lo.toNat=R/18446744073709551616^k:=by
   rw[Si,Ts,bQV,<-bRN];omega
  have bJR:0<d.toNat:=by omega
  have iN:hi.toNat<d.toNat:=by omega
  refine⟨?_,bVP _,?_⟩
  ·rw[bPS,e1,bRN];apply bWT
   ·rw[hd];exact bWV _ _
   ·exact Nat.mul_pos (cP) bJR
  ·have hlo2:lo.toNat<18446744073709551616:=by rw[Ts];exact bOE _ (by omega)
   have:(hi.toNat*18446744073709551616+lo.toNat)/d.toNat<18446744073709551616:=by
    apply bRQ;have:(hi.toNat+1)*18446744073709551616<=d.toNat*18446744073709551616:=bNJ _ iN;omega
   exact Int.ofNat_lt.2 this
theorem bCM{u b qs:List Int}{L j R q:Nat}(hL:L<=549755813888)(hu:u.length=L)(hd:M6.cE u)(hb:M6.cE b)(hj:j+(b.length+1)<=L)(hR:R=M6.val u/18446744073709551616^j)(aMF:R<18446744073709551616^(b.length+1))(hV:0<M6.val b)(hq:q=R/M6.val b)(hqs:qs.length=L-b.length):∀(k w:Nat),w=q+(k+1)->w<18446744073709551616 ->
  Im (M6.nR L (M6.val u+18446744073709551616^(j+(b.length+1))-18446744073709551616^j*(M6.val b*w))) 0 L b b.length (L-b.length) qs j w j (b.length+1)=L4 (M6.nR L (M6.val u-18446744073709551616^j*(M6.val b*q))) 0 L b b.length (L-b.length) (qs.set j (q:Int)) ((j:Int)-1):=by
 have aUW:=M6.cO hb;have aWN:M6.val b*q<=R:=by rw[hq];exact bWV _ _
 have aOD:R<M6.val b*(q+1):=by rw[hq];exact bXE _ hV
 have aSW:=M6.cO hd;rw[hu]at aSW;intro k
 induction k with
 |zero =>
  intro w hw bHK;subst hw;have aQX:M6.val b*(q+(0+1))<=18446744073709551616^(b.length+1):=by
   rw[bQV];exact bWK (by omega) (by omega)
  have Sg:=plus (n:=b.length+1) hR (X:=M6.val b*(q+(0+1))) aOD aQX;have aUT:M6.val u+18446744073709551616^(j+(b.length+1))-18446744073709551616^j*(M6.val b*(q+(0+1)))<18446744073709551616^L:=by
   have:=qM.bound aSW hj (X:=M6.val b*(q+(0+1))) (by rw[bQV];exact bUK aUW (by omega));unfold qM.Ot at this;rw[En (by rw[<-hR];exact aMF),<-hR,if_pos aOD,bMG]at this;exact this
  have aOT:vR.Sj (M6.val u+18446744073709551616^(j+(b.length+1))-18446744073709551616^j*(M6.val b*(q+(0+1)))) j (b.length+1) (M6.val b)=1:=by
   unfold vR.Sj;rw[Sg];have e:R+18446744073709551616^(b.length+1)-M6.val b*(q+(0+1))+M6.val b=18446744073709551616^(b.length+1)*1+(R-M6.val b*q):=by
    rw[bQW]at aQX ⊢;omega
   have iN:R-M6.val b*q<18446744073709551616^(b.length+1):=by omega
   rw[e,bVO (cP),bRT iN]
  have w1:u64.wrap (((q+(0+1):Nat):Int)-1)=(q:Int):=by rw[wrap_u64];omega
  have w2:i64.wrap ((j:Int)-1)=(j:Int)-1:=by rw[wrap_i64]
  rw[sM,aK,aK,M6.gA aUT,M6.kE,aOT,gP ⟨M6.kF,by trivial,hj,hb,by omega⟩,cN (by rfl),aT,w1,w2,bPS];congr 1;congr 1;have e1:18446744073709551616^j*(M6.val b*(q+(0+1)))=18446744073709551616^j*(M6.val b*q)+18446744073709551616^j*M6.val b:=by rw[bQW,bQW];simp
  have e2:=(minus hR aWN).2;have e3:18446744073709551616^j*M6.val b<=18446744073709551616^(j+(b.length+1)):=by
   rw[bQX,bQV];exact bOK _ (by omega)
  omega
 |succ k ih =>
  intro w hw bHK;subst hw;have aTV:R<M6.val b*(q+(k+1)):=bMW aOD (bOK _ (by omega));have aDJ:M6.val b*(q+(k+1+1))=M6.val b*(q+(k+1))+M6.val b:=by rw[<-bPM q,Nat.mul_succ]
  have aQX:M6.val b*(q+(k+1+1))<=18446744073709551616^(b.length+1):=by
   rw[bQV];exact bWK (by omega) (by omega)
  have Sg:=plus (n:=b.length+1) hR (X:=M6.val b*(q+(k+1+1))) (by omega) aQX;have aUT:M6.val u+18446744073709551616^(j+(b.length+1))-18446744073709551616^j*(M6.val b*(q+(k+1+1)))<18446744073709551616^L:=by
   have:=qM.bound aSW hj (X:=M6.val b*(q+(k+1+1))) (by rw[bQV];exact bUK aUW (by omega));unfold qM.Ot at this;rw[En (by rw[<-hR];exact aMF),<-hR,aT,bMG]at this;exact this
  have aOT:vR.Sj (M6.val u+18446744073709551616^(j+(b.length+1))-18446744073709551616^j*(M6.val b*(q+(k+1+1)))) j (b.length+1) (M6.val b)=0:=by
   unfold vR.Sj;rw[Sg];exact bRT (by omega)
  have w1:u64.wrap (((q+(k+1+1):Nat):Int)-1)=((q+(k+1):Nat):Int):=by rw[wrap_u64];omega
  rw[sM,aK,aK,M6.gA aUT,M6.kE,aOT,gP ⟨M6.kF,by trivial,hj,hb,by omega⟩,bV (by decide),w1];have e4:M6.val u+18446744073709551616^(j+(b.length+1))-18446744073709551616^j*(M6.val b*(q+(k+1+1)))+18446744073709551616^j*M6.val b-18446744073709551616^(j+(b.length+1))*0=M6.val u+18446744073709551616^(j+(b.length+1))-18446744073709551616^j*(M6.val b*(q+(k+1))):=by
   have e1:18446744073709551616^j*(M6.val b*(q+(k+1+1)))=18446744073709551616^j*(M6.val b*(q+(k+1)))+18446744073709551616^j*M6.val b:=by rw[aDJ,bQW]
   have e3:18446744073709551616^j*(M6.val b*(q+(k+1+1)))<=18446744073709551616^(j+(b.length+1)):=by
    rw[bQX];exact bOK _ aQX
   omega
  rw[e4];exact ih _ rfl (by omega)
theorem aHR{α R:Type}{x:α}{k:α->Option R}{r:Option R}(Q:α->Prop)(hx:Q x)(hk:∀w,Q w->k w=r):aC x k=r:=hk x hx
theorem bLU{b:List Int}{L U0:Nat}(hL:L<=549755813888)(hb:M6.cE b)(hn:0<b.length)(hbL:b.length<=L):∀(t:Nat) (u qs:List Int),t<=L-b.length->u.length=L->M6.cE u->qs.length=L-b.length->M6.cE qs->M6.val u/18446744073709551616^t<M6.val b->U0=M6.val u+M6.val b*(18446744073709551616^t*M6.val (qs.drop t)) ->
  L4 u 0 L b b.length (L-b.length) qs ((t:Int)-1)=some [.own eX .u64 (M6.nR (L-b.length) (U0/M6.val b)),.io eX .u64 (M6.nR L (U0%M6.val b)) 0 0]:=by
 have aUW:=M6.cO hb;intro t
 induction t with
 |zero =>
  intro u qs _ hu hd hq bAE iN hU;rw[bVX,bXH]at iN;rw[bVX,bPZ,bSE]at hU;rw[kS,aI];have e1:U0/M6.val b=M6.val qs:=by rw[hU,bSM _ _ (by omega),bRT iN,bLY]
  have e2:U0%M6.val b=M6.val u:=by rw[hU,bXV,bWL iN]
  rw[M6.nC hd hu e2.symm,M6.nC bAE hq e1.symm]
 |succ j ih =>
  intro u qs hj hu hd hq bAE iN hU;obtain⟨R,hR⟩:∃R,R=M6.val u/18446744073709551616^j:=⟨_,rfl⟩;have hV:0<M6.val b:=bSL (bRZ _) iN;have aXB:R<18446744073709551616*M6.val b:=by
   rw[bQV,<-bRN,<-hR]at iN;rw[bQU];exact(bXF (by omega)).1 iN
  have aMF:R<18446744073709551616^(b.length+1):=by rw[bQV];omega
  obtain⟨q,aWM⟩:∃q,q=R/M6.val b:=⟨_,rfl⟩;have aWN:M6.val b*q<=R:=by rw[aWM];exact bWV _ _
  have hqB:q<18446744073709551616:=by
   rw[aWM];apply bRQ;rw[bQU];exact aXB
  have aSW:=M6.cO hd;rw[hu]at aSW;have bDF:L4 (M6.nR L (M6.val u-18446744073709551616^j*(M6.val b*q))) 0 L b b.length (L-b.length) (qs.set j (q:Int)) ((j:Int)-1)=some [.own eX .u64 (M6.nR (L-b.length) (U0/M6.val b)),.io eX .u64 (M6.nR L (U0%M6.val b)) 0 0]:=by
   obtain⟨m1,m2⟩:=minus hR aWN;refine ih _ _ (by omega) (M6.gA (by omega)) M6.kF (by simp[hq]) (M6.lT bAE ⟨by omega,by omega⟩) ?_ ?_
   ·rw[M6.kE,m1];have h1:=bWN R (M6.val b);have h2:=bOE R hV;rw[<-aWM]at h1;omega
   ·rw[M6.kE,M6.qP (by omega),bPS,hU,bQV];have e1:M6.val b*(18446744073709551616^j*(q+18446744073709551616*M6.val (qs.drop (j+1))))=18446744073709551616^j*(M6.val b*q)+M6.val b*(18446744073709551616^j*18446744073709551616*M6.val (qs.drop (j+1))):=by
     rw[bQW,bQW,bTT,bQZ (18446744073709551616^j)]
    rw[e1];omega
  have hx:((j+1:Nat):Int)-1=(j:Int):=by omega
  have w1:i64.wrap ((j:Int)+(b.length:Int))=((j+b.length:Nat):Int):=by rw[wrap_i64];omega
  have w2:i64.wrap (((j+b.length:Nat):Int)-1)=((j+b.length-1:Nat):Int):=by rw[wrap_i64];omega
  have w3:i64.wrap ((b.length:Int)-1)=((b.length-1:Nat):Int):=by rw[wrap_i64];omega
  have w4:i64.wrap (((j+b.length:Nat):Int)+1)=((j+b.length+1:Nat):Int):=by rw[wrap_i64];omega
  have w5:i64.wrap ((j:Int)-1)=(j:Int)-1:=by rw[wrap_i64]
  have e5:j+b.length+1-j=b.length+1:=by omega
  have g1:=hd.get (j+b.length);have g2:=hd.get (j+b.length-1);have g3:=hb.get (b.length-1);have Si:(u.getD (j+b.length) 0).toNat=R/18446744073709551616^b.length:=by
   rw[digit hd,bQX,<-bRN,<-hR,bWL];apply bRQ;rw[bQV]at aMF;exact aMF
  have Ts:(u.getD (j+b.length-1) 0).toNat=R/18446744073709551616^(b.length-1)%18446744073709551616:=by
   rw[digit hd,show j+b.length-1=j+(b.length-1)from by omega,bQX,<-bRN,<-hR]
  have aLW:(b.getD (b.length-1) 0).toNat=M6.val b/18446744073709551616^(b.length-1):=by
   rw[digit hb,bWL];apply bRQ;rw[<-bQV,show(b.length-1).succ=b.length from by omega];exact aUW
  have ht:=aBC hn aUW aXB Si Ts aLW g1.1;rw[hx,kS,aN,w1,w2,w3,w4,aT,aT,aT,bPS,bPS,bPS,bLY,bLY,gP ⟨g1.1,g2.1,g2.2,g3.2⟩];refine aHR (fun w:Int=>R/M6.val b<=w.toNat/\0<=w/\w<18446744073709551616) ht ?_;rintro w ⟨yP,h0,h1⟩;obtain⟨w,rfl⟩:=bQY h0;rw[bPS]at yP;rw[aT];simp only[bPS,bLY,e5];rw[hu,gP ⟨hd,by trivial,by omega,hb,by omega,h0,h1⟩,aK,aK]
  by_cases hc:M6.val b*w<=R
  ·have ho:qM.Ot (M6.val u) j (b.length+1) (M6.val b*w)=0:=by
    unfold qM.Ot;rw[En (by rw[<-hR];exact aMF),<-hR,aX]
   have bDN:w=q:=by
    have:w<=R/M6.val b:=by rw[bXS hV,bQU];exact hc
    omega
   subst bDN;rw[ho,cN (by rfl),aT,Nat.mul_zero,bMX,w5];exact bDF
  ·have ho:qM.Ot (M6.val u) j (b.length+1) (M6.val b*w)=1:=by
    unfold qM.Ot;rw[En (by rw[<-hR];exact aMF),<-hR,aT]
   have bDN:q<w:=by
    rcases bML q w with h |h
    ·exact h
    ·exact absurd (bMS (bOK _ h) aWN) hc
   rw[ho,bV (by decide),bMG];rw[bCM hL hu hd hb (by omega) hR aMF hV aWM hq (w-q-1) w (by omega) (by omega)];exact bDF
theorem spec(x:List Int×Nat×Nat)(b:List Int)(h:(sp x b).1):aF E f209 aE [(Aj eX .u64).put x,(pI .u64).put b]=some (sp x b).2/\∃rs lB,(sp x b).2=rs ++ [.io eX .u64 lB 0 0]/\lB.length=x.1.length:=by
 obtain⟨xl,xo,xn⟩:=x;obtain⟨hd,ho,hn,hb,h0,aMA,hL,iN⟩:=h;simp only at hd ho hn aMA hL iN;subst ho;subst hn;refine⟨(start xl 0 xl.length b).trans ?_,[_],_,rfl,M6.gA ?_⟩
 ·have w1:i64.wrap ((xl.length:Int)-(b.length:Int))=((xl.length-b.length:Nat):Int):=by rw[wrap_i64];omega
  have w2:i64.wrap (((xl.length-b.length:Nat):Int)-1)=((xl.length-b.length:Nat):Int)-1:=by rw[wrap_i64]
  rw[w1,w2,aT,bPS];refine bLU hL hb h0 aMA (xl.length-b.length) xl _ (bLW _) rfl hd (by simp) (M6.iI _) iN ?_;rw[bXJ (by simp)];simp[M6.val]
 ·show _<18446744073709551616^xl.length;exact bSL (Nat.mod_le _ _) (M6.cO hd)
def aH:dG:=orc2 (Aj eX .u64) (pI .u64) sp
theorem fnok:kK prog E 209 f209 aE:=tG pD mixed (kI _ _ rfl rfl (kR qM.ok (kR vR.ok uW)) (aA Ux.ok aD) (mF)) func209 rfl rfl rfl rfl rfl
theorem ok:oA prog base.glob 209 aH:=fnok.lA rfl spec
end Bg
namespace Db
def E:Env:={ ({ base with C:=oY [(209,Bg.aH)] (callsOf [(167,fA.aH),(125,De.aH),(205,aGJ.aH),(206,lM.aH),(117,mM.aH),(207,aGN.aH),(208,xD.aH),(115,Bm.aH)]),ioF:=Je [(209,Bg.aH)] })with nt:=98,own:=[37,49,55,68,76,88,93],keep:=fun k=>(tlook [] k).getD [],cut:=tlook [(3,[0,1])] }
def aE:=bd f165
theorem aU:Nk E aE:=nk
def J3 a b:=kV E f165 aE 3 [fW a,fW b]
theorem start a b:aF E f165 aE [D.s (ints u64 a),D.s (ints u64 b)]=letI B:=sc (slice none 0 0);letI A:=some [D.s B,D.s B,D.s (sc (int i64 2))];aO (a.length<=1099511627776) (aB (!fA.mR a) A (aO (b.length<=1099511627776) (aB (!fA.mR b) A (Db.J3 a b)))):=eJ aU
theorem fR a b:J3 a b=letI K:=sc (int i64 0);letI H:=(a.length:Int);letI O:=H+(1:Int);letI G:=sc (slice none 0 0);letI C:=i64.wrap O;letI A:=(b.length:Int);letI N:=A-(1:Int);letI F:=i64.wrap N;aB (A==(0:Int)) (some [D.s G,D.s G,D.s (sc (int i64 4))]) (aO (M6.cE a/\M6.cE b/\a.length<=1099511627776/\b.length<=1099511627776) (aB (decide (mV (M6.val a) (M6.val b)<0)) (aO (M6.cE a/\a.length<=1099511627776) (aC (bif cC.kU (M6.val a)then M6.dg (M6.val a)else []) fun c=>some [D.s G,D.s (ints u64 c),D.s K])) (aB (A==(1:Int)) (if(0:Int)<=(0:Int)/\0<A then aO (M6.cF a/\a.length<=8192/\0<b.getD 0 0/\b.getD 0 0<(18446744073709551616:Int)) (aC (M6.dg (M6.val a/(b.getD 0 0).toNat)) fun d=>aC (↑(M6.val a%(b.getD 0 0).toNat):Int) fun e=>aO (0<=e/\e<18446744073709551616) (some [D.s (ints u64 d),D.s (ints u64 (M6.dg e.toNat)),D.s K]))else none) (if 0<=i64.wrap N/\i64.wrap N<A then aO (0<=b.getD F.toNat 0/\b.getD F.toNat 0<(18446744073709551616:Int)) (aC ((64:Int)-(↑(bl (b.getD F.toNat 0).toNat):Int)) fun f=>aO (M6.cE a/\0<=f/\f<64/\0<=i64.wrap O/\a.length<=C.toNat/\i64.wrap O<=549755813888/\M6.val a*(2:Nat)^f.toNat<(18446744073709551616:Nat)^C.toNat) (aC (M6.nR C.toNat (M6.val a*(2:Nat)^f.toNat)) fun g=>aO (M6.cE b/\0<=f/\f<64/\0<=A/\b.length<=A.toNat/\A<=(549755813888:Int)/\M6.val b*(2:Nat)^f.toNat<(18446744073709551616:Nat)^A.toNat) (aC (M6.nR A.toNat (M6.val b*(2:Nat)^f.toNat)) fun h=>letI P:=g.length-h.length;letI I:=(h.length:Int);aO (M6.cE g/\(0:Nat)=(0:Nat)/\g.length=g.length/\M6.cE h/\0<h.length/\h.length<=g.length/\g.length<=549755813888/\M6.val g/(18446744073709551616:Nat)^P<M6.val h) (aC (M6.nR P (M6.val g/M6.val h)) fun i=>aC (M6.nR g.length (M6.val g%M6.val h)) fun j=>letI B:=bRR (I.toNat-0) (bRS 0 j);if(0:Int)<=(0:Int)/\0<=I/\I<=(g.length:Int)then aO (M6.cE B/\B.length<=1099511627776) (aC (bif cC.kU (M6.val B)then M6.dg (M6.val B)else []) fun k=>aO (M6.cF k/\k.length<=8192/\0<=f/\f<4611686018427387904) (aC (M6.dg (M6.val k/(2:Nat)^f.toNat)) fun l=>aO (M6.cE i/\i.length<=1099511627776) (aC (bif cC.kU (M6.val i)then M6.dg (M6.val i)else []) fun m=>some [D.s (ints u64 m),D.s (ints u64 l),D.s K])))else none))))else none)))):=cJ aU
def sp(a b:List Int):Prop×List D:=(M6.cF a/\a.length<=8192/\M6.cF b/\1<=b.length/\b.length<=8192,[.s (.ints .u64 (M6.dg (M6.val a/M6.val b))),.s (.ints .u64 (M6.dg (M6.val a%M6.val b))),.s (.sc (.int .i64 0))])
theorem Te{n k:Nat}(h:n<18446744073709551616^k)(hk:k<=8192):cC.kU n=true:=decide_eq_true (by have:=M6.cR h;omega)
theorem spec:El E f165 aE (pI .u64) (pI .u64) sp:=by
 rintro a b ⟨ha,hl,hb,h1,aMA⟩;have e:=start a b;have g:=hb.iU.get 0;have hz:M6.val b≠0:=fun h=>by have:=(M6.cS hb).2 h;omega
 rw[gP,fA.lS ha hl,bNW,bF,gP,fA.lS hb (by omega),bNW,bF,fR,bV,gP ⟨ha.iU,hb.iU,by omega,by omega⟩]at e;unfold sp;simp only
 by_cases hc:M6.val a<M6.val b
 ·have Qb:cC.kU (M6.val a)=true:=Te (M6.cO ha.iU) hl;rw[aN (by unfold mV;rw[if_pos hc];omega),gP ⟨ha.iU,by omega⟩,aK,Qb]at e;rw[bRT hc,bWL hc,M6.bJ];exact⟨_,e,.cons (vW.nil _) (fP.refl _)⟩
 have hm:=bOE (M6.val a) (show 0<M6.val b by omega);rw[aI (by unfold mV;rw[if_neg hc];split <;> omega)]at e
 by_cases Mt:b.length=1
 ·have hv:M6.val b=(b.getD 0 0).toNat:=by
   have:=M6.cD (a:=b) 0;rw[M6.cG (by omega)]at this;simpa [M6.val] using this
  rw[cN,if_pos ⟨by omega,by omega⟩,gP ⟨ha,by omega,by omega,by omega⟩,<-hv,aK,aK,gP ⟨bVP _,by generalize M6.val a%M6.val b=m at *;omega⟩,bPS]at e;exact⟨_,e,fP.refl _⟩
 ·have w1:i64.wrap ((b.length:Int)-1)=((b.length-1:Nat):Int):=by rw[wrap_i64];omega
  have w2:i64.wrap ((a.length:Int)+1)=((a.length+1:Nat):Int):=by rw[wrap_i64];omega
  have gt:=hb.iU.get (b.length-1);have htop:b.getD (b.length-1) 0≠0:=by
   have:=M6.getLast_take (a:=b) (n:=b.length-1) (by omega);rw[show b.length-1+1=b.length from by omega,bSR]at this;exact hb.top this
  have aYS:=M6.cD (a:=b) (b.length-1);rw[show b.length-1+1=b.length from by omega,bSR]at aYS;have bDR:=M6.gH hb.iU (b.length-1);obtain⟨x,hx⟩:=bQY gt.1;have Ou:x≠0:=by omega
  have hbx:bl x<=64:=dU.2 (by omega);have bET:=qE Ou;have bDM:=vM x;obtain⟨s,hs⟩:∃s:Nat,s=64-bl x:=⟨_,rfl⟩;have ws:(64-(bl x:Int))=(s:Int):=by omega
  have aED:=M6.cO ha.iU;have aXD:=M6.cO hb.iU;have Pz:2^s<18446744073709551616:=by
   have:2^s<2^64:=bSP (by omega) (by omega);omega
  have aDO:0<2^s:=cP;have bFC:M6.val a*2^s<18446744073709551616^(a.length+1):=by rw[bQV];exact bUK aED Pz
  have bBF:M6.val b*2^s<18446744073709551616^b.length:=by
   have h2:(x+1)*2^s<=2^bl x*2^s:=bNJ _ bDM;rw[<-bQX,show bl x+s=64 from by omega]at h2;have h3:M6.val b+1<=18446744073709551616^(b.length-1)*(x+1):=by
    rw[aYS,hx,bPS,bQW];omega
   have h4:(M6.val b+1)*2^s<=18446744073709551616^(b.length-1)*(x+1)*2^s:=bNJ _ h3;have h5:18446744073709551616^(b.length-1)*((x+1)*2^s)<=18446744073709551616^(b.length-1)*2^64:=bOK _ h2;have h6:18446744073709551616^(b.length-1)*2^64=18446744073709551616^b.length:=by
    conv=>rhs;rw[show b.length=(b.length-1)+1 from by omega,bQV]
   rw[h6]at h5;rw[bQZ]at h4;rw[bMQ]at h4;omega
  have hlab:b.length<=a.length:=by
   rcases bML a.length b.length with h |h
   ·exact absurd (M6.sE ha.iU hb h) hc
   ·exact h
  have yP:18446744073709551616^(b.length-1)<=M6.val b:=by
   rw[aYS,hx,bPS];have:18446744073709551616^(b.length-1)*1<=18446744073709551616^(b.length-1)*x:=bOK _ (by omega);omega
  have Xa:M6.val a*2^s/18446744073709551616^(a.length+1-b.length)<M6.val b*2^s:=by
   apply bRQ;have h1:18446744073709551616^(a.length+1-b.length)*18446744073709551616^(b.length-1)<=18446744073709551616^(a.length+1-b.length)*M6.val b:=bOK _ yP;rw[<-bQX,show a.length+1-b.length+(b.length-1)=a.length from by omega]at h1;rw[<-bQZ];exact bYA (bMW aED h1) aDO
  have hQ:M6.val a*2^s/(M6.val b*2^s)=M6.val a/M6.val b:=bUU _ _ aDO;have hR:M6.val a*2^s%(M6.val b*2^s)=M6.val a%M6.val b*2^s:=bUV _ _ _;have aXA:M6.val a%M6.val b*2^s<18446744073709551616^b.length:=Nat.lt_trans (bYA hm aDO) bBF;have hRl2:M6.val a%M6.val b*2^s<18446744073709551616^(a.length+1):=bMW aXA (M6.oG (by omega));have bKL:M6.val a/M6.val b<18446744073709551616^a.length:=bSL (bUJ _ _) aED;have bAX:M6.val a/M6.val b<18446744073709551616^(a.length+1-b.length):=by
   apply bRQ;have h1:18446744073709551616^(b.length-1)*18446744073709551616^(a.length+1-b.length)<=M6.val b*18446744073709551616^(a.length+1-b.length):=bNJ _ yP;rw[<-bQX,show b.length-1+(a.length+1-b.length)=a.length from by omega]at h1;omega
  have aTB:M6.val ((M6.nR (a.length+1) (M6.val a%M6.val b*2^s)).take b.length)=M6.val a%M6.val b*2^s:=by
   rw[M6.qO M6.kF,M6.kE,bWL aXA]
  rw[bV,w1,w2,aT,bPS,bPS,bPS,gP gt,hx,bPS,ws,aK,bPS,
   gP ⟨ha.iU,by omega,by omega,by omega,by omega,by omega,bFC⟩,aK,gP ⟨hb.iU,by omega,by omega,by omega,bLW _,by omega,bBF⟩,aK,
   M6.gA bFC,M6.gA bBF,M6.kE,M6.kE,bPS,gP ⟨M6.kF,rfl,rfl,M6.kF,by omega,by omega,by omega,Xa⟩,aK,aK,hQ,hR,
   aT,bSE,Nat.sub_zero,aTB,gP ⟨M6.kF.take _,by rw[bOM];omega⟩,Te aXA aMA,cond_true,aK,
   gP ⟨M6.aW _,by have:=M6.cR aXA;omega,by omega,by omega⟩,M6.bI,bVZ _ aDO,aK,gP ⟨M6.kF,by rw[M6.gA bAX];omega⟩,M6.kE,Te bKL hl,cond_true,aK]at e
  exact⟨_,e,fP.refl _⟩
def aH:dG:=orc2 (pI .u64) (pI .u64) sp
theorem fnok:qI prog E 165 f165 aE:=Zj pD mixed (kI _ _ rfl rfl (kR Bg.ok uW) (aA fA.ok (aA De.ok (aA aGJ.ok (aA lM.ok (aA mM.ok (aA aGN.ok (aA xD.ok (aA Bm.ok aD)))))))) (mF)) func165 rfl rfl rfl
theorem ok:kZ prog base.glob 165 aH:=fnok.aAF rfl spec
end Db
namespace bS
def E:=mE [(164,xO.aH),(61,kA.aH),(68,kM.aH),(127,uE.aH),(122,iY.aH),(165,Db.aH),(117,mM.aH),(124,rH.aH),(166,bR.aH)] 122 [119] [(9,[2,3,4,5,8]),(15,[2,3,4,5,8,10,13]),(16,[2,3,4,5,8,10,16])] [9,15,16]
def aE:=bd f111
theorem aU:Nk E aE:=nk
def J9 a b c d e f g h i j:=kV E f111 aE 9 [bP a,Lk b,cQ 2 29 [bW c,dZ d,cI e],cQ 3 29 [bW f,dZ g,cI h],cQ 4 29 [bW i,sc (slice none 0 0),cI j]]
def aQC a b c d e f g h i j k l:=kV E f111 aE 15 [bP a,Lk b,cQ 2 29 [bW c,dZ d,cI e],cQ 3 29 [bW f,dZ g,cI h],cQ 4 29 [bW i,sc (slice none 0 0),cI j],bP k,fW l]
def aKL a b c d e f g h i j k l m:=kV E f111 aE 16 [bP a,Lk b,cQ 2 29 [bW c,dZ d,cI e],cQ 3 29 [bW f,dZ g,cI h],cQ 4 29 [bW i,sc (slice none 0 0),cI j],bP k,cQ 6 27 [bW l,dZ m]]
theorem start a b e f g h c d:aF E f111 aE [D.agg [sc (bool a),ints u64 b,sc (int i64 e)],D.agg [sc (bool f),ints u64 g,sc (int i64 h)],D.s (sc (int i64 c)),D.s (sc (bool d))]=letI F:=int i64 0;letI C:=bool false;letI B:=slice none 0 0;letI A:=some [D.agg [sc C,sc B,sc F],D.s (sc (int i64 5))];aO True (aC (decide (1<=c)&&decide (c<=70000)) fun i=>aB (!i) (some [D.agg [sc C,sc B,sc F],D.s (sc (int i64 1))]) (aO (aJ (a,b,e)) (aO (aJ (f,g,h)) (aO True (aC ((g.length:Int)==(0:Int)) fun j=>aB j (some [D.agg [sc C,sc B,sc F],D.s (sc (int i64 4))]) (aB (decide (4096<(b.length:Int))) A (aB (decide (4096<(g.length:Int))) A (bS.J9 c d a b e f g h false 0)))))))):=eJ aU
theorem Ru a b c d e f g h i j:J9 a b c d e f g h i j=letI A:=i64.wrap (i64.wrap (a+2)+(↑(bl (M6.val g)):Int))-(↑(bl (M6.val d)):Int);aO (M6.cE g/\g.length<=1099511627776) (aO (M6.cE d/\d.length<=1099511627776) (aO (M6.cF d/\d.length<=8192/\(0<=if i64.wrap A>(0:Int)then i64.wrap A else(0:Int))/\(if i64.wrap A>(0:Int)then i64.wrap A else(0:Int))<4611686018427387904) (aC (bif iY.iC (M6.val d) (if i64.wrap A>(0:Int)then i64.wrap A else(0:Int)).toNat then M6.dg (M6.val d*(2:Nat)^(if i64.wrap A>(0:Int)then i64.wrap A else(0:Int)).toNat)else []) fun k=>aO (M6.cF k/\k.length<=8192/\M6.cF g/\1<=g.length/\g.length<=8192) (aC (M6.dg (M6.val k/M6.val g)) fun l=>aC (M6.dg (M6.val k%M6.val g)) fun m=>aO (M6.cF l/\l.length<=8192/\(0:Int)<=(1:Int)/\(1:Int)<(4611686018427387904:Int)) (aC (bif iY.iC (M6.val l) 1 then M6.dg (M6.val l*2)else []) fun n=>letI B:=M6.val n+M6.val (M6.dg 1);aB (decide (0<(m.length:Int))) (aO ((0:Int)<=(1:Int)/\(1:Int)<(18446744073709551616:Int)) (aO (M6.cF n/\M6.cF (M6.dg 1)/\n.length<=8192/\(M6.dg 1).length<=8192) (aC (bif cC.kU B then M6.dg B else []) fun o=>bS.aQC a b c d e f g h i j (if i64.wrap A>(0:Int)then i64.wrap A else(0:Int)) o))) (bS.aQC a b c d e f g h i j (if i64.wrap A>(0:Int)then i64.wrap A else(0:Int)) n)))))):=cJ aU
theorem Vc a b c d e f g h i j k l:aQC a b c d e f g h i j k l=aB (c !=f) (bS.aKL a b c d e f g h i j k (decide (0<(l.length:Int))) l) (bS.aKL a b c d e f g h i j k false l):=cJ aU
theorem Vb a b c d e f g h i j k l m:aKL a b c d e f g h i j k l m=letI C:=i64.wrap (i64.wrap (e-h)-k)-1;letI A:=bR.lO b (wv (l,m)) (i64.wrap C) a;letI B:=bif fM A.fst A.snd then aL A.fst A.snd else((0:Int),(0:Int));aO (jY (l,m)/\((-4611686018427387904:Int)<=i64.wrap C/\i64.wrap C<4611686018427387904)/\1<=a/\a<=70000) (aC (isNeg B.fst) fun n=>aC (M6.dg B.fst.natAbs) fun o=>aC B.snd fun p=>aC (bif fM A.fst A.snd then(0:Int)else(5:Int)) fun q=>some [D.agg [sc (bool n),ints u64 o,sc (int i64 p)],D.s (sc (int i64 q))]):=cJ aU
def yO(p:Int)(a b:Nat):Nat:=(p+2+(bl b:Nat)-(bl a:Nat)).toNat
def Pl(a b s:Nat):Nat:=a*2^s/b*2+if a*2^s%b=0 then 0 else 1
def aRX(p:Int)(x y:Int×Int):Int×Int:=(zs (isNeg x.1 !=isNeg y.1) (Pl x.1.natAbs y.1.natAbs (yO p x.1.natAbs y.1.natAbs)),x.2-y.2-(yO p x.1.natAbs y.1.natAbs:Nat)-1)
def rZ(up:Bool)(p:Int)(x y:Int×Int):Int×Int:=bR.lO up (aRX p x y).1 (aRX p x y).2 p
def sp(x y:dR)(p:Int)(up:Bool):Prop×List D:=(aJ x/\aJ y/\(dv y).1≠0/\x.2.1.length<=4096/\y.2.1.length<=4096/\1<=p/\p<=70000,dE (fM (rZ up p (dv x) (dv y)).1 (rZ up p (dv x) (dv y)).2) (aL (rZ up p (dv x) (dv y)).1 (rZ up p (dv x) (dv y)).2))
theorem aHQ(n:Bool)(q:Nat):wv (n&&decide (0<((M6.dg q).length:Int)),M6.dg q)=zs n q/\(bl q<=524288->jY (n&&decide (0<((M6.dg q).length:Int)),M6.dg q)):=by
 have hz:=M6.gI (n:=q)
 by_cases h:q=0
 ·rw[decide_eq_false (by have:=hz.2 h;omega),bRI,h];refine⟨?_,fun _=>⟨M6.aW _,fun hf=>absurd hf (by simp),by rw[M6.bJ];simp⟩⟩;unfold wv zs;rw[M6.bI];cases n <;> rfl
 ·rw[decide_eq_true (by have:=fun hl=>h (hz.1 hl);omega),Bool.and_true];refine⟨?_,fun hb=>⟨M6.aW _,fun _=>by rw[M6.bI];exact h,eQ (k:=8192) (by omega)⟩⟩;unfold wv;rw[M6.bI]
theorem sG{a s n:Nat}(h:a≠0->bl a+s<=n):bl (a*2^s)<=n:=by
 by_cases h0:a=0
 ·subst h0;rw[Nat.zero_mul];exact bMS (by decide) (bRZ n)
 ·rw[bQU,Cv h0];have:=h h0;omega
theorem spec:aGD E f111 aE gZ gZ (pN .i64) pB sp:=by
 rintro x y p up ⟨hx,hy,h0,bIL,aZP,zW,tI⟩;have ex:=hx.2.1;have ey:=hy.2.1;refine(start x.1 x.2.1 x.2.2 y.1 y.2.1 y.2.2 p up).trans ?_;have hv0:M6.val y.2.1≠0:=fun h=>h0 (aHO.2 h)
 have aTX:y.2.1.length≠0:=fun h=>hv0 ((M6.cS hy.Iu).1 h)
 have bx:=yE hx.Iu.iU bIL;have bLN:=yE hy.Iu.iU aZP
 have ax:(dv x).1.natAbs=M6.val x.2.1:=iW (x.1,x.2.1);have ay:(dv y).1.natAbs=M6.val y.2.1:=iW (y.1,y.2.1);have sx:isNeg (dv x).1=x.1:=hx.Eb.cells.1;have sy:isNeg (dv y).1=y.1:=hy.Eb.cells.1;have w1:i64.wrap (i64.wrap (i64.wrap (p+2)+(bl (M6.val y.2.1):Int))-(bl (M6.val x.2.1):Int))=p+2+(bl (M6.val y.2.1):Int)-(bl (M6.val x.2.1):Int):=by
  rw[wrap_i64 (n:=p+2),wrap_i64 (n:=p+2+(bl (M6.val y.2.1):Int)) (by omega) (by omega),wrap_i64]
 simp only[aK];rw[gP trivial,decide_eq_true zW,decide_eq_true tI,bOX,bNW,bF,gP hx,gP hy,gP trivial,bV,aI,aI,Ru,w1];unfold sp rZ aRX
 try dsimp only
 rw[ax,ay,sx,sy];have hs:(if p+2+(bl (M6.val y.2.1):Int)-(bl (M6.val x.2.1):Int)>0 then p+2+(bl (M6.val y.2.1):Int)-(bl (M6.val x.2.1):Int)else 0)=((yO p (M6.val x.2.1) (M6.val y.2.1):Nat):Int):=by
  unfold yO;split <;> omega
 rw[hs];have bHT:M6.val x.2.1≠0->bl (M6.val x.2.1)+yO p (M6.val x.2.1) (M6.val y.2.1)<=332200:=fun _=>by unfold yO;omega
 have hsl:yO p (M6.val x.2.1) (M6.val y.2.1)<=332200:=by unfold yO;omega
 generalize yO p (M6.val x.2.1) (M6.val y.2.1)=s at *;have vP:=sG bHT;have hX:iY.iC (M6.val x.2.1) s=true:=by rw[Oe.Et];exact decide_eq_true (by omega)
 have lX:=eQ (n:=M6.val x.2.1*2^s) (k:=8192) (by omega);have Ms:bl (M6.val x.2.1*2^s/M6.val y.2.1)<=332200:=bMS (gN (bUJ _ _)) vP;have lQ:=eQ (n:=M6.val x.2.1*2^s/M6.val y.2.1) (k:=8192) (by omega);have hQ:∀q,bl q<=332200->iY.iC q 1=true:=fun q hq=>by rw[Oe.Et];exact decide_eq_true (by have:=sG (a:=q) (s:=1) (n:=332201) (fun _=>by omega);omega)
 rw[gP ⟨hy.Iu.iU,by omega⟩,gP ⟨hx.Iu.iU,by omega⟩,gP ⟨hx.Iu,hx.len,by omega,by omega⟩,bPS];simp only[aK];rw[hX,cond_true,gP ⟨M6.aW _,lX,hy.Iu,by omega,hy.len⟩,M6.bI,gP ⟨M6.aW _,lQ,by omega,by omega⟩,M6.bI];have bHU:decide (0<(((M6.dg (M6.val x.2.1*2^s%M6.val y.2.1)).length:Nat):Int))=decide (M6.val x.2.1*2^s%M6.val y.2.1≠0):=by
  have:=M6.gI (n:=M6.val x.2.1*2^s%M6.val y.2.1)
  by_cases h:M6.val x.2.1*2^s%M6.val y.2.1=0
  ·rw[decide_eq_false (by have:=this.2 h;omega),decide_eq_false (by omega)]
  ·rw[decide_eq_true (by have:=fun hl=>h (this.1 hl);omega),decide_eq_true h]
 rw[bHU];have j16:∀(aXE:Bool) (q:Nat),bl q<=332202->wv (aXE,M6.dg q)=zs (x.1 !=y.1) q->jY (aXE,M6.dg q)->aKL p up x.1 x.2.1 x.2.2 y.1 y.2.1 y.2.2 false 0 s aXE (M6.dg q)=some (dE (fM (bR.lO up (zs (x.1 !=y.1) q) (x.2.2-y.2.2-(s:Int)-1) p).1 (bR.lO up (zs (x.1 !=y.1) q) (x.2.2-y.2.2-(s:Int)-1) p).2) (aL (bR.lO up (zs (x.1 !=y.1) q) (x.2.2-y.2.2-(s:Int)-1) p).1 (bR.lO up (zs (x.1 !=y.1) q) (x.2.2-y.2.2-(s:Int)-1) p).2)):=by
  intro aXE q hq hw Qb;have w2:i64.wrap (i64.wrap (i64.wrap (x.2.2-y.2.2)-(s:Int))-1)=x.2.2-y.2.2-(s:Int)-1:=by
   rw[wrap_i64 (n:=x.2.2-y.2.2),wrap_i64 (n:=x.2.2-y.2.2-(s:Int)),wrap_i64]
  rw[Vb,w2,gP ⟨Qb,⟨by omega,by omega⟩,zW,tI⟩,hw];simp only[aK];rfl
 have j15:∀q,bl q<=332202->aQC p up x.1 x.2.1 x.2.2 y.1 y.2.1 y.2.2 false 0 s (M6.dg q)=some (dE (fM (bR.lO up (zs (x.1 !=y.1) q) (x.2.2-y.2.2-(s:Int)-1) p).1 (bR.lO up (zs (x.1 !=y.1) q) (x.2.2-y.2.2-(s:Int)-1) p).2) (aL (bR.lO up (zs (x.1 !=y.1) q) (x.2.2-y.2.2-(s:Int)-1) p).1 (bR.lO up (zs (x.1 !=y.1) q) (x.2.2-y.2.2-(s:Int)-1) p).2)):=by
  intro q hq;obtain⟨v1,v2⟩:=aHQ (x.1 !=y.1) q;have v2:=v2 (by omega);rw[Vc];cases hn:x.1 !=y.1 with
  |true =>
   rw[hn]at v1 v2;rw[bT];have:=j16 _ q hq (by rw[hn];exact v1) v2;rw[hn]at this;exact this
  |false =>
   rw[hn]at v1 v2;rw[bF];have:=j16 _ q hq (by rw[hn];exact v1) v2;rw[hn]at this;exact this
 unfold Pl;generalize M6.val x.2.1*2^s/M6.val y.2.1=Q at *;have bKN:bl (Q*2)<=332201:=sG (s:=1) (fun _=>by omega);have bGY:=eQ (n:=Q*2) (k:=8192) (by omega);have bKM:bl (Q*2+1)<=332202:=by
  rw[dU]at bKN ⊢;rw[bQV];have:=bOV (n:=332201) (show 0<2 by omega);omega
 have one:=eQ (n:=1) (k:=1) (dU.2 (by omega))
 by_cases hr:M6.val x.2.1*2^s%M6.val y.2.1=0
 ·rw[aI,if_pos hr,hQ _ Ms,cond_true,j15 _ (by omega)];rfl
 ·have bGL:cC.kU (Q*2+1)=true:=by rw[show cC.kU _=_ from xX];exact decide_eq_true (by omega)
  rw[aN,if_neg hr,hQ _ Ms,cond_true,gP ⟨by omega,by omega⟩,gP ⟨M6.aW _,M6.aW _,bGY,by omega⟩,M6.bI,M6.bI,bGL,cond_true,j15 _ bKM];rfl
def aH:dG:=orc4 gZ gZ (pN .i64) pB sp
theorem ok:OK 111 aH:=(eF E aE (aA xO.ok (aA kA.ok (aA kM.ok (aA uE.ok (aA iY.ok (aA Db.ok (aA mM.ok (aA rH.ok (aA bR.ok aD))))))))) func111).aSB rfl spec
end bS
end W
namespace M
open Go AI W
def shD(up:Bool)(p:Int×Int)(n:Int):Int×Int:=aL (bR.lO up p.1 p.2 n).1 (bR.lO up p.1 p.2 n).2
def nT(up:Bool)(p:Int×Int)(n:Int):Bool:=fM (bR.lO up p.1 p.2 n).1 (bR.lO up p.1 p.2 n).2
theorem Ra{z:Int}{k:Nat}:((z/((2^k:Nat):Int):Int):Rat)*((2^k:Nat):Rat)<=(z:Rat)/\(z:Rat)<(((z/((2^k:Nat):Int):Int):Rat)+1)*((2^k:Nat):Rat):=by
 have hp:(0:Int)<((2^k:Nat):Int):=by have:=bOV (n:=k) (show 0<2 by omega);omega
 have h1:=Int.ediv_mul_le z (show((2^k:Nat):Int)≠0 by omega);have h2:=Int.lt_ediv_add_one_mul_self z hp;constructor
 ·have:(((z/((2^k:Nat):Int))*((2^k:Nat):Int):Int):Rat)<=(z:Rat):=Rat.intCast_le_intCast.2 h1;rwa [bWR,bWO]at this
 ·have:(z:Rat)<(((z/((2^k:Nat):Int)+1)*((2^k:Nat):Int):Int):Rat):=Rat.intCast_lt_intCast.2 h2;rwa [bWR,bWO,bXT]at this
theorem Xn(up:Bool)(z:Int)(k:Nat):(up=false->(iK.mU up z k:Rat)*((2^k:Nat):Rat)<=(z:Rat)/\(z:Rat)<(iK.mU up z k:Rat)*((2^k:Nat):Rat)+((2^k:Nat):Rat))/\(up=true->(z:Rat)<=(iK.mU up z k:Rat)*((2^k:Nat):Rat)/\(iK.mU up z k:Rat)*((2^k:Nat):Rat)<(z:Rat)+((2^k:Nat):Rat)):=by
 constructor
 ·rintro rfl;obtain⟨h1,h2⟩:=Ra (z:=z) (k:=k);unfold iK.mU;rw[cond_false];generalize ((z/((2^k:Nat):Int):Int):Rat)=q at *;constructor <;> grind
 ·rintro rfl;obtain⟨h1,h2⟩:=Ra (z:=-z) (k:=k);unfold iK.mU;rw[cond_true,bWX];rw[bWX]at h1 h2;generalize ((-z/((2^k:Nat):Int):Int):Rat)=q at *;constructor <;> grind
theorem rU{p:Int×Int}(h:p.1≠0):R.pz (bC p)<=R.ab (R.qz p)/\R.ab (R.qz p)<R.pz (bC p+1):=by
 have hb:=qE (n:=p.1.natAbs) (by omega);have h1:2^(bl p.1.natAbs-1)<=p.1.natAbs:=rP.1 (by omega);have h2:=vM p.1.natAbs;have e:R.ab (R.qz p)=(p.1.natAbs:Rat)*R.pz p.2:=by
  unfold R.qz;rw[R.fS,R.bN (bRD (R.dS p.2))];congr 1;unfold R.ab
  by_cases hz:0<=p.1
  ·rw[if_pos (by exact_mod_cast hz),<-bWO];congr 1;omega
  ·rw[if_neg (by intro hc;exact hz (by exact_mod_cast hc)),<-bWO,<-bWX];congr 1;omega
 have hp:=R.dS p.2;rw[e];unfold bC;constructor
 ·rw[show p.2+(bl p.1.natAbs:Int)-1=p.2+((bl p.1.natAbs-1:Nat):Int) by omega,R.dT];have Zg:((2^(bl p.1.natAbs-1):Nat):Rat)<=(p.1.natAbs:Rat):=by exact_mod_cast h1
  have:=R.aG (bRD hp) (show 0<=(p.1.natAbs:Rat)-((2^(bl p.1.natAbs-1):Nat):Rat) by grind);grind
 ·rw[show p.2+(bl p.1.natAbs:Int)-1+1=p.2+(bl p.1.natAbs:Int) by omega,R.dT];have aRA:(p.1.natAbs:Rat)<((2^bl p.1.natAbs:Nat):Rat):=by exact_mod_cast h2
  have:=bRP hp (show 0<((2^bl p.1.natAbs:Nat):Rat)-(p.1.natAbs:Rat) by grind);grind
theorem Bv(up:Bool)(p:Int×Int){n:Int}(aAO:1<=n):(up=false->R.qz (shD up p n)<=R.qz p/\R.qz p<=R.qz (shD up p n)+R.pz (1-n)*R.ab (R.qz p))/\(up=true->R.qz p<=R.qz (shD up p n)/\R.qz (shD up p n)<=R.qz p+R.pz (1-n)*R.ab (R.qz p)):=by
 have h0:0<=R.pz (1-n)*R.ab (R.qz p):=R.aG (bRD (R.dS _)) (R.aQ _);unfold shD bR.lO;split
 ·have e:R.qz (aL p.1 p.2)=R.qz p:=mB p.1 p.2;dsimp only;rw[e];constructor <;> (intro _;constructor <;> grind)
 ·rename_i hn;obtain⟨k,hk⟩:=bQY (show 0<=(bl p.1.natAbs:Int)-n by omega);have aDO:p.1≠0:=by
   intro hz;rw[hz]at hn;have hb:bl (0:Int).natAbs=0:=rfl;rw[hb]at hn;omega
  obtain⟨c1,c2⟩:=Xn up p.1 k;dsimp only;rw[hk,bPS,mB,R.dT];have pJ:=R.dS p.2;have ht:=(rU aDO).1;have e2:R.pz p.2*((2^k:Nat):Rat)<=R.pz (1-n)*R.ab (R.qz p):=by
   have e3:R.pz p.2*((2^k:Nat):Rat)=R.pz (1-n)*R.pz (bC p):=by
    rw[<-R.dT,<-R.mD];congr 1;unfold bC;omega
   rw[e3];have:=R.aG (bRD (R.dS (1-n))) (show 0<=R.ab (R.qz p)-R.pz (bC p) by grind);grind
  have eq:R.qz p=(p.1:Rat)*R.pz p.2:=rfl;generalize R.pz (1-n)*R.ab (R.qz p)=X at *;rw[eq];generalize (iK.mU up p.1 k:Rat)=c at *;generalize ((2^k:Nat):Rat)=K at *;constructor
  ·intro hu;obtain⟨d1,d2⟩:=c1 hu;have m1:=R.aG (bRD pJ) (show 0<=(p.1:Rat)-c*K by grind);have m2:=R.aG (bRD pJ) (show 0<=c*K+K-(p.1:Rat) by grind);constructor <;> grind
  ·intro hu;obtain⟨d1,d2⟩:=c2 hu;have m1:=R.aG (bRD pJ) (show 0<=c*K-(p.1:Rat) by grind);have m2:=R.aG (bRD pJ) (show 0<=(p.1:Rat)+K-c*K by grind);constructor <;> grind
theorem aFU(n:Nat):bl (2^n)=n+1:=by
 have h1:=dU (n:=2^n) (k:=n+1);have h2:=rP (n:=2^n) (k:=n);have:2^n<2^(n+1):=bSP (by omega) (by omega);have:=h1.2 this;have:=h2.2 (bLW _);omega
theorem oT(z e:Int):bl (aL z e).1.natAbs<=bl z.natAbs:=gN (Am z e)
theorem Ue(up:Bool)(z:Int)(k n:Nat)(h:bl z.natAbs<=n+k):bl (iK.mU up z k).natAbs<=n+1:=by
 have hz:=dU.1 h;rw[bQX]at hz;have hp:=bOV (n:=k) (show 0<2 by omega);have hn:=bOV (n:=n) (show 0<2 by omega);refine dU.2 ?_;rw[bQV];have fl:∀w:Int,w.natAbs<2^n*2^k->(w/((2^k:Nat):Int)).natAbs<=2^n:=by
  intro w hw;have h1:=bUZ w ((2^k:Nat):Int);have h2:=bVA w (show((2^k:Nat):Int)≠0 by omega);have h3:=bVB w (show(0:Int)<((2^k:Nat):Int) by omega);have aSV:(w.natAbs:Int)<((2^n:Nat):Int)*((2^k:Nat):Int):=by exact_mod_cast hw
  generalize w/((2^k:Nat):Int)=q at *;generalize ((2^k:Nat):Int)=K at *;generalize hN:2^n=N at *
  by_cases hq:0<=q
  ·have:q<(N:Int):=by
    refine Int.not_le.1 fun hc=>?_
    have:=bYB hc (show 0<=K by omega);rw[Int.mul_comm K (N:Int)]at this;omega
   omega
  ·have:-(N:Int)<=q:=by
    refine Int.not_lt.1 fun hc=>?_
    have:=bYB (show q<=-(N:Int)-1 by omega) (show 0<=K by omega);rw[Int.mul_sub,bUW,Int.mul_one,Int.mul_comm K (N:Int)]at this;omega
   omega
 unfold iK.mU;cases up with
 |false =>
  rw[cond_false];have:=fl z hz;omega
 |true =>
  rw[cond_true,bSQ];have:=fl (-z) (by rw[bSQ];exact hz);omega
def aXF(p:Int×Int):Prop:=iS p/\p.2+(bl p.1.natAbs:Nat)<=1048000
theorem Kd{up:Bool}{p:Int×Int}{n:Int}(hp:aXF p)(hn:1<=n):nT up p n=true/\iS (shD up p n):=by
 obtain⟨⟨h1,h2,h3,h4⟩,h5⟩:=hp;unfold nT shD bR.lO;split
 ·dsimp only;have hi:fM p.1 p.2=true:=by
   unfold fM
   by_cases hz:p.1=0
   ·rw[decide_eq_true hz,bRG]
   ·have ht:=yW (n:=p.1.natAbs) (by have:=h4 hz;omega);rw[ht,decide_eq_false hz,bNX,decide_eq_true (show -1048576<=p.2+((0:Nat):Int) by omega),decide_eq_true (show p.2+((0:Nat):Int)<=1048576 by omega)];rfl
  exact⟨hi,eZ hi h1⟩
 ·rename_i hk;dsimp only;have hc:=iK.Xo up p.1 ((bl p.1.natAbs:Int)-n).toNat;have bEO:=Ue up p.1 ((bl p.1.natAbs:Int)-n).toNat n.toNat (by omega);generalize iK.mU up p.1 ((bl p.1.natAbs:Int)-n).toNat=c at *;have bJV:bl c.natAbs<=bl p.1.natAbs:=gN hc;have bAK:c≠0->tz c.natAbs<bl c.natAbs:=fun h=>Aa (by omega)
  have hi:fM c (p.2+((bl p.1.natAbs:Int)-n))=true:=by
   unfold fM
   by_cases hz:c=0
   ·rw[decide_eq_true hz,bRG]
   ·have:=bAK hz;rw[decide_eq_false hz,bNX,decide_eq_true (show -1048576<=p.2+((bl p.1.natAbs:Int)-n)+(tz c.natAbs:Int) by omega),decide_eq_true (show p.2+((bl p.1.natAbs:Int)-n)+(tz c.natAbs:Int)<=1048576 by omega)];rfl
  exact⟨hi,eZ hi (bMS bJV h1)⟩
end M
namespace M
open Go AI W
theorem aCL:iS (0,0):=⟨by decide,⟨by decide,by decide⟩,fun _=>rfl,fun h=>absurd rfl h⟩
theorem Ai{p q:Int×Int}(hp:iS p)(hq:iS q)(h:bA.gJ p q=true):iS (bA.jL p q):=by
 unfold bA.jL;split
 ·exact hq
 ·split
  ·exact hp
  ·rename_i h1 h2;unfold bA.gJ at h;rw[decide_eq_false h1,decide_eq_false h2,bNX,bNX,bMC,bMC,bMC]at h;exact eZ h.2.2.2 (of_decide_eq_true h.2.2.1)
theorem iS.top{p:Int×Int}(h:iS p):-1048577<=bC p/\bC p<=1572864:=by
 obtain⟨h1,h2,_⟩:=h;unfold bC;omega
theorem Fi{p q:Int×Int}:bZ p q=0↔R.qz p=R.qz q:=by
 obtain⟨h1,h2⟩:=Fk p q;have a:=R.aCI (p:=p) (q:=q) h1 h2;have b:=R.aCI (p:=q) (q:=p) h2 h1;unfold bZ;rw[aJW];constructor
 ·intro h;exact bYC (a.2 (Int.le_of_eq h)) (b.2 (Int.le_of_eq h.symm))
 ·intro h;exact Int.le_antisymm (a.1 (by rw[h];exact bSK)) (b.1 (by rw[h];exact bSK))
theorem vB{p q:Int×Int}:bZ p q<0↔R.qz p<R.qz q:=by
 have h1:=jR (p:=p) (q:=q);have h3:=Fi (p:=p) (q:=q);constructor
 ·intro h;have:=h1.1 (by omega);refine Rat.not_le.1 fun hn=>?_
  have:=h3.2 (bYC this hn);omega
 ·intro h;have a:=h1.2 (bRD h);have b:bZ p q≠0:=fun hn=>Rat.lt_irrefl ((h3.1 hn)▸h)
  omega
theorem Em{p:Int×Int}(h:p.1=0):bZ p (0,0)=0:=by
 rw[Fi,R.nA h,R.nA rfl]
theorem iS.Ed{p:Int×Int}(h:iS p):iS (-p.1,p.2):=by
 obtain⟨x1,x2,x3,x4⟩:=h;exact⟨by dsimp only;rw[bSQ];exact x1,x2,fun h=>x3 (by dsimp only at h;omega),fun h=>by dsimp only at h ⊢;have:=x4 (by omega);omega⟩
theorem aJ.Ck{x:dR}(h:aJ x)(hb:bl (dv x).1.natAbs<=262144):x.2.1.length<=4096:=by
 have e:M6.dg (dv x).1.natAbs=x.2.1:=h.Eb.cells.2;rw[<-e];exact eQ (k:=4096) (by omega)
def An(p q:Int×Int):Int×Int:=bif decide (bZ q p<0)then q else p
def xY(p q:Int×Int):Int×Int:=bif decide (0<bZ q p)then q else p
theorem Ti(p q:Int×Int):An p q=p\/An p q=q:=by unfold An;cases decide (bZ q p<0);exact Or.inl rfl;exact Or.inr rfl
theorem Tx(p q:Int×Int):xY p q=p\/xY p q=q:=by unfold xY;cases decide (0<bZ q p);exact Or.inl rfl;exact Or.inr rfl
theorem Mi(p q:Int×Int):R.qz (An p q)<=R.qz p/\R.qz (An p q)<=R.qz q:=by
 unfold An
 by_cases h:bZ q p<0
 ·rw[decide_eq_true h,cond_true];exact⟨bRD (vB.1 h),bSK⟩
 ·rw[decide_eq_false h,cond_false];exact⟨bSK,Rat.not_lt.1 fun hn=>h (vB.2 hn)⟩
theorem Ty(p q:Int×Int):R.qz p<=R.qz (xY p q)/\R.qz q<=R.qz (xY p q):=by
 unfold xY
 by_cases h:0<bZ q p
 ·rw[decide_eq_true h,cond_true];exact⟨bRD (nD.1 h),bSK⟩
 ·rw[decide_eq_false h,cond_false];exact⟨bSK,Rat.not_lt.1 fun hn=>h (nD.2 hn)⟩
end M
namespace W
open Go AI M
namespace aM
def E:=mE [] 11 [] [] []
def aE:=bd f157
theorem aU:Nk E aE:=nk
theorem start a:aF E f157 aE [D.s (sc (int i64 a))]=letI A:=int i64 0;aB (a==32) (some [D.agg [sc (int i64 32),sc (int i64 24),sc (int i64 (-149:Int)),sc (int u64 2143289345)]]) (aB (a==64) (some [D.agg [sc (int i64 64),sc (int i64 53),sc (int i64 (-1074:Int)),sc (int u64 9221120237041090561)]]) (some [D.agg [sc A,sc A,sc A,sc (int u64 0)]])):=eJ aU
def gW(f:Int):Int×Int×Int×Int:=if f=32 then(32,24,-149,2143289345)else if f=64 then(64,53,-1074,9221120237041090561)else(0,0,0,0)
def aXK(s:Int×Int×Int×Int):D:=.agg [.sc (.int .i64 s.1),.sc (.int .i64 s.2.1),.sc (.int .i64 s.2.2.1),.sc (.int .u64 s.2.2.2)]
def Bh(s:Int×Int×Int×Int):Prop:=s=(32,24,-149,2143289345)\/s=(64,53,-1074,9221120237041090561)
theorem two32:Bh (32,24,-149,2143289345):=.inl rfl
theorem vK:Bh (64,53,-1074,9221120237041090561):=.inr rfl
def sp(f:Int):Prop×List D:=(True,[aXK (gW f)])
theorem spec:gO E f157 aE (pN .i64) sp:=by
 intro f h;refine(start f).trans ?_;unfold sp gW
 try dsimp only
 by_cases h1:f=32
 ·rw[cN h1,if_pos h1];rfl
 ·rw[bV h1,if_neg h1]
  by_cases h2:f=64
  ·rw[cN h2,if_pos h2];rfl
  ·rw[bV h2,if_neg h2];rfl
def aH:dG:=orc1 (pN .i64) sp
theorem ok:OK 157 aH:=(eF E aE aD func157).nN rfl spec
end aM
namespace dJ
def E:=mE [] 7 [] [] []
def aE:=bd f172
theorem aU:Nk E aE:=nk
theorem start a b c d:aF E f172 aE [D.agg [sc (int i64 a),sc (int i64 b),sc (int i64 c),sc (int u64 d)]]=if i64.wrap (a-1)<0 then none else some [D.s (sc (int u64 (u64.wrap ((1:Int)*(↑((2:Nat)^min (i64.wrap (a-1)).toNat 64):Int)))))]:=eJ aU
def dW(s:Int×Int×Int×Int):Int:=if s.1=32 then 2147483648 else 9223372036854775808
def sp(s:Int×Int×Int×Int):Prop×List D:=(aM.Bh s,[.s (.sc (.int .u64 (dW s)))])
theorem spec:gO E f172 aE (pG (.pair (sN .i64) (.pair (sN .i64) (.pair (sN .i64) (sN .u64))))) sp:=by
 intro s h;refine(start s.1 s.2.1 s.2.2.1 s.2.2.2).trans ?_;rcases h with rfl |rfl
 ·rfl
 ·rfl
def aH:dG:=orc1 (pG (.pair (sN .i64) (.pair (sN .i64) (.pair (sN .i64) (sN .u64))))) sp
theorem ok:OK 172 aH:=(eF E aE aD func172).nN rfl spec
end dJ
namespace eT
def E:=mE [(157,aM.aH),(172,dJ.aH)] 36 [] [(6,[1,4,8])] [6]
def aE:=bd f118
theorem aU:Nk E aE:=nk
def J6 a b c d e f g h i:=kV E f118 aE 6 [cZ a,cQ 1 90 [cI b,cI c,cI d,aHS e],cQ 2 90 [cI f,cI g,cI h,aHS i]]
theorem start a b:aF E f118 aE [D.s (sc (int i64 a)),D.s (sc (int u64 b))]=letI A:=aM.gW a;letI G:=int i64 A.snd.fst;letI F:=int u64 A.snd.snd.snd;letI C:=int i64 A.snd.snd.fst;letI B:=eT.J6 b 0 0 0 0 A.fst A.snd.fst A.snd.snd.fst A.snd.snd.snd;aO True (aB (A.fst==0&&(A.snd.fst==0&&(A.snd.snd.fst==0&&(A.snd.snd.snd==0&&true)))) (some [D.agg [sc (int i64 A.fst),sc G,sc C,sc F],D.s (sc (bool false)),D.s (sc (int u64 0)),D.s (sc (int i64 1))]) (aB (decide (A.fst<64)) (if A.fst<0 then none else aB (b/(↑((2:Nat)^min A.fst.toNat 64):Int) !=(0:Int)) (some [D.agg [sc (int i64 A.fst),sc G,sc C,sc F],D.s (sc (bool false)),D.s (sc (int u64 0)),D.s (sc (int i64 2))]) B) B)):=eJ aU
theorem Lh a b c d e f g h i:J6 a b c d e f g h i=letI A:=(f,g,h,i);aO (aM.Bh A) (aO (aM.Bh A) (some [D.agg [sc (int i64 f),sc (int i64 g),sc (int i64 h),sc (int u64 i)],D.s (sc (bool (eN BinOp.and u64 a (dJ.dW A) !=0))),D.s (sc (int u64 (eN BinOp.andNot u64 a (dJ.dW A)))),D.s (sc (int i64 0))])):=cJ aU
theorem Rj{a b:Int}(ha:0<=a)(aWZ:a<18446744073709551616)(hb:0<=b)(vQ:b<18446744073709551616):eN .andNot .u64 a b=((a.toNat &&& (2^64-(b.toNat+1)):Nat):Int):=by
 obtain⟨n,rfl⟩:=bQY ha;obtain⟨m,rfl⟩:=bQY hb;rw[sH];unfold bitsI0;simp only;have e:(BitVec.ofInt u64.bits (n:Int) &&& ~~~ BitVec.ofInt u64.bits (m:Int)).toNat=n &&& (2^64-(m+1)):=by
  show(BitVec.ofInt 64 (n:Int) &&& ~~~ BitVec.ofInt 64 (m:Int)).toNat=_;rw[BitVec.toNat_and,BitVec.toNat_not];have e1:(BitVec.ofInt 64 (n:Int)).toNat=n:=by simp;omega
  have e2:(BitVec.ofInt 64 (m:Int)).toNat=m:=by simp;omega
  rw[e1,e2];congr 1;omega
 have hle:n &&& (2^64-(m+1))<=n:=Nat.and_le_left;rw[e,wrap_u64];rfl
theorem Kw{n k:Nat}(hk:k<64)(h:n<2^(k+1)):n &&& (2^64-(2^k+1))=n%2^k:=by
 refine bXB fun i=>?_
 have hp:2^k<2^64:=bSP (by decide) hk;rw[bWZ,bXP hp,bWU,bXM]
 by_cases h1:i<k
 ·have:¬k=i:=by omega
  have bFD:i<64:=by omega
  simp[h1,this,bFD]
 ·by_cases h2:i=k
  ·subst h2;simp
  ·have:n<2^i:=bMW h (bOW (by decide) (by omega));rw[bYE this];simp
theorem Vn{n k:Nat}(h:n<2^(k+1)):(n &&& 2^k)=if 2^k<=n then 2^k else 0:=by
 refine bXB fun i=>?_
 rw[bWZ,bXM]
 by_cases h1:2^k<=n
 ·have ht:n.testBit k=true:=by
   rw[Nat.testBit_eq_decide_div_mod_eq];have:=bWQ (k:=1) (show 1*2^k<=n by omega) (show n<(1+1)*2^k by rw[bQV]at h;omega);rw[this];rfl
  rw[if_pos h1,bXM]
  by_cases hi:k=i
  ·subst hi;simp[ht]
  ·simp[hi]
 ·rw[if_neg h1,Nat.zero_testBit]
  by_cases hi:k=i
  ·subst hi;rw[bYE (by omega)];rfl
  ·simp[hi]
def hI(f b:Int):Bool:=decide (f=64)||decide (b<4294967296)
def sp(f b:Int):Prop×List D:=((f=32\/f=64)/\0<=b/\b<18446744073709551616,[aM.aXK (aM.gW f),.s (.sc (.bool (hI f b&&decide (dJ.dW (aM.gW f)<=b)))),.s (.sc (.int .u64 (bif hI f b then b%dJ.dW (aM.gW f)else 0))),.s (.sc (.int .i64 (bif hI f b then 0 else 2)))])
theorem spec:fI E f118 aE (pN .i64) (pN .u64) sp:=by
 rintro f b ⟨hf,h0,h1⟩;obtain⟨n,rfl⟩:=bQY h0;refine(start f n).trans ((gP trivial).trans ?_);unfold sp
 try dsimp only
 rcases hf with rfl |rfl
 ·rw[show aM.gW 32=(32,24,-149,2143289345)from rfl]
  try dsimp only
  rw[Ht (by decide),aN (by decide),if_neg (by decide),show min (32:Int).toNat 64=32 from rfl,show dJ.dW (32,24,-149,2143289345)=2147483648 from rfl]
  by_cases hc:(n:Int)<4294967296
  ·have hp:hI 32 n=true:=by unfold hI;rw[decide_eq_true hc,bRV]
   have a1:eN .and .u64 (n:Int) 2147483648=if(2147483648:Int)<=n then 2147483648 else 0:=by
    rw[Rk (by omega) (by omega) (by omega) (by omega),bPS];have:=Vn (n:=n) (k:=31) (by omega);rw[show(2147483648:Int).toNat=2^31 from rfl,this];split <;> split <;> first |rfl |omega
   have a2:eN .andNot .u64 (n:Int) 2147483648=(n:Int)%2147483648:=by
    rw[Rj (by omega) (by omega) (by omega) (by omega),bPS,show(2147483648:Int).toNat=2^31 from rfl,Kw (by omega) (by omega)];omega
   rw[fD,Lh,gP aM.two32,gP aM.two32,show dJ.dW (32,24,-149,2143289345)=2147483648 from rfl,a1,a2,hp]
   by_cases hd:(2147483648:Int)<=n
   ·rw[if_pos hd,decide_eq_true hd];rfl
   ·rw[if_neg hd,decide_eq_false hd];rfl
  ·have hp:hI 32 n=false:=by unfold hI;rw[decide_eq_false hc];rfl
   rw[qF,hp];rfl
 ·rw[show aM.gW 64=(64,53,-1074,9221120237041090561)from rfl]
  try dsimp only
  have hp:hI 64 n=true:=rfl;have a1:eN .and .u64 (n:Int) 9223372036854775808=if(9223372036854775808:Int)<=n then 9223372036854775808 else 0:=by
   rw[Rk (by omega) (by omega) (by omega) (by omega),bPS];have:=Vn (n:=n) (k:=63) (by omega);rw[show(9223372036854775808:Int).toNat=2^63 from rfl,this];split <;> split <;> first |rfl |omega
  have a2:eN .andNot .u64 (n:Int) 9223372036854775808=(n:Int)%9223372036854775808:=by
   rw[Rj (by omega) (by omega) (by omega) (by omega),bPS,show(9223372036854775808:Int).toNat=2^63 from rfl,Kw (by omega) (by omega)];omega
  rw[Ht (by decide),aI (by decide),Lh,gP aM.vK,gP aM.vK,show dJ.dW (64,53,-1074,9221120237041090561)=9223372036854775808 from rfl,a1,a2,hp]
  by_cases hd:(9223372036854775808:Int)<=n
  ·rw[if_pos hd,decide_eq_true hd];rfl
  ·rw[if_neg hd,decide_eq_false hd];rfl
def aH:dG:=orc2 (pN .i64) (pN .u64) sp
theorem ok:OK 118 aH:=(eF E aE (aA aM.ok (aA dJ.ok aD)) func118).lA rfl spec
end eT
namespace cY
def E:=mE [] 7 [] [] []
def aE:=bd f120
theorem aU:Nk E aE:=nk
theorem start a b c d:aF E f120 aE [D.agg [sc (int i64 a),sc (int i64 b),sc (int i64 c),sc (int u64 d)]]=if i64.wrap (b-1)<0 then none else some [D.s (sc (int u64 (u64.wrap ((1:Int)*(↑((2:Nat)^min (i64.wrap (b-1)).toNat 64):Int)))))]:=eJ aU
def lR(s:Int×Int×Int×Int):Int:=if s.1=32 then 8388608 else 4503599627370496
def sp(s:Int×Int×Int×Int):Prop×List D:=(aM.Bh s,[.s (.sc (.int .u64 (lR s)))])
theorem spec:gO E f120 aE (pG (.pair (sN .i64) (.pair (sN .i64) (.pair (sN .i64) (sN .u64))))) sp:=by
 intro s h;refine(start s.1 s.2.1 s.2.2.1 s.2.2.2).trans ?_;rcases h with rfl |rfl
 ·rfl
 ·rfl
def aH:dG:=orc1 (pG (.pair (sN .i64) (.pair (sN .i64) (.pair (sN .i64) (sN .u64))))) sp
theorem ok:OK 120 aH:=(eF E aE aD func120).nN rfl spec
end cY
namespace kT
def E:=mE [(172,dJ.aH),(120,cY.aH)] 8 [] [] []
def aE:=bd f119
theorem aU:Nk E aE:=nk
theorem start a b c d:aF E f119 aE [D.agg [sc (int i64 a),sc (int i64 b),sc (int i64 c),sc (int u64 d)]]=letI A:=(a,b,c,d);aO (aM.Bh A) (aO (aM.Bh A) (some [D.s (sc (int u64 (u64.wrap (dJ.dW A-cY.lR A))))])):=eJ aU
def mK(s:Int×Int×Int×Int):Int:=if s.1=32 then 2139095040 else 9218868437227405312
def sp(s:Int×Int×Int×Int):Prop×List D:=(aM.Bh s,[.s (.sc (.int .u64 (mK s)))])
theorem spec:gO E f119 aE (pG (.pair (sN .i64) (.pair (sN .i64) (.pair (sN .i64) (sN .u64))))) sp:=by
 intro s h;refine(start s.1 s.2.1 s.2.2.1 s.2.2.2).trans ((gP h).trans ((gP h).trans ?_));rcases h with rfl |rfl
 ·rfl
 ·rfl
def aH:dG:=orc1 (pG (.pair (sN .i64) (.pair (sN .i64) (.pair (sN .i64) (sN .u64))))) sp
theorem ok:OK 119 aH:=(eF E aE (aA dJ.ok (aA cY.ok aD)) func119).nN rfl spec
end kT
namespace lN
def E:=mE [(120,cY.aH),(119,kT.aH)] 23 [] [] []
def aE:=bd f144
theorem aU:Nk E aE:=nk
theorem start a c d e b:aF E f144 aE [D.agg [sc (int i64 a),sc (int i64 c),sc (int i64 d),sc (int u64 e)],D.s (sc (int u64 b))]=letI B:=(a,c,d,e);letI A:=aM.Bh B;aB (b==0) (some [D.s (sc (int i64 0))]) (aO A (aB (decide (b<cY.lR B)) (some [D.s (sc (int i64 1))]) (aO A (aB (decide (b<kT.mK B)) (some [D.s (sc (int i64 2))]) (aO A (aB (b==kT.mK B) (some [D.s (sc (int i64 3))]) (some [D.s (sc (int i64 4))]))))))):=eJ aU
def lF(s:Int×Int×Int×Int)(n:Int):Int:=if n=0 then 0 else if n<cY.lR s then 1 else if n<kT.mK s then 2 else if n=kT.mK s then 3 else 4
def sp(s:Int×Int×Int×Int)(n:Int):Prop×List D:=(aM.Bh s,[.s (.sc (.int .i64 (lF s n)))])
theorem spec:fI E f144 aE (pG (.pair (sN .i64) (.pair (sN .i64) (.pair (sN .i64) (sN .u64))))) (pN .u64) sp:=by
 intro s n h;obtain⟨s1,s2,s3,s4⟩:=s;have h:aM.Bh (s1,s2,s3,s4):=h;refine(start s1 s2 s3 s4 n).trans ?_;show _=some [D.s (.sc (.int .i64 (lF (s1,s2,s3,s4) n)))];unfold lF
 by_cases h1:n=0
 ·rw[cN h1,if_pos h1]
 ·rw[bV h1,if_neg h1,gP h]
  by_cases h2:n<cY.lR (s1,s2,s3,s4)
  ·rw[aN h2,if_pos h2]
  ·rw[aI h2,if_neg h2,gP h]
   by_cases h3:n<kT.mK (s1,s2,s3,s4)
   ·rw[aN h3,if_pos h3]
   ·rw[aI h3,if_neg h3,gP h]
    by_cases h4:n=kT.mK (s1,s2,s3,s4)
    ·rw[cN h4,if_pos h4]
    ·rw[bV h4,if_neg h4]
def aH:dG:=orc2 (pG (.pair (sN .i64) (.pair (sN .i64) (.pair (sN .i64) (sN .u64))))) (pN .u64) sp
theorem ok:OK 144 aH:=(eF E aE (aA cY.ok (aA kT.ok aD)) func144).lA rfl spec
end lN
namespace Is
def E:=mE [(118,eT.aH),(144,lN.aH)] 24 [13,23] [] []
def aE:=bd f91
theorem aU:Nk E aE:=nk
theorem start a b:aF E f91 aE [D.s (sc (int i64 a)),D.s (sc (int u64 b))]=letI C:=bif eT.hI a b then(0:Int)else(2:Int);letI A:=aM.gW a;letI B:=(A.fst,A.snd.fst,A.snd.snd.fst,A.snd.snd.snd);aO ((a=32\/a=64)/\0<=b/\b<18446744073709551616) (aB (C !=0) (some [D.s (sc (int i64 0)),D.s (sc (int i64 C))]) (aO (aM.Bh B) (some [D.s (sc (int i64 (lN.lF B (bif eT.hI a b then b%dJ.dW A else(0:Int))))),D.s (sc (int i64 0))]))):=eJ aU
def sp(f b:Int):Prop×List D:=((f=32\/f=64)/\0<=b/\b<18446744073709551616,[.s (.sc (.int .i64 (bif eT.hI f b then lN.lF (aM.gW f) (b%dJ.dW (aM.gW f))else 0))),.s (.sc (.int .i64 (bif eT.hI f b then 0 else 2)))])
theorem spec:fI E f91 aE (pN .i64) (pN .u64) sp:=by
 intro f b h;refine(start f b).trans ((gP h).trans ?_);unfold sp
 try dsimp only
 have ht:aM.Bh (aM.gW f):=by
  rcases h.1 with rfl |rfl
  ·exact .inl rfl
  ·exact .inr rfl
 cases hp:eT.hI f b with
 |false=>rfl
 |true =>
  try dsimp only[cond_true]
  rw[fD rfl,gP ht]
def aH:dG:=orc2 (pN .i64) (pN .u64) sp
theorem ok:OK 91 aH:=(eF E aE (aA eT.ok (aA lN.ok aD)) func91).lA rfl spec
end Is
namespace xE
def aPJ(b:Int):Int:=bif eT.hI 64 b then lN.lF (aM.gW 64) (b%9223372036854775808)else 0
end xE
namespace zO
def E:=mE [(113,Jz.aH)] 14 [10] [] []
def aE:=bd f62
theorem aU:Nk E aE:=nk
theorem start a b c d e f:aF E f62 aE [D.agg [sc (bool a),ints u64 b,sc (int i64 c)],D.agg [sc (bool d),ints u64 e,sc (int i64 f)]]=aO (aJ (a,b,c)/\aJ (d,e,f)) (some [D.s (sc (int i64 (lE (bA.lH (dv (a,b,c)) (dv (d,e,f))) (bA.lG (dv (a,b,c)) (dv (d,e,f))))))]):=eJ aU
def sp(x y:dR):Prop×List D:=(aJ x/\aJ y,[.s (.sc (.int .i64 (bZ (dv x) (dv y))))])
theorem spec:fI E f62 aE gZ gZ sp:=by
 intro x y h;exact(start x.1 x.2.1 x.2.2 y.1 y.2.1 y.2.2).trans (gP h)
def aH:dG:=orc2 gZ gZ sp
theorem ok:OK 62 aH:=(eF E aE (aA Jz.ok aD) func62).lA rfl spec
end zO
namespace pO
def E:=mE [(61,kA.aH),(62,zO.aH)] 19 [] [] []
def aE:=bd f45
theorem aU:Nk E aE:=nk
theorem start a b c d e f:aF E f45 aE [D.agg [sc (bool a),ints u64 b,sc (int i64 c),sc (bool d),ints u64 e,sc (int i64 f)]]=aO (aJ (a,b,c)) (aO (aJ (d,e,f)) (aO (aJ (a,b,c)/\aJ (d,e,f)) (some [D.s (sc (bool (decide (bZ (dv (a,b,c)) (dv (d,e,f))<=0))))]))):=eJ aU
def sp(s:qN):Prop×List D:=(dP s,[.s (.sc (.bool true))])
theorem spec:gO E f45 aE qK sp:=by
 rintro s ⟨h1,h2,h3⟩;refine(start s.1 s.2.1 s.2.2.1 s.2.2.2.1 s.2.2.2.2.1 s.2.2.2.2.2).trans ((gP h1).trans ((gP h2).trans ((gP ⟨h1,h2⟩).trans ?_)));show some [D.s (.sc (.bool (decide (bZ (dv (fB s)) (dv (fF s))<=0))))]=_;rw[decide_eq_true h3];rfl
def aH:dG:=orc1 qK sp
theorem ok:OK 45 aH:=(eF E aE (aA kA.ok (aA zO.ok aD)) func45).nN rfl spec
end pO
namespace aGG
def E:=mE [(121,Clone.aH)] 10 [] [] []
def aE:=bd f156
theorem aU:Nk E aE:=nk
theorem start a b c:aF E f156 aE [D.agg [sc (bool a),ints u64 b,sc (int i64 c)]]=aO (b.length<=1099511627776) (some [D.agg [sc (bool a),ints u64 b,sc (int i64 c)]]):=eJ aU
def sp(x:dR):Prop×List D:=(x.2.1.length<=1099511627776,[.agg [.sc (.bool x.1),.ints .u64 x.2.1,.sc (.int .i64 x.2.2)]])
theorem spec:gO E f156 aE gZ sp:=by
 intro x h;exact(start x.1 x.2.1 x.2.2).trans (gP h)
def aH:dG:=orc1 gZ sp
theorem ok:OK 156 aH:=(eF E aE (aA Clone.ok aD) func156).nN rfl spec
end aGG
namespace Ia
def E:=mE [(156,aGG.aH)] 10 [] [] []
def aE:=bd f105
theorem aU:Nk E aE:=nk
theorem start a b c d e f:aF E f105 aE [D.agg [sc (bool a),ints u64 b,sc (int i64 c),sc (bool d),ints u64 e,sc (int i64 f)]]=aO (b.length<=1099511627776) (aO (e.length<=1099511627776) (some [D.agg [sc (bool a),ints u64 b,sc (int i64 c),sc (bool d),ints u64 e,sc (int i64 f)]])):=eJ aU
def sp(s:qN):Prop×List D:=(s.2.1.length<=1099511627776/\s.2.2.2.2.1.length<=1099511627776,[.agg [.sc (.bool s.1),.ints .u64 s.2.1,.sc (.int .i64 s.2.2.1),.sc (.bool s.2.2.2.1),.ints .u64 s.2.2.2.2.1,.sc (.int .i64 s.2.2.2.2.2)]])
theorem spec:gO E f105 aE qK sp:=by
 intro s h;exact(start s.1 s.2.1 s.2.2.1 s.2.2.2.1 s.2.2.2.2.1 s.2.2.2.2.2).trans ((gP h.1).trans (gP h.2))
def aH:dG:=orc1 qK sp
theorem ok:OK 105 aH:=(eF E aE (aA aGG.ok aD) func105).nN rfl spec
end Ia
namespace aGH
def E:=mE [(45,pO.aH),(105,Ia.aH)] 16 [] [] []
def aE:=bd f92
theorem aU:Nk E aE:=nk
theorem start a b c d e f:aF E f92 aE [D.agg [sc (bool a),ints u64 b,sc (int i64 c)],D.agg [sc (bool d),ints u64 e,sc (int i64 f)]]=aO (dP (a,b,c,d,e,f)) (aO (b.length<=1099511627776/\e.length<=1099511627776) (some [D.agg [sc (bool a),ints u64 b,sc (int i64 c),sc (bool d),ints u64 e,sc (int i64 f)],D.s (sc (int i64 0))])):=eJ aU
def sp(x y:dR):Prop×List D:=(aJ x/\aJ y/\bZ (dv x) (dv y)<=0,[.agg [.sc (.bool x.1),.ints .u64 x.2.1,.sc (.int .i64 x.2.2),.sc (.bool y.1),.ints .u64 y.2.1,.sc (.int .i64 y.2.2)],.s (.sc (.int .i64 0))])
theorem spec:fI E f92 aE gZ gZ sp:=by
 rintro x y ⟨h1,h2,h3⟩;have l1:=h1.len;have l2:=h2.len;exact(start x.1 x.2.1 x.2.2 y.1 y.2.1 y.2.2).trans ((gP ⟨h1,h2,h3⟩).trans (gP ⟨by omega,by omega⟩))
def aH:dG:=orc2 gZ gZ sp
theorem ok:OK 92 aH:=(eF E aE (aA pO.ok (aA Ia.ok aD)) func92).lA rfl spec
end aGH
namespace Ib
def E:=mE [(92,aGH.aH)] 9 [6] [] []
def aE:=bd f36
theorem aU:Nk E aE:=nk
theorem start a b c:aF E f36 aE [D.agg [sc (bool a),ints u64 b,sc (int i64 c)]]=aO (aJ (a,b,c)/\aJ (a,b,c)/\bZ (dv (a,b,c)) (dv (a,b,c))<=0) (some [D.agg [sc (bool a),ints u64 b,sc (int i64 c),sc (bool a),ints u64 b,sc (int i64 c)],D.s (sc (int i64 0))]):=eJ aU
def sp(x:dR):Prop×List D:=(aJ x,[.agg [.sc (.bool x.1),.ints .u64 x.2.1,.sc (.int .i64 x.2.2),.sc (.bool x.1),.ints .u64 x.2.1,.sc (.int .i64 x.2.2)],.s (.sc (.int .i64 0))])
theorem spec:gO E f36 aE gZ sp:=by
 intro x h;exact(start x.1 x.2.1 x.2.2).trans (gP ⟨h,h,Kv _⟩)
def aH:dG:=orc1 gZ sp
theorem ok:OK 36 aH:=(eF E aE (aA aGH.ok aD) func36).nN rfl spec
end Ib
namespace aGL
def E:=mE [(117,mM.aH),(116,Ij.aH)] 14 [] [] []
def aE:=bd f64
theorem aU:Nk E aE:=nk
theorem start a:aF E f64 aE [D.s (sc (int i64 a))]=letI B:=M6.dg (u64.wrap a).toNat;letI C:=zs false (M6.val B);letI A:=M6.dg (u64.wrap ((0:Int)-u64.wrap a)).toNat;letI F:=zs true (M6.val A);aB (decide (a<0)) (aO (0<=u64.wrap ((0:Int)-u64.wrap a)/\u64.wrap ((0:Int)-u64.wrap a)<18446744073709551616) (aO (M6.cF A/\A.length<=1099511627776) (some [D.agg [sc (bool (isNeg F)),ints u64 (M6.dg F.natAbs)]]))) (aO (0<=u64.wrap a/\u64.wrap a<18446744073709551616) (aO (M6.cF B/\B.length<=1099511627776) (some [D.agg [sc (bool (isNeg C)),ints u64 (M6.dg C.natAbs)]]))):=eJ aU
def sp(a:Int):Prop×List D:=(-9223372036854775808<=a/\a<9223372036854775808,[wD a])
theorem spec:gO E f64 aE (pN .i64) sp:=by
 rintro a ⟨h1,h2⟩;refine(start a).trans ?_;show _=some [wD a]
 by_cases hn:a<0
 ·have w1:u64.wrap (0-u64.wrap a)=(a.natAbs:Int):=by rw[eE,eE];omega
  have hl:=eQ (n:=a.natAbs) (k:=1) (dU.2 (by omega));rw[aN hn,w1,bPS,gP ⟨by omega,by omega⟩,gP ⟨M6.aW _,by omega⟩,M6.bI];have:zs true a.natAbs=a:=by show -(a.natAbs:Int)=a;omega
  rw[this];rfl
 ·have w1:u64.wrap a=(a.natAbs:Int):=by rw[eE];omega
  have hl:=eQ (n:=a.natAbs) (k:=1) (dU.2 (by omega));rw[aI hn,w1,bPS,gP ⟨by omega,by omega⟩,gP ⟨M6.aW _,by omega⟩,M6.bI];have:zs false a.natAbs=a:=by show((a.natAbs:Nat):Int)=a;omega
  rw[this];rfl
def aH:dG:=orc1 (pN .i64) sp
theorem ok:OK 64 aH:=(eF E aE (aA mM.ok (aA Ij.ok aD)) func64).nN rfl spec
end aGL
namespace aGV
def E:=mE [(64,aGL.aH),(63,iJ.aH)] 12 [] [] []
def aE:=bd f24
theorem aU:Nk E aE:=nk
theorem start a:aF E f24 aE [D.s (sc (int i64 a))]=letI B:=(isNeg a,M6.dg a.natAbs);letI A:=bif fM (wv B) 0 then aL (wv B) 0 else((0:Int),(0:Int));aO ((-9223372036854775808:Int)<=a/\a<9223372036854775808) (aO (jY B/\(-9223372036854775808:Int)<=(0:Int)/\(0:Int)<(9223372036854775808:Int)) (some [D.agg [sc (bool (isNeg A.fst)),ints u64 (M6.dg A.fst.natAbs),sc (int i64 A.snd)]])):=eJ aU
def sp(n:Int):Prop×List D:=(-9223372036854775808<=n/\n<9223372036854775808,[dD (aL n 0)])
theorem aIV{n:Int}(h:bl n.natAbs<=524288):fM n 0=true:=by
 unfold fM
 by_cases hz:n=0
 ·rw[decide_eq_true hz,bRG]
 ·have:=Aa (n:=n.natAbs) (by omega);rw[decide_eq_true (show(-1048576<=0+(tz n.natAbs:Int)) by omega),decide_eq_true (show(0+(tz n.natAbs:Int)<=1048576) by omega),bOX,bRV]
theorem spec:gO E f24 aE (pN .i64) sp:=by
 rintro n ⟨h1,h2⟩;have hb:bl n.natAbs<=64:=dU.2 (by omega);refine(start n).trans ?_;rw[gP ⟨h1,h2⟩,gP ⟨mN (by omega),by omega,by omega⟩,rT,aIV (by omega)];rfl
def aH:dG:=orc1 (pN .i64) sp
theorem ok:OK 24 aH:=(eF E aE (aA aGL.ok (aA iJ.ok aD)) func24).nN rfl spec
end aGV
namespace Hz
def E:=mE [(36,Ib.aH),(24,aGV.aH)] 12 [] [] []
def aE:=bd f193
theorem aU:Nk E aE:=nk
theorem start a:aF E f193 aE [D.s (sc (int i64 a))]=letI A:=aL a 0;letI C:=M6.dg A.fst.natAbs;letI B:=bool (isNeg A.fst);aO ((-9223372036854775808:Int)<=a/\a<9223372036854775808) (aO (aJ (isNeg A.fst,M6.dg A.fst.natAbs,A.snd)) (some [D.agg [sc B,ints u64 C,sc (int i64 A.snd),sc B,ints u64 C,sc (int i64 A.snd)]])):=eJ aU
def sp(n:Int):Prop×List D:=(-1000000<=n/\n<=1000000,[vU (aL n 0) (aL n 0)])
theorem spec:gO E f193 aE (pN .i64) sp:=by
 rintro n ⟨h1,h2⟩;have hb:bl n.natAbs<=20:=dU.2 (by have:(2:Nat)^20=1048576:=rfl;omega);exact(start n).trans ((gP ⟨by omega,by omega⟩).trans (gP (cK (eZ (fJ (by decide) (by omega)) (by omega)))))
def aH:dG:=orc1 (pN .i64) sp
theorem ok:OK 193 aH:=(eF E aE (aA Ib.ok (aA aGV.ok aD)) func193).nN rfl spec
end Hz
namespace Bo
def E:=mE [(61,kA.aH),(68,kM.aH),(197,aGT.aH)] 13 [12] [] []
def aE:=bd f153
theorem aU:Nk E aE:=nk
theorem start a b c:aF E f153 aE [D.agg [sc (bool a),ints u64 b,sc (int i64 c)]]=aO (aJ (a,b,c)) (aO True (aB ((b.length:Int)==(0:Int)) (some [D.s (sc (int i64 0)),D.s (sc (int i64 4))]) (aO (aJ (a,b,c)) (some [D.s (sc (int i64 (c+(↑(bl (M6.val b)):Int)-(1:Int)))),D.s (sc (int i64 0))])))):=eJ aU
def sp(x:dR):Prop×List D:=(aJ x,[.s (.sc (.int .i64 (if(dv x).1=0 then 0 else x.2.2+(bl (M6.val x.2.1):Nat)-1))),.s (.sc (.int .i64 (if(dv x).1=0 then 4 else 0)))])
theorem spec:gO E f153 aE gZ sp:=by
 intro x h;have h:aJ x:=h;refine(start x.1 x.2.1 x.2.2).trans ?_;have hz:=M6.cS h.Iu;have ha:=iW (x.1,x.2.1)
 try dsimp only at ha
 have hd:(dv x).1=wv (x.1,x.2.1):=rfl;unfold sp
 try dsimp only
 rw[gP h,gP trivial]
 by_cases h0:x.2.1.length=0
 ·have:(dv x).1=0:=by rw[hd];have:=hz.1 h0;omega
  rw[cN,if_pos this,if_pos this]
 ·have:(dv x).1≠0:=by rw[hd];have:=fun hv=>h0 (hz.2 hv);omega
  rw[bV,if_neg this,if_neg this,gP h]
def aH:dG:=orc1 gZ sp
theorem ok:OK 153 aH:=(eF E aE (aA kA.ok (aA kM.ok (aA aGT.ok aD))) func153).nN rfl spec
end Bo
namespace aGW
def E:=mE [(61,kA.aH),(69,Bn.aH),(68,kM.aH)] 22 [] [] []
def aE:=bd f80
theorem aU:Nk E aE:=nk
theorem start a b c:aF E f80 aE [D.agg [sc (bool a),ints u64 b,sc (int i64 c)]]=aO (aJ (a,b,c)) (aO (b.length<=1099511627776) (aB (!a) (aO True (some [D.agg [sc (bool !(b.length:Int)==(0:Int)),ints u64 b,sc (int i64 c)],D.s (sc (int i64 0))])) (some [D.agg [sc (bool false),ints u64 b,sc (int i64 c)],D.s (sc (int i64 0))]))):=eJ aU
def sp(x:dR):Prop×List D:=(aJ x,dE true (-(dv x).1,(dv x).2))
theorem spec:gO E f80 aE gZ sp:=by
 intro x h;have h:aJ x:=h;have hl:=h.len;have hc:=h.Eb.cells;refine(start x.1 x.2.1 x.2.2).trans ?_;obtain⟨b,a,e⟩:=x
 try dsimp only at *
 unfold sp
 try dsimp only
 rw[gP h,gP];have hz:=M6.cS h.Iu;have ha:=iW (b,a)
 try dsimp only at ha hz
 have e1:dE true (-(dv (b,a,e)).1,(dv (b,a,e)).2)=[D.agg [.sc (.bool (isNeg (-(wv (b,a))))),.ints .u64 a,.sc (.int .i64 e)],.s (.sc (.int .i64 0))]:=by
  show [M.dD (-(wv (b,a)),e),_]=_;unfold M.dD
  try dsimp only
  rw[bSQ,hc.2];rfl
 rw[e1];cases b with
 |true =>
  have:wv (true,a)=-(M6.val a:Int):=Lj (x:=(true,a)) rfl;rw[bNW,bF,jI.2 (by omega)]
 |false =>
  have hw:wv (false,a)=(M6.val a:Int):=Bp (x:=(false,a)) rfl;rw[bXU,bT,gP trivial]
  by_cases h0:a.length=0
  ·rw[beq_iff_eq.2 (show(a.length:Int)=0 by omega),jI.2 (by have:=hz.1 h0;omega)];rfl
  ·rw[beq_eq_false_iff_ne.2 (show(a.length:Int)≠0 by omega),lP.2 (by have:M6.val a≠0:=fun h=>h0 (hz.2 h);omega)];rfl
def aH:dG:=orc1 gZ sp
theorem ok:OK 80 aH:=(eF E aE (aA kA.ok (aA Bn.ok (aA kM.ok aD))) func80).nN rfl spec
end aGW
namespace Vh
def E:=mE [(80,aGW.aH),(26,bA.aH)] 22 [10,19] [] []
def aE:=bd f78
theorem aU:Nk E aE:=nk
theorem start a b c d e f:aF E f78 aE [D.agg [sc (bool a),ints u64 b,sc (int i64 c)],D.agg [sc (bool d),ints u64 e,sc (int i64 f)]]=letI G:=dv (a,b,c);letI F:=dv (d,e,f);letI C:=bif true then(-F.fst,F.snd)else((0:Int),(0:Int));letI A:=dv (isNeg C.fst,M6.dg C.fst.natAbs,C.snd);letI B:=bif bA.gJ G A then bA.jL G A else((0:Int),(0:Int));aO (aJ (d,e,f)) (aO (aJ (a,b,c)/\aJ (isNeg (-F.fst),M6.dg (-F.fst).natAbs,F.snd)) (some [D.agg [sc (bool (isNeg B.fst)),ints u64 (M6.dg B.fst.natAbs),sc (int i64 B.snd)],D.s (sc (int i64 (bif bA.gJ G A then(0:Int)else(5:Int))))])):=eJ aU
def sp(x y:dR):Prop×List D:=(aJ x/\aJ y,dE (bA.gJ (dv x) (-(dv y).1,(dv y).2)) (bA.jL (dv x) (-(dv y).1,(dv y).2)))
theorem spec:fI E f78 aE gZ gZ sp:=by
 rintro x y ⟨hx,hy⟩;refine(start x.1 x.2.1 x.2.2 y.1 y.2.1 y.2.2).trans ?_;have hn:=cK hy.qJ.neg;have hv:=cT (-(dv y).1,(dv y).2);rw[gP hy,gP ⟨hx,hn⟩]
 try dsimp only[cond_true]at hv ⊢
 rw[hv];rfl
def aH:dG:=orc2 gZ gZ sp
theorem ok:OK 78 aH:=(eF E aE (aA aGW.ok (aA bA.ok aD)) func78).lA rfl spec
end Vh
namespace Norm
def E:=mE [] 27 [] [(2,[0,3]),(4,[0,3])] [4]
def aE:=bd f134
theorem aU:Nk E aE:=nk
def L2 a b:=nO E f134 aE 2 [wA a,bP b]
def J4 a b:=kV E f134 aE 4 [wA a,bP b]
theorem start a:aF E f134 aE [D.s (ints u32 a)]=Norm.L2 a (a.length:Int):=eJ aU
theorem jZ a b:L2 a b=aB (decide (0<b)) (if 0<=i64.wrap (b-1)/\i64.wrap (b-1)<(a.length:Int)then aB (a.getD (i64.wrap (b-1)).toNat 0==(0:Int)) (Norm.L2 a (i64.wrap (b-1))) (Norm.J4 a b)else none) (Norm.J4 a b):=lJ aU
theorem Rw a b:J4 a b=letI A:=bRS 0 (bRR b.toNat a);if 0<=b/\b<=b/\b<=8796093022208 then if(0:Int)<=(0:Int)/\0<=b/\b<=(a.length:Int)then some [D.own 156 u32 (bRR b.toNat A ++ bRS (min A.length b.toNat) (bNZ b.toNat (0:Int)))]else none else none:=cJ aU
theorem J{xs:List Int}{n:Nat}(h:n<=xs.length)(hl:xs.length<=4398046511104):J4 xs n=some [D.own Jb .u32 (xs.take n)]:=by
 rw[Rw,aT,aT];simp only[bPS];rw[aFN h]
theorem L{xs:List Int}(hd:cE xs)(hl:xs.length<=4398046511104):∀n:Nat,n<=xs.length->L2 xs n=some [D.own Jb .u32 (dg (val (xs.take n)))]
 |0,h=>by
  rw[jZ];simp only[aB,Int.natCast_zero,Int.lt_irrefl,decide_false,cond_false];rw[show((0:Int))=((0:Nat):Int)from rfl,J (by omega) hl];simp[val,bJ]
 |n+1,h=>by
  rw[jZ];have e:i64.wrap (((n+1:Nat):Int)-1)=(n:Int):=by rw[wrap_i64];omega
  rw[e];have e2:decide ((0:Int)<((n+1:Nat):Int))=true   := by simp
  simp only[aB,e2,cond_true,bPS];rw[aT];cases hz:xs.getD n 0==0 with
  |true =>
   have hz:=eq_of_beq hz;simp only[cond_true];rw[L hd hl n (by omega),jO (by omega),hz];simp
  |false =>
   have hz:xs.getD n 0≠0:=by simpa using hz
   simp only[cond_false];rw[J h hl];have:cF (xs.take (n+1)):=wL (hd.take _) fun d hg=>by
    rw[getLast_take (by omega)]at hg;cases hg;exact hz
   rw[<-this]
def sp(a:List Int):Prop×List D:=(cE a/\a.length<=4398046511104,[.own Jb .u32 (dg (val a))])
theorem spec:gO E f134 aE (pI .u32) sp:=by
 rintro a ⟨hd,hl⟩;refine(start a).trans ?_;rw[L hd hl a.length (bLW _),bSR];rfl
def aH:dG:=orc1 (pI .u32) sp
theorem ok:OK 134 aH:=(eF E aE aD func134).nN rfl spec
end Norm
namespace Uv
def E:=mE [(134,Norm.aH)] 11 [10] [] []
def aE:=bd f142
theorem aU:Nk E aE:=nk
theorem start a:aF E f142 aE [D.s (sc (int u64 a))]=letI B:=a/4294967296;letI A:=eN BinOp.and u64 a 4294967295;aO (cE [u32.wrap A,u32.wrap B]/\[u32.wrap A,u32.wrap B].length<=4398046511104) (some [D.own 156 u32 (dg (val [u32.wrap A,u32.wrap B]))]):=eJ aU
def sp(w:Int):Prop×List D:=(0<=w/\w<18446744073709551616,[.own Jb .u32 (dg w.toNat)])
theorem spec:gO E f142 aE (pN .u64) sp:=by
 rintro w ⟨h,h'⟩;refine(start w).trans ?_;rw[oP h h',wrap_u32,wrap_u32,Xg]
 ·unfold sp;congr 4;simp only[val];omega
 ·refine⟨?_,by simp⟩;rw[jK,jK];exact⟨by omega,by omega,lU⟩
def aH:dG:=orc1 (pN .u64) sp
theorem ok:OK 142 aH:=(eF E aE (aA Norm.ok aD) func142).nN rfl spec
end Uv
namespace xN
def E:=mE [(134,Norm.aH),(142,Uv.aH)] 46 [11,43] [(6,[0,1,6,7,8])] []
def aE:=bd f228
theorem aU:Nk E aE:=nk
def L6 a (b:Int) (c:Nat) (d:List Int) f g:=nO E f228 aE 6 [wA a,vA (sc (int u32 b)),(A.v (V.one (L.buf 2 c)),some { e:=(156:Nat),cont:=rI.ints u32 d }),cZ f,bP g]
theorem start a b:aF E f228 aE [D.s (ints u32 a),D.s (sc (int u32 b))]=letI A:=(a.length:Int);aB (b==0) (aO ((0:Int)<=(0:Int)/\(0:Int)<(18446744073709551616:Int)) (some [D.own 156 u32 (dg 0),D.s (sc (int u32 0))])) (if 0<=A/\A<=A/\A<=(8796093022208:Int)then xN.L6 a b A.toNat (bNZ A.toNat (0:Int)) 0 (i64.wrap (A-(1:Int)))else none):=eJ aU
theorem yV a b c d e f:L6 a b c d e f=letI A:=u64.wrap (u64.wrap (e*4294967296)+u64.wrap (a.getD f.toNat 0));aB (decide (0<=f)) (if 0<=f/\f<(a.length:Int)then if u64.wrap b=0 then none else if 0<=f/\f<(c:Int)then if u64.wrap b=0 then none else xN.L6 a b c (d.set f.toNat (u32.wrap (u64.wrap (A.tdiv (u64.wrap b))))) (A.tmod (u64.wrap b)) (i64.wrap (f-1))else none else none) (aO (cE d/\d.length<=4398046511104) (some [D.own 156 u32 (dg (val d)),D.s (sc (int u32 (u32.wrap e)))])):=lJ aU
theorem L{a:List Int}{w:Int}(ha:cE a)(bIN:a.length<=1099511627776)(hw:0<w)(aSV:w<4294967296):∀(n:Nat) (q:List Int) (l:Int),cE q->q.length=a.length->0<=l->l<w->n<=a.length ->
  L6 a w a.length q l ((n:Int)-1)=some [D.own Jb .u32 (dg ((l.toNat*4294967296^n+val (a.take n))/w.toNat+4294967296^n*val (q.drop n))),D.s (.sc (.int .u32 (((l.toNat*4294967296^n+val (a.take n))%w.toNat:Nat):Int)))]:=by
 intro n
 induction n with
 |zero =>
  intro q l hq bDZ h0 h1 hn;rw[yV,aI,gP ⟨hq,by omega⟩,wrap_u32];simp only[bVX,bMG,bPX,val,bMX,bSE,bPZ];rw[bRT (by omega),bLY,bWL (by omega)];have e0:l%4294967296=(l.toNat:Int):=by omega
  rw[e0]
 |succ n ih =>
  intro q l hq bDZ h0 h1 hn;have g1:=ha.get n;have e:(((n+1:Nat):Int)-1)=(n:Int):=by omega
  have e':((n:Int)).toNat=n:=bPS n;have hu:wrap_u64 (n:=w)=wrap_u64 (n:=w):=rfl;rw[e,yV,aN,aT,e',wrap_u64 (n:=w),aX,aT,aX,wrap_u64 (n:=l*4294967296),
   wrap_u64 (n:=a.getD n 0),wrap_u64 (n:=l*4294967296+a.getD n 0),wrap_i64]
  have Iy:0<=l*4294967296+a.getD n 0:=by omega
  rw[bTL Iy,bTM Iy];have bEA:(l*4294967296+a.getD n 0)/w<4294967296:=Int.ediv_lt_of_lt_mul hw (by
   have:(l+1)*4294967296<=w*4294967296:=Int.mul_le_mul_of_nonneg_right (by omega) (by omega);omega)
  have aQM:0<=(l*4294967296+a.getD n 0)/w:=Int.ediv_nonneg Iy (by omega);have aQO:=bVA (l*4294967296+a.getD n 0) (show w≠0 by omega);have aZO:=bVB (l*4294967296+a.getD n 0) hw;rw[wrap_u64 aQM (by omega),wrap_u32,Int.emod_eq_of_lt aQM bEA,ih _ _ (lT hq ⟨aQM,bEA⟩) (by simpa using bDZ) aQO aZO (by omega),qP (by omega),cD];have bDO:0<w.toNat:=by omega
  have d1:((l*4294967296+a.getD n 0)/w).toNat=(l.toNat*4294967296+(a.getD n 0).toNat)/w.toNat:=by
   rw[Pa Iy (by omega)];congr 1;omega
  have d2:((l*4294967296+a.getD n 0)%w).toNat=(l.toNat*4294967296+(a.getD n 0).toNat)%w.toNat:=by
   rw[Oz Iy (by omega)];congr 1;omega
  rw[d1,d2,bQV];generalize (a.getD n 0).toNat=x at *;generalize l.toNat=l at *;generalize val (a.take n)=v at *;generalize 4294967296^n=B at *;have e3:l*(B*4294967296)+(v+B*x)=(l*4294967296+x)*B+v:=by
   rw[bMQ,bQU B 4294967296,<-bQZ,bQU B x];omega
  rw[e3,aFC bDO,aCU (l:=l) (B:=4294967296) (d:=x),bQW,bQZ,bPM]
def sp(a:List Int)(w:Int):Prop×List D:=(cE a/\a.length<=1099511627776/\(0<w/\w<4294967296),[.own Jb .u32 (dg (val a/w.toNat)),.s (.sc (.int .u32 ((val a%w.toNat:Nat):Int)))])
theorem spec:fI E f228 aE (pI .u32) (pN .u32) sp:=by
 rintro a w ⟨ha,h1,hw⟩;refine(start a w).trans ?_;rw[bV,if_pos ⟨by omega,by omega,by omega⟩,wrap_i64,bPS,L ha h1 hw.1 hw.2 a.length _ 0 (iI _) (by simp) (by omega) (by omega) (bLW _)];simp[sp,val]
def aH:dG:=orc2 (pI .u32) (pN .u32) sp
theorem ok:OK 228 aH:=(eF E aE (aA Norm.ok (aA Uv.ok aD)) func228).lA rfl spec
end xN
namespace Add
def E:=mE [(134,Norm.aH)] 63 [62] [(4,[0,1,5,6,7]),(6,[0,1,5,6,7]),(8,[0,1,5,6,7]),(10,[0,1,5,6,7])] [6,8,10]
def aE:=bd f141
theorem aU:Nk E aE:=nk
def L4 a b (c:Nat) (d:List Int) f g:=nO E f141 aE 4 [wA a,wA b,(A.v (V.one (L.buf 2 c)),some { e:=(156:Nat),cont:=rI.ints u32 d }),cZ f,bP g]
def J6 a b (c:Nat) (d:List Int) f g:=kV E f141 aE 6 [wA a,wA b,(A.v (V.one (L.buf 2 c)),some { e:=(156:Nat),cont:=rI.ints u32 d }),cZ f,bP g]
def J8 a b (c:Nat) (d:List Int) f g:=kV E f141 aE 8 [wA a,wA b,(A.v (V.one (L.buf 2 c)),some { e:=(156:Nat),cont:=rI.ints u32 d }),cZ f,bP g]
def aHN a b (c:Nat) (d:List Int) f g:=kV E f141 aE 10 [wA a,wA b,(A.v (V.one (L.buf 2 c)),some { e:=(156:Nat),cont:=rI.ints u32 d }),cZ f,bP g]
theorem start a b:aF E f141 aE [D.s (ints u32 a),D.s (ints u32 b)]=letI A:=if(b.length:Int)>(a.length:Int)then(b.length:Int)else(a.length:Int);if(0:Int)<=(0:Int)/\0<=i64.wrap (A+1)/\i64.wrap (A+1)<=8796093022208 then Add.L4 a b 0 (bNZ 0 (0:Int)) 0 0 else none:=eJ aU
theorem kS a b c d e f:L4 a b c d e f=letI A:=Add.J6 a b c d e f;aB (decide (f<(a.length:Int))) A (aB (decide (f<(b.length:Int))) A (aB (decide (0<e)) A (aO (cE d/\d.length<=4398046511104) (some [D.own 156 u32 (dg (val d))])))):=lJ aU
theorem Lh a b c d e f:J6 a b c d e f=aB (decide (f<(a.length:Int))) (if 0<=f/\f<(a.length:Int)then Add.J8 a b c d (u64.wrap (e+u64.wrap (a.getD f.toNat 0))) f else none) (Add.J8 a b c d e f):=cJ aU
theorem sW a b c d e f:J8 a b c d e f=aB (decide (f<(b.length:Int))) (if 0<=f/\f<(b.length:Int)then Add.aHN a b c d (u64.wrap (e+u64.wrap (b.getD f.toNat 0))) f else none) (Add.aHN a b c d e f):=cJ aU
theorem Vf a b c d e f:aHN a b c d e f=letI A:=eN BinOp.and u64 e 4294967295;letI B:=d.length+[u32.wrap A].length;if(0:Nat)<[u32.wrap A].length/\(B:Int)<=(8796093022208:Int)then Add.L4 a b B (d ++ [u32.wrap A]) (e/4294967296) (i64.wrap (f+1))else none:=cJ aU
theorem step{a b xs:List Int}{c:Int}{i:Nat}(ha:cE a)(hb:cE b)(Sc:xs.length=i)(hi:i<4398046511104)(h0:0<=c)(h1:c<=1)(hc:i<a.length\/i<b.length\/0<c) :
  L4 a b i xs c i=L4 a b (i+1) (xs ++ [(c+a.getD i 0+b.getD i 0)%4294967296]) ((c+a.getD i 0+b.getD i 0)/4294967296) ((i+1:Nat):Int):=by
 have g1:=ha.get i;have g2:=hb.get i;have e':((i:Int)).toNat=i:=bPS i;have aUX:∀s:Int,0<=s->s<18446744073709551616->aHN a b i xs s i=L4 a b (i+1) (xs ++ [s%4294967296]) (s/4294967296) ((i+1:Nat):Int):=by
  intro s hs nY;rw[Vf,oP hs nY,if_pos ⟨by simp,by simp;omega⟩,wrap_u32,Int.emod_emod_of_dvd _ (Int.dvd_refl _),wrap_i64,Sc];rfl
 have bEY:∀s:Int,0<=s->s<8589934592->J8 a b i xs s i=aHN a b i xs (s+b.getD i 0) i:=by
  intro s hs nY;rw[sW]
  by_cases h:i<b.length
  ·rw[aN,aT,e',wrap_u64 (n:=b.getD i 0),wrap_u64]
  ·rw[aI,getD_none (a:=b) (by omega),Int.add_zero]
 have bBB:J6 a b i xs c i=L4 a b (i+1) (xs ++ [(c+a.getD i 0+b.getD i 0)%4294967296]) ((c+a.getD i 0+b.getD i 0)/4294967296) ((i+1:Nat):Int):=by
  rw[Lh]
  by_cases h:i<a.length
  ·rw[aN,aT,e',wrap_u64 (n:=a.getD i 0),wrap_u64,bEY _ (by omega) (by omega),aUX _ (by omega) (by omega)]
  ·rw[aI,getD_none (a:=a) (by omega),Int.add_zero,bEY _ (by omega) (by omega),aUX _ (by omega) (by omega)]
 rw[kS]
 by_cases h:i<a.length
 ·rw[aN,bBB]
 ·rw[aI]
  by_cases h':i<b.length
  ·rw[aN,bBB]
  ·rw[aI,aN,bBB]
theorem L{a b:List Int}(ha:cE a)(hb:cE b)(bIN:a.length<=1099511627776)(hlb:b.length<=1099511627776):∀(d i:Nat) (xs:List Int) (c:Int),cE xs->xs.length=i->0<=c->c<=1 ->
  i+d=max a.length b.length+1->(d=0->c=0)->val xs+4294967296^i*c.toNat=val (a.take i)+val (b.take i) ->
  L4 a b i xs c i=some [D.own Jb .u32 (dg (val a+val b))]:=by
 intro d
 induction d with
 |zero =>
  intro i xs c hx Sc h0 h1 hd hc hv;have hc:=hc rfl;subst hc;rw[kS,aI,aI,aI,gP ⟨hx,by omega⟩];rw[cG (by omega),cG (by omega)]at hv;simp at hv;rw[hv]
 |succ d ih =>
  intro i xs c hx Sc h0 h1 hd hc hv
  by_cases bJF:i<a.length\/i<b.length\/0<c
  ·have g1:=ha.get i;have g2:=hb.get i;rw[step ha hb Sc (by omega) h0 h1 bJF];refine ih (i+1) _ _ (lD hx (by omega)) (by simp[Sc]) (by omega) (by omega) (by omega) (fun hd0=>?_) ?_
   ·have:¬i<a.length:=by omega
    have:¬i<b.length:=by omega
    rw[getD_none (a:=a) (by omega),getD_none (a:=b) (by omega)];omega
   ·rw[lC,cD,cD,Sc,bQV,bQZ];generalize a.getD i 0=x at *;generalize b.getD i 0=y at *;generalize 4294967296^i=B at *;have e:4294967296*((c+x+y)/4294967296).toNat+((c+x+y)%4294967296).toNat=c.toNat+x.toNat+y.toNat:=by omega
    have e2:B*(4294967296*((c+x+y)/4294967296).toNat)+B*((c+x+y)%4294967296).toNat=B*c.toNat+B*x.toNat+B*y.toNat:=by
     rw[<-bQW,e,bQW,bQW]
    omega
  ·have:c=0:=by omega
   subst this;rw[kS,aI,aI,aI,gP ⟨hx,by omega⟩];rw[cG (by omega),cG (by omega)]at hv;simp at hv;rw[hv]
def sp(a b:List Int):Prop×List D:=(cE a/\cE b/\a.length<=1099511627776/\b.length<=1099511627776,[.own Jb .u32 (dg (val a+val b))])
theorem spec:fI E f141 aE (pI .u32) (pI .u32) sp:=by
 rintro a b ⟨ha,hb,h1,h2⟩;refine(start a b).trans ?_;rw[if_pos]
 ·exact L ha hb h1 h2 (max a.length b.length+1) 0 [] 0 lU rfl (by omega) (by omega) (by omega) (fun _=>rfl) (by simp[val])
 ·refine⟨by omega,?_,?_⟩ <;> rw[wrap_i64 ?_ ?_] <;> split <;> omega
def aH:dG:=orc2 (pI .u32) (pI .u32) sp
theorem ok:OK 141 aH:=(eF E aE (aA Norm.ok aD) func141).lA rfl spec
end Add
namespace Arctan
def rounds(k:Nat):Nat->Nat->Nat->Nat->Nat->Nat->Nat×Nat
 |0,_,p,m,_,n=>(p-m,n)
 |f+1,t,p,m,i,n=>if t=0 then(p-m,n)else if i%4=1 then rounds k f (t/k/k) (p+t/i) m (i+2) (n+1)else rounds k f (t/k/k) p (m+t/i) (i+2) (n+1)
theorem Yi{k Q:Nat}:∀(f t p m i n:Nat),t<2^Q->p<2^(Q+n+1)->(rounds k f t p m i n).1<2^(Q+n+f+1)/\(rounds k f t p m i n).2<=n+f:=by
 intro f
 induction f with
 |zero =>
  intro t p m i n ht hp;exact⟨bSL (Nat.sub_le _ _) hp,by simp[rounds]⟩
 |succ f ih =>
  intro t p m i n ht hp;have aDN:2^(Q+n+1)<=2^(Q+n+(f+1)+1):=fQ;have aTF:2^(Q+(n+1)+1)=2*2^(Q+n+1):=by rw[show Q+(n+1)+1=(Q+n+1)+1 from by omega,bQV];omega
  have hd:t/i<2^(Q+n+1):=bSL (bUJ _ _) (bMW ht (fQ));have hk:t/k/k<2^Q:=bSL (bUJ _ _) (bSL (bUJ _ _) ht);unfold rounds;split
  ·refine⟨bMW (bSL (Nat.sub_le _ _) hp) aDN,by simp⟩
  ·split
   ·have:=ih (t/k/k) (p+t/i) m (i+2) (n+1) hk (by rw[aTF];omega);rw[show Q+(n+1)+f+1=Q+n+(f+1)+1 from by omega]at this;exact⟨this.1,by omega⟩
   ·have:=ih (t/k/k) p (m+t/i) (i+2) (n+1) hk (by rw[aTF];omega);rw[show Q+(n+1)+f+1=Q+n+(f+1)+1 from by omega]at this;exact⟨this.1,by omega⟩
def atan(k q:Nat):Nat×Nat:=rounds k (q+2) (2^q/k) 0 0 1 0
theorem Bb(k q:Nat):(atan k q).1<2^(2*q+4)/\(atan k q).2<=q+2:=by
 have hb:2^q/k<2^(q+1):=bSL (bUJ _ _) (bSP (by omega) (by omega));have:=Yi (k:=k) (Q:=q+1) (q+2) (2^q/k) 0 0 1 0 hb (cP);rw[show q+1+0+(q+2)+1=2*q+4 from by omega]at this;exact⟨this.1,by have:=this.2;unfold atan;omega⟩
end Arctan
namespace aGR
def E:=mE [(206,lM.aH)] 32 [12,20,27] [] []
def aE:=bd f251
theorem aU:Nk E aE:=nk
theorem start a b:aF E f251 aE [D.s (ints u64 a),D.s (sc (int u64 b))]=letI A:=M6.dg (M6.val a/b.toNat);aB (decide (b<4294967296)) (aO (M6.cF a/\a.length<=8192/\0<u64.wrap (b*b)/\u64.wrap (b*b)<18446744073709551616) (some [D.s (ints u64 (M6.dg (M6.val a/(u64.wrap (b*b)).toNat)))])) (aO (M6.cF a/\a.length<=8192/\0<b/\b<18446744073709551616) (aO (M6.cF A/\A.length<=8192/\0<b/\b<18446744073709551616) (some [D.s (ints u64 (M6.dg (M6.val A/b.toNat)))]))):=eJ aU
def sp(a:List Int)(b:Int):Prop×List D:=(M6.cF a/\a.length<=8192/\2<=b/\b<4294967296,[.s (.ints .u64 (M6.dg (M6.val a/b.toNat/b.toNat)))])
theorem spec:fI E f251 aE (pI .u64) (pN .u64) sp:=by
 rintro a b ⟨hn,hl,h0,h1⟩;obtain⟨k,rfl⟩:=bQY (show 0<=b by omega);have hk:k*k<4294967296*4294967296:=Nat.mul_lt_mul_of_lt_of_le (by omega) (by omega) (by omega);have bIS:0<k*k:=Nat.mul_pos (by omega) (by omega);have e:u64.wrap ((k:Int)*(k:Int))=((k*k:Nat):Int):=by
  rw[<-bRU];exact wrap_u64
 refine(start a k).trans ?_;rw[aN h1,e,bPS,gP ⟨hn,hl,by omega,by omega⟩];unfold sp;rw[bPS,bRN]
def aH:dG:=orc2 (pI .u64) (pN .u64) sp
theorem ok:OK 251 aH:=(eF E aE (aA lM.ok aD) func251).lA rfl spec
end aGR
namespace dC
def E:=mE [(122,iY.aH),(117,mM.aH),(206,lM.aH),(124,rH.aH),(126,sT.aH),(251,aGR.aH)] 72 [67] [(6,[0,6,8,9,10,11])] []
def aE:=bd f229
theorem aU:Nk E aE:=nk
def L6 a b (c:Nat) (d:List Int) (e:Nat) (f:List Int) g x7:=nO E f229 aE 6 [cZ a,fW b,yG 2 c 22 d,yG 3 e 22 f,cZ g,cZ x7]
def bCJ a b c (d:Nat) (e:List Int) f g:=nO E f229 aE 6 [cZ a,fW b,fW c,yG 3 d 22 e,cZ f,cZ g]
def bLS a b (c:Nat) (d:List Int) e f g:=nO E f229 aE 6 [cZ a,fW b,yG 2 c 22 d,fW e,cZ f,cZ g]
def aVU a b c d e f:=nO E f229 aE 6 [cZ a,fW b,fW c,fW d,cZ e,cZ f]
theorem start a b:aF E f229 aE [D.s (sc (int u64 a)),D.s (sc (int i64 b))]=letI B:=M6.dg 1;letI A:=bif iY.iC (M6.val B) b.toNat then M6.dg (M6.val B*(2:Nat)^b.toNat)else [];aO ((0:Int)<=(1:Int)/\(1:Int)<(18446744073709551616:Int)) (aO (M6.cF B/\B.length<=8192/\0<=b/\b<4611686018427387904) (aO (M6.cF A/\A.length<=8192/\0<a/\a<18446744073709551616) (dC.L6 a (M6.dg (M6.val A/a.toNat)) 0 [] 0 [] 2 1))):=eJ aU
theorem yV a b c d e f g h:L6 a b c d e f g h=letI C:=M6.dg (M6.val b/a.toNat/a.toNat);letI B:=M6.cF b/\b.length<=8192/\2<=a/\a<4294967296;letI A:=M6.dg (M6.val b/h.toNat);letI G:=M6.val f+M6.val A;letI F:=M6.val d+M6.val A;aB (decide (0<(b.length:Int))) (aO (M6.cF b/\b.length<=8192/\0<h/\h<18446744073709551616) (aB (h.tmod 4==(1:Int)) (aO (M6.cF d/\M6.cF A/\d.length<=8192/\A.length<=8192) (aO B (dC.bCJ a C (bif cC.kU F then M6.dg F else []) e f (u64.wrap (g+3)) (u64.wrap (h+2))))) (aO (M6.cF f/\M6.cF A/\f.length<=8192/\A.length<=8192) (aO B (dC.bLS a C c d (bif cC.kU G then M6.dg G else []) (u64.wrap (g+3)) (u64.wrap (h+2))))))) (aO (M6.cF d/\M6.cF f/\d.length<=8192/\f.length<=8192) (some [D.s (ints u64 (M6.dg (M6.val d-M6.val f))),D.s (sc (int u64 g))])):=lJ aU
theorem aPU a b c d e f g:bCJ a b c d e f g=letI C:=M6.dg (M6.val b/a.toNat/a.toNat);letI B:=M6.cF b/\b.length<=8192/\2<=a/\a<4294967296;letI A:=M6.dg (M6.val b/g.toNat);letI G:=M6.val e+M6.val A;letI F:=M6.val c+M6.val A;aB (decide (0<(b.length:Int))) (aO (M6.cF b/\b.length<=8192/\0<g/\g<18446744073709551616) (aB (g.tmod 4==(1:Int)) (aO (M6.cF c/\M6.cF A/\c.length<=8192/\A.length<=8192) (aO B (dC.bCJ a C (bif cC.kU F then M6.dg F else []) d e (u64.wrap (f+3)) (u64.wrap (g+2))))) (aO (M6.cF e/\M6.cF A/\e.length<=8192/\A.length<=8192) (aO B (dC.aVU a C c (bif cC.kU G then M6.dg G else []) (u64.wrap (f+3)) (u64.wrap (g+2))))))) (aO (M6.cF c/\M6.cF e/\c.length<=8192/\e.length<=8192) (some [D.s (ints u64 (M6.dg (M6.val c-M6.val e))),D.s (sc (int u64 f))])):=lJ aU
theorem aGO a b c d e f:aVU a b c d e f=letI C:=M6.dg (M6.val b/a.toNat/a.toNat);letI B:=M6.cF b/\b.length<=8192/\2<=a/\a<4294967296;letI A:=M6.dg (M6.val b/f.toNat);letI G:=M6.val d+M6.val A;letI F:=M6.val c+M6.val A;aB (decide (0<(b.length:Int))) (aO (M6.cF b/\b.length<=8192/\0<f/\f<18446744073709551616) (aB (f.tmod 4==(1:Int)) (aO (M6.cF c/\M6.cF A/\c.length<=8192/\A.length<=8192) (aO B (dC.aVU a C (bif cC.kU F then M6.dg F else []) d (u64.wrap (e+3)) (u64.wrap (f+2))))) (aO (M6.cF d/\M6.cF A/\d.length<=8192/\A.length<=8192) (aO B (dC.aVU a C c (bif cC.kU G then M6.dg G else []) (u64.wrap (e+3)) (u64.wrap (f+2))))))) (aO (M6.cF c/\M6.cF d/\c.length<=8192/\d.length<=8192) (some [D.s (ints u64 (M6.dg (M6.val c-M6.val d))),D.s (sc (int u64 e))])):=lJ aU
open Arctan in
theorem jW {n k:Nat} (h:n<2^k) (hk:k<=524288):(M6.dg n).length<=8192:=eQ (k:=8192) (bMS (dU.2 h) (by omega))
theorem aLH{n k:Nat}(h:n<2^k)(hk:k<=524288):cC.kU n=true:=decide_eq_true (jW h hk)
theorem Ld{k Q:Nat}(hk:2<=k)(Sh:k<4294967296)(hQ:Q<=200000):∀(f t p m n:Nat),t<2^Q->t<4^f->f+n<=250000->p<2^(Q+n+1)->m<2^(Q+n+1) ->
  aVU k (M6.dg t) (M6.dg p) (M6.dg m) ((2+3*n:Nat):Int) ((2*n+1:Nat):Int)=some [D.s (.ints .u64 (M6.dg (Arctan.rounds k f t p m (2*n+1) n).1)),D.s (.sc (.int .u64 ((2+3*(Arctan.rounds k f t p m (2*n+1) n).2:Nat):Int)))]:=by
 intro f
 induction f with
 |zero =>
  intro t p m n aXC ht hf hp hm;have:t=0:=by simpa using ht
  subst this;rw[aGO,M6.bJ,aI (by simp),gP ⟨M6.aW _,M6.aW _,jW hp (by omega),jW hm (by omega)⟩,M6.bI,M6.bI];rfl
 |succ f ih =>
  intro t p m n aXC ht hf hp hm;rw[aGO];unfold Arctan.rounds
  by_cases hz:t=0
  ·subst hz;rw[M6.bJ,aI (by simp),gP ⟨M6.aW _,M6.aW _,jW hp (by omega),jW hm (by omega)⟩,M6.bI,M6.bI,if_pos rfl]
  ·have aTX:(M6.dg t).length≠0:=fun h=>hz (M6.gI.1 h)
   have et:(((2*n+1:Nat):Int)).toNat=2*n+1:=bPS _;have ek:((k:Int)).toNat=k:=bPS _;have em:(((2*n+1:Nat):Int)).tmod 4=(((2*n+1)%4:Nat):Int):=by rw[bTM (by omega)];omega
   have w1:u64.wrap (((2+3*n:Nat):Int)+3)=((2+3*(n+1):Nat):Int):=by rw[wrap_u64];omega
   have w2:u64.wrap (((2*n+1:Nat):Int)+2)=((2*(n+1)+1:Nat):Int):=by rw[wrap_u64];omega
   have aWL:t/k/k<2^Q:=bSL (bUJ _ _) (bSL (bUJ _ _) aXC);have bDV:t/k/k<4^f:=by
    rw[bRN];apply bRQ;have:4<=k*k:=bWK hk hk;rw[bQV 4 f,bQU (4^f)]at ht;exact bMW ht (bNJ _ this)
   have aDN:2^(Q+(n+1)+1)=2*2^(Q+n+1):=by rw[show Q+(n+1)+1=(Q+n+1)+1 from by omega,bQV];omega
   have hd:t/(2*n+1)<2^(Q+n+1):=bSL (bUJ _ _) (bMW aXC (fQ));have lt:=jW aXC (by omega);have ld:=jW hd (by omega);rw[aN];simp only[et,ek,em,M6.bI,w1,w2];rw[gP ⟨M6.aW _,lt,by omega,by omega⟩,if_neg hz,show 2*n+1+2=2*(n+1)+1 by omega]
   by_cases hc:(2*n+1)%4=1
   ·have hs:p+t/(2*n+1)<2^(Q+(n+1)+1):=by rw[aDN];omega
    rw[cN,gP ⟨M6.aW _,M6.aW _,jW hp (by omega),ld⟩,gP ⟨M6.aW _,lt,by omega,by omega⟩,if_pos hc,aLH hs (by omega),cond_true];exact ih _ _ _ (n+1) aWL bDV (by omega) hs (by rw[aDN];omega)
   ·have hs:m+t/(2*n+1)<2^(Q+(n+1)+1):=by rw[aDN];omega
    rw[bV,gP ⟨M6.aW _,M6.aW _,jW hm (by omega),ld⟩,gP ⟨M6.aW _,lt,by omega,by omega⟩,if_neg hc,aLH hs (by omega),cond_true];exact ih _ _ _ (n+1) aWL bDV (by omega) (by rw[aDN];omega) hs
def sp(k q:Int):Prop×List D:=((2<=k/\k<4294967296)/\0<=q/\q<=150000,[.s (.ints .u64 (M6.dg (Arctan.atan k.toNat q.toNat).1)),.s (.sc (.int .u64 ((2+3*(Arctan.atan k.toNat q.toNat).2:Nat):Int)))])
theorem spec:fI E f229 aE (pN .u64) (pN .i64) sp:=by
 rintro k q ⟨⟨h1,h2⟩,h3,h4⟩;refine(start k q).trans ?_;unfold sp;obtain⟨k,rfl⟩:=bQY (show 0<=k by omega);obtain⟨q,rfl⟩:=bQY h3;have Ms:2^q<2^(q+1):=bSP (by omega) (by omega);have hb:2^q/k<2^(q+1):=bSL (bUJ _ _) Ms;have so:iY.iC 1 q=true:=by
  unfold iY.iC;rw[show bl 1=1 from rfl,decide_eq_true (show 1+q<=524288 by omega),bRV]
 have l1:(M6.dg 1).length<=8192:=jW (k:=1) (by decide) (by decide);have nn:M6.cF ([]:List Int):=by rw[<-M6.bJ];exact M6.aW 0
 have v0:M6.val ([]:List Int)=0:=rfl;simp only[M6.bI,bPS,so,cond_true,bPZ];rw[gP ⟨by decide,by decide⟩,gP ⟨M6.aW _,l1,by omega,by omega⟩,gP ⟨M6.aW _,jW Ms (by omega),by omega,by omega⟩];unfold Arctan.atan;have bJK:2^q/k<4^(q+2):=bMW hb (by rw[show(4:Nat)=2^2 from rfl,<-bSO];exact fQ);generalize 2^q/k=t at *;have e4:4^(q+2)=16*4^q:=by rw[bQX];omega
 rw[e4]at bJK;have kk:4<=k*k:=bWK (show 2<=k by omega) (show 2<=k by omega);have step:∀a X:Nat,a<4*X->a/k/k<X:=fun a X ha=>by
  rw[bRN];exact bRQ (bMW ha (bNJ _ kk))
 have aFB:∀a:Nat,a/k/k<=a:=fun a=>bMS (bUJ _ _) (bUJ _ _)
 have ht:=jW hb (by omega);rw[yV,show q+2=(q+1)+1 by omega];unfold Arctan.rounds
 by_cases z:t=0
 ·subst z;rw[M6.bJ,aI (by simp),gP ⟨nn,nn,by decide,by decide⟩,if_pos rfl,v0];rfl
 ·have aTX:(M6.dg t).length≠0:=fun h=>z (M6.gI.1 h)
  rw[aN,if_neg z,if_pos (by decide)];simp only[M6.bI,v0,bLY,Int.toNat_one,bXH,bPS];have vP:=bSL (aFB t) hb;have bJL:=step t (4*4^q) (by omega);have l2:=jW vP (by omega);rw[gP ⟨M6.aW _,ht,by decide,by decide⟩,cN (by decide),gP ⟨nn,M6.aW _,by decide,ht⟩,gP ⟨M6.aW _,ht,by omega,by omega⟩,aLH hb (by omega),cond_true,aPU,show u64.wrap (2+3)=5 from wrap_u64 (by decide) (by decide),show u64.wrap (1+2)=3 from wrap_u64 (by decide) (by decide)];unfold Arctan.rounds;generalize t/k/k=u at *
  by_cases z1:u=0
  ·subst z1;rw[M6.bJ,aI (by simp),gP ⟨M6.aW _,nn,ht,by decide⟩,if_pos rfl,v0,M6.bI];rfl
  ·have Dq:(M6.dg u).length≠0:=fun h=>z1 (M6.gI.1 h)
   have bDT:u/3<2^(q+1):=bSL (bUJ _ _) vP;rw[aN,if_neg z1,if_neg (by decide)];simp only[M6.bI,v0,bLY,bPS,show((3:Int)).toNat=3 from rfl];rw[gP ⟨M6.aW _,l2,by decide,by decide⟩,bV (by decide),gP ⟨nn,M6.aW _,by decide,jW bDT (by omega)⟩,gP ⟨M6.aW _,l2,by omega,by omega⟩,aLH bDT (by omega),cond_true,show u64.wrap (5+3)=8 from wrap_u64 (by decide) (by decide),show u64.wrap (3+2)=5 from wrap_u64 (by decide) (by decide)];have up:2^(q+1)<=2^(q+1+2+1):=fQ;exact Ld (k:=k) (Q:=q+1) (by omega) (by omega) (by omega) q (u/k/k) t (u/3) 2 (bSL (aFB u) vP) (step u (4^q) bJL) (by omega) (by omega) (by omega)
def aH:dG:=orc2 (pN .u64) (pN .i64) sp
theorem ok:OK 229 aH:=(eF E aE (aA iY.ok (aA mM.ok (aA lM.ok (aA rH.ok (aA sT.ok (aA aGR.ok aD)))))) func229).lA rfl spec
end dC
namespace THalvings
def E:=mE [] 13 [] [(2,[0,3])] []
def aE:=bd f221
theorem aU:Nk E aE:=nk
def L2 a b:=nO E f221 aE 2 [bP a,bP b]
theorem start a:aF E f221 aE [D.s (sc (int i64 a))]=THalvings.L2 a 4:=eJ aU
theorem jZ a b:L2 a b=aB (decide (i64.wrap (i64.wrap ((4:Int)*b)*b)<a)) (THalvings.L2 a (i64.wrap (b+1))) (some [D.s (sc (int i64 b))]):=lJ aU
def hlv(w:Int):Nat->Nat->Nat
 |0,h=>h
 |f+1,h=>if 4*(h:Int)*h<w then hlv w f (h+1)else h
def sp(w:Int):Prop×List D:=(w<=150000,[.s (.sc (.int .i64 (hlv w 200 4:Nat)))])
theorem L{w:Int}(hw:w<=150000):∀f h:Nat,h+f=204->L2 w h=some [.s (.sc (.int .i64 (hlv w f h:Nat)))]:=by
 intro f
 induction f with
 |zero =>
  intro h hh;obtain rfl:h=204:=by omega
  have e:i64.wrap (i64.wrap (4*((204:Nat):Int))*((204:Nat):Int))=166464:=by decide +kernel
  rw[jZ,e,aI];rfl
 |succ f ih =>
  intro h hh;have hb:(h:Int)*h<=41616:=Int.ofNat_le.2 (bWK (show h<=204 by omega) (show h<=204 by omega));have hb0:(0:Int)<=(h:Int)*h:=bXW (by omega) (by omega);have ea:4*(h:Int)*h=4*((h:Int)*h):=Int.mul_assoc _ _ _;have e:i64.wrap (i64.wrap (4*(h:Int))*(h:Int))=4*(h:Int)*h:=by rw[wrap_i64 (n:=4*(h:Int)),wrap_i64]
  have e2:i64.wrap ((h:Int)+1)=((h+1:Nat):Int):=by rw[wrap_i64];omega
  rw[jZ,e,e2];unfold hlv
  by_cases c:4*(h:Int)*h<w
  ·rw[aN c,if_pos c];exact ih (h+1) (by omega)
  ·rw[aI c,if_neg c]
theorem spec:gO E f221 aE (pN .i64) sp:=fun w h=>(start w).trans (L h 200 4 rfl)
def aH:dG:=orc1 (pN .i64) sp
theorem ok:OK 221 aH:=(eF E aE aD func221).nN rfl spec
end THalvings
namespace sL
def E:=mE [(70,Oe.aH),(148,lW.aH)] 36 [] [] []
def aE:=bd f222
theorem aU:Nk E aE:=nk
theorem start a c d b:aF E f222 aE [D.agg [sc (bool a),ints u64 c,sc (int i64 d)],D.s (sc (int i64 b))]=letI A:=(false,c);aB (decide (0<=i64.wrap (d+b))) (aO (jY A/\0<=i64.wrap (d+b)/\i64.wrap (d+b)<4611686018427387904) (some [D.s (ints u64 (M6.dg (bif fit (M6.val c*(2:Nat)^(i64.wrap (d+b)).toNat)then wv A*(↑((2:Nat)^(i64.wrap (d+b)).toNat):Int)else(0:Int)).natAbs))])) (aO (jY A/\0<=i64.wrap ((0:Int)-i64.wrap (d+b))/\i64.wrap ((0:Int)-i64.wrap (d+b))<4611686018427387904) (some [D.s (ints u64 (M6.dg (wv A/(↑((2:Nat)^(i64.wrap ((0:Int)-i64.wrap (d+b))).toNat):Int)).natAbs))])):=eJ aU
def aHK(p:Int×Int)(n:Int):Nat:=if 0<=p.2+n then p.1.natAbs*2^(p.2+n).toNat else p.1.natAbs/2^(-(p.2+n)).toNat
def sp(x:dR)(n:Int):Prop×List D:=(aJ x/\-1099511627776<=n/\n<=1099511627776/\(0<=x.2.2+n->fit ((dv x).1.natAbs*2^(x.2.2+n).toNat)=true),[.s (.ints .u64 (M6.dg (aHK (dv x) n)))])
theorem spec:fI E f222 aE gZ (pN .i64) sp:=by
 rintro x n ⟨hx,h1,h2,hf⟩;have he:=hx.2.1;refine(start x.1 x.2.1 x.2.2 n).trans ?_;have w1:i64.wrap (x.2.2+n)=x.2.2+n:=wrap_i64;have ha:(dv x).1.natAbs=M6.val x.2.1:=iW (x.1,x.2.1);have ok:jY (false,x.2.1):=⟨hx.1.1,fun hf=>(by cases hf),hx.1.len⟩;have vx:wv (false,x.2.1)=(M6.val x.2.1:Int):=rfl;rw[w1,vx];unfold sp aHK;dsimp only
 by_cases c:0<=x.2.2+n
 ·have aUM:=hf c;rw[ha]at aUM ⊢;rw[aN c,gP ⟨ok,c,by omega⟩,aUM,cond_true,if_pos (show 0<=(dv x).2+n from c),<-bRU,bRO];rfl
 ·have w2:i64.wrap (0-(x.2.2+n))=-(x.2.2+n):=by rw[wrap_i64];omega
  rw[ha,w2,aI c,gP ⟨ok,by omega,by omega⟩,if_neg (show ¬0<=(dv x).2+n from c),<-bRM,bRO];rfl
def aH:dG:=orc2 gZ (pN .i64) sp
theorem ok:OK 222 aH:=(eF E aE (aA Oe.ok (aA lW.ok aD)) func222).lA rfl spec
end sL
namespace Hy
def E:=mE [(154,aGI.aH),(115,Bm.aH)] 22 [12,18] [] []
def aE:=bd f224
theorem aU:Nk E aE:=nk
theorem start a b c:aF E f224 aE [D.s (ints u64 a),D.s (ints u64 b),D.s (sc (int i64 c))]=letI B:=M6.val a*M6.val b;letI A:=bif cC.kU B then M6.dg B else [];aO (M6.cF a/\M6.cF b/\a.length<=8192/\b.length<=8192) (aO (M6.cF A/\A.length<=8192/\0<=c/\c<4611686018427387904) (some [D.s (ints u64 (M6.dg (M6.val A/(2:Nat)^c.toNat)))])):=eJ aU
def sp(a b:List Int)(n:Int):Prop×List D:=(M6.cF a/\M6.cF b/\a.length<=4096/\b.length<=4096/\0<=n/\n<4611686018427387904,[.s (.ints .u64 (M6.dg (M6.val a*M6.val b/2^n.toNat)))])
theorem spec:sR E f224 aE (pI .u64) (pI .u64) (pN .i64) sp:=by
 rintro a b n ⟨h1,h2,l1,l2,n1,n2⟩;have hl:(M6.dg (M6.val a*M6.val b)).length<=8192:=by
  refine M6.cR (k:=8192) ?_;have va:=bMW (M6.cO h1.iU) (bOW (by decide) l1);have vb:=bMW (M6.cO h2.iU) (bOW (by decide) l2);rw[show(8192:Nat)=4096+4096 from rfl,bQX];generalize 18446744073709551616^4096=Q at *;exact bUK va vb
 have ok:cC.kU (M6.val a*M6.val b)=true:=decide_eq_true hl;refine(start a b n).trans ?_;rw[gP ⟨h1,h2,by omega,by omega⟩,ok];simp only[cond_true,M6.bI];exact gP ⟨M6.aW _,hl,n1,n2⟩
def aH:dG:=orc3 (pI .u64) (pI .u64) (pN .i64) sp
theorem ok:OK 224 aH:=(eF E aE (aA aGI.ok (aA Bm.ok aD)) func224).Al rfl spec
end Hy
namespace TSums
def E:Env:={ ({ base with C:=callsOf [(122,iY.aH),(117,mM.aH),(124,rH.aH),(224,Hy.aH),(206,lM.aH),(126,sT.aH)],wide:=some .u64 })with nt:=63,own:=[50,58],keep:=fun k=>(tlook [(4,[0,1,6,7,9])] k).getD [],cut:=tlook [] }
def aE:=bd f223
theorem aU:Nk E aE:=nk
def L4 a b c d e f g h:=nO E f223 aE 4 [fW a,bP b,cQ 2 250 [dZ c,dZ d,dZ e,dZ f],fW g,cZ h]
theorem start a b:aF E f223 aE [D.s (ints u64 a),D.s (sc (int i64 b))]=letI A:=M6.dg 1;aO ((0:Int)<=(1:Int)/\(1:Int)<(18446744073709551616:Int)) (aO (M6.cF A/\A.length<=8192/\0<=b/\b<4611686018427387904) (aC (bif iY.iC (M6.val A) b.toNat then M6.dg (M6.val A*(2:Nat)^b.toNat)else []) fun c=>TSums.L4 a b [] [] [] [] c 0)):=eJ aU
theorem kS a b c d e f g h:L4 a b c d e f g h=letI P:=M6.val f+M6.val g;letI O:=M6.val e+M6.val g;letI N:=M6.val d+M6.val g;letI K:=M6.val c+M6.val g;letI I:=decide (h.tmod 4=(3:Int));letI H:=decide (h.tmod 4=(2:Int));letI G:=decide (h.tmod 4=(1:Int));letI F:=decide (h.tmod 4=(0:Int));letI C:=u64.wrap (h+1);letI B:=M6.dg (M6.val g*M6.val a/(2:Nat)^b.toNat);letI A:=M6.cF g/\M6.cF a/\g.length<=4096/\a.length<=4096/\0<=b/\b<4611686018427387904;aB (decide (0<(g.length:Int))) (aB F (aO (M6.cF c/\M6.cF g/\c.length<=8192/\g.length<=8192) (aC (bif cC.kU K then M6.dg K else []) fun i=>aB F (aO A (aC B fun j=>aO (M6.cF j/\j.length<=8192/\0<u64.wrap (h+1)/\u64.wrap (h+1)<18446744073709551616) (aC (M6.dg (M6.val j/C.toNat)) fun k=>TSums.L4 a b i d e f k C))) (aB G (aO A (aC B fun l=>aO (M6.cF l/\l.length<=8192/\0<u64.wrap (h+1)/\u64.wrap (h+1)<18446744073709551616) (aC (M6.dg (M6.val l/C.toNat)) fun m=>TSums.L4 a b c i e f m C))) (aB H (aO A (aC B fun n=>aO (M6.cF n/\n.length<=8192/\0<u64.wrap (h+1)/\u64.wrap (h+1)<18446744073709551616) (aC (M6.dg (M6.val n/C.toNat)) fun o=>TSums.L4 a b c d i f o C))) (aB I (aO A (aC B fun p=>aO (M6.cF p/\p.length<=8192/\0<u64.wrap (h+1)/\u64.wrap (h+1)<18446744073709551616) (aC (M6.dg (M6.val p/C.toNat)) fun q=>TSums.L4 a b c d e i q C))) none))))) (aB G (aO (M6.cF d/\M6.cF g/\d.length<=8192/\g.length<=8192) (aC (bif cC.kU N then M6.dg N else []) fun r=>aB F (aO A (aC B fun s=>aO (M6.cF s/\s.length<=8192/\0<u64.wrap (h+1)/\u64.wrap (h+1)<18446744073709551616) (aC (M6.dg (M6.val s/C.toNat)) fun t=>TSums.L4 a b r d e f t C))) (aB G (aO A (aC B fun u=>aO (M6.cF u/\u.length<=8192/\0<u64.wrap (h+1)/\u64.wrap (h+1)<18446744073709551616) (aC (M6.dg (M6.val u/C.toNat)) fun v=>TSums.L4 a b c r e f v C))) (aB H (aO A (aC B fun w=>aO (M6.cF w/\w.length<=8192/\0<u64.wrap (h+1)/\u64.wrap (h+1)<18446744073709551616) (aC (M6.dg (M6.val w/C.toNat)) fun x=>TSums.L4 a b c d r f x C))) (aB I (aO A (aC B fun y=>aO (M6.cF y/\y.length<=8192/\0<u64.wrap (h+1)/\u64.wrap (h+1)<18446744073709551616) (aC (M6.dg (M6.val y/C.toNat)) fun z=>TSums.L4 a b c d e r z C))) none))))) (aB H (aO (M6.cF e/\M6.cF g/\e.length<=8192/\g.length<=8192) (aC (bif cC.kU O then M6.dg O else []) fun aa=>aB F (aO A (aC B fun ab=>aO (M6.cF ab/\ab.length<=8192/\0<u64.wrap (h+1)/\u64.wrap (h+1)<18446744073709551616) (aC (M6.dg (M6.val ab/C.toNat)) fun ac=>TSums.L4 a b aa d e f ac C))) (aB G (aO A (aC B fun ad=>aO (M6.cF ad/\ad.length<=8192/\0<u64.wrap (h+1)/\u64.wrap (h+1)<18446744073709551616) (aC (M6.dg (M6.val ad/C.toNat)) fun ae=>TSums.L4 a b c aa e f ae C))) (aB H (aO A (aC B fun af=>aO (M6.cF af/\af.length<=8192/\0<u64.wrap (h+1)/\u64.wrap (h+1)<18446744073709551616) (aC (M6.dg (M6.val af/C.toNat)) fun ag=>TSums.L4 a b c d aa f ag C))) (aB I (aO A (aC B fun ah=>aO (M6.cF ah/\ah.length<=8192/\0<u64.wrap (h+1)/\u64.wrap (h+1)<18446744073709551616) (aC (M6.dg (M6.val ah/C.toNat)) fun ai=>TSums.L4 a b c d e aa ai C))) none))))) (aB I (aO (M6.cF f/\M6.cF g/\f.length<=8192/\g.length<=8192) (aC (bif cC.kU P then M6.dg P else []) fun aj=>aB F (aO A (aC B fun ak=>aO (M6.cF ak/\ak.length<=8192/\0<u64.wrap (h+1)/\u64.wrap (h+1)<18446744073709551616) (aC (M6.dg (M6.val ak/C.toNat)) fun al=>TSums.L4 a b aj d e f al C))) (aB G (aO A (aC B fun am=>aO (M6.cF am/\am.length<=8192/\0<u64.wrap (h+1)/\u64.wrap (h+1)<18446744073709551616) (aC (M6.dg (M6.val am/C.toNat)) fun an=>TSums.L4 a b c aj e f an C))) (aB H (aO A (aC B fun ao=>aO (M6.cF ao/\ao.length<=8192/\0<u64.wrap (h+1)/\u64.wrap (h+1)<18446744073709551616) (aC (M6.dg (M6.val ao/C.toNat)) fun ap=>TSums.L4 a b c d aj f ap C))) (aB I (aO A (aC B fun aq=>aO (M6.cF aq/\aq.length<=8192/\0<u64.wrap (h+1)/\u64.wrap (h+1)<18446744073709551616) (aC (M6.dg (M6.val aq/C.toNat)) fun ar=>TSums.L4 a b c d e aj ar C))) none))))) none)))) (aO (M6.cF c/\M6.cF e/\c.length<=8192/\e.length<=8192) (aC (M6.dg (M6.val c-M6.val e)) fun au=>aO (M6.cF d/\M6.cF f/\d.length<=8192/\f.length<=8192) (aC (M6.dg (M6.val d-M6.val f)) fun av=>some [D.s (ints u64 av),D.s (ints u64 au)]))):=lJ aU
def tay(u W:Nat):Nat->Nat->Nat->Nat->Nat->Nat->Nat×Nat×Nat×Nat
 |0,_,a,b,c,d=>(a,b,c,d)
 |f+1,k,a,b,c,d=>if R.sq u W k=0 then(a,b,c,d)else
  if k%4=0 then tay u W f (k+1) (a+R.sq u W k) b c d else if k%4=1 then tay u W f (k+1) a (b+R.sq u W k) c d
  else if k%4=2 then tay u W f (k+1) a b (c+R.sq u W k) d else tay u W f (k+1) a b c (d+R.sq u W k)
theorem Fx{u W:Nat}(h:u<=W):∀k,R.sq u W k<=W
 |0=>bLW _
 |k+1=>bMS (R.Fw h k) (Fx h k)
theorem L{w:Nat}{a0:List Int}(hn:M6.cF a0)(hl:a0.length<=4096)(hu:M6.val a0<=2^w)(hw:w<=150000):∀(f k a b c d:Nat),k+f<=200000->R.sq (M6.val a0) (2^w) (k+f)=0 ->
  a<=k*2^w->b<=k*2^w->c<=k*2^w->d<=k*2^w ->
  L4 a0 w (M6.dg a) (M6.dg b) (M6.dg c) (M6.dg d) (M6.dg (R.sq (M6.val a0) (2^w) k)) k=some [.s (.ints .u64 (M6.dg ((tay (M6.val a0) (2^w) f k a b c d).2.1-(tay (M6.val a0) (2^w) f k a b c d).2.2.2))),.s (.ints .u64 (M6.dg ((tay (M6.val a0) (2^w) f k a b c d).1-(tay (M6.val a0) (2^w) f k a b c d).2.2.1)))]:=by
 intro f
 induction f with
 |zero =>
  intro k a b c d hk h0 ha hb hc hd;have pw:k*2^w<2^(w+18):=by
   rw[bQX,bQU];exact bYF (by omega) (bOV (by decide))
  rw[bMX]at h0;rw[kS,h0,M6.bJ,aI (by simp)];simp only[aK];rw[gP ⟨M6.aW _,M6.aW _,dC.jW (bSL ha pw) (by omega),dC.jW (bSL hc pw) (by omega)⟩,gP ⟨M6.aW _,M6.aW _,dC.jW (bSL hb pw) (by omega),dC.jW (bSL hd pw) (by omega)⟩];simp only[M6.bI];rfl
 |succ f ih =>
  intro k a b c d hk h0 ha hb hc hd;have pw:∀j,j<=200000->j*2^w<2^(w+18):=fun j hj=>by
   rw[bQX,bQU];exact bYF (by omega) (bOV (by decide))
  have hs:(k+1)*2^w=k*2^w+2^w:=by rw[bMQ,bPZ]
  have ht:=Fx hu k;have lt:(M6.dg (R.sq (M6.val a0) (2^w) k)).length<=4096:=eQ (k:=4096) (bMS (dU.2 (bSL ht (bSP (by decide) (bYG w)))) (by omega));rw[kS];unfold tay
  by_cases hz:R.sq (M6.val a0) (2^w) k=0
  ·rw[hz,M6.bJ,aI (by simp),if_pos rfl];simp only[aK];rw[gP ⟨M6.aW _,M6.aW _,dC.jW (bSL ha (pw k (by omega))) (by omega),dC.jW (bSL hc (pw k (by omega))) (by omega)⟩,gP ⟨M6.aW _,M6.aW _,dC.jW (bSL hb (pw k (by omega))) (by omega),dC.jW (bSL hd (pw k (by omega))) (by omega)⟩];simp only[M6.bI]
  ·have aTX:(M6.dg (R.sq (M6.val a0) (2^w) k)).length≠0:=fun h=>hz (M6.gI.1 h)
   have em:(k:Int).tmod 4=((k%4:Nat):Int):=by rw[bTM (by omega)];omega
   have w1:u64.wrap ((k:Int)+1)=((k+1:Nat):Int):=by rw[wrap_u64];omega
   have ew:(w:Int).toNat=w:=bPS _;have ek:(((k+1:Nat)):Int).toNat=k+1:=bPS _;have es:R.sq (M6.val a0) (2^w) k*M6.val a0/2^w/(k+1)=R.sq (M6.val a0) (2^w) (k+1):=rfl;have bGU:(M6.dg (R.sq (M6.val a0) (2^w) k*M6.val a0/2^w)).length<=8192:=by
    have:R.sq (M6.val a0) (2^w) k*M6.val a0/2^w<=R.sq (M6.val a0) (2^w) k:=bXQ (by rw[bQU (2^w)];exact bOK _ hu);exact dC.jW (bSL (bMS this ht) (bSP (by decide) (bYG w))) (by omega)
   rw[aN];simp only[aK,em,w1,ew,ek,M6.bI,es];rw[if_neg hz];have aOH:k+1+f=k+(f+1):=by omega
   have Ls:∀x,x<=k*2^w->x+R.sq (M6.val a0) (2^w) k<=(k+1)*2^w/\cC.kU (x+R.sq (M6.val a0) (2^w) k)=true/\(M6.dg x).length<=8192:=fun x hx=>by
    have h1:x+R.sq (M6.val a0) (2^w) k<=(k+1)*2^w:=by omega
    exact⟨h1,dC.aLH (bSL h1 (pw (k+1) (by omega))) (by omega),dC.jW (bSL hx (pw k (by omega))) (by omega)⟩
   have up:∀x,x<=k*2^w->x<=(k+1)*2^w:=fun x hx=>by omega
   have g1:M6.cF (M6.dg (R.sq (M6.val a0) (2^w) k))/\M6.cF a0/\(M6.dg (R.sq (M6.val a0) (2^w) k)).length<=4096/\a0.length<=4096/\(0:Int)<=w/\(w:Int)<4611686018427387904:=⟨M6.aW _,hn,lt,hl,by omega,by omega⟩;have g2:M6.cF (M6.dg (R.sq (M6.val a0) (2^w) k*M6.val a0/2^w))/\(M6.dg (R.sq (M6.val a0) (2^w) k*M6.val a0/2^w)).length<=8192/\(0:Int)<((k+1:Nat):Int)/\((k+1:Nat):Int)<18446744073709551616:=⟨M6.aW _,bGU,by omega,by omega⟩;have h4:k%4<4:=bOE _ (by decide)
   by_cases c0:k%4=0
   ·obtain⟨x1,x2,x3⟩:=Ls a ha;rw[aN,gP ⟨M6.aW _,M6.aW _,x3,by omega⟩,aN,x2,cond_true,gP g1,gP g2,if_pos c0];exact ih (k+1) _ _ _ _ (by omega) (by rw[aOH];exact h0) x1 (up b hb) (up c hc) (up d hd)
   ·rw[aI,if_neg c0]
    by_cases c1:k%4=1
    ·obtain⟨x1,x2,x3⟩:=Ls b hb;rw[aN,gP ⟨M6.aW _,M6.aW _,x3,by omega⟩,aI,aN,x2,cond_true,gP g1,gP g2,if_pos c1];exact ih (k+1) _ _ _ _ (by omega) (by rw[aOH];exact h0) (up a ha) x1 (up c hc) (up d hd)
    ·rw[aI,if_neg c1]
     by_cases c2:k%4=2
     ·obtain⟨x1,x2,x3⟩:=Ls c hc;rw[aN,gP ⟨M6.aW _,M6.aW _,x3,by omega⟩,aI,aI,aN,x2,cond_true,gP g1,gP g2,if_pos c2];exact ih (k+1) _ _ _ _ (by omega) (by rw[aOH];exact h0) (up a ha) (up b hb) x1 (up d hd)
     ·obtain⟨x1,x2,x3⟩:=Ls d hd;rw[aI,aN,gP ⟨M6.aW _,M6.aW _,x3,by omega⟩,aI,aI,aI,aN,x2,cond_true,gP g1,gP g2,if_neg c2];exact ih (k+1) _ _ _ _ (by omega) (by rw[aOH];exact h0) (up a ha) (up b hb) (up c hc) x1
def So(u w:Nat):Nat:=(tay u (2^w) (w+1) 0 0 0 0 0).2.1-(tay u (2^w) (w+1) 0 0 0 0 0).2.2.2
def Sp(u w:Nat):Nat:=(tay u (2^w) (w+1) 0 0 0 0 0).1-(tay u (2^w) (w+1) 0 0 0 0 0).2.2.1
def sp(a:List Int)(w:Int):Prop×List D:=(M6.cF a/\0<=w/\w<=150000/\2*M6.val a<=2^w.toNat,[.s (.ints .u64 (M6.dg (So (M6.val a) w.toNat))),.s (.ints .u64 (M6.dg (Sp (M6.val a) w.toNat)))])
theorem spec:fI E f223 aE (pI .u64) (pN .i64) sp:=by
 rintro a w ⟨hn,w0,w1,hu⟩;refine(start a w).trans ?_;obtain⟨w,rfl⟩:=bQY w0;rw[bPS]at hu;have hl:a.length<=4096:=by
  have e:M6.dg (M6.val a)=a:=by first |exact hn |exact Eq.symm hn
  rw[<-e];exact eQ (k:=4096) (bMS (dU.2 (show M6.val a<2^(w+1) by rw[bQV];have:0<2^w:=bOV (by decide);omega)) (by omega))
 have so:iY.iC 1 w=true:=by
  unfold iY.iC;rw[show bl 1=1 from rfl,decide_eq_true (show 1+w<=524288 by omega),bRV]
 have l1:(M6.dg 1).length<=8192:=dC.jW (k:=1) (by decide) (by decide);unfold sp;simp only[M6.bI,bPS,so,cond_true,bPZ,aK];rw[gP ⟨by decide,by decide⟩,gP ⟨M6.aW _,l1,by omega,by omega⟩,<-M6.bJ];exact L hn hl (by omega) (by omega) (w+1) 0 0 0 0 0 (by omega) (by rw[bLY];exact R.Vu hu) (by omega) (by omega) (by omega) (by omega)
def aH:dG:=orc2 (pI .u64) (pN .i64) sp
theorem ok:OK 223 aH:=(eF E aE (aA iY.ok (aA mM.ok (aA rH.ok (aA Hy.ok (aA lM.ok (aA sT.ok aD)))))) func223).lA rfl spec
end TSums
end W
end Go.Proofs.YtcnlagnipklcmaaGreatDoor
end
