/- Contracts. -/
import Derived.KernelRfl
import Derived.Test.YtplagoepbghhpaaGreatDoorBZivFixed2
set_option linter.unusedVariables false
set_option linter.unusedSimpArgs false
set_option exponentiation.threshold 10000000
noncomputable section
open Go.IntKind(i8 i16 i32 i64 u8 u16 u32 u64)
open Go.Proofs.Tryz
open Int renaming toNat_natCast->bYO,eq_ofNat_of_zero_le->bZV,natCast_mul->cAN,natCast_ediv->cAM,natCast_nonneg->cEF,tdiv_eq_ediv_of_nonneg->cDF,natCast_add->cFM,mul_neg->cDJ,tmod_eq_emod_of_nonneg->cDG,le_refl->cFZ,mul_one->cGA,mul_assoc->cAY,natAbs_neg->cBC,natCast_emod->cCB,one_mul->cGD,neg_mul->cEB,natAbs_natCast->cAH,mul_nonneg->cGQ,mul_ediv_mul_of_pos_left->cGS,mul_ediv_add_emod->cDM,toNat_of_nonneg->cGX,min_le_left->cHA,min_le_right->cHB,mul_neg_of_neg_of_pos->cEK
open Nat renaming pow_add->bZS,mul_add->bZR,mul_assoc->bZT,mul_comm->bZP,le_trans->bVN,pow_succ->bZQ,mod_lt->bWZ,mul_le_mul_right->bWG,add_mul->bVL,mul_le_mul_left->bXF,div_eq_of_lt->cAK,zero_add->bUT,div_lt_of_lt_mul->cAJ,div_add_mod->bZX,pow_pos->bXR,div_le_self->cFB,lt_of_lt_of_le->bVO,mod_eq_of_lt->cFC,div_div_eq_div_mul->cAL,add_zero->bVP,beq->bUS,eq_of_beq_eq_true->bVG,zero_le->cAS,mul_one->bVB,mul_lt_mul''->cCV,one_mul->bYV,pow_le_pow_right->bXS,le_of_not_lt->bXL,add_mul_div_left->cBW,mul_right_comm->cFE,le_refl->bUR,mod_add_div->cFF,mul_le_mul->cFA,div_le_div_left->cFH,ble->bUU,pow_zero->cEN,mul_left_comm->cCG,le_of_ble_eq_true->bWP,div_eq_of_lt_le->cFI,lt_of_le_of_lt->cBA,zero_div->cEG,testBit_mod_two_pow->cFK,mul_div_le->cFL,add_assoc->bYI,lt_or_ge->bVH,or_comm->cDD,testBit_and->cFO,testBit_div_two_pow->cFP,eq_of_testBit_eq->cFQ,div_mul_le_self->cFR,lt_div_mul_add->cFS,lt_mul_div_succ->cFT,div_lt_iff_lt_mul->cFU,zero_mod->cCF,pow_lt_pow_right->cCA,testBit_two_pow->cGB,mul_add_div->cEE,add_comm->cAQ,eq_of_mul_eq_mul_right->cGE,testBit_two_pow_sub_one->cGH,testBit_two_pow_sub_succ->cGI,le_div_iff_mul_le->cGK,eq_zero_or_pos->cGM,two_pow_add_eq_or_of_lt->cDE,testBit_lt_two_pow->cGT,add_mul_mod_self_left->cGU,mul_add_mod->cGV,mul_div_mul_right->cDH,mul_mod_mul_right->cDI,mul_div_cancel->cEP,min_eq_left->cAV,exists_eq_add_of_le->bVW,mul_lt_mul_of_pos_right->cGY,pow_lt_pow_iff_right->cGZ
open Rat renaming le_of_lt->bZY,natCast_mul->cBJ,le_trans->bZW,mul_assoc->cFV,intCast_mul->cFW,intCast_natCast->cFX,div_mul_cancel->cGJ
open List renaming replicate->bWU,take_length->cBD,drop->cDV,drop_zero->cBE,take->cDW,take_set_of_le->cFJ,drop_set_of_lt->cFN,length_take->bXH,drop_of_length_le->cGC,append_nil->cAP,getD_eq_getElem?_getD->bZU,nil_append->bYU,append_assoc->bWM,singleton_append->cBF
open Bool renaming not_true->bWR,true_and->bXT,false_and->cAA,true_or->cAB,false_or->bWS,not_false->cFY,and_false->cAD,and_eq_false_iff->cGG
namespace Go.Proofs.YtplagoepbghhpaaGreatDoor
namespace R
def gG{α:Type}(n:Nat)(k:Nat->α):α:=Nat.rec (motive:=fun _=>α) (k 0) (fun m _=>k (m+1)) n
theorem eR{α:Type}(n:Nat)(k:Nat->α):gG n k=k n:=by cases n <;> rfl
def inner(q:Nat)(f:Nat):Nat->Nat->Nat->Nat×Nat:=Nat.rec (motive:=fun _=>Nat->Nat->Nat->Nat×Nat) (fun t s _=>(t,s))
 (fun _ ih t s i=>gG (t/q) fun u=>gG (u/q) fun v=>gG (s+t/i-u/(i+2)) fun s'=>gG (i+4) fun i'=>ih v s' i') f
def outer(q:Nat)(g:Nat)(f:Nat):Nat->Nat->Nat->Nat×Nat:=Nat.rec (motive:=fun _=>Nat->Nat->Nat->Nat×Nat) (fun t s _=>(t,s))
 (fun _ ih t s i=>Prod.rec (motive:=fun _=>Nat×Nat) (fun t' s'=>ih t' s' (i+4*g)) (inner q g t s i)) f
theorem aML(n w:Nat){j:Nat}(hn:0<n):iC n w (j+1)<=iC n w j:=by
 unfold iC;refine bVN (cFH (show 2*j+1<=2*(j+1)+1 by omega) (by omega)) (Nat.div_le_div_right ?_);exact cFH (bXS hn (by omega)) (bXR hn)
def At(n w:Nat)(j:Nat)(t s:Nat):Prop:=t=2^w/n^(2*j+1)/\(s:Rat)=sum (fun j=>sg j*(iC n w j:Rat)) j/\j%2=0
theorem aRF{n w j t s:Nat}(hn:0<n)(h:At n w j t s):At n w (j+2) (t/(n*n)/(n*n)) (s+t/(2*j+1)-t/(n*n)/(2*j+1+2)):=by
 obtain⟨h1,h2,h3⟩:=h;have e1:t/(n*n)=2^w/n^(2*(j+1)+1):=by
  rw[h1,cAL,show 2*(j+1)+1=2*j+1+2 by omega,bZS _ (2*j+1) 2,Nat.pow_two]
 have e2:t/(n*n)/(n*n)=2^w/n^(2*(j+2)+1):=by
  rw[e1,cAL,show 2*(j+2)+1=2*(j+1)+1+2 by omega,bZS _ (2*(j+1)+1) 2,Nat.pow_two]
 refine⟨e2,?_,by omega⟩;have a1:t/(2*j+1)=iC n w j:=by rw[h1];rfl
 have a2:t/(n*n)/(2*j+1+2)=iC n w (j+1):=by rw[e1];rfl
 rw[a1,a2,dM,dM,<-h2];have hle:=aML n w (j:=j) hn;have:((s+iC n w j-iC n w (j+1):Nat):Rat)+(iC n w (j+1):Rat)=(s:Rat)+(iC n w j:Rat):=by
  exact_mod_cast(show s+iC n w j-iC n w (j+1)+iC n w (j+1)=s+iC n w j by omega)
 have g1:sg j=1:=by unfold sg;rw[if_pos h3]
 have g2:sg (j+1)=-1:=by unfold sg;rw[aU]
 rw[g1,g2];grind
theorem Yq(q f t s i:Nat):inner q (f+1) t s i=gG (t/q) fun u=>gG (u/q) fun v=>gG (s+t/i-u/(i+2)) fun s'=>gG (i+4) fun i'=>inner q f v s' i':=rfl
theorem Yh(q g f t s i:Nat):outer q g (f+1) t s i=outer q g f (inner q g t s i).1 (inner q g t s i).2 (i+4*g):=rfl
theorem aJL{n w:Nat}(hn:0<n):∀(f j t s:Nat),At n w j t s->At n w (j+2*f) (inner (n*n) f t s (2*j+1)).1 (inner (n*n) f t s (2*j+1)).2:=by
 intro f
 induction f with
 |zero=>intro j t s h;exact h
 |succ f ih =>
  intro j t s h;have e:inner (n*n) (f+1) t s (2*j+1)=inner (n*n) f (t/(n*n)/(n*n)) (s+t/(2*j+1)-t/(n*n)/(2*j+1+2)) (2*(j+2)+1):=by
   rw[Yq,eR,eR,eR,eR];rfl
  rw[e,show j+2*(f+1)=(j+2)+2*f by omega];exact ih _ _ _ (aRF hn h)
theorem aIS{n w:Nat}(hn:0<n)(g:Nat):∀(f j t s:Nat),At n w j t s->At n w (j+2*(g*f)) (outer (n*n) g f t s (2*j+1)).1 (outer (n*n) g f t s (2*j+1)).2:=by
 intro f
 induction f with
 |zero=>intro j t s h;exact h
 |succ f ih =>
  intro j t s h;have e:outer (n*n) g (f+1) t s (2*j+1)=outer (n*n) g f (inner (n*n) g t s (2*j+1)).1 (inner (n*n) g t s (2*j+1)).2 (2*(j+2*g)+1):=by
   rw[Yh,show 2*j+1+4*g=2*(j+2*g)+1 by omega]
  rw[e,show j+2*(g*(f+1))=(j+2*g)+2*(g*f) by rw[Nat.mul_succ];omega];exact ih _ _ _ (aJL hn g j t s h)
def Xn(n w g f:Nat):Nat×Nat:=outer (n*n) g f (2^w/n) 0 1
theorem Gr{n:Nat}(hn:2<=n)(w g f:Nat)(hJ:2*(g*f)<=1048576)(hz:(Xn n w g f).1=0):ab (((Xn n w g f).2:Rat)-((2^w:Nat):Rat)*We n)<=((2*(g*f):Nat):Rat)+2:=by
 have h:=aIS (n:=n) (w:=w) (by omega) g f 0 (2^w/n) 0 ⟨by rw[Nat.mul_zero,Nat.pow_one],by simp only[sum];norm_cast,rfl⟩;obtain⟨h1,h2,_⟩:=h;rw[bUT]at h1 h2;have h3:(Xn n w g f).2=(outer (n*n) g f (2^w/n) 0 (2*0+1)).2:=rfl;have h4:(Xn n w g f).1=(outer (n*n) g f (2^w/n) 0 (2*0+1)).1:=rfl;rw[h3,h2];rw[h4,h1]at hz;rw[bUT]at hz ⊢;refine aDM hn w hJ ?_;unfold iC;rw[hz,cEG]
def Ql(u w:Nat)(f:Nat):Nat->Nat->Nat->Nat->Nat×Nat×Nat:=Nat.rec (motive:=fun _=>Nat->Nat->Nat->Nat->Nat×Nat×Nat) (fun t c s _=>(t,c,s))
 (fun _ ih t c s k=>gG (t*u/w/(k+1)) fun t1=>gG (t1*u/w/(k+2)) fun t2=>gG (t2*u/w/(k+3)) fun t3=>gG (t3*u/w/(k+4)) fun t4=>gG (c+t-t2) fun c'=>gG (s+t1-t3) fun s'=>gG (k+4) fun k'=>ih t4 c' s' k') f
def Gf(w:Nat)(h:Nat):Nat->Nat->Nat×Nat:=Nat.rec (motive:=fun _=>Nat->Nat->Nat×Nat) (fun s c=>(s,c))
 (fun _ ih s c=>gG (2*(s*c/w)) fun s'=>gG (w-2*(s*s/w)) fun c'=>ih s' c') h
def aOH(x:Nat):Bool :=
 gG (x &&& (x >>> 1)) fun x=>gG (x &&& (x >>> 2)) fun x=>gG (x &&& (x >>> 4)) fun x=>gG (x &&& (x >>> 8)) fun x=>bUS (x &&& (x >>> 8)) 0
def aTO(P w:Nat):Bool :=
 gG (P/2^102) fun u=>gG (2^w) fun W =>
 Prod.rec (motive:=fun _=>Bool) (fun t r=>Prod.rec (motive:=fun _=>Bool) (fun c s=>bUS t 0 &&
  Prod.rec (motive:=fun _=>Bool) (fun s' c'=>bUU (2*s'*s') (W*W+2^(w+240))&&(bUU (W*W) (2*s'*s'+2^(w+240))&&bUU 1 c')) (Gf W 100 s c)) r) (Ql u W 320 W 0 0 0)
def aWN(w:Nat):Bool :=
 Prod.rec (motive:=fun _=>Bool) (fun t5 s5=>Prod.rec (motive:=fun _=>Bool) (fun t239 lS=>Prod.rec (motive:=fun _=>Bool) (fun t18 aNL=>Prod.rec (motive:=fun _=>Bool) (fun t57 aNK =>
  bUS t5 0&&(bUS t239 0&&(bUS t18 0&&(bUS t57 0 &&
  gG (16*s5-4*lS) fun P=>gG (48*aNL+32*aNK-20*lS) fun G =>
  bUU P (G+2^24)&&(bUU G (P+2^24)&&gG (P/2^64) fun Q =>
  bUS ((P+2^40)/2^64) Q&&(bUS ((P-2^40)/2^64) Q&&(bUS (Q/2^(w-104)) 3454217652357&&(aOH Q&&(aOH (2^(w-62)-1-Q)&&aTO P w)))))))))
  (Xn 57 w 78 78)) (Xn 18 w 92 92)) (Xn 239 w 66 66)) (Xn 5 w 122 122)
def Kk(x n:Nat):Prop:=∀p,∃i,i<n/\x.testBit (p+i)=false
theorem wH{x a n:Nat}(h:Kk (x &&& (x >>> a)) n):Kk x (n+a):=by
 intro p;obtain⟨i,hi,hb⟩:=h p;rw[cFO,Nat.testBit_shiftRight,cGG]at hb;rcases hb with hb |hb
 ·exact⟨i,by omega,hb⟩
 ·exact⟨i+a,by omega,by rwa [show p+(i+a)=a+(p+i) by omega]⟩
theorem aBJ{x:Nat}(h:aOH x=true):Kk x 24:=by
 unfold aOH at h;rw[eR,eR,eR,eR]at h;have h0:=bVG h;have n0:Kk ((((x &&& x >>> 1) &&& (x &&& x >>> 1) >>> 2) &&& ((x &&& x >>> 1) &&& (x &&& x >>> 1) >>> 2) >>> 4) &&& (((x &&& x >>> 1) &&& (x &&& x >>> 1) >>> 2) &&& ((x &&& x >>> 1) &&& (x &&& x >>> 1) >>> 2) >>> 4) >>> 8 &&& ((((x &&& x >>> 1) &&& (x &&& x >>> 1) >>> 2) &&& ((x &&& x >>> 1) &&& (x &&& x >>> 1) >>> 2) >>> 4) &&& (((x &&& x >>> 1) &&& (x &&& x >>> 1) >>> 2) &&& ((x &&& x >>> 1) &&& (x &&& x >>> 1) >>> 2) >>> 4) >>> 8) >>> 8) 1:=by
  rw[h0];exact fun p=>⟨0,by omega,by simp⟩
 exact wH (a:=1) (n:=23) (wH (a:=2) (n:=21) (wH (a:=4) (n:=17) (wH (a:=8) (n:=9) (wH (a:=8) (n:=1) n0))))
theorem Oz{x n:Nat}(h:Kk x n)(p:Nat):x/2^p%2^n≠2^n-1:=by
 intro hc;obtain⟨i,hi,hb⟩:=h p;have h1:(x/2^p%2^n).testBit i=true:=by
  rw[hc,cGH];exact decide_eq_true hi
 rw[cFK,cFP]at h1;rw[show p+i=i+p by omega]at hb;rw[hb]at h1;simp at h1
theorem aFL{x L n p:Nat}(hx:x<2^L)(hp:p+n<=L)(h:(2^L-1-x)/2^p%2^n≠2^n-1):x/2^p%2^n≠0:=by
 intro hc;apply h;apply cFQ;intro i;rw[cGH,cFK,cFP,show 2^L-1-x=2^L-(x+1) by omega,cGI hx];have h1:(x/2^p%2^n).testBit i=false:=by rw[hc];simp
 rw[cFK,cFP]at h1
 by_cases hi:i<n
 ·simp[hi]at h1 ⊢;exact⟨by omega,h1⟩
 ·simp[hi]
theorem aBU(h:Nat):((4^(h+1):Nat):Rat)=4*((4^h:Nat):Rat):=by
 rw[bZQ,cBJ];grind
theorem Io(h:Nat):((2^(h+1):Nat):Rat)=2*((2^h:Nat):Rat):=by
 rw[bZQ,cBJ];grind
theorem Kd(b h:Nat)(hb:0<b):(1:Rat)<=((b^h:Nat):Rat):=by exact_mod_cast bXR hb
theorem Pl(w h s c:Nat):Gf w (h+1) s c=Gf w h (2*(s*c/w)) (w-2*(s*s/w)):=by
 show gG _ (fun s'=>gG _ fun c'=>Gf w h s' c')=_;rw[eR,eR]
theorem aLR{W s c:Nat}{x e:Rat}(hW:1<=W)(h0:0<=x)(h1:x<=1/2)(hs:ab ((s:Rat)-W*sn x)<=e)(hc:ab ((c:Rat)-W*cs x)<=e)(he:100*(e*e)<=(W:Rat))(bAL:(8*e+4*(W:Rat))*vW<=1/4) :
  ab (((2*(s*c/W):Nat):Rat)-W*sn (2*x))<=4*e+4/\ab (((W-2*(s*s/W):Nat):Rat)-W*cs (2*x))<=4*e+4/\2*(s*s/W)<=W:=by
 have bSP:(1:Rat)<=(W:Rat):=by exact_mod_cast hW
 have aPW:0<=e:=bZW (aM _) hs;have aSK:ab x<=1:=by rw[bG h0];grind
 have aEM:2*(s*s/W)<=W:=by
  have h2:=aBA h0 (by grind);have h3:=Jr h0 (by grind);rw[bW]at hs;have e1:e<=(W:Rat)/10:=by
   have:=Jp (a:=10*e) (b:=(W:Rat)) (by have:=aF (show 0<=(W:Rat)-1 by grind) (show 0<=(W:Rat) by grind);grind) (by grind);rw[bG (by grind)]at this;grind
  have e2:=aF (show 0<=(W:Rat) by grind) (show 0<=1/2-sn x by grind);have e3:(s:Rat)<=3/5*(W:Rat):=by grind
  have e4:(0:Rat)<=(s:Rat):=by exact_mod_cast cAS _
  have e5:=bR e4 e3 e4 e3;have d:=(xK (s*s) (b:=W) (by omega)).1;rw[cBJ]at d;have e6:(W:Rat)*(2*((s*s/W:Nat):Rat))<=(W:Rat)*(W:Rat):=by
   have:=aF (show 0<=(W:Rat) by grind) (show 0<=(W:Rat) by grind);grind
  have e7:=bS (show 0<(W:Rat) by grind) e6;exact_mod_cast e7
 have Xj:ab ((W:Rat)*((2*(s*c/W):Nat):Rat)-2*((s:Rat)*(c:Rat)))<=2*(W:Rat):=by
  obtain⟨d1,d2⟩:=xK (s*c) (b:=W) (by omega);rw[cBJ]at d1 d2;rw[cBJ,bW];have:((2:Nat):Rat)=2:=by norm_cast
  rw[this];constructor <;> grind
 have aQC:ab ((W:Rat)*((W-2*(s*s/W):Nat):Rat)-((W:Rat)*(W:Rat)-2*((s:Rat)*(s:Rat))))<=2*(W:Rat):=by
  obtain⟨d1,d2⟩:=xK (s*s) (b:=W) (by omega);have aSR:((W-2*(s*s/W):Nat):Rat)+2*((s*s/W:Nat):Rat)=(W:Rat):=by
   exact_mod_cast(show W-2*(s*s/W)+2*(s*s/W)=W by omega)
  rw[cBJ]at d1 d2;generalize ((W-2*(s*s/W):Nat):Rat)=z at *;generalize ((s*s/W:Nat):Rat)=y at *;have:z=(W:Rat)-2*y:=by grind
  subst this;rw[bW];constructor <;> grind
 obtain⟨r1,r2⟩:=qM bSP aSK hs hc (by have:=aF aPW aPW;grind) bAL Xj aQC;exact⟨r1,r2,aEM⟩
theorem aCY{W:Nat}(hW:1<=W){E:Rat}(hE:100*(E*E)<=(W:Rat))(bAL:(8*E+4*(W:Rat))*vW<=1/4):∀(h:Nat) (x e:Rat) (s c:Nat),0<=x->((2^h:Nat):Rat)*x<=1->ab ((s:Rat)-W*sn x)<=e->ab ((c:Rat)-W*cs x)<=e->((4^h:Nat):Rat)*(e+2)<=E ->
  ab (((Gf W h s c).1:Rat)-W*sn (((2^h:Nat):Rat)*x))<=((4^h:Nat):Rat)*(e+2)-2/\ab (((Gf W h s c).2:Rat)-W*cs (((2^h:Nat):Rat)*x))<=((4^h:Nat):Rat)*(e+2)-2:=by
 intro h
 induction h with
 |zero =>
  intro x e s c h0 h1 hs hc bNA;rw[cEN,show((1:Nat):Rat)*x=x by grind];have:((1:Nat):Rat)=1:=by norm_cast
  rw[this];exact⟨by show ab ((s:Rat)-_)<=_;grind,by show ab ((c:Rat)-_)<=_;grind⟩
 |succ h ih =>
  intro x e s c h0 h1 hs hc bNA;rw[Io]at h1;rw[aBU]at bNA;have aPW:0<=e:=bZW (aM _) hs;have g2:=Kd 2 h (by omega);have g4:=Kd 4 h (by omega);have aGK:x<=1/2:=by
   have:=aF (show 0<=((2^h:Nat):Rat)-1 by grind) h0;grind
  have aPU:e<=E:=by
   have:=aF (show 0<=((4^h:Nat):Rat)-1 by grind) (show 0<=e+2 by grind);grind
  have bLV:=bR aPW aPU aPW aPU;have aPT:=vG;have hsm2:=aF (show 0<=E-e by grind) (bZY aPT);obtain⟨r1,r2,_⟩:=aLR hW h0 aGK hs hc (by grind) (by grind);have:=ih (2*x) (4*e+4) _ _ (by grind) (by grind) r1 r2 (by grind);rw[Pl,Io,aBU,show 2*((2^h:Nat):Rat)*x=((2^h:Nat):Rat)*(2*x) by grind];refine⟨bZW this.1 ?_,bZW this.2 ?_⟩ <;> grind
theorem Jo{u W:Nat}(h:u<=W)(k:Nat):sq u W (k+1)<=sq u W k:=by
 rw[sq];refine bVN (cFB _ _) ?_
 by_cases hW:W=0
 ·rw[hW,Nat.div_zero];omega
 ·exact Nat.div_le_of_le_mul (by rw[bZP];exact bWG _ h)
theorem aDU(u w f t c s k:Nat):Ql u w (f+1) t c s k=gG (t*u/w/(k+1)) fun t1=>gG (t1*u/w/(k+2)) fun t2=>gG (t2*u/w/(k+3)) fun t3=>gG (t3*u/w/(k+4)) fun t4=>gG (c+t-t2) fun c'=>gG (s+t1-t3) fun s'=>gG (k+4) fun k'=>Ql u w f t4 c' s' k':=rfl
theorem aOD{u W:Nat}(hu:u<=W):∀(f k t c s:Nat),k%4=0->t=sq u W k->(c:Rat)=sum (fun k=>cc k*(sq u W k:Rat)) k->(s:Rat)=sum (fun k=>ss k*(sq u W k:Rat)) k ->
  (Ql u W f t c s k).1=sq u W (k+4*f)/\(((Ql u W f t c s k).2.1:Nat):Rat)=sum (fun k=>cc k*(sq u W k:Rat)) (k+4*f)/\(((Ql u W f t c s k).2.2:Nat):Rat)=sum (fun k=>ss k*(sq u W k:Rat)) (k+4*f):=by
 intro f
 induction f with
 |zero=>intro k t c s _ h1 h2 h3;exact⟨h1,h2,h3⟩
 |succ f ih =>
  intro k t c s hk h1 h2 h3;have e:Ql u W (f+1) t c s k=Ql u W f (sq u W (k+4)) (c+sq u W k-sq u W (k+2)) (s+sq u W (k+1)-sq u W (k+3)) (k+4):=by
   rw[aDU,eR,eR,eR,eR,eR,eR,eR,h1];rfl
  have l1:sq u W (k+1)<=sq u W k:=Jo hu k;have l2:sq u W (k+2)<=sq u W (k+1):=Jo hu (k+1);have l3:sq u W (k+3)<=sq u W (k+2):=Jo hu (k+2);rw[e,show k+4*(f+1)=k+4+4*f by omega];have c0:cc k=1/\cc (k+1)=0/\cc (k+2)=-1/\cc (k+3)=0:=by
   unfold cc;refine⟨?_,?_,?_,?_⟩
   ·rw[if_pos hk]
   ·rw[aU,aU]
   ·rw[aU,aW]
   ·rw[aU,aU]
  have s0:ss k=0/\ss (k+1)=1/\ss (k+2)=0/\ss (k+3)=-1:=by
   unfold ss;refine⟨?_,?_,?_,?_⟩
   ·rw[aU,aU]
   ·rw[aW]
   ·rw[aU,aU]
   ·rw[aU,aW]
  refine ih (k+4) _ _ _ (by omega) rfl ?_ ?_
  ·rw[dM,dM,dM,dM,<-h2,c0.1,c0.2.1,c0.2.2.1,c0.2.2.2];have:((c+sq u W k-sq u W (k+2):Nat):Rat)+(sq u W (k+2):Rat)=(c:Rat)+(sq u W k:Rat):=by exact_mod_cast(show c+sq u W k-sq u W (k+2)+sq u W (k+2)=c+sq u W k by omega)
   grind
  ·rw[dM,dM,dM,dM,<-h3,s0.1,s0.2.1,s0.2.2.1,s0.2.2.2];have:((s+sq u W (k+1)-sq u W (k+3):Nat):Rat)+(sq u W (k+3):Rat)=(s:Rat)+(sq u W (k+1):Rat):=by exact_mod_cast(show s+sq u W (k+1)-sq u W (k+3)+sq u W (k+3)=s+sq u W (k+1) by omega)
   grind
set_option maxRecDepth 10000
def pi:Rat:=16*We 5-4*We 239
def bFO:Rat:=48*We 18+32*We 57-20*We 239
theorem fD{a b:Bool}(h:(a&&b)=true):a=true/\b=true:=by simpa using h
structure Sx(w:Nat)(Q:Nat):Prop where
 lo:(Q:Rat)<=((2^(w-64):Nat):Rat)*pi
 hi:((2^(w-64):Nat):Rat)*pi<(Q:Rat)+1
 gauss:ab (((2^w:Nat):Rat)*(pi-bFO))<=33554432
 top:Q/2^(w-104)=3454217652357
 bFS:Kk Q 24
 aPB:Kk (2^(w-62)-1-Q) 24
 cos:ab (((2^w:Nat):Rat)*cs (pi/2))<=((2^250:Nat):Rat)
theorem tD(w:Nat)(hw:64<=w):2^w=2^64*2^(w-64):=by rw[<-bZS];congr 1;omega
theorem aBX{u W:Nat}(hW:0<W):∃x:Rat,x*(W:Rat)=(u:Rat)/\0<=x:=by
 have h:(0:Rat)<(W:Rat):=by exact_mod_cast hW
 have h1:(W:Rat)≠0:=by grind
 refine⟨(u:Rat)/(W:Rat),cGJ h1,?_⟩;have hu:(0:Rat)<=(u:Rat):=by exact_mod_cast cAS _
 refine Rat.not_lt.1 fun hn=>?_
 have:=Rat.mul_pos h (show 0 < -((u:Rat)/(W:Rat)) by grind);have e:(u:Rat)/(W:Rat)*(W:Rat)=u:=cGJ h1;grind
theorem aCW{w:Nat}(hw:w<=1000000):((2^w:Nat):Rat)*vW<=1/1048576:=by
 have h1:=Bd (n:=w+20) (by omega);have h2:=Rl w;have h3:=La w 20;have h4:hf 20=1/1048576:=by simp only[hf];grind
 have h5:(0:Rat)<=((2^w:Nat):Rat):=by exact_mod_cast cAS _
 have h6:=aF h5 (show 0<=hf (w+20)-vW by grind);rw[h3,h4]at h6;generalize ((2^w:Nat):Rat)=W at *;generalize hf w=H at *;clear h1 h3 h4;grind
theorem Tx{W E:Rat}(h:E<=W)(aPT:W*vW<=1/1048576):(8*E+4*W)*vW<=1/4:=by
 have:=aF (show 0<=W-E by grind) (bZY vG);grind
theorem aQS{W u P p x y:Rat}(hx:x*W=u)(hy:y=1267650600228229401496703205376*x)(v1:u*5070602400912917605986812821504<=P)(v2:P<u*5070602400912917605986812821504+5070602400912917605986812821504)(hp:ab (P-W*p)<=524288):ab (W*(p/2-2*y))<=10141204801825835211973625643008:=by
 rw[bW]at hp ⊢;subst hy;have:W*(p/2-2*(1267650600228229401496703205376*x))=W*p/2-2535301200456458802993406410752*u:=by rw[<-hx];grind
 rw[this];grind
theorem aWI{w P:Nat}(hw:1000<=w)(aXW:w<=1000000)(hP:P<3454217652358*2^(w-40)){p:Rat}(hp:ab ((P:Rat)-((2^w:Nat):Rat)*p)<=524288)(h:aTO P w=true):ab (((2^w:Nat):Rat)*cs (p/2))<=((2^250:Nat):Rat):=by
 unfold aTO at h;rw[eR,eR]at h;have aNO:0<2^w:=cY;have aJS:P/2^102*2^102<=P:=cFR P (2^102);have bEA:P<P/2^102*2^102+2^102:=cFS (cY);have bTZ:2^w=2^40*2^(w-40):=by rw[<-bZS];congr 1;omega
 have bLO:P/2^102*2^100<=2^w:=by
  rw[show 2^102=4*2^100 from rfl,show 2^40=1099511627776 from rfl]at *;generalize 2^100=b at *;generalize 2^(w-40)=q at *;generalize P/(4*b)=u at *;have:u*(4*b)=4*(u*b):=by rw[cCG]
  omega
 obtain⟨x,hx,Tm⟩:=aBX (u:=P/2^102) aNO;have ht:=aOD (u:=P/2^102) (W:=2^w) (by omega) 320 0 (2^w) 0 0 rfl rfl (by simp only[sum];norm_cast) (by simp only[sum];norm_cast);generalize Ql (P/2^102) (2^w) 320 (2^w) 0 0 0=T at *;obtain⟨t,c,s⟩:=T;dsimp only at h ht;rw[bUT,show 4*320=1280 from rfl]at ht;obtain⟨ht0,bLR,bEB⟩:=ht;obtain⟨z0,h⟩:=fD h;have z0:=bVG z0;rw[z0]at ht0;have hW:(0:Rat)<((2^w:Nat):Rat):=by exact_mod_cast aNO
 have bDY:((2^100:Nat):Rat)*x<=1:=by
  refine bS hW ?_;have h1:((P/2^102:Nat):Rat)*((2^100:Nat):Rat)<=((2^w:Nat):Rat):=by exact_mod_cast bLO
  grind
 have aGK:x<=1/2:=by
  have n1:((2^100:Nat):Rat)=1267650600228229401496703205376:=by norm_cast
  rw[n1]at bDY;grind
 have ec:=aHV aNO hx Tm aGK (n:=1280) (by omega) (by omega) ht0.symm;have es:=aHU aNO hx Tm aGK (n:=1280) (by omega) (by omega) ht0.symm;rw[<-bLR]at ec;rw[<-bEB]at es;have aSD:((1280:Nat):Rat)=1280:=by norm_cast
 rw[aSD]at ec es;have aPT:=aCW aXW;have n4:((4^100:Nat):Rat)=1606938044258990275541962092341162602522202993782792835301376:=by norm_cast
 have aVP:(100000000000000000000000000000000000000000000000000000000000000000000000000000000000000000000000000000000000000000000000000000000000000000000000000000000000000000000000000000000000000000000000000000000:Rat)<=((2^w:Nat):Rat):=by
  have e:2^w=2^200*(2^200*(2^200*(2^200*2^(w-800)))):=by simp only[<-bZS];congr 1;omega
  have h1:100000000000000000000000000000000000000000000000000000000000000000000000000000000000000000000000000000000000000000000000000000000000000000000000000000000000000000000000000000000000000000000000000000000<=2^200*(2^200*(2^200*(2^200*1))):=bWP rfl;have h2:100000000000000000000000000000000000000000000000000000000000000000000000000000000000000000000000000000000000000000000000000000000000000000000000000000000000000000000000000000000000000000000000000000000<=2^w:=by
   rw[e];exact bVN h1 (bXF _ (bXF _ (bXF _ (bXF _ (cY)))))
  exact_mod_cast h2
 have hepp:=vG;have hept:=Dy;have hd:=aCY (W:=2^w) aNO (E:=4499426523925172771517493858555255287062168382591819938843852800) (bZW (by grind) aVP) (Tx (bZW (by grind) aVP) aPT) 100 x 2564 s c Tm bDY (by grind) (by grind) (by rw[n4];grind);generalize Gf (2^w) 100 s c=R at *;obtain⟨s',c'⟩:=R;dsimp only at h hd;obtain⟨k1,h⟩:=fD h;obtain⟨k2,k3⟩:=fD h;have k1:=bWP k1;have k2:=bWP k2;have rL:=hd.1;rw[n4]at rL;have aZS:((2^100:Nat):Rat)=1267650600228229401496703205376:=by norm_cast
 rw[aZS]at rL bDY;obtain⟨y,hy⟩:∃y:Rat,y=1267650600228229401496703205376*x:=⟨_,rfl⟩;rw[<-hy]at rL bDY;have aSI:0<=y:=by grind
 have bMK:=Pm (x:=y) (by rw[bG aSI];grind);have bLD:2*(s':Rat)*(s':Rat)<=((2^w:Nat):Rat)*((2^w:Nat):Rat)+((2^w:Nat):Rat)*((2^240:Nat):Rat):=by
  rw[bZS]at k1;exact_mod_cast k1
 have bLC:((2^w:Nat):Rat)*((2^w:Nat):Rat)<=2*(s':Rat)*(s':Rat)+((2^w:Nat):Rat)*((2^240:Nat):Rat):=by
  rw[bZS]at k2;exact_mod_cast k2
 have aZR:((2^240:Nat):Rat)=1766847064778384329583297500742918515827483896875618958121606201292619776:=by norm_cast
 have aZQ:((2^250:Nat):Rat)=1809251394333065553493296640760748560207343510400633813116524750123642650624:=by norm_cast
 rw[aZR]at bLD bLC;rw[aZQ];have aCN:ab (((2^w:Nat):Rat)*(p/2-2*y))<=10141204801825835211973625643008:=by
  have v1:((P/2^102:Nat):Rat)*((2^102:Nat):Rat)<=(P:Rat):=by exact_mod_cast aJS
  have v2:(P:Rat)<((P/2^102:Nat):Rat)*((2^102:Nat):Rat)+((2^102:Nat):Rat):=by exact_mod_cast bEA
  have bFY:((2^102:Nat):Rat)=5070602400912917605986812821504:=by norm_cast
  rw[bFY]at v1 v2;exact aQS hx hy v1 v2 hp
 generalize ((2^w:Nat):Rat)=W at *;have Xg:(0:Rat)<=(s':Rat):=by exact_mod_cast cAS _
 generalize (s':Rat)=S at *;clear hd k1 k2 k3 ec es bLR bEB aSD Tm aGK aJS bEA bLO bTZ hx n4 aZS aZR aZQ;have bSV:S<=W:=by
  refine Rat.not_lt.1 fun hn=>?_
  have:=bR (bZY hW) (bZY hn) (bZY hW) (bZY hn);have:=aF (bZY hW) (show 0<=W-1000000000000000000000000000000000000000000000000000000000000000000000000000000000000000000 by grind);grind
 have aSS:ab (W*cs (2*y))<=56539106072908298546665520023773392506479484700019806659891398441363832832:=by
  obtain⟨a,ha⟩:∃a,a=S-W*sn y:=⟨_,rfl⟩;rw[<-ha]at rL;have eS:W*sn y=S-a:=by grind
  have q1:=bR (aM S) (show ab S<=W by rwa [bG Xg]) (aM a) rL;have q2:=bR (aM a) rL (aM a) rL;rw[<-fJ]at q1 q2;have e2:W*(W*(1-2*(sn y*sn y)))=W*W-2*((S-a)*(S-a)):=by rw[<-eS];grind
  have w1:=aF (bZY hW) (bZY hW);rw[bW]at bMK q1 q2 ⊢;have w2:=aF w1 (show 0<=2*vW-(cs (2*y)-(1-2*(sn y*sn y))) by grind);have w3:=aF w1 (show 0<=2*vW+(cs (2*y)-(1-2*(sn y*sn y))) by grind);have w4:=aF (bZY hW) (show 0<=1/1048576-W*vW by grind);generalize cs (2*y)=C2 at *;generalize sn y=Sy at *;constructor
  ·refine bS hW ?_;grind
  ·refine bS hW ?_;grind
 have aSQ:ab (p/2-2*y)<=1:=by
  have e3:ab (W*(p/2-2*y))=W*ab (p/2-2*y):=by rw[fJ,bG (bZY hW)]
  rw[e3]at aCN;refine bS hW ?_;grind
 have aUK:ab (2*y)<=4:=by rw[bG (by grind)];grind
 have aPZ:=Gg aUK (show ab (p/2-2*y)<=4 by grind);rw[show 2*y+(p/2-2*y)=p/2 by grind]at aPZ;have b1:=Xw aSQ;have b2:=aDF (show ab (p/2-2*y)<=4 by grind);have b3:=aBC aUK;have m1:=bR (aM _) aSS (aM _) b2;have m2:=bR (aM _) b3 (aM _) b1;have m3:W*ab (p/2-2*y)<=10141204801825835211973625643008:=by
  rw[fJ,bG (bZY hW)]at aCN;exact aCN
 rw[<-fJ]at m1 m2;have m4:=aF (bZY hW) (show 0<=(1+vW)*ab (p/2-2*y)-ab (sn (2*y)*sn (p/2-2*y)) by grind);have m5:=aF (show 0<=1+vW by grind) (show 0<=10141204801825835211973625643008-W*ab (p/2-2*y) by grind);have l1:=Bs (sn (2*y)*sn (p/2-2*y));have l2:=nI (sn (2*y)*sn (p/2-2*y));have m6:=aF (bZY hW) (show 0<=ab (sn (2*y)*sn (p/2-2*y))-sn (2*y)*sn (p/2-2*y) by grind);have m7:=aF (bZY hW) (show 0<=ab (sn (2*y)*sn (p/2-2*y))+sn (2*y)*sn (p/2-2*y) by grind);rw[bW]at aPZ m1 ⊢;have m8:=aF (bZY hW) (show 0<=vW-(cs (p/2)-(cs (2*y)*cs (p/2-2*y)-sn (2*y)*sn (p/2-2*y))) by grind);have m9:=aF (bZY hW) (show 0<=vW+(cs (p/2)-(cs (2*y)*cs (p/2-2*y)-sn (2*y)*sn (p/2-2*y))) by grind);generalize cs (2*y)=C2 at *;generalize sn (2*y)*sn (p/2-2*y)=SS at *;generalize ab SS=aS at *;generalize cs (p/2-2*y)=Cd at *;generalize ab (p/2-2*y)=dd at *;generalize cs (p/2)=X at *;clear bMK rL bLD bLC bSV aCN aSQ b1 b2 b3 aUK aSS;constructor <;> grind
theorem aKZ{w:Nat}(hw:1000<=w)(aXW:w<=1000000)(h:aWN w=true):∃Q,Sx w Q:=by
 unfold aWN at h;have h5:=Gr (n:=5) (by omega) w 122 122 (by omega);have Rp:=Gr (n:=239) (by omega) w 66 66 (by omega);have bJP:=Gr (n:=18) (by omega) w 92 92 (by omega);have bJL:=Gr (n:=57) (by omega) w 78 78 (by omega);generalize Xn 5 w 122 122=A at *;generalize Xn 239 w 66 66=B at *;generalize Xn 18 w 92 92=C at *;generalize Xn 57 w 78 78=D at *;obtain⟨t5,s5⟩:=A;obtain⟨t239,lS⟩:=B;obtain⟨t18,aNL⟩:=C;obtain⟨t57,aNK⟩:=D;dsimp only at *;obtain⟨z5,h⟩:=fD h;obtain⟨aTF,h⟩:=fD h;obtain⟨bNZ,h⟩:=fD h;obtain⟨bNY,h⟩:=fD h;rw[eR,eR]at h;obtain⟨g1,h⟩:=fD h;obtain⟨g2,h⟩:=fD h;rw[eR]at h;obtain⟨q1,h⟩:=fD h;obtain⟨q2,h⟩:=fD h;obtain⟨q3,h⟩:=fD h;obtain⟨r1,h⟩:=fD h;obtain⟨r2,bGY⟩:=fD h;have g1:=bWP g1;have g2:=bWP g2;have q1:=bVG q1;have q2:=bVG q2;have q3:=bVG q3;have h5:=h5 (bVG z5);have Rp:=Rp (bVG aTF);have bJP:=bJP (bVG bNZ);have bJL:=bJL (bVG bNY);have aKR:ab (((16*s5-4*lS:Nat):Rat)-((2^w:Nat):Rat)*pi)<=524288:=by
  have qI:4*lS<=16*s5:=by
   refine bXL fun hn=>?_
   rw[show 16*s5-4*lS=0 by omega]at q3;simp at q3
  have hc:((16*s5-4*lS:Nat):Rat)+4*(lS:Rat)=16*(s5:Rat):=by exact_mod_cast(show 16*s5-4*lS+4*lS=16*s5 by omega)
  have n1:((2*(122*122):Nat):Rat)=29768:=by norm_cast
  have n2:((2*(66*66):Nat):Rat)=8712:=by norm_cast
  rw[n1]at h5;rw[n2]at Rp;unfold pi;rw[bW]at *;generalize ((2^w:Nat):Rat)=W at *;grind
 have bJI:20*lS<=48*aNL+32*aNK->ab (((48*aNL+32*aNK-20*lS:Nat):Rat)-((2^w:Nat):Rat)*bFO)<=2097152:=by
  intro hle;have hc:((48*aNL+32*aNK-20*lS:Nat):Rat)+20*(lS:Rat)=48*(aNL:Rat)+32*(aNK:Rat):=by exact_mod_cast(show 48*aNL+32*aNK-20*lS+20*lS=48*aNL+32*aNK by omega)
  have n1:((2*(92*92):Nat):Rat)=16928:=by norm_cast
  have n3:((2*(78*78):Nat):Rat)=12168:=by norm_cast
  have n2:((2*(66*66):Nat):Rat)=8712:=by norm_cast
  rw[n1]at bJP;rw[n2]at Rp;rw[n3]at bJL;unfold bFO;rw[bW]at *;generalize ((2^w:Nat):Rat)=W at *;grind
 have hple:2^104<=16*s5-4*lS:=by
  refine bXL fun hn=>?_
  have:(16*s5-4*lS)/2^64<2^40:=cAJ (by rw[<-bZS];exact hn);have h2:(16*s5-4*lS)/2^64/2^(w-104)<=(16*s5-4*lS)/2^64:=cFB _ _;omega
 have bJH:20*lS<=48*aNL+32*aNK:=by omega
 have bJI:=bJI bJH;generalize hP:16*s5-4*lS=P at *;generalize 48*aNL+32*aNK-20*lS=G at *;have aLO:=tD w (by omega);refine⟨P/2^64,?_,?_,?_,q3,aBJ r1,aBJ r2,?_⟩
 ·have:2^64*(P/2^64)<=P-2^40:=by
   have:=cFL (P-2^40) (2^64);rwa [q2]at this
  have h2:2^64*(P/2^64)+2^40<=P:=by omega
  have h3:((2^64:Nat):Rat)*((P/2^64:Nat):Rat)+((2^40:Nat):Rat)<=(P:Rat):=by exact_mod_cast h2
  rw[aLO,cBJ,bW]at aKR;have n1:((2^64:Nat):Rat)=18446744073709551616:=by norm_cast
  have n2:((2^40:Nat):Rat)=1099511627776:=by norm_cast
  rw[n1]at aKR h3;rw[n2]at h3;refine bS (q:=18446744073709551616) (by grind) ?_;generalize ((2^(w-64):Nat):Rat)=W at *;grind
 ·have:P+2^40<2^64*(P/2^64+1):=by
   have:=cFT (P+2^40) (show 0<2^64 by omega);rwa [q1]at this
  have h3:(P:Rat)+((2^40:Nat):Rat)<((2^64:Nat):Rat)*(((P/2^64:Nat):Rat)+1):=by exact_mod_cast this
  rw[aLO,cBJ,bW]at aKR;have n1:((2^64:Nat):Rat)=18446744073709551616:=by norm_cast
  have n2:((2^40:Nat):Rat)=1099511627776:=by norm_cast
  rw[n1]at aKR h3;rw[n2]at h3;refine qO (q:=18446744073709551616) (by grind) ?_;generalize ((2^(w-64):Nat):Rat)=W at *;grind
 ·have c1:(P:Rat)<=(G:Rat)+((2^24:Nat):Rat):=by exact_mod_cast g1
  have c2:(G:Rat)<=(P:Rat)+((2^24:Nat):Rat):=by exact_mod_cast g2
  have n1:((2^24:Nat):Rat)=16777216:=by norm_cast
  rw[n1]at c1 c2;rw[bW]at *;generalize ((2^w:Nat):Rat)=W at *;grind
 ·refine aWI hw aXW ?_ aKR bGY;have h1:P/2^64/2^(w-104)<3454217652358:=by omega
  have h2:P/2^64<2^(w-104)*3454217652358:=(cFU (cY)).1 h1 |> fun h=>by rwa [bZP]at h
  have h3:P<2^64*(2^(w-104)*3454217652358):=by
   have:=(cFU (show 0<2^64 by omega)).1 h2;rwa [bZP]at this
  have e:2^(w-40)=2^64*2^(w-104):=by rw[<-bZS];congr 1;omega
  rw[e,bZP,bZT];exact h3
theorem bUF:aWN 136064=true:=by kernel_rfl
theorem aBQ:∃w,w=136064/\∃Q,Sx w Q:=⟨136064,rfl,aKZ (by omega) (by omega) bUF⟩
def pw:Nat:=Classical.choose aBQ
theorem Ot:pw=136064:=(Classical.choose_spec aBQ).1
def pq:Nat:=Classical.choose (Classical.choose_spec aBQ).2
theorem Fl:Sx pw pq:=Classical.choose_spec (Classical.choose_spec aBQ).2
theorem gL:314159/100000<pi/\pi<314160/100000:=by
 have h:=Fl;have h1:=h.lo;have h2:=h.hi;have h3:=h.top;have e:2^(pw-64)=2^40*2^(pw-104):=by have:=Ot;rw[<-bZS];congr 1;omega
 have hp:0<2^(pw-104):=cY;have l1:=cFR pq (2^(pw-104));have l2:=cFS hp (a:=pq);rw[h3]at l1 l2;have bPG:(3454217652357:Rat)*((2^(pw-104):Nat):Rat)<=(pq:Rat):=by exact_mod_cast l1
 have bPF:(pq:Rat)+1<=(3454217652357:Rat)*((2^(pw-104):Nat):Rat)+((2^(pw-104):Nat):Rat):=by exact_mod_cast l2
 rw[e,cBJ]at h1 h2;have n40:((2^40:Nat):Rat)=1099511627776:=by norm_cast
 rw[n40]at h1 h2;have hq:(0:Rat)<((2^(pw-104):Nat):Rat):=by exact_mod_cast hp
 generalize ((2^(pw-104):Nat):Rat)=W at *;generalize (pq:Rat)=Q at *;clear h h3 e hp l1 l2 n40;constructor
 ·refine qO hq ?_;grind
 ·refine qO hq ?_;grind
def Dz:Rat:=hf (pw-264)
theorem aCX:0<Dz:=vR _
theorem Rw:1048576*vW<=Dz:=by
 have h1:=La (pw-264) 20;have h4:hf 20=1/1048576:=by simp only[hf];grind
 have h2:=Bd (n:=pw-264+20) (by rw[Ot];omega);rw[h1,h4]at h2;unfold Dz;grind
theorem Pj{n:Nat}(h:n<=135800):Dz<=hf n:=aKH (by rw[Ot];exact h)
theorem aLF:Dz<=1/1048576:=by
 have:=Pj (n:=20) (by omega);simp only[hf]at this;grind
theorem Lu:16384*ab (cs (pi/2))<=Dz:=by
 have h:=Fl.cos;have e:2^pw=2^(pw-264)*(2^250*2^14):=by
  have:=Ot;have e0:pw=pw-264+250+14:=by omega
  conv=>lhs;rw[e0,bZS,bZS]
  exact bZT _ _ _
 rw[fJ,bG (show(0:Rat)<=((2^pw:Nat):Rat) by exact_mod_cast cAS _),e,cBJ,cBJ]at h;have bKZ:((2^14:Nat):Rat)=16384:=by norm_cast
 have h2:=Rl (pw-264);have hq:(0:Rat)<((2^250:Nat):Rat):=by exact_mod_cast(cY)
 rw[bKZ]at h;unfold Dz;have hp:=vR (pw-264);generalize hf (pw-264)=H at *;generalize ((2^(pw-264):Nat):Rat)=W at *;generalize ((2^250:Nat):Rat)=B at *;generalize ab (cs (pi/2))=X at *;clear bKZ e;have h3:B*(16384*(W*X))<=B*1:=by grind
 have h4:=bS hq h3;have:=aF (bZY hp) (show 0<=1-16384*(W*X) by grind);have h5:H*W*X=X:=by rw[h2];grind
 grind
theorem Tz:1024*ab (sn (pi/2)-1)<=Dz:=by
 obtain⟨p1,p2⟩:=gL;have a2:ab (pi/2)<=4:=by rw[bW];grind
 have h1:=aOR a2;have hc:=Lu;have he:=Rw;have het:=aLF;have hd:=Ol (x:=pi/4) (by rw[bW];grind);rw[show 2*(pi/4)=pi/2 by grind]at hd;have s1:=(wF (x:=pi/4) (by grind) (by grind)).1;have c1:=(Lr (x:=pi/4) (by grind) (by grind)).1;have bOH:=bR (a:=0) (b:=pi/4) (c:=pi/4) (d:=pi/4) (by grind) (by grind) (by grind) (by grind);have q1:=bR (a:=pi/4) (b:=4/5) (c:=pi/4) (d:=4/5) (by grind) (by grind) (by grind) (by grind);have q2:=bR (a:=pi/4*(pi/4)) (b:=16/25) (c:=pi/4) (d:=4/5) (by grind) (by grind) (by grind) (by grind);have s2:1/2<=sn (pi/4):=by grind
 have c2:1/2<=cs (pi/4):=by grind
 have m:=bR (by grind) s2 (by grind) c2;have qI:1/4<=sn (pi/2):=by rw[bW]at hd;have:=Dy;grind
 have bNK:=bR (aM (cs (pi/2))) (show ab (cs (pi/2))<=Dz/16384 by grind) (aM (cs (pi/2))) (show ab (cs (pi/2))<=1/16384 by grind);rw[<-fJ]at bNK;have l1:=Bs (cs (pi/2)*cs (pi/2));have bLV:ab (sn (pi/2)*sn (pi/2)-1)<=Dz/16384:=by
  have:=bFH (cs (pi/2));rw[bW]at h1 ⊢;grind
 have e:sn (pi/2)*sn (pi/2)-1=(sn (pi/2)-1)*(sn (pi/2)+1):=by grind
 rw[e,fJ,bG (show 0<=sn (pi/2)+1 by grind)]at bLV;have m2:=aF (aM (sn (pi/2)-1)) (show 0<=sn (pi/2)+1-1 by grind);have m3:=aCX;clear e l1 bNK hd s1 c1 bOH q1 q2 m h1 hc a2;generalize ab (sn (pi/2)-1)=d at *;grind
theorem aTI{x:Rat}(hx:ab x<=4):ab (sn (x+pi/2)-cs x)<=Dz:=by
 obtain⟨p1,p2⟩:=gL;have h:=aIE hx (show ab (pi/2)<=4 by rw[bW];grind);have hc:=Lu;have hs:=Tz;have he:=Rw;have het:=Dy;have aPT:=vG;have m1:=bR (aM _) (aBC hx) (aM _) (show ab (cs (pi/2))<=Dz/16384 by grind);have m2:=bR (aM _) (aDF hx) (aM _) (show ab (sn (pi/2)-1)<=Dz/1024 by grind);have m3:=aF (show 0<=Dz by grind) (show 0<=1/1048576-vW by grind);rw[<-fJ]at m1 m2;rw[bW]at *;grind
theorem aTJ{x:Rat}(hx:ab x<=4):ab (cs (x+pi/2)+sn x)<=Dz:=by
 obtain⟨p1,p2⟩:=gL;have h:=Gg hx (show ab (pi/2)<=4 by rw[bW];grind);have hc:=Lu;have hs:=Tz;have he:=Rw;have het:=Dy;have aPT:=vG;have m1:=bR (aM _) (aDF hx) (aM _) (show ab (cs (pi/2))<=Dz/16384 by grind);have m2:=bR (aM _) (aBC hx) (aM _) (show ab (sn (pi/2)-1)<=Dz/1024 by grind);have m3:=aF (show 0<=Dz by grind) (show 0<=1/1048576-vW by grind);rw[<-fJ]at m1 m2;rw[bW]at *;grind
def rs(k:Int)(s c:Rat):Rat:=if k%4=0 then s else if k%4=1 then c else if k%4=2 then -s else -c
def rc(k:Int)(s c:Rat):Rat:=if k%4=0 then c else if k%4=1 then -s else if k%4=2 then -c else s
def Sf(x:Rat)(k:Int):Rat:=rs k (sn (x-(k:Rat)*(pi/2))) (cs (x-(k:Rat)*(pi/2)))
def Cf(x:Rat)(k:Int):Rat:=rc k (sn (x-(k:Rat)*(pi/2))) (cs (x-(k:Rat)*(pi/2)))
theorem aIA{x:Rat}{k:Int}(h:ab (x-(k:Rat)*(pi/2))<=2):ab (Sf x (k+1)-Sf x k)<=Dz/\ab (Cf x (k+1)-Cf x k)<=Dz:=by
 obtain⟨p1,p2⟩:=gL;obtain⟨y,hy⟩:∃y,y=x-((k+1:Int):Rat)*(pi/2):=⟨_,rfl⟩;have hk:((k+1:Int):Rat)=(k:Rat)+1:=by norm_cast
 have e:x-(k:Rat)*(pi/2)=y+pi/2:=by rw[hy,hk];grind
 have bLG:ab y<=4:=by rw[bW]at *;grind
 have h1:=aTI bLG;have h2:=aTJ bLG;unfold Sf Cf;rw[<-hy,e];unfold rs rc;have hm:k%4=0\/k%4=1\/k%4=2\/k%4=3:=by omega
 have aUY:(k+1)%4=(k%4+1)%4:=by omega
 rw[aUY];rw[bW]at h1 h2;rcases hm with hm |hm |hm |hm <;> rw[hm] <;> simp <;> rw[bW,bW] <;> grind
theorem aTS{x:Rat}{k l:Int}(hk:ab (x-(k:Rat)*(pi/2))<=1)(hl:ab (x-(l:Rat)*(pi/2))<=1):ab (Sf x k-Sf x l)<=Dz/\ab (Cf x k-Cf x l)<=Dz:=by
 obtain⟨p1,p2⟩:=gL;have he:=aCX;have h3:l=k\/l=k+1\/k=l+1:=by
  have h1:(k:Rat)-(l:Rat)<2:=by
   refine Rat.not_le.1 fun hn=>?_
   have:=bR (show(0:Rat)<=2 by grind) hn (show(0:Rat)<=3/2 by grind) (show 3/2<=pi/2 by grind);rw[bW]at *;grind
  have h2:(l:Rat)-(k:Rat)<2:=by
   refine Rat.not_le.1 fun hn=>?_
   have:=bR (show(0:Rat)<=2 by grind) hn (show(0:Rat)<=3/2 by grind) (show 3/2<=pi/2 by grind);rw[bW]at *;grind
  have Xj:k-l<2:=by exact_mod_cast h1
  have aQC:l-k<2:=by exact_mod_cast h2
  omega
 rcases h3 with rfl |rfl |rfl
 ·rw[show Sf x l-Sf x l=0 by grind,show Cf x l-Cf x l=0 by grind,bG (by grind)];grind
 ·obtain⟨a,b⟩:=aIA (x:=x) (k:=k) (by rw[bW]at *;grind);rw[bW]at a b;rw[bW,bW];grind
 ·exact aIA (x:=x) (k:=l) (by rw[bW]at *;grind)
end R
namespace R
def pF(q:Nat):Nat:=pq/2^(pw-64-q)
theorem aFB{x:Rat}{Q m:Nat}(h1:(Q:Rat)<=((2^m:Nat):Rat)*x)(h2:((2^m:Nat):Rat)*x<(Q:Rat)+1):((Q/2^m:Nat):Rat)<=x/\x<((Q/2^m:Nat):Rat)+1:=by
 have hp:0<2^m:=cY;obtain⟨d1,d2⟩:=xK Q hp;have hq:(0:Rat)<((2^m:Nat):Rat):=by exact_mod_cast hp
 have hs:(Q:Rat)+1<=((2^m:Nat):Rat)*((Q/2^m:Nat):Rat)+((2^m:Nat):Rat):=by
  have:=cFT Q hp;exact_mod_cast(show Q+1<=2^m*(Q/2^m)+2^m by rw[bZR,bVB]at this;omega)
 constructor
 ·exact bS hq (by grind)
 ·exact qO hq (by grind)
theorem zD{q:Nat}(hq:q<=136000):(pF q:Rat)<=((2^q:Nat):Rat)*pi/\((2^q:Nat):Rat)*pi<(pF q:Rat)+1:=by
 have h:=Fl;have h1:=h.lo;have h2:=h.hi;have hw:=Ot;have e:2^(pw-64)=2^(pw-64-q)*2^q:=by rw[<-bZS];congr 1;omega
 rw[e,cBJ,cFV]at h1 h2;exact aFB h1 h2
theorem aTX{q:Nat}(hq:q+24<=136000):16777216*(pF q:Rat)+1<=((2^(q+24):Nat):Rat)*pi/\((2^(q+24):Nat):Rat)*pi<16777216*(pF q:Rat)+16777215:=by
 obtain⟨h1,h2⟩:=zD hq;have hw:=Ot;have e:pF q=pF (q+24)/2^24:=by
  unfold pF;rw[cAL,<-bZS];congr 2;omega
 have bQW:pF (q+24)%2^24≠2^24-1:=Oz Fl.bFS _;have hx:pq<2^(pw-62):=by
  have h3:=Fl.top;have hp:0<2^(pw-104):=cY;have l2:=cFS hp (a:=pq);rw[h3]at l2;have e:2^(pw-62)=4398046511104*2^(pw-104):=by
   rw[show 4398046511104=2^42 from rfl,<-bZS];congr 1;omega
  omega
 have aER:pF (q+24)%2^24≠0:=aFL hx (by omega) (Oz Fl.aPB _);have hd:=bZX (pF (q+24)) (2^24);rw[<-e]at hd;have l1:16777216*pF q+1<=pF (q+24):=by omega
 have bBD:=bWZ (pF (q+24)) (show 0<2^24 by omega);have l2:pF (q+24)+1<=16777216*pF q+16777215:=by omega
 have bPG:(16777216:Rat)*(pF q:Rat)+1<=(pF (q+24):Rat):=by exact_mod_cast l1
 have bPF:(pF (q+24):Rat)+1<=(16777216:Rat)*(pF q:Rat)+16777215:=by exact_mod_cast l2
 grind
theorem aZL{q g X off:Nat}(hq:q+24<=136000)(hg:24<=g)(bHJ:2*off<=2^(g-24))(hX:ab ((X:Rat)-((2^(q+g):Nat):Rat)*pi)<=(off:Rat)):off<=X/\(X-off)/2^g=pF q/\(X+off)/2^g=pF q:=by
 obtain⟨h1,h2⟩:=aTX hq;have e:2^(q+g)=2^(g-24)*2^(q+24):=by rw[<-bZS];congr 1;omega
 have eg:2^g=2^(g-24)*16777216:=by rw[show 16777216=2^24 from rfl,<-bZS];congr 1;omega
 rw[e,cBJ,cFV,bW]at hX;have hG:(0:Rat)<=((2^(g-24):Nat):Rat):=by exact_mod_cast cAS _
 have ho:(2:Rat)*(off:Rat)<=((2^(g-24):Nat):Rat):=by exact_mod_cast bHJ
 have m1:=aF hG (show 0<=((2^(q+24):Nat):Rat)*pi-(16777216*(pF q:Rat)+1) by grind);have bTF:(0:Rat)<((2^(g-24):Nat):Rat):=by exact_mod_cast cY
 have m2:=Rat.mul_pos bTF (show 0<16777216*(pF q:Rat)+16777215-((2^(q+24):Nat):Rat)*pi by grind);have r1:2^(g-24)*16777216*pF q+off<=X:=by
  have:((2^(g-24):Nat):Rat)*16777216*(pF q:Rat)+(off:Rat)<=(X:Rat):=by grind
  exact_mod_cast this
 have r2:X+off<2^(g-24)*16777216*(pF q+1):=by
  have:(X:Rat)+(off:Rat)<((2^(g-24):Nat):Rat)*16777216*((pF q:Rat)+1):=by grind
  exact_mod_cast this
 rw[eg];generalize 2^(g-24)*16777216=B at *;refine⟨by omega,?_,?_⟩
 ·refine cFI ?_ ?_
  ·rw[bZP];omega
  ·rw[bZP];omega
 ·refine cFI ?_ ?_
  ·rw[bZP];omega
  ·rw[bZP];omega
theorem aAX{u W:Nat}(h:2*u<=W)(hW:0<W):∀k,sq u W k*2^k<=W
 |0=>by simp[sq]
 |k+1=>by
  have ih:=aAX h hW k;have h1:sq u W (k+1)<=sq u W k/2:=by
   rw[sq];refine bVN (cFB _ _) ?_;rw[cGK (by omega)];have h2:=cFR (sq u W k*u) W;have h3:sq u W k*u*2<=sq u W k*W:=by
    rw[bZT];exact bXF _ (by omega)
   generalize sq u W k*u/W=z at *;have h4:z*2*W<=sq u W k*W:=by
    rw[cFE];omega
   exact Nat.le_of_mul_le_mul_right h4 hW
  have h2:sq u W (k+1)*2<=sq u W k:=by omega
  rw[bZQ,bZP (2^k) 2,<-bZT];exact bVN (bWG _ h2) ih
theorem aAW{u w:Nat}(h:2*u<=2^w):sq u (2^w) (w+1)=0:=by
 have h1:=aAX h (cY) (w+1);refine Nat.eq_zero_of_not_pos fun hp=>?_
 have:1*2^(w+1)<=sq u (2^w) (w+1)*2^(w+1):=bWG _ hp;rw[bZQ]at this h1;have:=bXR (n:=w) (show 0<2 by omega);omega
theorem Tt{u W m:Nat}(h:sq u W m=0):∀k,sq u W (m+k)=0
 |0=>h
 |k+1=>by rw[<-bYI,sq,Tt h k];simp
theorem Ll(h:Nat):4^h=2^(2*h):=by rw[Nat.pow_mul]
theorem aDK{T:Rat}(hT0:0<=T)(bSU:T<=1){w1 h u s0 c0:Nat}(aJS:(u:Rat)<=((2^w1:Nat):Rat)*T)(bEA:((2^w1:Nat):Rat)*T<(u:Rat)+1)(hh:1<=h)(hw:w1+h<=1000000)(bLK:4*h+50<=w1+h)
  (Xg:(s0:Rat)=sum (fun k=>ss k*(sq u (2^(w1+h)) k:Rat)) (w1+h+1)) (bCB:(c0:Rat)=sum (fun k=>cc k*(sq u (2^(w1+h)) k:Rat)) (w1+h+1)) :
  ab (((Gf (2^(w1+h)) h s0 c0).1:Rat)-((2^(w1+h):Nat):Rat)*sn T)<=((4^h*(2*(w1+h)+10):Nat):Rat)/\ab (((Gf (2^(w1+h)) h s0 c0).2:Rat)-((2^(w1+h):Nat):Rat)*cs T)<=((4^h*(2*(w1+h)+10):Nat):Rat):=by
 have aNO:0<2^(w1+h):=cY;have bCI:(0:Rat)<((2^w1:Nat):Rat):=by exact_mod_cast cY
 have eW:((2^(w1+h):Nat):Rat)=((2^w1:Nat):Rat)*((2^h:Nat):Rat):=by rw[bZS,cBJ]
 have g2:=Kd 2 h (by omega);have g2':(2:Rat)<=((2^h:Nat):Rat):=by
  exact_mod_cast(show 2<=2^h from bXS (n:=2) (by omega) hh)
 have bGS:u<=2^w1:=by
  have:=aF (bZY bCI) (show 0<=1-T by grind);have:(u:Rat)<=((2^w1:Nat):Rat):=by grind
  exact_mod_cast this
 have bGU:2*u<=2^(w1+h):=by
  have e:2^(w1+h)=2^w1*2^h:=bZS _ _ _;have:2^w1*2<=2^w1*2^h:=bXF _ (bXS (n:=2) (by omega) hh);omega
 obtain⟨x,hx,Tm⟩:=aBX (u:=u) aNO;have bPQ:((2^h:Nat):Rat)*x*((2^w1:Nat):Rat)=(u:Rat):=by rw[eW]at hx;grind
 have bAC:((2^h:Nat):Rat)*x<=1:=by
  have:(u:Rat)<=((2^w1:Nat):Rat):=by exact_mod_cast bGS
  refine bS bCI ?_;grind
 have aGK:x<=1/2:=by
  have:=aF (show 0<=((2^h:Nat):Rat)-2 by grind) Tm;grind
 have hz:=aAW bGU;have ec:=aHV aNO hx Tm aGK (n:=w1+h+1) (by omega) (by omega) hz;have es:=aHU aNO hx Tm aGK (n:=w1+h+1) (by omega) (by omega) hz;rw[<-bCB]at ec;rw[<-Xg]at es;have hn:((w1+h+1:Nat):Rat)=((w1+h:Nat):Rat)+1:=by norm_cast
 have Yt:((w1+h:Nat):Rat)<=1000000:=by exact_mod_cast hw
 have Bn:(0:Rat)<=((w1+h:Nat):Rat):=by exact_mod_cast cAS _
 rw[hn]at ec es;have aPT:=aCW (w:=w1+h) (by omega);have e4:((4^h*(2*(w1+h)+10):Nat):Rat)=((4^h:Nat):Rat)*(2*((w1+h:Nat):Rat)+10):=by
  rw[cBJ];congr 1;push_cast;grind
 have aKQ:((4^h:Nat):Rat)*((4^h:Nat):Rat)*1125899906842624<=((2^(w1+h):Nat):Rat):=by
  have:4^h*4^h*2^50<=2^(w1+h):=by
   rw[Ll,<-bZS,<-bZS];exact gN
  have bOZ:(2^50:Nat)=1125899906842624:=by rfl
  rw[bOZ]at this;exact_mod_cast this
 have g4:=Kd 4 h (by omega);have g42:((2^h:Nat):Rat)<=((4^h:Nat):Rat):=by exact_mod_cast Nat.pow_le_pow_left (show 2<=4 by omega) h
 have hq4:=aF (show 0<=((4^h:Nat):Rat) by grind) (show 0<=((4^h:Nat):Rat)-1 by grind);have hE:((4^h:Nat):Rat)*(2*((w1+h:Nat):Rat)+8)<=((4^h:Nat):Rat)*2097152:=by
  have:=aF (show 0<=((4^h:Nat):Rat) by grind) (show 0<=2097152-(2*((w1+h:Nat):Rat)+8) by grind);grind
 have bMZ:0<=((4^h:Nat):Rat)*(2*((w1+h:Nat):Rat)+8):=aF (by grind) (by grind);have vU:100*(((4^h:Nat):Rat)*(2*((w1+h:Nat):Rat)+8)*(((4^h:Nat):Rat)*(2*((w1+h:Nat):Rat)+8)))<=((2^(w1+h):Nat):Rat):=by
  refine bZW ?_ aKQ;have:=bR bMZ hE bMZ hE;grind
 have aKN:((4^h:Nat):Rat)*(2*((w1+h:Nat):Rat)+8)<=((2^(w1+h):Nat):Rat):=by
  refine bZW (bZW hE ?_) aKQ;grind
 have hd:=aCY (W:=2^(w1+h)) aNO vU (Tx aKN aPT) h x (2*((w1+h:Nat):Rat)+6) s0 c0 Tm bAC (bZW es (by grind)) (bZW ec (by grind)) (by grind);have hT:ab T<=1:=by rw[bG hT0];exact bSU
 have hX:ab (((2^h:Nat):Rat)*x)<=1:=by rw[bG (aF (by grind) Tm)];exact bAC
 have l1:=aAZ hX hT;have l2:=aLW hX hT;have hd0:0<=T-((2^h:Nat):Rat)*x:=by
  have:((2^w1:Nat):Rat)*(((2^h:Nat):Rat)*x)<=((2^w1:Nat):Rat)*T:=by grind
  have:=bS bCI this;grind
 have bML:((2^(w1+h):Nat):Rat)*(T-((2^h:Nat):Rat)*x)<=((2^h:Nat):Rat):=by
  rw[eW];have:((2^w1:Nat):Rat)*(T-((2^h:Nat):Rat)*x)<=1:=by grind
  have:=aF (show 0<=((2^h:Nat):Rat) by grind) (show 0<=1-((2^w1:Nat):Rat)*(T-((2^h:Nat):Rat)*x) by grind);grind
 rw[bG hd0]at l1 l2;have hW:(0:Rat)<=((2^(w1+h):Nat):Rat):=by exact_mod_cast cAS _
 obtain⟨r1,r2⟩:=hd;rw[e4];clear aJS bEA vU aKN aKQ bPQ hx eW ec es Xg bCB hz;generalize ((2^(w1+h):Nat):Rat)=W at *;generalize ((w1+h:Nat):Rat)=wr at *;generalize ((4^h:Nat):Rat)=F at *;generalize ((2^h:Nat):Rat)*x=y at *;generalize ((2^h:Nat):Rat)=H at *;rw[bW]at l1 l2 r1 r2;have m1:=aF hW (show 0<=2*(T-y)-(sn T-sn y) by grind);have m2:=aF hW (show 0<=2*(T-y)+(sn T-sn y) by grind);have m3:=aF hW (show 0<=(T-y+2*vW)-(cs T-cs y) by grind);have m4:=aF hW (show 0<=(T-y+2*vW)+(cs T-cs y) by grind);rw[bW,bW];refine⟨⟨?_,?_⟩,?_,?_⟩ <;> grind
end R
namespace R
def pz(e:Int):Rat:=if 0<=e then((2^e.toNat:Nat):Rat)else hf (-e).toNat
theorem lT(k:Nat):pz (k:Int)=((2^k:Nat):Rat):=by unfold pz;rw[aW,bYO]
theorem xG(k:Nat):pz (-(k:Int))=hf k:=by
 unfold pz
 by_cases h:k=0
 ·subst h;simp[hf]
 ·rw[aU,Int.neg_neg,bYO]
theorem fQ:pz 0=1:=by rw[show(0:Int)=((0:Nat):Int)from rfl,lT];norm_cast
theorem dC(e:Int):0<pz e:=by
 unfold pz;split
 ·exact_mod_cast cY
 ·exact vR _
theorem kF(e:Int):pz (e+1)=2*pz e:=by
 by_cases h:0<=e
 ·obtain⟨k,rfl⟩:=bZV h;rw[show(k:Int)+1=((k+1:Nat):Int) by omega,lT,lT,Io]
 ·obtain⟨k,hk⟩:=bZV (show 0<=-e by omega);have e1:e=-(k:Int):=by omega
  subst e1;obtain⟨j,rfl⟩:∃j,k=j+1:=⟨k-1,by omega⟩;rw[show -((j+1:Nat):Int)+1=-(j:Int) by omega,xG,xG,hf];grind
theorem dX(a:Int):∀k:Nat,pz (a+k)=pz a*((2^k:Nat):Rat)
 |0=>by rw[show a+((0:Nat):Int)=a by omega,cEN];grind
 |k+1=>by
  rw[show a+((k+1:Nat):Int)=(a+k)+1 by omega,kF,dX a k,Io];grind
theorem jI(a b:Int):pz (a+b)=pz a*pz b:=by
 by_cases h:0<=b
 ·obtain⟨k,rfl⟩:=bZV h;rw[dX,lT]
 ·obtain⟨k,hk⟩:=bZV (show 0<=-b by omega);have h1:=dX (a+b) k;rw[show a+b+(k:Int)=a by omega]at h1;have e1:b=-(k:Int):=by omega
  have h2:=Rl k;rw[show pz b=hf k by rw[e1,xG],h1];rw[cFV,Rat.mul_comm ((2^k:Nat):Rat),h2];grind
theorem bV{a b:Int}(h:a<=b):pz a<=pz b:=by
 obtain⟨k,hk⟩:=bZV (show 0<=b-a by omega);rw[show b=a+(k:Int) by omega,dX];have h1:=dC a;have:=aF (bZY h1) (show 0<=((2^k:Nat):Rat)-1 by have:=Kd 2 k (by omega);grind);grind
theorem aZI(k:Nat):hf k=pz (-(k:Int)):=(xG k).symm
theorem Yg(e:Int):pz e*pz (-e)=1:=by rw[<-jI,Int.add_right_neg,fQ]
def qz(p:Int×Int):Rat:=(p.1:Rat)*pz p.2
theorem oC{p:Int×Int}(h:p.1=0):qz p=0:=by
 unfold qz;rw[h];have:((0:Int):Rat)=0:=by norm_cast
 rw[this];grind
theorem Ue{p q:Int×Int}{g:Int}(hp:g<=p.2)(hq:g<=q.2):qz p<=qz q↔p.1*((2^(p.2-g).toNat:Nat):Int)<=q.1*((2^(q.2-g).toNat:Nat):Int):=by
 unfold qz;have e1:pz p.2=pz g*((2^(p.2-g).toNat:Nat):Rat):=by
  rw[<-dX];congr 1;omega
 have e2:pz q.2=pz g*((2^(q.2-g).toNat:Nat):Rat):=by
  rw[<-dX];congr 1;omega
 have hg:=dC g;have c1:((p.1*((2^(p.2-g).toNat:Nat):Int):Int):Rat)=(p.1:Rat)*((2^(p.2-g).toNat:Nat):Rat):=by push_cast;rfl
 have c2:((q.1*((2^(q.2-g).toNat:Nat):Int):Int):Rat)=(q.1:Rat)*((2^(q.2-g).toNat:Nat):Rat):=by push_cast;rfl
 rw[<-Rat.intCast_le_intCast,c1,c2,e1,e2];generalize ((2^(p.2-g).toNat:Nat):Rat)=x;generalize ((2^(q.2-g).toNat:Nat):Rat)=y;constructor
 ·intro h;exact bS hg (by grind)
 ·intro h;have:=aF (bZY hg) (show 0<=(q.1:Rat)*y-(p.1:Rat)*x by grind);grind
end R
namespace M
open Go AI W
def eB(p q:Int×Int):Int:=lH (bI.mY p q) (bI.mW p q)
def bA(p:Int×Int):Int:=p.2+(bl p.1.natAbs:Nat)-1
abbrev wW:=Bool×List Int×Int×Bool×List Int×Int
def gW(s:wW):gB:=(s.1,s.2.1,s.2.2.1)
def gX(s:wW):gB:=(s.2.2.2.1,s.2.2.2.2.1,s.2.2.2.2.2)
def eQ(s:wW):Prop:=aP (gW s)/\aP (gX s)/\eB (dv (gW s)) (dv (gX s))<=0
def uV(a b:Int×Int):D:=.agg [.sc (.bool (isNeg a.1)),.ints .u64 (M6.dg a.1.natAbs),.sc (.int .i64 a.2),.sc (.bool (isNeg b.1)),.ints .u64 (M6.dg b.1.natAbs),.sc (.int .i64 b.2)]
def mM(a b:Int×Int):wW:=(isNeg a.1,M6.dg a.1.natAbs,a.2,isNeg b.1,M6.dg b.1.natAbs,b.2)
theorem oL(a b:Int×Int):dv (gW (mM a b))=a:=dT a
theorem oM(a b:Int×Int):dv (gX (mM a b))=b:=dT b
theorem xF{a b:Int×Int}(ha:jJ a)(hb:jJ b)(h:eB a b<=0):eQ (mM a b):=by
 refine⟨dJ ha,dJ hb,?_⟩;rw[oL,oM];exact h
theorem eQ.uV{s:wW}(h:eQ s):M.uV (dv (gW s)) (dv (gX s))=.agg [.sc (.bool s.1),.ints .u64 s.2.1,.sc (.int .i64 s.2.2.1),.sc (.bool s.2.2.2.1),.ints .u64 s.2.2.2.2.1,.sc (.int .i64 s.2.2.2.2.2)]:=by
 have h1:=h.1.Db.cells;have h2:=h.2.1.Db.cells;unfold M.uV;have e1:(dv (gW s)).1=wv ((gW s).1,(gW s).2.1):=rfl;have e2:(dv (gX s)).1=wv ((gX s).1,(gX s).2.1):=rfl;rw[e1,e2,h1.1,h1.2,h2.1,h2.2];rfl
theorem aQX{a b:Int}:lH a b<=0↔a<=b:=by unfold lH;split <;> (try split) <;> omega
theorem aQY{a b:Int}:lH a b=0↔a=b:=by unfold lH;split <;> (try split) <;> omega
theorem Jb(p q:Int×Int):bI.gQ p q<=p.2/\bI.gQ p q<=q.2:=Rb
theorem kV{p q:Int×Int}:eB p q<=0↔R.qz p<=R.qz q:=by
 obtain⟨h1,h2⟩:=Jb p q;unfold eB;rw[aQX,R.Ue h1 h2];rfl
theorem xQ{p q:Int×Int}:0<eB p q↔R.qz q<R.qz p:=by
 have:=kV (p:=p) (q:=q);constructor
 ·intro h;refine Rat.not_le.1 fun hn=>?_;have:=this.2 hn;omega
 ·intro h;refine Int.not_le.1 fun hn=>?_;exact Rat.not_lt.2 (this.1 hn) h
theorem Pp(p:Int×Int):eB p p<=0:=kV.2 Rat.le_refl
theorem oH(z e:Int):R.qz (aN z e)=(z:Rat)*R.pz e:=by
 by_cases hz:z=0
 ·subst hz;rw[fC,R.oC rfl];have:((0:Int):Rat)=0:=by norm_cast
  rw[this];grind
 ·obtain⟨h1,h2⟩:=lE (e:=e) hz;unfold R.qz;rw[h2]
  conv=>rhs;rw[h1]
  rw[Cl,R.dX,cFW,cFX];grind
theorem oU(p:Int×Int):R.qz (-p.1,p.2)=- R.qz p:=by
 unfold R.qz;rw[Rat.intCast_neg];grind
theorem Qv(p q:Int×Int):R.qz (bI.nC p q)=R.qz p+R.qz q:=by
 unfold bI.nC;split
 ·rename_i h;rw[R.oC h];grind
 ·split
  ·rename_i h;rw[R.oC h];grind
  ·obtain⟨h1,h2⟩:=Jb p q;rw[oH];unfold bI.mY bI.mW R.qz;have e1:R.pz p.2=R.pz (bI.gQ p q)*((2^(p.2-bI.gQ p q).toNat:Nat):Rat):=by rw[<-R.dX];congr 1;omega
   have e2:R.pz q.2=R.pz (bI.gQ p q)*((2^(q.2-bI.gQ p q).toNat:Nat):Rat):=by rw[<-R.dX];congr 1;omega
   rw[e1,e2,Rat.intCast_add,cFW,cFW,cFX,cFX];grind
end M
open Go.Value(int bool slice)
open AI.S(sc ints)
namespace W
open Go AI M
namespace Hx
def E:=mE [] 11 [] [] []
def aE:=bd f52
theorem aX:Nk E aE:=nk
theorem start a:aH E f52 aE [D.s (sc (int i64 a))]=letI A:=int i64 0;aB (a==32) (some [D.agg [sc (int i64 24),sc (int i64 (-149:Int)),sc (int i64 31)]]) (aB (a==64) (some [D.agg [sc (int i64 53),sc (int i64 (-1074:Int)),sc (int i64 63)]]) (some [D.agg [sc A,sc A,sc A]])):=eJ aX
def Ir(f:Int):Int×Int×Int:=if f=32 then(24,-149,31)else if f=64 then(53,-1074,63)else(0,0,0)
def sp(f:Int):Prop×List D:=(True,[.agg [.sc (.int .i64 (Ir f).1),.sc (.int .i64 (Ir f).2.1),.sc (.int .i64 (Ir f).2.2)]])
theorem spec:jD E f52 aE (pN .i64) sp:=by
 intro f h;refine(start f).trans ?_;unfold sp Ir
 by_cases h1:f=32
 ·rw[cN h1,if_pos h1]
 ·rw[bM h1,if_neg h1]
  by_cases h2:f=64
  ·rw[cN h2,if_pos h2]
  ·rw[bM h2,if_neg h2]
def aJ:dO:=orc1 (pN .i64) sp
theorem ok:OK 52 aJ:=(fA E aE aD func52).pU rfl spec
end Hx
namespace mJ
def E:=mE [] 11 [] [] []
def aE:=bd f85
theorem aX:Nk E aE:=nk
theorem start a b c:aH E f85 aE [D.agg [sc (int i64 a),sc (int i64 b),sc (int i64 c)]]=if c<0 then none else if i64.wrap (a-1)<0 then none else some [D.s (sc (int u64 (u64.wrap (u64.wrap ((1:Int)*(↑((2:Nat)^min c.toNat 64):Int))-u64.wrap ((1:Int)*(↑((2:Nat)^min (i64.wrap (a-1)).toNat 64):Int))))))]:=eJ aX
def uY(w:Int×Int×Int):Prop:=w=(24,-149,31)\/w=(53,-1074,63)
def rJ(w:Int×Int×Int):Int:=if w.1=24 then 2139095040 else 9218868437227405312
def sp(w:Int×Int×Int):Prop×List D:=(uY w,[.s (.sc (.int .u64 (rJ w)))])
theorem spec:jD E f85 aE (pG (.pair (sN .i64) (.pair (sN .i64) (sN .i64)))) sp:=by
 intro w h;refine(start w.1 w.2.1 w.2.2).trans ?_;rcases(show uY w from h)with rfl |rfl <;> rfl
def aJ:dO:=orc1 (pG (.pair (sN .i64) (.pair (sN .i64) (sN .i64)))) sp
theorem ok:OK 85 aJ:=(fA E aE aD func85).pU rfl spec
end mJ
namespace aFV
def E:=mE [] 24 [] [(3,[0,1])] [3]
def aE:=bd f189
theorem aX:Nk E aE:=nk
def J3 a b:=mT E f189 aE 3 [iK a,cK b]
theorem start a b:aH E f189 aE [D.s (ints u64 a),D.s (sc (int i64 b))]=letI A:=some [D.s (sc (bool false))];aB (decide (b<0)) A (aB (decide ((a.length:Int)<=i64.wrap (b.tdiv 64))) A (aFV.J3 a b)):=eJ aX
theorem iA a b:J3 a b=letI A:=b.tdiv 64;if 0<=i64.wrap A/\i64.wrap A<(a.length:Int)then if b.tmod 64<(0:Int)then none else some [D.s (sc (bool (fY BinOp.and u64 (a.getD (i64.wrap A).toNat 0/(↑((2:Nat)^min (b.tmod 64).toNat 64):Int)) 1==(1:Int))))]else none:=cJ aX
def sp(a:List Int)(i:Int):Prop×List D:=(M6.cZ a/\a.length<=1099511627776/\-9223372036854775808<=i/\i<9223372036854775808,[.s (.sc (.bool (decide (0<=i)&&decide (M6.val a/2^i.toNat%2=1))))])
theorem aRG{x:Int}(h:0<=x)(h':x<18446744073709551616):fY .and .u64 x 1=x%2:=by
 rw[Wn h h' (by omega) (by omega)];have:x.toNat &&& 1=x.toNat%2:=Nat.and_one_is_mod _;show((x.toNat &&& 1:Nat):Int)=_;rw[this];omega
theorem spec:gU E f189 aE (pI .u64) (pN .i64) sp:=by
 rintro a i ⟨ha,hl,h1,h2⟩;refine(start a i).trans ?_;show _=some [D.s (.sc (.bool (decide (0<=i)&&decide (M6.val a/2^i.toNat%2=1))))]
 by_cases hn:i<0
 ·rw[aQ hn,decide_eq_false (show ¬0<=i by omega),cAA]
 ·have t1:i.tdiv 64=i/64:=cDF (by omega);have t2:i.tmod 64=i%64:=cDG (by omega);have e1:(i/64).toNat=i.toNat/64:=by omega
  have e2:(i%64).toNat=i.toNat%64:=by omega
  have ps:2^i.toNat=18446744073709551616^(i.toNat/64)*2^(i.toNat%64):=by
   rw[show(18446744073709551616:Nat)=2^64 from rfl,<-Nat.pow_mul,<-bZS];congr 1;omega
  rw[aL hn,decide_eq_true (show 0<=i by omega),bXT,t1,wrap_i64 (n:=i/64),ps,<-cAL]
  by_cases hz:(a.length:Int)<=i/64
  ·have hv:M6.val a/18446744073709551616^(i.toNat/64)=0:=by
    apply cAK;exact bVO (M6.dS ha) (gN)
   rw[aQ hz,hv,cEG];rfl
  ·have g:=ha.get (i.toNat/64);have hv:=M6.iY a (n:=i.toNat/64) (by omega);have hq:M6.val a/18446744073709551616^(i.toNat/64)=M6.val (a.drop (i.toNat/64)):=by
    rw[hv,cBW _ _ (cY),cAK (M6.iL ha _),bUT]
   rw[aL hz,iA,t1,t2,wrap_i64 (n:=i/64),aW,aU,e1,e2,hq,M6.jM];have em:min (i.toNat%64) 64=i.toNat%64:=by omega
   have jL:i.toNat%64<64:=bWZ _ (by omega);rw[em];generalize i.toNat%64=k at *;generalize a.getD (i.toNat/64) 0=x at *;generalize M6.val (a.drop (i.toNat/64+1))=r at *;have hp:0<2^k:=cY;have e3:(x.toNat+18446744073709551616*r)/2^k%2=x.toNat/2^k%2:=by
    have:18446744073709551616*r=2^k*(2*(2^(63-k)*r)):=by
     rw[show(18446744073709551616:Nat)=2^64 from rfl,show 64=k+(1+(63-k))from by omega,bZS,bZS,bZT,bZT]
    rw[this,cBW _ _ hp];omega
   rw[e3];have ex:x/((2^k:Nat):Int)=((x.toNat/2^k:Nat):Int):=by
    obtain⟨n,rfl⟩:=bZV g.1;rw[<-cAM];rfl
   have hle:x.toNat/2^k<=x.toNat:=cFB _ _;rw[ex];clear ex e3 hq hv ps;generalize x.toNat/2^k=q at *;rw[aRG (by omega) (by omega)];congr 4
   by_cases h:q%2=1
   ·rw[decide_eq_true h];have:((q:Int)%2)=1:=by omega
    rw[this];rfl
   ·rw[decide_eq_false h];have:((q:Int)%2)=0:=by omega
    rw[this];rfl
def aJ:dO:=orc2 (pI .u64) (pN .i64) sp
theorem ok:OK 189 aJ:=(fA E aE aD func189).mV rfl spec
end aFV
namespace mU
def E:=mE [] 34 [] [] []
def aE:=bd f225
theorem aX:Nk E aE:=nk
theorem start a b c d e:aH E f225 aE [D.s (sc (int i64 a)),D.s (sc (bool b)),D.s (sc (bool c)),D.s (sc (bool d)),D.s (sc (int i64 e))]=letI B:=some [D.s (sc (bool d))];letI A:=some [D.s (sc (bool false))];aB (a==0) (aB b B A) (aB (a==1) (aB (!b) B A) (aB (decide (0<e)) (some [D.s (sc (bool true))]) (aB (e==0) (some [D.s (sc (bool c))]) A))):=eJ aX
def mS(w:Int)(neg bOX rest:Bool)(half:Int):Bool:=bif w==0 then neg&&rest else bif w==1 then !neg&&rest else(decide (0<half)||(half==0&&bOX))
def sp(a:Int)(b c d:Bool)(e:Int):Prop×List D:=(True,[.s (.sc (.bool (mS a b c d e)))])
theorem spec(a:Int)(b c d:Bool)(e:Int)(h:(sp a b c d e).1):aH E f225 aE [(pN .i64).put a,pB.put b,pB.put c,pB.put d,(pN .i64).put e]=some (sp a b c d e).2:=by
 refine(start a b c d e).trans ?_;show _=some [D.s (.sc (.bool (mS a b c d e)))];unfold mS aB;cases (a==0) <;> cases (a==1) <;> cases b <;> cases c <;> cases d <;> cases (decide (0<e)) <;> cases (e==0) <;> rfl
def aJ:dO:=orc5 (pN .i64) pB pB pB (pN .i64) sp
theorem ok:OK 225 aJ:=(fA E aE aD func225).bFV rfl spec
end mU
namespace oA
def E:=mE [] 7 [] [] []
def aE:=bd f95
theorem aX:Nk E aE:=nk
theorem start a:aH E f95 aE [D.s (sc (int u64 a))]=aB (a==0) (some [D.s (sc (slice none 0 0))]) (some [D.own 22 u64 [a]]):=eJ aX
def sp(w:Int):Prop×List D:=(0<=w/\w<18446744073709551616,[.s (.ints .u64 (M6.dg w.toNat))])
theorem spec:aMO E f95 aE (pN .u64) sp:=by
 intro w h;have e:=start w;obtain⟨h1,h2⟩:=h;unfold sp;simp only
 by_cases hz:w=0
 ·rw[cN hz]at e;subst hz;rw[show(0:Int).toNat=0 from rfl,M6.cF];exact⟨_,e,.cons (yQ.nil _) .nil⟩
 ·rw[bM hz]at e;have:M6.dg w.toNat=[w]:=by
   rw[M6.oY (by omega),cFC (by omega),cAK (by omega),M6.cF];congr 1;omega
  rw[this];exact⟨_,e,.cons (yQ.own _ _ _) .nil⟩
def aJ:dO:=orc1 (pN .u64) sp
theorem ok:OK 95 aJ:=(fA E aE aD func95).aYX rfl spec
end oA
namespace Ww
def E:=mE [(189,aFV.aJ),(225,mU.aJ),(99,Ak.aJ),(95,oA.aJ),(100,uE.aJ)] 39 [24,36] [] []
def aE:=bd f190
theorem aX:Nk E aE:=nk
theorem start a b c d e:aH E f190 aE [D.s (sc (int i64 a)),D.s (sc (bool b)),D.s (ints u64 c),D.s (sc (bool d)),D.s (sc (int i64 e))]=letI C:=M6.val c+M6.val (M6.dg 1);letI B:=bif cP.mL C then(0:Int)else(5:Int);letI A:=bif cP.mL C then M6.dg C else [];letI F:=bif B==0 then zs b (M6.val A)else(0:Int);aO (M6.cZ c/\c.length<=1099511627776/\(-9223372036854775808:Int)<=(0:Int)/\(0:Int)<(9223372036854775808:Int)) (aO True (aB (!mU.mS a b (true&&decide (M6.val c/1%(2:Nat)=(1:Nat))) d e) (aO (M6.cR c/\c.length<=1099511627776) (some [D.agg [sc (bool (isNeg (zs b (M6.val c)))),ints u64 (M6.dg (zs b (M6.val c)).natAbs)],D.s (sc (int i64 0))])) (aO ((0:Int)<=(1:Int)/\(1:Int)<(18446744073709551616:Int)) (aO (M6.cR c/\M6.cR (M6.dg 1)/\c.length<=8192/\(M6.dg 1).length<=8192) (aO (M6.cR A/\A.length<=1099511627776) (some [D.agg [sc (bool (isNeg F)),ints u64 (M6.dg F.natAbs)],D.s (sc (int i64 B))])))))):=eJ aX
def sp(w:Int)(neg:Bool)(q:List Int)(rest:Bool)(half:Int):Prop×List D:=(M6.cR q/\q.length<=8192,
 wE (fit (M6.val q+bif mU.mS w neg (decide (M6.val q%2=1)) rest half then 1 else 0)) (zs neg (M6.val q+bif mU.mS w neg (decide (M6.val q%2=1)) rest half then 1 else 0)))
theorem spec(w:Int)(neg:Bool)(q:List Int)(rest:Bool)(half:Int)(h:(sp w neg q rest half).1):aH E f190 aE [(pN .i64).put w,pB.put neg,(pI .u64).put q,pB.put rest,(pN .i64).put half]=some (sp w neg q rest half).2:=by
 obtain⟨h1,h2⟩:=h;have hb:=xU h1.kU h2;refine(start w neg q rest half).trans ?_;unfold sp
 try dsimp only
 rw[gP ⟨h1.kU,by omega,by omega,by omega⟩,gP trivial,Nat.div_one,bXT];cases hm:mU.mS w neg (decide (M6.val q%2=1)) rest half with
 |false =>
  have hf:fit (M6.val q+0)=true:=decide_eq_true (by rw[bVP];omega);rw[cFY,bT,gP ⟨h1,by omega⟩,cond_false,hf];rfl
 |true =>
  have o1:=fM (n:=1) (k:=1) (dA.2 (by omega));rw[bWR,bF,gP ⟨by omega,by omega⟩,gP ⟨h1,M6.aY _,h2,by omega⟩,M6.bN,gP (Iv (fun h=>by rw[show cP.mL _=_ from Ba]at h;exact xN h)),Ia,show cP.mL _=_ from Ba,cond_true]
def aJ:dO:=orc5 (pN .i64) pB (pI .u64) pB (pN .i64) sp
theorem ok:OK 190 aJ:=(fA E aE (aA aFV.ok (aA mU.ok (aA Ak.ok (aA oA.ok (aA uE.ok aD))))) func190).bFV rfl spec
end Ww
namespace mN
def E:=mE [(96,fI.aJ),(104,Er.aJ),(103,Cx.aJ),(189,aFV.aJ),(190,Ww.aJ)] 61 [23,58] [(9,[0,2,4,6,8,10]),(14,[0,4,6,8,10,11])] [9,14]
def aE:=bd f149
theorem aX:Nk E aE:=nk
def J9 a b c d e f g:=mT E f149 aE 9 [cK a,cK b,dK 2 27 [cU c,fU d],dK 3 27 [cU e,sc (slice none 0 0)],iK f,Nd g]
def aRJ a b c d e f g:=mT E f149 aE 14 [cK a,dK 1 27 [cU b,fU c],dK 2 27 [cU d,sc (slice none 0 0)],iK e,Nd f,cK g]
theorem start a b d c:aH E f149 aE [D.s (sc (int i64 a)),D.agg [sc (bool b),ints u64 d],D.s (sc (int i64 c))]=letI A:=M6.dg (M6.val d/(2:Nat)^c.toNat);aB (decide (c<0)) (some [D.agg [sc (bool false),sc (slice none 0 0)],D.s (sc (int i64 1))]) (aO (d.length<=1099511627776) (aB (!fI.nP (b,d)) (some [D.agg [sc (bool false),sc (slice none 0 0)],D.s (sc (int i64 2))]) (aO (M6.cR d/\d.length<=8192/\0<=c/\c<4611686018427387904) (aB (decide (0<(d.length:Int))) (aO (M6.cZ d/\d.length<=1099511627776) (mN.J9 a c b d false A (decide ((↑(tz (M6.val d)):Int)<c)))) (mN.J9 a c b d false A false))))):=eJ aX
theorem Wx a b c d e f g:J9 a b c d e f g=aO (M6.cZ d/\d.length<=1099511627776/\(-9223372036854775808:Int)<=i64.wrap (b-1)/\i64.wrap (b-1)<9223372036854775808) (aB (decide (0<=i64.wrap (b-1))&&decide (M6.val d/(2:Nat)^(i64.wrap (b-1)).toNat%2=(1:Nat))) (aO (M6.cZ d/\d.length<=1099511627776) (aB ((↑(tz (M6.val d)):Int)==i64.wrap (b-1)) (mN.aRJ a c d e f g 0) (mN.aRJ a c d e f g 1))) (mN.aRJ a c d e f g (-1:Int))):=cJ aX
theorem Tb a b c d e f g:aRJ a b c d e f g=letI A:=M6.val e+bif mU.mS a b (decide (M6.val e%2=(1:Nat))) f g then(1:Nat)else(0:Nat);letI B:=bif fit A then zs b A else(0:Int);aO (M6.cR e/\e.length<=8192) (some [D.agg [sc (bool (isNeg B)),ints u64 (M6.dg B.natAbs)],D.s (sc (int i64 (bif fit A then(0:Int)else(5:Int))))]):=cJ aX
def aBL(v:Nat)(n:Int):Bool:=decide (v≠0)&&decide ((tz v:Int)<n)
def Lh(v:Nat)(n:Int):Int:=bif decide (0<=n-1)&&decide (v/2^(n-1).toNat%2=1)then(bif ((tz v:Int)==n-1)then 0 else 1)else -1
def uI(w:Int)(neg:Bool)(v:Nat)(n:Int):Nat:=v/2^n.toNat+bif mU.mS w neg (decide (v/2^n.toNat%2=1)) (aBL v n) (Lh v n)then 1 else 0
def sp(w:Int)(x:Bool×List Int)(n:Int):Prop×List D:=(gI x/\0<=n/\n<4611686018427387904,wE (fit (uI w x.1 (M6.val x.2) n)) (zs x.1 (uI w x.1 (M6.val x.2) n)))
theorem spec:oP E f149 aE (pN .i64) oD (pN .i64) sp:=by
 rintro w x n ⟨hx,h0,h1⟩;refine(start w x.1 x.2 n).trans ?_;have l1:=hx.len;have f1:=fI.kS hx;have b1:=hx.bl;obtain⟨p,a⟩:=x;have n1:M6.cR a:=hx.1
 try dsimp only at *
 unfold sp
 try dsimp only
 have hq:=fM (n:=M6.val a/2^n.toNat) (k:=8192) (bVN (fX (cFB _ _)) b1);have j14:∀(r:Bool) (hf:Int),aRJ w p a false (M6.dg (M6.val a/2^n.toNat)) r hf=some (wE (fit (M6.val a/2^n.toNat+bif mU.mS w p (decide (M6.val a/2^n.toNat%2=1)) r hf then 1 else 0)) (zs p (M6.val a/2^n.toNat+bif mU.mS w p (decide (M6.val a/2^n.toNat%2=1)) r hf then 1 else 0))):=by
  intro r hf;rw[Tb,gP ⟨M6.aY _,hq⟩,M6.bN];rfl
 have wn:i64.wrap (n-1)=n-1:=by rw[wrap_i64]
 have j9:∀r:Bool,J9 w n p a false (M6.dg (M6.val a/2^n.toNat)) r=some (wE (fit (M6.val a/2^n.toNat+bif mU.mS w p (decide (M6.val a/2^n.toNat%2=1)) r (Lh (M6.val a) n)then 1 else 0)) (zs p (M6.val a/2^n.toNat+bif mU.mS w p (decide (M6.val a/2^n.toNat%2=1)) r (Lh (M6.val a) n)then 1 else 0))):=by
  intro r;rw[Wx,wn,gP ⟨n1.kU,by omega,by omega,by omega⟩,j14,j14,j14,gP ⟨n1.kU,by omega⟩];unfold Lh aB;cases (decide (0<=n-1)&&decide (M6.val a/2^(n-1).toNat%2=1))with
  |false=>rfl
  |true=>cases ((tz (M6.val a):Int)==n-1) <;> rfl
 have hz:=M6.dY n1;rw[aL,gP,f1,bWR,bF,gP ⟨n1,l1,h0,h1⟩,j9,j9,gP ⟨n1.kU,by omega⟩];unfold uI aBL
 by_cases h:M6.val a=0
 ·rw[aL (by have:=hz.2 h;omega),decide_eq_false (show ¬(M6.val a≠0) by omega),cAA]
 ·rw[aQ (by have:a.length≠0:=fun hl=>h (hz.1 hl);omega),decide_eq_true (show(M6.val a≠0) by omega),bXT]
def aJ:dO:=orc3 (pN .i64) oD (pN .i64) sp
theorem ok:OK 149 aJ:=(fA E aE (aA fI.ok (aA Er.ok (aA Cx.ok (aA aFV.ok (aA Ww.ok aD))))) func149).yM rfl spec
end mN
namespace oB
def E:=mE [(149,mN.aJ)] 11 [8] [] []
def aE:=bd f107
theorem aX:Nk E aE:=nk
theorem start a c b:aH E f107 aE [D.agg [sc (bool a),ints u64 c],D.s (sc (int i64 b))]=letI A:=mN.uI 2 a (M6.val c) b;letI B:=bif fit A then zs a A else(0:Int);aO (gI (a,c)/\0<=b/\b<4611686018427387904) (some [D.agg [sc (bool (isNeg B)),ints u64 (M6.dg B.natAbs)],D.s (sc (int i64 (bif fit A then(0:Int)else(5:Int))))]):=eJ aX
def zE(v:Nat)(n:Int):Nat:=mN.uI 2 false v n
theorem aPC(p:Bool)(v:Nat)(n:Int):mN.uI 2 p v n=zE v n:=rfl
theorem small{v:Nat}{n:Int}(h:0<=n)(hb:bl v<=524288):fit (zE v n)=true:=by
 refine decide_eq_true (bVN (fX ?_) hb);unfold zE mN.uI mU.mS;rw[show((2:Int)==0)=false from rfl,show((2:Int)==1)=false from rfl,cond_false,cond_false];unfold mN.Lh
 by_cases hc:0<=n-1/\v/2^(n-1).toNat%2=1
 ·have hv:v≠0:=fun hz=>by rw[hz,cEG]at hc;omega
  have hn:2^n.toNat=2^(n-1).toNat*2:=by rw[<-bZQ];congr 1;omega
  have hp:=bXR (n:=(n-1).toNat) (show 0<2 by omega);have h1:v/2^n.toNat<=v/2:=cFH (by omega) (by omega);have h2:∀b:Bool,(bif b then(1:Nat)else 0)<=1:=by intro b;cases b <;> decide
  by_cases bTK:v=1
  ·subst bTK;have zO:2^(n-1).toNat=1:=by
    rcases bVH 1 (2^(n-1).toNat)with h |h
    ·rw[cAK h]at hc;omega
    ·omega
   have ht:tz 1=0:=by simp[tz]
   have Yt:n=1:=by
    rcases cGM (n-1).toNat with h |h
    ·omega
    ·have:=bXS (n:=2) (by omega) h;omega
   subst Yt;rw[ht];decide
  ·exact bVN (Nat.add_le_add h1 (h2 _)) (by omega)
 ·have:(decide (0<=n-1)&&decide (v/2^(n-1).toNat%2=1))=false:=by
   rw[cGG]
   by_cases h0:0<=n-1
   ·exact .inr (decide_eq_false fun h=>hc ⟨h0,h⟩)
   ·exact .inl (decide_eq_false h0)
  rw[this];exact bVN (Nat.le_of_eq (bVP _)) (cFB _ _)
def sp(x:Bool×List Int)(n:Int):Prop×List D:=(gI x/\0<=n/\n<4611686018427387904,[wD (zs x.1 (zE (M6.val x.2) n)),.s (.sc (.int .i64 0))])
theorem spec:gU E f107 aE oD (pN .i64) sp:=by
 intro x n h;have h':=h;obtain⟨hx,h0,h1⟩:=h;refine(start x.1 x.2 n).trans ((gP h').trans ?_);unfold sp
 try dsimp only
 rw[aPC,small h0 hx.bl];rfl
def aJ:dO:=orc2 oD (pN .i64) sp
theorem ok:OK 107 aJ:=(fA E aE (aA mN.ok aD) func107).mV rfl spec
end oB
namespace jE
def E:=mE [(106,rU.aJ),(85,mJ.aJ),(107,oB.aJ),(48,Al.aJ)] 71 [19] [(9,[3,8,9]),(12,[3,8,10])] [9,12]
def aE:=bd f54
theorem aX:Nk E aE:=nk
def J9 a b c d e f:=mT E f54 aE 9 [dK 0 98 [cX a,cX b,cX c],cK d,dK 2 27 [cU e,fU f]]
def aXH a b c d e:=mT E f54 aE 12 [dK 0 98 [cX a,cX b,cX c],cK d,dG e]
theorem start a d e b c:aH E f54 aE [D.agg [sc (int i64 a),sc (int i64 d),sc (int i64 e)],D.s (ints u64 b),D.s (sc (int i64 c))]=letI G:=i64.wrap (c+(↑(bl (M6.val b)):Int))-1;letI A:=i64.wrap (i64.wrap G-a)+1;letI F:=zs false (oB.zE (M6.val b) (i64.wrap ((if d>i64.wrap A then d else i64.wrap A)-c)));letI B:=c-if d>i64.wrap A then d else i64.wrap A;letI C:=bif fit (M6.val b*(2:Nat)^(i64.wrap B).toNat)then wv (false,b)*(↑((2:Nat)^(i64.wrap B).toNat):Int)else(0:Int);aO (M6.cZ b/\b.length<=1099511627776) (aB (decide (1100<i64.wrap G)) (aO (mJ.uY (a,d,e)) (aC (mJ.rJ (a,d,e)) fun f=>some [D.s (sc (int u64 f))])) (aB (decide (c<=if d>i64.wrap A then d else i64.wrap A)) (aO (gI (false,b)/\0<=i64.wrap ((if d>i64.wrap A then d else i64.wrap A)-c)/\i64.wrap ((if d>i64.wrap A then d else i64.wrap A)-c)<4611686018427387904) (aC (isNeg F) fun g=>aC (M6.dg F.natAbs) fun h=>jE.J9 a d e (if d>i64.wrap A then d else i64.wrap A) g h)) (aO (gI (false,b)/\0<=i64.wrap B/\i64.wrap B<4611686018427387904) (aC (isNeg C) fun i=>aC (M6.dg C.natAbs) fun j=>jE.J9 a d e (if d>i64.wrap A then d else i64.wrap A) i j)))):=eJ aX
theorem Wx a b c d e f:J9 a b c d e f=aB (decide (0<(f.length:Int))) (if(0:Int)<=(0:Int)/\0<(f.length:Int)then jE.aXH a b c d (f.getD 0 0)else none) (jE.aXH a b c d 0):=cJ aX
theorem aAG a b c d e:aXH a b c d e=letI A:=u64.wrap (u64.wrap (i64.wrap (d-b))*(↑((2:Nat)^min (i64.wrap (a-1)).toNat 64):Int))+e;if i64.wrap (a-1)<0 then none else aO (mJ.uY (a,b,c)) (aC (mJ.rJ (a,b,c)) fun f=>some [D.s (sc (int u64 (if f<u64.wrap A then f else u64.wrap A)))]):=cJ aX
def fZ(w:Int×Int×Int)(v:Nat)(e:Int):Int:=if w.2.1>e+(bl v:Nat)-1-w.1+1 then w.2.1 else e+(bl v:Nat)-1-w.1+1
def xD(w:Int×Int×Int)(v:Nat)(e:Int):Nat:=if e<=fZ w v e then oB.zE v (fZ w v e-e)else v*2^(e-fZ w v e).toNat
def yX(w:Int×Int×Int)(v:Nat)(e:Int):Int:=if 1100<e+(bl v:Nat)-1 then mJ.rJ w else(if mJ.rJ w<(fZ w v e-w.2.1)*((2^(w.1-1).toNat:Nat):Int)+(xD w v e:Nat)then mJ.rJ w else(fZ w v e-w.2.1)*((2^(w.1-1).toNat:Nat):Int)+(xD w v e:Nat))
theorem qU(v:Nat)(n:Int):oB.zE v n<=v/2^n.toNat+1:=by
 unfold oB.zE mN.uI;generalize mU.mS _ _ _ _ _=b;cases b
 ·exact Nat.le_succ _
 ·exact bUR _
theorem aHE{w:Int×Int×Int}(h:mJ.uY w){v:Nat}(e:Int):xD w v e<=2^53:=by
 have hm:w.1<=53:=by rcases h with rfl |rfl <;> decide
 have aER:1<=w.1:=by rcases h with rfl |rfl <;> decide
 have hu:e+(bl v:Nat)-1-w.1+1<=fZ w v e:=by unfold fZ;split <;> omega
 have hv:=vD v;unfold xD;split
 ·rename_i he;refine bVN (qU _ _) ?_;have:v/2^(fZ w v e-e).toNat<2^53:=by
   apply cAJ;rw[<-bZS];exact bVO hv (gN)
  omega
 ·rename_i he;have h1:v*2^(e-fZ w v e).toNat<=2^bl v*2^(e-fZ w v e).toNat:=bWG _ (Nat.le_of_lt hv);rw[<-bZS]at h1;exact bVN h1 (gN)
def sp(w:Int×Int×Int)(b:List Int)(e:Int):Prop×List D:=(mJ.uY w/\M6.cR b/\M6.val b≠0/\b.length<=8192/\-2000000<=e/\e<=2000000,[.s (.sc (.int .u64 (yX w (M6.val b) e)))])
theorem spec:oP E f54 aE (pG (.pair (sN .i64) (.pair (sN .i64) (sN .i64)))) (pI .u64) (pN .i64) sp:=by
 rintro w b e ⟨ht,hn,hv,hl,aCM,aPV⟩;have hb:=xU hn.kU hl;have hm:w.1=24\/w.1=53:=by rcases ht with rfl |rfl <;> decide
 have bMC:-1074<=w.2.1/\w.2.1<=-149:=by rcases ht with rfl |rfl <;> decide
 refine(start w.1 w.2.1 w.2.2 b e).trans ?_;have w1:i64.wrap (i64.wrap (e+(bl (M6.val b):Int))-1)=e+(bl (M6.val b):Int)-1:=by
  rw[wrap_i64 (n:=e+_),wrap_i64]
 have w2:i64.wrap (i64.wrap (e+(bl (M6.val b):Int)-1-w.1)+1)=e+(bl (M6.val b):Int)-1-w.1+1:=by
  rw[wrap_i64 (n:=e+(bl (M6.val b):Int)-1-w.1) (by omega) (by omega),wrap_i64]
 have Na:gI (false,b):=⟨hn,fun h=>(by cases h),hl⟩;have hu:(if w.2.1>e+(bl (M6.val b):Int)-1-w.1+1 then w.2.1 else e+(bl (M6.val b):Int)-1-w.1+1)=fZ w (M6.val b) e:=rfl;unfold sp yX
 try dsimp only
 rw[gP ⟨hn.kU,by omega⟩,w1,w2,hu];have bLP:fZ w (M6.val b) e<=3000000/\-3000000<=fZ w (M6.val b) e:=by unfold fZ;split <;> omega
 by_cases hc:1100<e+(bl (M6.val b):Int)-1
 ·rw[aQ hc,if_pos hc,gP ht];simp only[aG]
 ·rw[aL hc,if_neg hc];have Ku:=aHE ht (v:=M6.val b) e;have bAH:w.2.1<=fZ w (M6.val b) e/\fZ w (M6.val b) e-w.2.1<=2122/\(w.1=24->fZ w (M6.val b) e-w.2.1<=2122):=by
   unfold fZ;rcases ht with rfl |rfl <;> ((try dsimp only);split <;> omega)
  have hU:xD w (M6.val b) e=if e<=fZ w (M6.val b) e then oB.zE (M6.val b) (fZ w (M6.val b) e-e)else M6.val b*2^(e-fZ w (M6.val b) e).toNat:=rfl
  have j9:∀(p:Bool) (m:Nat),m<=2^53->J9 w.1 w.2.1 w.2.2 (fZ w (M6.val b) e) p (M6.dg m)=some [D.s (.sc (.int .u64 (if mJ.rJ w<(fZ w (M6.val b) e-w.2.1)*((2^(w.1-1).toNat:Nat):Int)+(m:Nat)then mJ.rJ w else(fZ w (M6.val b) e-w.2.1)*((2^(w.1-1).toNat:Nat):Int)+(m:Nat))))]:=by
   intro p m bQV;have hd0:(M6.dg m).getD 0 0=(m:Int):=by
    have h1:=M6.jM (a:=M6.dg m) 0;rw[cBE,M6.bN]at h1;have h2:=(M6.lG m).get 0;generalize M6.val ((M6.dg m).drop (0+1))=r at *;have:r=0:=by
     rcases cGM r with h |h
     ·exact h
     ·omega
    omega
   have j12:aXH w.1 w.2.1 w.2.2 (fZ w (M6.val b) e) (m:Int)=some [D.s (.sc (.int .u64 (if mJ.rJ w<(fZ w (M6.val b) e-w.2.1)*((2^(w.1-1).toNat:Nat):Int)+(m:Nat)then mJ.rJ w else(fZ w (M6.val b) e-w.2.1)*((2^(w.1-1).toNat:Nat):Int)+(m:Nat))))]:=by
    rw[aAG,wrap_i64 (n:=w.1-1),aU,gP ht,wrap_i64 (n:=fZ w (M6.val b) e-w.2.1),wrap_u64 (n:=fZ w (M6.val b) e-w.2.1)];simp only[aG];have aXX:0<=fZ w (M6.val b) e-w.2.1/\fZ w (M6.val b) e-w.2.1<=2122:=by omega
    generalize fZ w (M6.val b) e-w.2.1=u at *;have hmul:u64.wrap (u64.wrap (u*((2^min (w.1-1).toNat 64:Nat):Int))+(m:Int))=u*((2^(w.1-1).toNat:Nat):Int)+(m:Int):=by
     rcases hm with h |h
     ·rw[h];show u64.wrap (u64.wrap (u*8388608)+(m:Int))=u*8388608+(m:Int);rw[wrap_u64 (n:=u*8388608),wrap_u64]
     ·rw[h];show u64.wrap (u64.wrap (u*4503599627370496)+(m:Int))=u*4503599627370496+(m:Int);rw[wrap_u64 (n:=u*4503599627370496),wrap_u64]
    rw[hmul]
   have hz:=M6.iO (n:=m);rw[Wx]
   by_cases aER:m=0
   ·rw[aL (by have:=hz.2 aER;omega)];subst aER;exact j12
   ·rw[aQ (by have:=fun h=>aER (hz.1 h);omega),if_pos ⟨by omega,by have:=fun h=>aER (hz.1 h);omega⟩,hd0,j12]
  rw[hU]at Ku ⊢
  by_cases hle:e<=fZ w (M6.val b) e
  ·rw[if_pos hle]at Ku ⊢;rw[aQ hle,wrap_i64 (n:=fZ w (M6.val b) e-e),gP ⟨Na,by omega,by omega⟩];simp only[aG];rw[lP,j9 _ _ Ku]
  ·rw[if_neg hle]at Ku ⊢;have bAL:fit (M6.val b*2^(e-fZ w (M6.val b) e).toNat)=true:=decide_eq_true (by
    have:bl (M6.val b*2^(e-fZ w (M6.val b) e).toNat)<=54:=dA.2 (by omega);omega)
   rw[aL hle,wrap_i64 (n:=e-fZ w (M6.val b) e),gP ⟨Na,by omega,by omega⟩];simp only[aG];have bPS:wv (false,b)=(M6.val b:Int):=rfl;rw[bAL,cond_true,bPS,<-cAN,cAH,j9 _ _ Ku]
def aJ:dO:=orc3 (pG (.pair (sN .i64) (.pair (sN .i64) (sN .i64)))) (pI .u64) (pN .i64) sp
theorem ok:OK 54 aJ:=(fA E aE (aA rU.ok (aA mJ.ok (aA oB.ok (aA Al.ok aD)))) func54).yM rfl spec
end jE
namespace yC
def E:=mE [] 14 [] [] []
def aE:=bd f53
theorem aX:Nk E aE:=nk
theorem start a d e b c:aH E f53 aE [D.agg [sc (int i64 a),sc (int i64 d),sc (int i64 e)],D.s (sc (bool b)),D.s (sc (int u64 c))]=aB b (if e<0 then none else some [D.s (sc (int u64 (fY BinOp.or u64 c (u64.wrap ((1:Int)*(↑((2:Nat)^min e.toNat 64):Int))))))]) (some [D.s (sc (int u64 c))]):=eJ aX
def aXS(w:Int×Int×Int)(b:Bool)(c:Int):Int:=bif b then c+(if w.1=24 then 2147483648 else 9223372036854775808)else c
def sp(w:Int×Int×Int)(b:Bool)(c:Int):Prop×List D:=(mJ.uY w/\0<=c/\c<=mJ.rJ w,[.s (.sc (.int .u64 (aXS w b c)))])
theorem spec:oP E f53 aE (pG (.pair (sN .i64) (.pair (sN .i64) (sN .i64)))) pB (pN .u64) sp:=by
 rintro w b c ⟨ht,h0,h1⟩;refine(start w.1 w.2.1 w.2.2 b c).trans ?_;unfold sp aXS;obtain⟨n,rfl⟩:=bZV h0;rcases ht with rfl |rfl
 ·have h1:(n:Int)<=2139095040:=h1;have e:=cDE (i:=31) (b:=n) (by omega) 1;cases b with
  |false=>rfl
  |true =>
   rw[bT,if_neg (by decide)];show some [D.s (.sc (.int .u64 (fY .or .u64 (n:Int) 2147483648)))]=_;rw[Uk (by omega) (by omega) (by omega) (by omega),bYO,cDD];rw[bVB]at e;rw[show(2147483648:Int).toNat=2^31 from rfl,<-e];show some [D.s (.sc (.int .u64 ((2^31+n:Nat):Int)))]=some [D.s (.sc (.int .u64 ((n:Int)+2147483648)))];rw[cFM,Int.add_comm];rfl
 ·have h1:(n:Int)<=9218868437227405312:=h1;have e:=cDE (i:=63) (b:=n) (by omega) 1;cases b with
  |false=>rfl
  |true =>
   rw[bT,if_neg (by decide)];show some [D.s (.sc (.int .u64 (fY .or .u64 (n:Int) 9223372036854775808)))]=_;rw[Uk (by omega) (by omega) (by omega) (by omega),bYO,cDD];rw[bVB]at e;rw[show(9223372036854775808:Int).toNat=2^63 from rfl,<-e];show some [D.s (.sc (.int .u64 ((2^63+n:Nat):Int)))]=some [D.s (.sc (.int .u64 ((n:Int)+9223372036854775808)))];rw[cFM,Int.add_comm];rfl
def aJ:dO:=orc3 (pG (.pair (sN .i64) (.pair (sN .i64) (sN .i64)))) pB (pN .u64) sp
theorem ok:OK 53 aJ:=(fA E aE aD func53).yM rfl spec
end yC
namespace jG
def E:=mE [(52,Hx.aJ),(45,lO.aJ),(54,jE.aJ),(53,yC.aJ)] 35 [34] [] []
def aE:=bd f15
theorem aX:Nk E aE:=nk
theorem start a b c d:aH E f15 aE [D.s (sc (int i64 a)),D.agg [sc (bool b),ints u64 c,sc (int i64 d)]]=letI A:=Hx.Ir a;aO True (aC A.snd.fst fun e=>aC A.snd.snd fun f=>letI B:=(A.fst,e,f);aB (A.fst==0&&(e==0&&(f==0&&true))) (some [D.s (sc (int u64 0)),D.s (sc (int i64 1))]) (aO (aP (b,c,d)) (aB ((c.length:Int)==(0:Int)) (some [D.s (sc (int u64 0)),D.s (sc (int i64 0))]) (aO (mJ.uY B/\M6.cR c/\M6.val c≠0/\c.length<=8192/\(-2000000:Int)<=d/\d<=2000000) (aC (jE.yX B (M6.val c) d) fun g=>aO (mJ.uY B/\0<=g/\g<=mJ.rJ B) (aC (yC.aXS B b g) fun h=>some [D.s (sc (int u64 h)),D.s (sc (int i64 0))])))))):=eJ aX
def kR(f:Int)(p:Int×Int):Int:=if p.1=0 then 0 else yC.aXS (Hx.Ir f) (isNeg p.1) (jE.yX (Hx.Ir f) p.1.natAbs p.2)
theorem Qj{f:Int}(h:f=32\/f=64):mJ.uY (Hx.Ir f):=by
 rcases h with rfl |rfl
 ·exact .inl rfl
 ·exact .inr rfl
theorem aBF{w:Int×Int×Int}(h:mJ.uY w)(v:Nat)(e:Int):0<=jE.yX w v e/\jE.yX w v e<=mJ.rJ w:=by
 have hi:0<=mJ.rJ w:=by unfold mJ.rJ;split <;> omega
 have hu:0<=jE.fZ w v e-w.2.1:=by unfold jE.fZ;split <;> omega
 have hm:=cGQ hu (cEF (2^(w.1-1).toNat));unfold jE.yX;split
 ·omega
 ·split <;> omega
def sp(f:Int)(x:gB):Prop×List D:=((f=32\/f=64)/\aP x,[.s (.sc (.int .u64 (kR f (dv x)))),.s (.sc (.int .i64 0))])
theorem spec:gU E f15 aE (pN .i64) iW sp:=by
 rintro f x ⟨hf,hx⟩;have ht:=Qj hf;have he:=hx.2.1;refine(start f x.1 x.2.1 x.2.2).trans ?_;have h0:((Hx.Ir f).1==0)=false:=by rcases hf with rfl |rfl <;> rfl
 simp only[aG];rw[gP trivial,h0,cAA,bF,gP hx];have hz:=M6.dY hx.Hp;have hd:(dv x).1=wv (x.1,x.2.1):=rfl;have ha:(dv x).1.natAbs=M6.val x.2.1:=iF (x.1,x.2.1);have hs:isNeg (dv x).1=x.1:=hx.Db.cells.1;unfold sp kR
 try dsimp only
 rw[ha,hs]
 by_cases hl:x.2.1.length=0
 ·rw[cN,if_pos (by have:=hz.1 hl;omega)]
 ·have hv:M6.val x.2.1≠0:=fun h=>hl (hz.2 h)
  have hb:=aBF ht (M6.val x.2.1) x.2.2;rw[bM,aU,gP ⟨ht,hx.Hp,hv,hx.len,by omega,by omega⟩,gP ⟨ht,hb⟩];rfl
def aJ:dO:=orc2 (pN .i64) iW sp
theorem ok:OK 15 aJ:=(fA E aE (aA Hx.ok (aA lO.ok (aA jE.ok (aA yC.ok aD)))) func15).mV rfl spec
end jG
namespace iU
def E:=mE [(149,mN.aJ)] 11 [8] [] []
def aE:=bd f192
theorem aX:Nk E aE:=nk
theorem start a c b:aH E f192 aE [D.agg [sc (bool a),ints u64 c],D.s (sc (int i64 b))]=letI A:=mN.uI 0 a (M6.val c) b;letI B:=bif fit A then zs a A else(0:Int);aO (gI (a,c)/\0<=b/\b<4611686018427387904) (some [D.agg [sc (bool (isNeg B)),ints u64 (M6.dg B.natAbs)],D.s (sc (int i64 (bif fit A then(0:Int)else(5:Int))))]):=eJ aX
theorem Uc{v:Nat}{n:Int}(h:0<=n):mN.aBL v n=decide (v%2^n.toNat≠0):=by
 unfold mN.aBL
 by_cases hv:v=0
 ·subst hv;rw[decide_eq_false (by omega),cAA,cCF];rfl
 ·rw[decide_eq_true hv,bXT];have hs:=tK v hv;obtain⟨k,rfl⟩:=bZV h;rw[bYO];generalize tz v=j at *
  by_cases hk:j<k
  ·have:v%2^k≠0:=by
    intro hm;have e1:v=2^k*(v/2^k):=by have:=bZX v (2^k);omega
    have e2:v/2^j=2*(2^(k-j-1)*(v/2^k)):=by
     have hp:2^k=2^j*(2*2^(k-j-1)):=by
      rw[<-Nat.pow_succ',<-bZS];congr 1;omega
     generalize v/2^k=t at e1 ⊢;rw[e1,hp,bZT,Nat.mul_div_cancel_left _ (bXR (by decide)),bZT]
    omega
   rw[decide_eq_true (by omega),decide_eq_true this]
  ·have:v%2^k=0:=by
    have hp:2^j=2^k*2^(j-k):=by rw[<-bZS];congr 1;omega
    have e1:v=2^j*(v/2^j):=by have:=bZX v (2^j);omega
    rw[e1,hp,bZT,Nat.mul_mod_right]
   rw[decide_eq_false (by omega),decide_eq_false (by omega)]
theorem down{p:Bool}{v:Nat}{n:Int}(h:0<=n):zs p (mN.uI 0 p v n)=zs p v/((2^n.toNat:Nat):Int):=by
 unfold mN.uI mU.mS;rw[Uc h,show((0:Int)==0)=true from rfl,cond_true];have hp:0<2^n.toNat:=cY;have hd:=bZX v (2^n.toNat);have hm:=bWZ v hp;generalize 2^n.toNat=q at *;cases p with
 |false =>
  rw[cAA,cond_false,bVP];show((v/q:Nat):Int)=(v:Int)/(q:Int);rw[cAM]
 |true =>
  rw[bXT];show -(((v/q+bif decide (v%q≠0)then 1 else 0:Nat)):Int)=-(v:Int)/(q:Int)
  by_cases hz:v%q=0
  ·rw[decide_eq_false (by omega),cond_false,bVP];have e:-(v:Int)=(q:Int)*(-((v/q:Nat):Int)):=by
    rw[cDJ,<-cAN];omega
   rw[e,Int.mul_ediv_cancel_left _ (by omega)]
  ·rw[decide_eq_true hz,cond_true];have e:-(v:Int)=((q-v%q:Nat):Int)+(q:Int)*(-((v/q+1:Nat):Int)):=by
    rw[cDJ,<-cAN,bZR];omega
   rw[e,Int.add_mul_ediv_left _ _ (by omega),Int.ediv_eq_zero_of_lt (by omega) (by omega),Int.zero_add]
theorem small{p:Bool}{v:Nat}{n:Int}(h:0<=n)(hb:bl v<=524288):fit (mN.uI 0 p v n)=true:=by
 refine decide_eq_true (bVN (fX ?_) hb);unfold mN.uI mU.mS;rw[Uc h,show((0:Int)==0)=true from rfl,cond_true];have hp:0<2^n.toNat:=cY
 by_cases hz:v%2^n.toNat=0
 ·rw[decide_eq_false (by omega),cAD,cond_false];exact cFB _ _
 ·have h2:2<=2^n.toNat:=by
   refine bXL fun hc=>hz ?_
   rw[show 2^n.toNat=1 from by omega,Nat.mod_one]
  have:v/2^n.toNat<=v/2:=cFH h2 (by omega);have hv:v≠0:=fun h=>hz (by rw[h,cCF])
  have:(bif p&&decide (v%2^n.toNat≠0)then(1:Nat)else 0)<=1:=by cases p <;> cases decide (v%2^n.toNat≠0) <;> decide
  omega
def sp(x:Bool×List Int)(n:Int):Prop×List D:=(gI x/\0<=n/\n<4611686018427387904,[wD (wv x/((2^n.toNat:Nat):Int)),.s (.sc (.int .i64 0))])
theorem spec:gU E f192 aE oD (pN .i64) sp:=by
 intro x n h;have h':=h;obtain⟨hx,h0,h1⟩:=h;refine(start x.1 x.2 n).trans ((gP h').trans ?_);unfold sp
 try dsimp only
 rw[small h0 hx.bl];show some (wE true _)=_;rw[down h0];rfl
def aJ:dO:=orc2 oD (pN .i64) sp
theorem ok:OK 192 aJ:=(fA E aE (aA mN.ok aD) func192).mV rfl spec
end iU
namespace aXP
def E:=mE [(192,iU.aJ)] 22 [] [] []
def aE:=bd f150
theorem aX:Nk E aE:=nk
theorem start a d b c:aH E f150 aE [D.agg [sc (bool a),ints u64 d],D.s (sc (int i64 b)),D.s (sc (bool c))]=letI A:=wv (a,d)/(↑((2:Nat)^b.toNat):Int);aB c none (aO (gI (a,d)/\0<=b/\b<4611686018427387904) (some [D.agg [sc (bool (isNeg A)),ints u64 (M6.dg A.natAbs)]])):=eJ aX
def sp(x:Bool×List Int)(n:Int)(up:Bool):Prop×List D:=(gI x/\(0<=n/\n<4611686018427387904)/\up=false,[wD (wv x/((2^n.toNat:Nat):Int))])
theorem spec:oP E f150 aE oD (pN .i64) pB sp:=by
 rintro x n up ⟨h1,h2,rfl⟩;refine(start x.1 x.2 n false).trans ?_;rw[bF,gP ⟨h1,h2⟩];rfl
def aJ:dO:=orc3 oD (pN .i64) pB sp
theorem ok:OK 150 aJ:=(fA E aE (aA iU.ok aD) func150).yM rfl spec
end aXP
namespace pM
def E:=mE [(45,lO.aJ),(46,mB.aJ),(47,Et.aJ),(106,rU.aJ),(150,aXP.aJ),(50,iX.aJ)] 49 [46] [(5,[1,2,3,6]),(8,[1,2,3,6,8])] [5,8]
def aE:=bd f108
theorem aX:Nk E aE:=nk
def J5 a b c d e f g:=mT E f108 aE 5 [cK a,Nd b,dK 2 29 [cU c,fU d,cX e],dK 3 29 [cU f,sc (slice none 0 0),cX g]]
def J8 a b c d e f g h:=mT E f108 aE 8 [cK a,Nd b,dK 2 29 [cU c,fU d,cX e],dK 3 29 [cU f,sc (slice none 0 0),cX g],cK h]
theorem start a d e b c:aH E f108 aE [D.agg [sc (bool a),ints u64 d,sc (int i64 e)],D.s (sc (int i64 b)),D.s (sc (bool c))]=letI A:=aO (d.length<=1099511627776) (some [D.agg [sc (bool a),ints u64 d,sc (int i64 e)],D.s (sc (int i64 0))]);aO (aP (a,d,e)) (aO True (aB ((d.length:Int)==(0:Int)) A (aB (decide (b<=e)) A (pM.J5 b c a d e false 0)))):=eJ aX
theorem Wz a b c d e f g:J5 a b c d e f g=letI A:=(↑(bl (M6.val d)):Int);aO (M6.cZ d/\d.length<=1099511627776) (aB (decide (a<i64.wrap (e+i64.wrap (A+(1:Int))))) (pM.J8 a b c d e f g (i64.wrap (a-e))) (pM.J8 a b c d e f g (i64.wrap (A+(1:Int))))):=cJ aX
theorem Cb a b c d e f g h:J8 a b c d e f g h=letI C:=wv (c,d)/(↑((2:Nat)^h.toNat):Int);letI A:=(isNeg C,M6.dg C.natAbs);letI B:=bif gT (wv A) a then aN (wv A) a else((0:Int),(0:Int));aO (gI (c,d)/\(0<=h/\h<4611686018427387904)/\b=false) (aO (gI A/\(-9223372036854775808:Int)<=a/\a<9223372036854775808) (some [D.agg [sc (bool (isNeg B.fst)),ints u64 (M6.dg B.fst.natAbs),sc (int i64 B.snd)],D.s (sc (int i64 (bif gT (wv A) a then(0:Int)else(5:Int))))])):=cJ aX
def zS(p:Int×Int)(b:Int):Int×Int:=if p.1=0\/b<=p.2 then p else aN (p.1/((2^(b-p.2).toNat:Nat):Int)) b
def sR(p:Int×Int)(b:Int):Bool:=decide (p.1=0\/b<=p.2)||gT (p.1/((2^(b-p.2).toNat:Nat):Int)) b
def sp(x:gB)(b:Int)(up:Bool):Prop×List D:=(aP x/\(-4611686018427387904<=b/\b<4611686018427387904)/\up=false,dE (sR (dv x) b) (zS (dv x) b))
theorem spec:oP E f108 aE iW (pN .i64) pB sp:=by
 rintro x k up ⟨h,hk,rfl⟩;refine(start x.1 x.2.1 x.2.2 k false).trans ?_;have hl:=h.len;have hd:=h.dD;have hr:=h.2.1;have hb:=h.Db.bl;have hw:=h.Db;have hn:=h.Hp;obtain⟨b,a,e⟩:=x
 try dsimp only at *
 unfold sp
 try dsimp only
 have hz:=M6.dY hn;have ha:=iF (b,a)
 try dsimp only at ha hz
 rw[gP h,gP trivial];have same:((dv (b,a,e)).1=0\/k<=(dv (b,a,e)).2)->dE (sR (dv (b,a,e)) k) (zS (dv (b,a,e)) k)=[D.agg [.sc (.bool b),.ints .u64 a,.sc (.int .i64 e)],.s (.sc (.int .i64 0))]:=by
  intro hc;unfold sR zS;rw[decide_eq_true hc,cAB,if_pos hc];show [M.dD (dv (b,a,e)),_]=_;rw[hd];rfl
 by_cases h0:a.length=0
 ·rw[cN,gP,same (.inl (by have:=hz.1 h0;show wv (b,a)=0;omega))]
 ·rw[bM]
  by_cases h1:k<=e
  ·rw[aQ h1,gP,same (.inr h1)]
  ·have aEJ:wv (b,a)≠0:=by have:M6.val a≠0:=fun h=>h0 (hz.2 h);omega
   have yN:¬((dv (b,a,e)).1=0\/k<=(dv (b,a,e)).2):=by
    rintro (hc |hc)
    ·exact aEJ hc
    ·exact h1 hc
   have j8:∀n:Int,0<=n->n<4611686018427387904->wv (b,a)/((2^n.toNat:Nat):Int)=wv (b,a)/((2^(k-e).toNat:Nat):Int)->J8 k false b a e false 0 n=some (dE (sR (dv (b,a,e)) k) (zS (dv (b,a,e)) k)):=by
    intro n Bn Yt he;have hq:bl (wv (b,a)/((2^(k-e).toNat:Nat):Int)).natAbs<=524288:=bVN (fX (uA (bXR (by decide)))) (by rw[ha];exact hb);rw[Cb,gP ⟨hw,⟨Bn,Yt⟩,rfl⟩,he,gP ⟨fT hq,by omega,by omega⟩,nA];unfold sR zS;rw[decide_eq_false yN,bWS,if_neg yN];rfl
   rw[aL h1,Wz,gP ⟨hn.kU,by omega⟩,wrap_i64 (n:=(bl (M6.val a):Int)+1) (by omega) (by omega),wrap_i64 (n:=e+((bl (M6.val a):Int)+1)) (by omega) (by omega),wrap_i64 (n:=k-e)]
   by_cases h2:k<e+((bl (M6.val a):Int)+1)
   ·rw[aQ h2,j8 _ (by omega) (by omega) rfl]
   ·rw[aL h2,j8 _ (by omega) (by omega) (bTQ (by rw[ha];omega) (by rw[ha];omega))]
def aJ:dO:=orc3 iW (pN .i64) pB sp
theorem ok:OK 108 aJ:=(fA E aE (aA lO.ok (aA mB.ok (aA Et.ok (aA rU.ok (aA aXP.ok (aA iX.ok aD)))))) func108).yM rfl spec
end pM
end W
namespace M
open Go AI W
theorem aEX{z e b:Int}(h:e<=b):pM.zS (aN z e) b=aN (z/p2 (b-e)) b:=by
 unfold pM.zS
 by_cases hz:z=0
 ·subst hz;rw[fC,if_pos (.inl rfl),Int.zero_ediv,fC]
 ·obtain⟨h1,h2⟩:=lE (e:=e) hz;have hn:(aN z e).1≠0:=fun h=>hz (dW.1 h)
  by_cases hb:b<=(aN z e).2
  ·rw[if_pos (.inr hb)];have g:=uG (e:=e) hz (cFZ e);rw[Int.sub_self,aBV,cGA]at g;have e1:p2 ((aN z e).2-e)=p2 ((aN z e).2-b)*p2 (b-e):=by rw[<-sG (by omega) (by omega)];congr 1;omega
   rw[e1,<-cAY]at g;have hp:=Kg (b-e);have:z/p2 (b-e)=(aN z e).1*p2 ((aN z e).2-b):=by
    generalize aN z e=p at *;rw[<-g,Int.mul_ediv_cancel _ (by omega)]
   rw[this,Ay _ _ (by omega),show b+((aN z e).2-b)=(aN z e).2 by omega,Oy Cm Dn]
  ·rw[aU];have e1:p2 (b-e)=p2 (b-(aN z e).2)*p2 (tz z.natAbs:Int):=by rw[<-sG (by omega) (by omega)];congr 1;omega
   rw[e1];have hp:=Kg (tz z.natAbs:Int);have:z/(p2 (b-(aN z e).2)*p2 (tz z.natAbs:Int))=(aN z e).1/p2 (b-(aN z e).2):=by
    generalize aN z e=p at *;generalize p2 (tz z.natAbs:Int)=q at *;rw[h1,cGS _ _ hp]
   rw[this];rfl
theorem Ze{z e b:Int}(_:e<=b)(hb0:-1048576<=b)(hb:b+((bl (z/p2 (b-e)).natAbs:Nat):Int)<=1048577):pM.sR (aN z e) b=true:=by
 unfold pM.sR
 by_cases hc:(aN z e).1=0\/b<=(aN z e).2
 ·rw[decide_eq_true hc,cAB]
 ·have hz:z≠0:=fun h=>hc (.inl (dW.2 h))
  obtain⟨h1,h2⟩:=lE (e:=e) hz;have e1:p2 (b-e)=p2 (b-(aN z e).2)*p2 (tz z.natAbs:Int):=by rw[<-sG (by omega) (by omega)];congr 1;omega
  have hp:=Kg (tz z.natAbs:Int);have:z/p2 (b-e)=(aN z e).1/p2 (b-(aN z e).2):=by
   rw[e1];generalize aN z e=p at *;generalize p2 (tz z.natAbs:Int)=q at *;rw[h1,cGS _ _ hp]
  rw[this]at hb;rw[decide_eq_false hc,bWS];exact gO hb0 hb
end M
namespace W
open Go AI M
namespace aI
def E:=mE [] 11 [] [] []
def aE:=bd f78
theorem aX:Nk E aE:=nk
theorem start a:aH E f78 aE [D.s (sc (int i64 a))]=letI A:=int i64 0;aB (a==32) (some [D.agg [sc (int i64 32),sc (int i64 24),sc (int i64 (-149:Int)),sc (int u64 2143289345)]]) (aB (a==64) (some [D.agg [sc (int i64 64),sc (int i64 53),sc (int i64 (-1074:Int)),sc (int u64 9221120237041090561)]]) (some [D.agg [sc A,sc A,sc A,sc (int u64 0)]])):=eJ aX
def fS(f:Int):Int×Int×Int×Int:=if f=32 then(32,24,-149,2143289345)else if f=64 then(64,53,-1074,9221120237041090561)else(0,0,0,0)
def bDS(s:Int×Int×Int×Int):D:=.agg [.sc (.int .i64 s.1),.sc (.int .i64 s.2.1),.sc (.int .i64 s.2.2.1),.sc (.int .u64 s.2.2.2)]
def uY(s:Int×Int×Int×Int):Prop:=s=(32,24,-149,2143289345)\/s=(64,53,-1074,9221120237041090561)
theorem two32:uY (32,24,-149,2143289345):=.inl rfl
theorem tD:uY (64,53,-1074,9221120237041090561):=.inr rfl
def sp(f:Int):Prop×List D:=(True,[bDS (fS f)])
theorem spec:jD E f78 aE (pN .i64) sp:=by
 intro f h;refine(start f).trans ?_;unfold sp fS
 try dsimp only
 by_cases h1:f=32
 ·rw[cN h1,if_pos h1];rfl
 ·rw[bM h1,if_neg h1]
  by_cases h2:f=64
  ·rw[cN h2,if_pos h2];rfl
  ·rw[bM h2,if_neg h2];rfl
def aJ:dO:=orc1 (pN .i64) sp
theorem ok:OK 78 aJ:=(fA E aE aD func78).pU rfl spec
end aI
namespace cE
def E:=mE [] 7 [] [] []
def aE:=bd f135
theorem aX:Nk E aE:=nk
theorem start a b c d:aH E f135 aE [D.agg [sc (int i64 a),sc (int i64 b),sc (int i64 c),sc (int u64 d)]]=if i64.wrap (a-1)<0 then none else some [D.s (sc (int u64 (u64.wrap ((1:Int)*(↑((2:Nat)^min (i64.wrap (a-1)).toNat 64):Int)))))]:=eJ aX
def cT(s:Int×Int×Int×Int):Int:=if s.1=32 then 2147483648 else 9223372036854775808
def sp(s:Int×Int×Int×Int):Prop×List D:=(aI.uY s,[.s (.sc (.int .u64 (cT s)))])
theorem spec:jD E f135 aE (pG (.pair (sN .i64) (.pair (sN .i64) (.pair (sN .i64) (sN .u64))))) sp:=by
 intro s h;refine(start s.1 s.2.1 s.2.2.1 s.2.2.2).trans ?_;rcases h with rfl |rfl
 ·rfl
 ·rfl
def aJ:dO:=orc1 (pG (.pair (sN .i64) (.pair (sN .i64) (.pair (sN .i64) (sN .u64))))) sp
theorem ok:OK 135 aJ:=(fA E aE aD func135).pU rfl spec
end cE
namespace cS
def E:=mE [(78,aI.aJ),(135,cE.aJ)] 36 [] [(6,[1,4,8])] [6]
def aE:=bd f77
theorem aX:Nk E aE:=nk
def J6 a b c d e f g h i:=mT E f77 aE 6 [dG a,dK 1 84 [cX b,cX c,cX d,Xr e],dK 2 84 [cX f,cX g,cX h,Xr i]]
theorem start a b:aH E f77 aE [D.s (sc (int i64 a)),D.s (sc (int u64 b))]=letI A:=aI.fS a;letI G:=int i64 A.snd.fst;letI F:=int u64 A.snd.snd.snd;letI C:=int i64 A.snd.snd.fst;letI B:=cS.J6 b 0 0 0 0 A.fst A.snd.fst A.snd.snd.fst A.snd.snd.snd;aO True (aB (A.fst==0&&(A.snd.fst==0&&(A.snd.snd.fst==0&&(A.snd.snd.snd==0&&true)))) (some [D.agg [sc (int i64 A.fst),sc G,sc C,sc F],D.s (sc (bool false)),D.s (sc (int u64 0)),D.s (sc (int i64 1))]) (aB (decide (A.fst<64)) (if A.fst<0 then none else aB (b/(↑((2:Nat)^min A.fst.toNat 64):Int) !=(0:Int)) (some [D.agg [sc (int i64 A.fst),sc G,sc C,sc F],D.s (sc (bool false)),D.s (sc (int u64 0)),D.s (sc (int i64 2))]) B) B)):=eJ aX
theorem Wy a b c d e f g h i:J6 a b c d e f g h i=letI A:=(f,g,h,i);aO (aI.uY A) (aO (aI.uY A) (some [D.agg [sc (int i64 f),sc (int i64 g),sc (int i64 h),sc (int u64 i)],D.s (sc (bool (fY BinOp.and u64 a (cE.cT A) !=0))),D.s (sc (int u64 (fY BinOp.andNot u64 a (cE.cT A)))),D.s (sc (int i64 0))])):=cJ aX
theorem Wm{a b:Int}(ha:0<=a)(bEP:a<18446744073709551616)(hb:0<=b)(uX:b<18446744073709551616):fY .andNot .u64 a b=((a.toNat &&& (2^64-(b.toNat+1)):Nat):Int):=by
 obtain⟨n,rfl⟩:=bZV ha;obtain⟨m,rfl⟩:=bZV hb;rw[wT];unfold bitsI0;simp only;have e:(BitVec.ofInt u64.bits (n:Int) &&& ~~~ BitVec.ofInt u64.bits (m:Int)).toNat=n &&& (2^64-(m+1)):=by
  show(BitVec.ofInt 64 (n:Int) &&& ~~~ BitVec.ofInt 64 (m:Int)).toNat=_;rw[BitVec.toNat_and,BitVec.toNat_not];have e1:(BitVec.ofInt 64 (n:Int)).toNat=n:=by simp;omega
  have e2:(BitVec.ofInt 64 (m:Int)).toNat=m:=by simp;omega
  rw[e1,e2];congr 1;omega
 have hle:n &&& (2^64-(m+1))<=n:=Nat.and_le_left;rw[e,wrap_u64];rfl
theorem Pq{n k:Nat}(hk:k<64)(h:n<2^(k+1)):n &&& (2^64-(2^k+1))=n%2^k:=by
 refine cFQ fun i=>?_
 have hp:2^k<2^64:=cCA (by decide) hk;rw[cFO,cGI hp,cFK,cGB]
 by_cases h1:i<k
 ·have:¬k=i:=by omega
  have bNE:i<64:=by omega
  simp[h1,this,bNE]
 ·by_cases h2:i=k
  ·subst h2;simp
  ·have:n<2^i:=bVO h (bXS (by decide) (by omega));rw[cGT this];simp
theorem aAP{n k:Nat}(h:n<2^(k+1)):(n &&& 2^k)=if 2^k<=n then 2^k else 0:=by
 refine cFQ fun i=>?_
 rw[cFO,cGB]
 by_cases h1:2^k<=n
 ·have ht:n.testBit k=true:=by
   rw[Nat.testBit_eq_decide_div_mod_eq];have:=cFI (k:=1) (show 1*2^k<=n by omega) (show n<(1+1)*2^k by rw[bZQ]at h;omega);rw[this];rfl
  rw[if_pos h1,cGB]
  by_cases hi:k=i
  ·subst hi;simp[ht]
  ·simp[hi]
 ·rw[if_neg h1,Nat.zero_testBit]
  by_cases hi:k=i
  ·subst hi;rw[cGT (by omega)];rfl
  ·simp[hi]
def fO(f b:Int):Bool:=decide (f=64)||decide (b<4294967296)
def sp(f b:Int):Prop×List D:=((f=32\/f=64)/\0<=b/\b<18446744073709551616,[aI.bDS (aI.fS f),.s (.sc (.bool (fO f b&&decide (cE.cT (aI.fS f)<=b)))),.s (.sc (.int .u64 (bif fO f b then b%cE.cT (aI.fS f)else 0))),.s (.sc (.int .i64 (bif fO f b then 0 else 2)))])
theorem spec:gU E f77 aE (pN .i64) (pN .u64) sp:=by
 rintro f b ⟨hf,h0,h1⟩;obtain⟨n,rfl⟩:=bZV h0;refine(start f n).trans ((gP trivial).trans ?_);unfold sp
 try dsimp only
 rcases hf with rfl |rfl
 ·rw[show aI.fS 32=(32,24,-149,2143289345)from rfl]
  try dsimp only
  rw[Sj (by decide),aQ (by decide),if_neg (by decide),show min (32:Int).toNat 64=32 from rfl,show cE.cT (32,24,-149,2143289345)=2147483648 from rfl]
  by_cases hc:(n:Int)<4294967296
  ·have hp:fO 32 n=true:=by unfold fO;rw[decide_eq_true hc,Bool.or_true]
   have a1:fY .and .u64 (n:Int) 2147483648=if(2147483648:Int)<=n then 2147483648 else 0:=by
    rw[Wn (by omega) (by omega) (by omega) (by omega),bYO];have:=aAP (n:=n) (k:=31) (by omega);rw[show(2147483648:Int).toNat=2^31 from rfl,this];split <;> split <;> first |rfl |omega
   have a2:fY .andNot .u64 (n:Int) 2147483648=(n:Int)%2147483648:=by
    rw[Wm (by omega) (by omega) (by omega) (by omega),bYO,show(2147483648:Int).toNat=2^31 from rfl,Pq (by omega) (by omega)];omega
   rw[gE,Wy,gP aI.two32,gP aI.two32,show cE.cT (32,24,-149,2143289345)=2147483648 from rfl,a1,a2,hp]
   by_cases hd:(2147483648:Int)<=n
   ·rw[if_pos hd,decide_eq_true hd];rfl
   ·rw[if_neg hd,decide_eq_false hd];rfl
  ·have hp:fO 32 n=false:=by unfold fO;rw[decide_eq_false hc];rfl
   rw[oI,hp];rfl
 ·rw[show aI.fS 64=(64,53,-1074,9221120237041090561)from rfl]
  try dsimp only
  have hp:fO 64 n=true:=rfl;have a1:fY .and .u64 (n:Int) 9223372036854775808=if(9223372036854775808:Int)<=n then 9223372036854775808 else 0:=by
   rw[Wn (by omega) (by omega) (by omega) (by omega),bYO];have:=aAP (n:=n) (k:=63) (by omega);rw[show(9223372036854775808:Int).toNat=2^63 from rfl,this];split <;> split <;> first |rfl |omega
  have a2:fY .andNot .u64 (n:Int) 9223372036854775808=(n:Int)%9223372036854775808:=by
   rw[Wm (by omega) (by omega) (by omega) (by omega),bYO,show(9223372036854775808:Int).toNat=2^63 from rfl,Pq (by omega) (by omega)];omega
  rw[Sj (by decide),aL (by decide),Wy,gP aI.tD,gP aI.tD,show cE.cT (64,53,-1074,9221120237041090561)=9223372036854775808 from rfl,a1,a2,hp]
  by_cases hd:(9223372036854775808:Int)<=n
  ·rw[if_pos hd,decide_eq_true hd];rfl
  ·rw[if_neg hd,decide_eq_false hd];rfl
def aJ:dO:=orc2 (pN .i64) (pN .u64) sp
theorem ok:OK 77 aJ:=(fA E aE (aA aI.ok (aA cE.ok aD)) func77).mV rfl spec
end cS
namespace cG
def E:=mE [] 7 [] [] []
def aE:=bd f94
theorem aX:Nk E aE:=nk
theorem start a b c d:aH E f94 aE [D.agg [sc (int i64 a),sc (int i64 b),sc (int i64 c),sc (int u64 d)]]=if i64.wrap (b-1)<0 then none else some [D.s (sc (int u64 (u64.wrap ((1:Int)*(↑((2:Nat)^min (i64.wrap (b-1)).toNat 64):Int)))))]:=eJ aX
def kI(s:Int×Int×Int×Int):Int:=if s.1=32 then 8388608 else 4503599627370496
def sp(s:Int×Int×Int×Int):Prop×List D:=(aI.uY s,[.s (.sc (.int .u64 (kI s)))])
theorem spec:jD E f94 aE (pG (.pair (sN .i64) (.pair (sN .i64) (.pair (sN .i64) (sN .u64))))) sp:=by
 intro s h;refine(start s.1 s.2.1 s.2.2.1 s.2.2.2).trans ?_;rcases h with rfl |rfl
 ·rfl
 ·rfl
def aJ:dO:=orc1 (pG (.pair (sN .i64) (.pair (sN .i64) (.pair (sN .i64) (sN .u64))))) sp
theorem ok:OK 94 aJ:=(fA E aE aD func94).pU rfl spec
end cG
namespace jZ
def E:=mE [(135,cE.aJ),(94,cG.aJ)] 8 [] [] []
def aE:=bd f81
theorem aX:Nk E aE:=nk
theorem start a b c d:aH E f81 aE [D.agg [sc (int i64 a),sc (int i64 b),sc (int i64 c),sc (int u64 d)]]=letI A:=(a,b,c,d);aO (aI.uY A) (aO (aI.uY A) (some [D.s (sc (int u64 (u64.wrap (cE.cT A-cG.kI A))))])):=eJ aX
def lK(s:Int×Int×Int×Int):Int:=if s.1=32 then 2139095040 else 9218868437227405312
def sp(s:Int×Int×Int×Int):Prop×List D:=(aI.uY s,[.s (.sc (.int .u64 (lK s)))])
theorem spec:jD E f81 aE (pG (.pair (sN .i64) (.pair (sN .i64) (.pair (sN .i64) (sN .u64))))) sp:=by
 intro s h;refine(start s.1 s.2.1 s.2.2.1 s.2.2.2).trans ((gP h).trans ((gP h).trans ?_));rcases h with rfl |rfl
 ·rfl
 ·rfl
def aJ:dO:=orc1 (pG (.pair (sN .i64) (.pair (sN .i64) (.pair (sN .i64) (sN .u64))))) sp
theorem ok:OK 81 aJ:=(fA E aE (aA cE.ok (aA cG.ok aD)) func81).pU rfl spec
end jZ
namespace cA
def E:=mE [(77,cS.aJ),(81,jZ.aJ)] 33 [15] [] []
def aE:=bd f42
theorem aX:Nk E aE:=nk
theorem start a b:aH E f42 aE [D.s (sc (int i64 a)),D.s (sc (int u64 b))]=letI F:=bif cS.fO a b then(0:Int)else(2:Int);letI B:=aI.fS a;letI I:=int i64 B.snd.fst;letI H:=int u64 B.snd.snd.snd;letI G:=int i64 B.snd.snd.fst;letI C:=(B.fst,B.snd.fst,B.snd.snd.fst,B.snd.snd.snd);letI A:=some [D.agg [sc (int i64 B.fst),sc I,sc G,sc H],D.s (sc (bool (cS.fO a b&&decide (cE.cT B<=b)))),D.s (sc (int u64 (bif cS.fO a b then b%cE.cT B else(0:Int)))),D.s (sc (int i64 F))];aO ((a=32\/a=64)/\0<=b/\b<18446744073709551616) (aB (F==0) (aO (aI.uY C) (aB (decide (jZ.lK C<=bif cS.fO a b then b%cE.cT B else(0:Int))) (some [D.agg [sc (int i64 B.fst),sc I,sc G,sc H],D.s (sc (bool false)),D.s (sc (int u64 0)),D.s (sc (int i64 6))]) A)) A):=eJ aX
def jB(f b:Int):Bool:=decide (b%cE.cT (aI.fS f)<jZ.lK (aI.fS f))
theorem De{f:Int}(h:f=32\/f=64):aI.uY (aI.fS f):=by
 rcases h with rfl |rfl
 ·exact .inl rfl
 ·exact .inr rfl
def sp(f b:Int):Prop×List D:=((f=32\/f=64)/\0<=b/\b<18446744073709551616,[aI.bDS (aI.fS f),.s (.sc (.bool (cS.fO f b&&(jB f b&&decide (cE.cT (aI.fS f)<=b))))),.s (.sc (.int .u64 (bif cS.fO f b&&jB f b then b%cE.cT (aI.fS f)else 0))),.s (.sc (.int .i64 (bif cS.fO f b then(bif jB f b then 0 else 6)else 2)))])
theorem spec:gU E f42 aE (pN .i64) (pN .u64) sp:=by
 intro f b h;refine(start f b).trans ((gP h).trans ?_);unfold sp jB
 try dsimp only
 have ht:=De h.1;generalize aI.fS f=s at *;obtain⟨s1,s2,s3,s4⟩:=s;cases hp:cS.fO f b with
 |false=>rfl
 |true =>
  try dsimp only[cond_true,bXT]
  rw[cN rfl,gP ht]
  by_cases hc:b%cE.cT (s1,s2,s3,s4)<jZ.lK (s1,s2,s3,s4)
  ·rw[aL,decide_eq_true hc];rfl
  ·rw[aQ,decide_eq_false hc];rfl
def aJ:dO:=orc2 (pN .i64) (pN .u64) sp
theorem ok:OK 42 aJ:=(fA E aE (aA cS.ok (aA jZ.ok aD)) func42).mV rfl spec
end cA
namespace dU
def E:=mE [(94,cG.aJ)] 31 [] [] []
def aE:=bd f43
theorem aX:Nk E aE:=nk
theorem start a c d e b:aH E f43 aE [D.agg [sc (int i64 a),sc (int i64 c),sc (int i64 d),sc (int u64 e)],D.s (sc (int u64 b))]=letI B:=(a,c,d,e);letI C:=aI.uY B;letI A:=cG.kI B;aO C (if cG.kI B=0 then none else aO C (if cG.kI B=0 then none else aB (u64.wrap (b.tdiv A)==0) (some [D.s (sc (int u64 (b.tmod A))),D.s (sc (int i64 d))]) (aO C (some [D.s (sc (int u64 (u64.wrap (cG.kI B+b.tmod A)))),D.s (sc (int i64 (i64.wrap (i64.wrap (d+i64.wrap (u64.wrap (b.tdiv A)))-1))))])))):=eJ aX
def qF(s:Int×Int×Int×Int)(n:Int):Int:=if n/cG.kI s=0 then n%cG.kI s else cG.kI s+n%cG.kI s
def tW(s:Int×Int×Int×Int)(n:Int):Int:=if n/cG.kI s=0 then s.2.2.1 else s.2.2.1+n/cG.kI s-1
def sp(s:Int×Int×Int×Int)(n:Int):Prop×List D:=(aI.uY s/\0<=n/\n<9223372036854775808,[.s (.sc (.int .u64 (qF s n))),.s (.sc (.int .i64 (tW s n)))])
theorem spec:gU E f43 aE (pG (.pair (sN .i64) (.pair (sN .i64) (.pair (sN .i64) (sN .u64))))) (pN .u64) sp:=by
 rintro s n ⟨ht,h0,h1⟩;obtain⟨s1,s2,s3,s4⟩:=s;refine(start s1 s2 s3 s4 n).trans ?_;have hh:cG.kI (s1,s2,s3,s4)=8388608\/cG.kI (s1,s2,s3,s4)=4503599627370496:=by
  unfold cG.kI;split <;> simp
 have hs:-1074<=s3/\s3<=0:=by rcases ht with ht |ht <;> (cases ht;omega)
 unfold sp qF tW
 try dsimp only
 rw[gP ht,gP ht,gP ht];generalize cG.kI (s1,s2,s3,s4)=d at *;have t1:n.tdiv d=n/d:=cDF h0;have t2:n.tmod d=n%d:=cDG h0;have b1:0<=n/d/\n/d<9223372036854775808:=by rcases hh with rfl |rfl <;> omega
 have b2:0<=n%d/\n%d<4503599627370496:=by rcases hh with rfl |rfl <;> omega
 rw[t1,t2,aU,aU,wrap_u64 (n:=n/d)]
 by_cases hz:n/d=0
 ·rw[cN hz,if_pos hz,if_pos hz]
 ·rw[bM hz,if_neg hz,if_neg hz,wrap_u64,wrap_i64 (n:=n/d),wrap_i64 (n:=s3+n/d),wrap_i64]
def aJ:dO:=orc2 (pG (.pair (sN .i64) (.pair (sN .i64) (.pair (sN .i64) (sN .u64))))) (pN .u64) sp
theorem ok:OK 43 aJ:=(fA E aE (aA cG.ok aD) func43).mV rfl spec
end dU
namespace Th
def E:=mE [(95,oA.aJ),(50,iX.aJ)] 20 [17] [] []
def aE:=bd f44
theorem aX:Nk E aE:=nk
theorem start a b c:aH E f44 aE [D.s (sc (bool a)),D.s (sc (int u64 b)),D.s (sc (int i64 c))]=letI G:=(b !=0,M6.dg b.toNat);letI F:=wv (bif true then b !=0 else false,M6.dg b.toNat);letI C:=(false,M6.dg b.toNat);letI B:=bif gT (wv C) c then aN (wv C) c else((0:Int),(0:Int));letI A:=bif gT F c then aN F c else((0:Int),(0:Int));aB a (aO (0<=b/\b<18446744073709551616) (aO (gI G/\(-9223372036854775808:Int)<=c/\c<9223372036854775808) (some [D.agg [sc (bool (isNeg A.fst)),ints u64 (M6.dg A.fst.natAbs),sc (int i64 A.snd)],D.s (sc (int i64 (bif gT (wv G) c then(0:Int)else(5:Int))))]))) (aO (0<=b/\b<18446744073709551616) (aO (gI C/\(-9223372036854775808:Int)<=c/\c<9223372036854775808) (some [D.agg [sc (bool (isNeg B.fst)),ints u64 (M6.dg B.fst.natAbs),sc (int i64 B.snd)],D.s (sc (int i64 (bif gT (wv C) c then(0:Int)else(5:Int))))]))):=eJ aX
def sp(a:Bool)(b c:Int):Prop×List D:=((0<=b/\b<18446744073709551616)/\-9223372036854775808<=c/\c<9223372036854775808,dE (gT (zs a b.toNat) c) (aN (zs a b.toNat) c))
theorem spec:oP E f44 aE pB (pN .u64) (pN .i64) sp:=by
 rintro a b c ⟨hb,hc⟩;refine(start a b c).trans ?_;have hl:=fM (n:=b.toNat) (k:=1) (dA.2 (by omega));have aRM:∀s:Bool,wv (s,M6.dg b.toNat)=zs s b.toNat:=fun s=>by show zs s (M6.val (M6.dg b.toNat))=_;rw[M6.bN]
 have h0:gI (false,M6.dg b.toNat):=⟨M6.aY _,fun h=>Bool.noConfusion h,(by omega:(M6.dg b.toNat).length<=8192)⟩;cases a with
 |false =>
  rw[bF,gP hb,gP ⟨h0,hc⟩,aRM];rfl
 |true =>
  have h1:gI (b !=0,M6.dg b.toNat):=⟨M6.aY _,fun h=>by
   have hb0:b≠0:=bne_iff_ne.1 h;show M6.val (M6.dg b.toNat)≠0;rw[M6.bN];omega,by show(M6.dg b.toNat).length<=8192;omega⟩
  have e:zs (b !=0) b.toNat=zs true b.toNat:=by
   by_cases hb0:b=0
   ·subst hb0;rfl
   ·rw[bne_iff_ne.2 hb0]
  rw[bT]
  try dsimp only[cond_true]
  rw[gP hb,gP ⟨h1,hc⟩,aRM,e];rfl
def aJ:dO:=orc3 pB (pN .u64) (pN .i64) sp
theorem ok:OK 44 aJ:=(fA E aE (aA oA.ok (aA iX.ok aD)) func44).yM rfl spec
end Th
namespace bP
def E:=mE [(42,cA.aJ),(43,dU.aJ),(44,Th.aJ)] 36 [15,33] [] []
def aE:=bd f12
theorem aX:Nk E aE:=nk
theorem start a b:aH E f12 aE [D.s (sc (int i64 a)),D.s (sc (int u64 b))]=letI H:=bif cS.fO a b then bif cA.jB a b then(0:Int)else(6:Int)else(2:Int);letI C:=aI.fS a;letI F:=(C.fst,C.snd.fst,C.snd.snd.fst,C.snd.snd.snd);letI B:=bif cS.fO a b&&cA.jB a b then b%cE.cT C else(0:Int);letI I:=dU.tW F B;letI G:=zs (cS.fO a b&&(cA.jB a b&&decide (cE.cT C<=b))) (dU.qF F B).toNat;letI A:=bif gT G I then aN G I else((0:Int),(0:Int));aO ((a=32\/a=64)/\0<=b/\b<18446744073709551616) (aB (H !=0) (some [D.agg [sc (bool false),sc (slice none 0 0),sc (int i64 0)],D.s (sc (int i64 H))]) (aO (aI.uY F/\(0<=bif cS.fO a b&&cA.jB a b then b%cE.cT C else(0:Int))/\B<9223372036854775808) (aO ((0<=dU.qF F B/\dU.qF F B<18446744073709551616)/\(-9223372036854775808:Int)<=dU.tW F B/\dU.tW F B<9223372036854775808) (some [D.agg [sc (bool (isNeg A.fst)),ints u64 (M6.dg A.fst.natAbs),sc (int i64 A.snd)],D.s (sc (int i64 (bif gT G I then(0:Int)else(5:Int))))])))):=eJ aX
def nB(f b:Int):Int:=zs (decide (cE.cT (aI.fS f)<=b)) (dU.qF (aI.fS f) (b%cE.cT (aI.fS f))).toNat
def nH(f b:Int):Int:=dU.tW (aI.fS f) (b%cE.cT (aI.fS f))
def sp(f b:Int):Prop×List D:=((f=32\/f=64)/\0<=b/\b<18446744073709551616,[dD (bif cS.fO f b&&cA.jB f b then aN (nB f b) (nH f b)else(0,0)),.s (.sc (.int .i64 (bif cS.fO f b then(bif cA.jB f b then 0 else 6)else 2)))])
theorem Re{s:Int×Int×Int×Int}{n:Int}(_:aI.uY s)(_:0<=n):0<=dU.qF s n/\dU.qF s n<9007199254740992:=by
 unfold dU.qF cG.kI;split <;> split <;> omega
theorem Rt{s:Int×Int×Int×Int}{n:Int}(ht:aI.uY s)(h0:0<=n)(h1:n<jZ.lK s):-1074<=dU.tW s n/\dU.tW s n<1024:=by
 rcases ht with rfl |rfl
 ·unfold dU.tW;have:n<2139095040:=h1;rw[show cG.kI (32,24,-149,2143289345)=8388608 from rfl]
  try dsimp only
  split <;> omega
 ·unfold dU.tW;have:n<9218868437227405312:=h1;rw[show cG.kI (64,53,-1074,9221120237041090561)=4503599627370496 from rfl]
  try dsimp only
  split <;> omega
theorem aUI{z e:Int}(hz:z.natAbs<9007199254740992)(h0:-1074<=e)(h1:e<1024):gT z e=true:=by
 unfold gT
 by_cases hc:z=0
 ·rw[decide_eq_true hc,cAB]
 ·have h2:=Dd (n:=z.natAbs) (by omega);have h3:bl z.natAbs<=53:=dA.2 (by omega);rw[decide_eq_true (show -1048576<=e+(tz z.natAbs:Int) by omega),decide_eq_true (show e+(tz z.natAbs:Int)<=1048576 by omega),bXT,Bool.or_true]
theorem spec:Oe E f12 aE (pN .i64) (pN .u64) sp:=by
 intro f b h;have e:=(start f b).trans (gP h);have ht:=cA.De h.1;have hb0:0<=b:=h.2.1;unfold sp
 try dsimp only
 cases hp:cS.fO f b with
 |false =>
  rw[hp]at e;refine⟨_,e,.cons ?_ (iE.refl _)⟩;unfold dD;rw[cAA,cond_false,show((0,0):Int×Int).1.natAbs=0 from rfl,M6.cF];exact yQ.agg (.cons (Cu.refl _) (.cons (Cu.nil _) (yE.refl _)))
 |true =>
  rw[hp]at e;cases hq:cA.jB f b with
  |false =>
   rw[hq]at e;refine⟨_,e,.cons ?_ (iE.refl _)⟩;unfold dD;rw[cAD,cond_false,show((0,0):Int×Int).1.natAbs=0 from rfl,M6.cF];exact yQ.agg (.cons (Cu.refl _) (.cons (Cu.nil _) (yE.refl _)))
  |true =>
   rw[hq]at e;have Bn:0<=b%cE.cT (aI.fS f):=by
    unfold cE.cT;split <;> omega
   have oV:b%cE.cT (aI.fS f)<jZ.lK (aI.fS f):=of_decide_eq_true hq;have hinf:jZ.lK (aI.fS f)<=9218868437227405312:=by unfold jZ.lK;split <;> omega
   have hm:=Re ht Bn;have hx:=Rt ht Bn oV;rw[show(true&&true)=true from rfl]at e
   try dsimp only[cond_true]at e
   rw[show((aI.fS f).1,(aI.fS f).2.1,(aI.fS f).2.2.1,(aI.fS f).2.2.2)=aI.fS f from rfl]at e;rw[gE rfl,gP ⟨ht,Bn,by omega⟩,gP ⟨⟨hm.1,by omega⟩,by omega,by omega⟩]at e;refine⟨_,e,?_⟩;have hi:gT (nB f b) (nH f b)=true:=aUI (by unfold nB;rw[lP];omega) hx.1 hx.2;unfold nB nH at hi;unfold nB nH;rw[show(true&&(true&&decide (cE.cT (aI.fS f)<=b)))=decide (cE.cT (aI.fS f)<=b)from rfl,hi];exact iE.refl _
def aJ:dO:=orc2 (pN .i64) (pN .u64) sp
theorem ok:OK 12 aJ:=(fA E aE (aA cA.ok (aA dU.ok (aA Th.ok aD))) func12).aNH rfl spec
end bP
namespace aFX
def E:=mE [(95,oA.aJ),(105,Cy.aJ)] 14 [] [] []
def aE:=bd f51
theorem aX:Nk E aE:=nk
theorem start a:aH E f51 aE [D.s (sc (int i64 a))]=letI B:=M6.dg (u64.wrap a).toNat;letI C:=zs false (M6.val B);letI A:=M6.dg (u64.wrap ((0:Int)-u64.wrap a)).toNat;letI F:=zs true (M6.val A);aB (decide (a<0)) (aO (0<=u64.wrap ((0:Int)-u64.wrap a)/\u64.wrap ((0:Int)-u64.wrap a)<18446744073709551616) (aO (M6.cR A/\A.length<=1099511627776) (some [D.agg [sc (bool (isNeg F)),ints u64 (M6.dg F.natAbs)]]))) (aO (0<=u64.wrap a/\u64.wrap a<18446744073709551616) (aO (M6.cR B/\B.length<=1099511627776) (some [D.agg [sc (bool (isNeg C)),ints u64 (M6.dg C.natAbs)]]))):=eJ aX
def sp(a:Int):Prop×List D:=(-9223372036854775808<=a/\a<9223372036854775808,[wD a])
theorem spec:jD E f51 aE (pN .i64) sp:=by
 rintro a ⟨h1,h2⟩;refine(start a).trans ?_;show _=some [wD a]
 by_cases hn:a<0
 ·have w1:u64.wrap (0-u64.wrap a)=(a.natAbs:Int):=by rw[fK,fK];omega
  have hl:=fM (n:=a.natAbs) (k:=1) (dA.2 (by omega));rw[aQ hn,w1,bYO,gP ⟨by omega,by omega⟩,gP ⟨M6.aY _,by omega⟩,M6.bN];have:zs true a.natAbs=a:=by show -(a.natAbs:Int)=a;omega
  rw[this];rfl
 ·have w1:u64.wrap a=(a.natAbs:Int):=by rw[fK];omega
  have hl:=fM (n:=a.natAbs) (k:=1) (dA.2 (by omega));rw[aL hn,w1,bYO,gP ⟨by omega,by omega⟩,gP ⟨M6.aY _,by omega⟩,M6.bN];have:zs false a.natAbs=a:=by show((a.natAbs:Nat):Int)=a;omega
  rw[this];rfl
def aJ:dO:=orc1 (pN .i64) sp
theorem ok:OK 51 aJ:=(fA E aE (aA oA.ok (aA Cy.ok aD)) func51).pU rfl spec
end aFX
namespace Wt
def E:=mE [(51,aFX.aJ),(50,iX.aJ)] 15 [] [] []
def aE:=bd f57
theorem aX:Nk E aE:=nk
theorem start a b:aH E f57 aE [D.s (sc (int i64 a)),D.s (sc (int i64 b))]=letI B:=(isNeg a,M6.dg a.natAbs);letI A:=bif gT (wv B) b then aN (wv B) b else((0:Int),(0:Int));aO ((-9223372036854775808:Int)<=a/\a<9223372036854775808) (aO (gI B/\(-9223372036854775808:Int)<=b/\b<9223372036854775808) (some [D.agg [sc (bool (isNeg A.fst)),ints u64 (M6.dg A.fst.natAbs),sc (int i64 A.snd)]])):=eJ aX
def sp(m e:Int):Prop×List D:=((-9223372036854775808<=m/\m<9223372036854775808)/\-9223372036854775808<=e/\e<9223372036854775808,[dD (bif gT m e then aN m e else(0,0))])
theorem spec:gU E f57 aE (pN .i64) (pN .i64) sp:=by
 rintro m e ⟨h1,h2⟩;refine(start m e).trans ?_;have hb:bl m.natAbs<=64:=dA.2 (by omega);rw[gP h1,gP ⟨fT (by omega),h2⟩,nA];rfl
def aJ:dO:=orc2 (pN .i64) (pN .i64) sp
theorem ok:OK 57 aJ:=(fA E aE (aA aFX.ok (aA iX.ok aD)) func57).mV rfl spec
end Wt
namespace Td
def E:=mE [(108,pM.aJ)] 11 [8] [] []
def aE:=bd f58
theorem aX:Nk E aE:=nk
theorem start a c d b:aH E f58 aE [D.agg [sc (bool a),ints u64 c,sc (int i64 d)],D.s (sc (int i64 b))]=letI B:=dv (a,c,d);letI A:=bif pM.sR B b then pM.zS B b else((0:Int),(0:Int));aO (aP (a,c,d)/\((-4611686018427387904:Int)<=b/\b<4611686018427387904)/\false=false) (some [D.agg [sc (bool (isNeg A.fst)),ints u64 (M6.dg A.fst.natAbs),sc (int i64 A.snd)],D.s (sc (int i64 (bif pM.sR B b then(0:Int)else(5:Int))))]):=eJ aX
def sp(x:gB)(b:Int):Prop×List D:=(aP x/\-4611686018427387904<=b/\b<4611686018427387904,dE (pM.sR (dv x) b) (pM.zS (dv x) b))
theorem spec:gU E f58 aE iW (pN .i64) sp:=fun x b h =>
 (start x.1 x.2.1 x.2.2 b).trans (gP ⟨h.1,h.2,rfl⟩)
def aJ:dO:=orc2 iW (pN .i64) sp
theorem ok:OK 58 aJ:=(fA E aE (aA pM.ok aD) func58).mV rfl spec
end Td
namespace aNG
def E:=mE [(45,lO.aJ),(47,Et.aJ),(46,mB.aJ)] 22 [] [] []
def aE:=bd f68
theorem aX:Nk E aE:=nk
theorem start a b c:aH E f68 aE [D.agg [sc (bool a),ints u64 b,sc (int i64 c)]]=aO (aP (a,b,c)) (aO (b.length<=1099511627776) (aB (!a) (aO True (some [D.agg [sc (bool !(b.length:Int)==(0:Int)),ints u64 b,sc (int i64 c)],D.s (sc (int i64 0))])) (some [D.agg [sc (bool false),ints u64 b,sc (int i64 c)],D.s (sc (int i64 0))]))):=eJ aX
def sp(x:gB):Prop×List D:=(aP x,dE true (-(dv x).1,(dv x).2))
theorem spec:jD E f68 aE iW sp:=by
 intro x h;have h:aP x:=h;have hl:=h.len;have hc:=h.Db.cells;refine(start x.1 x.2.1 x.2.2).trans ?_;obtain⟨b,a,e⟩:=x
 try dsimp only at *
 unfold sp
 try dsimp only
 rw[gP h,gP];have hz:=M6.dY h.Hp;have ha:=iF (b,a)
 try dsimp only at ha hz
 have e1:dE true (-(dv (b,a,e)).1,(dv (b,a,e)).2)=[D.agg [.sc (.bool (isNeg (-(wv (b,a))))),.ints .u64 a,.sc (.int .i64 e)],.s (.sc (.int .i64 0))]:=by
  show [M.dD (-(wv (b,a)),e),_]=_;unfold M.dD
  try dsimp only
  rw[cBC,hc.2];rfl
 rw[e1];cases b with
 |true =>
  have:wv (true,a)=-(M6.val a:Int):=Qf (x:=(true,a)) rfl;rw[bWR,bF,iM.2 (by omega)]
 |false =>
  have hw:wv (false,a)=(M6.val a:Int):=Ev (x:=(false,a)) rfl;rw[cFY,bT,gP trivial]
  by_cases h0:a.length=0
  ·rw[beq_iff_eq.2 (show(a.length:Int)=0 by omega),iM.2 (by have:=hz.1 h0;omega)];rfl
  ·rw[beq_eq_false_iff_ne.2 (show(a.length:Int)≠0 by omega),nJ.2 (by have:M6.val a≠0:=fun h=>h0 (hz.2 h);omega)];rfl
def aJ:dO:=orc1 iW sp
theorem ok:OK 68 aJ:=(fA E aE (aA lO.ok (aA Et.ok (aA mB.ok aD))) func68).pU rfl spec
end aNG
namespace Tc
def E:=mE [(68,aNG.aJ),(13,bI.aJ)] 22 [10,19] [] []
def aE:=bd f59
theorem aX:Nk E aE:=nk
theorem start a b c d e f:aH E f59 aE [D.agg [sc (bool a),ints u64 b,sc (int i64 c)],D.agg [sc (bool d),ints u64 e,sc (int i64 f)]]=letI G:=dv (a,b,c);letI F:=dv (d,e,f);letI C:=bif true then(-F.fst,F.snd)else((0:Int),(0:Int));letI A:=dv (isNeg C.fst,M6.dg C.fst.natAbs,C.snd);letI B:=bif bI.jW G A then bI.nC G A else((0:Int),(0:Int));aO (aP (d,e,f)) (aO (aP (a,b,c)/\aP (isNeg (-F.fst),M6.dg (-F.fst).natAbs,F.snd)) (some [D.agg [sc (bool (isNeg B.fst)),ints u64 (M6.dg B.fst.natAbs),sc (int i64 B.snd)],D.s (sc (int i64 (bif bI.jW G A then(0:Int)else(5:Int))))])):=eJ aX
def sp(x y:gB):Prop×List D:=(aP x/\aP y,dE (bI.jW (dv x) (-(dv y).1,(dv y).2)) (bI.nC (dv x) (-(dv y).1,(dv y).2)))
theorem spec:gU E f59 aE iW iW sp:=by
 rintro x y ⟨hx,hy⟩;refine(start x.1 x.2.1 x.2.2 y.1 y.2.1 y.2.2).trans ?_;have hn:=dJ hy.uZ.neg;have hv:=dT (-(dv y).1,(dv y).2);rw[gP hy,gP ⟨hx,hn⟩]
 try dsimp only[cond_true]at hv ⊢
 rw[hv];rfl
def aJ:dO:=orc2 iW iW sp
theorem ok:OK 59 aJ:=(fA E aE (aA aNG.ok (aA bI.ok aD)) func59).mV rfl spec
end Tc
end W
namespace M6
open Go M
def pT(n v:Nat):List Int:=dg v ++ bWU (n-(dg v).length) 0
theorem lV{n v:Nat}:val (pT n v)=v:=by
 unfold pT;rw[jH,jU,bN];omega
theorem lW{n v:Nat}:cZ (pT n v):=qL.2 ⟨lG _,kY _⟩
theorem iG{n v:Nat}(h:v<18446744073709551616^n):(pT n v).length=n:=by
 have:=dZ h;unfold pT;rw[List.length_append,List.length_replicate];omega
theorem oW {a : List Int} {n v : Nat} (h : cZ a) (hl : a.length = n) (hv : val a = v) : a = pT n v := by
  subst hl; subst hv
  obtain ⟨k, hk⟩ := Ge h
  unfold pT
  have : a.length = (dg (val a)).length + k := by conv => lhs; rw [hk]
                                                  simp
  rw [this, Nat.add_sub_cancel_left]
  exact hk
theorem aKX{n:Nat}:pT n 0=bWU n 0:=by simp[pT,cF]
theorem aKY{n v:Nat}:(pT n v).take (dg v).length=dg v:=by
 unfold pT;exact List.take_left
theorem qR{a:List Int}{j:Nat}(hj:j<a.length)(d:Int):val (a.set j d)+18446744073709551616^j*(a.getD j 0).toNat=val a+18446744073709551616^j*d.toNat:=by
 have h1:=iY (a.set j d) (n:=j) (by simp;omega);have h2:=iY a (n:=j) (by omega);rw[xC hj,cFJ (bUR j)]at h1;rw[jM (a:=a) j]at h2;rw[h1,h2,bZR,bZR];omega
theorem qB{m n:Nat}(h:m<=n):18446744073709551616^m<=18446744073709551616^n:=bXS (by omega) h
theorem Ur{a:List Int}(h:cR a):∀k,cR (a.drop k)
 |0=>h
 |k+1=>by
  match a,h with
  | [],h=>simpa using h
  |d :: a,h=>exact Ur (Uq h) k
theorem tJ{a:List Int}(h:cZ a)(k:Nat):val (a.take k)=val a%18446744073709551616^k:=by
 by_cases hk:k<=a.length
 ·rw[iY a hk,cGU,cFC (iL h k)]
 ·rw[dR (by omega),cFC];exact bVO (dS h) (qB (by omega))
theorem nG{a:List Int}(h:cZ a)(k:Nat):val (a.drop k)=val a/18446744073709551616^k:=by
 by_cases hk:k<=a.length
 ·have h1:=iY a hk;have h2:=iL h k;rw[h1,cBW _ _ (cY),cAK h2,bUT]
 ·rw[cGC (by omega),cAK]
  ·rfl
  ·exact bVO (dS h) (qB (by omega))
theorem Au(v o n:Nat):v=v%18446744073709551616^o+18446744073709551616^o*(v/18446744073709551616^o%18446744073709551616^n)+18446744073709551616^(o+n)*(v/18446744073709551616^(o+n)):=by
 have h1:=cFF v (18446744073709551616^o);have h2:=cFF (v/18446744073709551616^o) (18446744073709551616^n);rw[cAL,<-bZS]at h2
 conv=>lhs;rw[<-h1,<-h2]
 rw[bZR,<-bZT,<-bZS];omega
theorem Tp{v v' o n X c:Nat}(h1:v'%18446744073709551616^o=v%18446744073709551616^o)(h2:v'/18446744073709551616^(o+n)=v/18446744073709551616^(o+n))(h:v'+18446744073709551616^o*X=v+18446744073709551616^(o+n)*c) :
  v'/18446744073709551616^o%18446744073709551616^n+X=v/18446744073709551616^o%18446744073709551616^n+18446744073709551616^n*c:=by
 have e1:=Au v o n;have e2:=Au v' o n;rw[h1,h2]at e2;apply Nat.eq_of_mul_eq_mul_left (bXR (n:=o) (by omega:0<18446744073709551616));have e3:18446744073709551616^(o+n)*c=18446744073709551616^o*(18446744073709551616^n*c):=by rw[bZS,bZT]
 rw[e3]at h;rw[bZR,bZR];omega
theorem Xq(v o n:Nat):v/18446744073709551616^o%18446744073709551616^n<18446744073709551616^n:=bWZ _ (cY)
theorem Tq{z z':List Int}(hd:cZ z)(Bu:cZ z'){o n:Nat}(h1:z'.take o=z.take o)(h2:z'.drop (o+n)=z.drop (o+n)):val z'%18446744073709551616^o=val z%18446744073709551616^o/\val z'/18446744073709551616^(o+n)=val z/18446744073709551616^(o+n):=by
 rw[<-tJ hd,<-tJ Bu,h1,<-nG hd,<-nG Bu,h2];exact⟨rfl,rfl⟩
end M6
namespace W
open Go AI M
namespace aMV
def E:=mE [(147,Ah.aJ)] 18 [] [] []
def aE:=bd f193
theorem aX:Nk E aE:=nk
theorem start a:aH E f193 aE [D.s (ints u64 a)]=letI B:=M6.dg (M6.val a);letI A:=(B.length:Int);aO (M6.cZ a/\a.length<=1099511627776) (aB (decide (8192<A)) (some [D.s (sc (slice none 0 0)),D.s (sc (int i64 5))]) (if 0<=A/\A<=A/\A<=(8796093022208:Int)then some [D.own 22 u64 (cDW A.toNat B ++ cDV (min B.length A.toNat) (bWU A.toNat (0:Int))),D.s (sc (int i64 0))]else none)):=eJ aX
def sp(a:List Int):Prop×List D:=(M6.cZ a/\a.length<=1099511627776,[.s (.ints .u64 (bif cP.mL (M6.val a)then M6.dg (M6.val a)else [])),.s (.sc (.int .i64 (bif cP.mL (M6.val a)then 0 else 5)))])
theorem spec:aMO E f193 aE (pI .u64) sp:=by
 intro a h;have hl:=M6.tQ h.1;have h2:=h.2;have e:=(start a).trans (gP h);unfold sp cP.mL;simp only;generalize M6.dg (M6.val a)=d at *
 by_cases hc:d.length<=8192
 ·rw[aL,if_pos ⟨by omega,by omega,by omega⟩]at e;rw[decide_eq_true hc];refine⟨_,e,.cons ?_ (iE.refl _)⟩;simp only[bYO,cBD,Nat.min_self,cond_true];have:cDV d.length (bWU d.length (0:Int))=[]:=List.drop_eq_nil_of_le (by simp);rw[this,cAP];exact yQ.own _ _ _
 ·rw[aQ]at e;rw[decide_eq_false hc];exact⟨_,e,.cons (yQ.nil _) (iE.refl _)⟩
def aJ:dO:=orc1 (pI .u64) sp
theorem ok:OK 193 aJ:=(fA E aE (aA Ah.ok aD) func193).aYX rfl spec
end aMV
namespace aMX
def E:=mE [(137,Am.aJ)] 6 [] [] []
def aE:=bd f195
theorem aX:Nk E aE:=nk
theorem start a:aH E f195 aE [D.s (sc (int u64 a))]=aO (0<=a/\a<18446744073709551616) (some [D.s (sc (int i64 (i64.wrap ((64:Int)-(↑(bl a.toNat):Int)))))]):=eJ aX
def sp(a:Int):Prop×List D:=(0<=a/\a<18446744073709551616,[.s (.sc (.int .i64 (64-(bl a.toNat:Int))))])
theorem spec:jD E f195 aE (pN .u64) sp:=by
 intro a h;refine(start a).trans ((gP h).trans ?_);obtain⟨h1,h2⟩:=h;have:bl a.toNat<=64:=dA.2 (by omega);rw[wrap_i64];rfl
def aJ:dO:=orc1 (pN .u64) sp
theorem ok:OK 195 aJ:=(fA E aE (aA Am.ok aD) func195).pU rfl spec
end aMX
namespace rY
def E:=mE [(195,aMX.aJ)] 135 [] [(24,[2,8,9,10,14,15,16,17,18]),(17,[2,8,9,10,11,13,14,15,16]),(3,[0,1,2]),(5,[0,1,2]),(18,[2,8,9,10,11,13,14,15,16]),(21,[2,8,9,10,11,13,14,15]),(25,[2,8,9,10,14,15,16,17,18]),(28,[2,8,14,15,17,18])] [3,5,18,21,25,28]
def aE:=bd f226
theorem aX:Nk E aE:=nk
def J3 a b c:=mT E f226 aE 3 [dG a,dG b,dG c]
def J5 a b c:=mT E f226 aE 5 [dG a,dG b,dG c]
def aYT a b c d e f g h i:=sJ E f226 aE 17 [dG a,dG b,dG c,dG d,dG e,dG f,dG g,dG h,dG i]
def bKP a b c d e f g h i:=mT E f226 aE 18 [dG a,dG b,dG c,dG d,dG e,dG f,dG g,dG h,dG i]
def bDO a b c d e f g h:=mT E f226 aE 21 [dG a,dG b,dG c,dG d,dG e,dG f,dG g,dG h]
def bDL a b c d e f g h i:=sJ E f226 aE 24 [dG a,dG b,dG c,dG d,dG e,dG f,dG g,dG h,dG i]
def bKO a b c d e f g h i:=mT E f226 aE 25 [dG a,dG b,dG c,dG d,dG e,dG f,dG g,dG h,dG i]
def bDN a b c d e f:=mT E f226 aE 28 [dG a,dG b,dG c,dG d,dG e,dG f]
theorem start a b c:aH E f226 aE [D.s (sc (int u64 a)),D.s (sc (int u64 b)),D.s (sc (int u64 c))]=aB (c==0) none (rY.J3 a b c):=eJ aX
theorem iA a b c:J3 a b c=aB (decide (c<=a)) none (rY.J5 a b c):=cJ aX
theorem Wz a b c:J5 a b c=letI C:=(↑(bl c.toNat):Int);letI H:=u64.wrap ((64:Int)-C);letI B:=b/(↑((2:Nat)^min (u64.wrap ((64:Int)-u64.wrap ((64:Int)-C))).toNat 64):Int);letI A:=(↑((2:Nat)^min H.toNat 64):Int);letI G:=fY BinOp.or u64 (u64.wrap (a*A)) B;letI F:=u64.wrap (c*A)/4294967296;aB (a==0) (if c=0 then none else if c=0 then none else some [D.s (sc (int u64 (u64.wrap (b.tdiv c)))),D.s (sc (int u64 (b.tmod c)))]) (aO (0<=c/\c<18446744073709551616) (if u64.wrap ((64:Int)-C)<0 then none else if u64.wrap ((64:Int)-C)<0 then none else if u64.wrap ((64:Int)-u64.wrap ((64:Int)-C))<0 then none else if u64.wrap ((64:Int)-C)<0 then none else if u64.wrap (c*A)/4294967296=(0:Int)then none else rY.aYT (u64.wrap (c*A)) H F (fY BinOp.and u64 (u64.wrap (c*A)) 4294967295) G (u64.wrap (b*A)/4294967296) (fY BinOp.and u64 (u64.wrap (b*A)) 4294967295) (u64.wrap (G.tdiv F)) (u64.wrap (fY BinOp.or u64 (u64.wrap (a*A)) B-u64.wrap (u64.wrap (G.tdiv F)*F))))):=cJ aX
theorem aXA a b c d e f g h i:aYT a b c d e f g h i=letI A:=rY.bKP a b c d e f g h i;aB (decide (4294967296<=h)) A (aB (decide (u64.wrap (u64.wrap ((4294967296:Int)*i)+f)<u64.wrap (h*d))) A (rY.bDO a b c d e f g h)):=lJ aX
theorem aXF a b c d e f g h i:bKP a b c d e f g h i=aB (decide (4294967296<=u64.wrap (i+c))) (rY.bDO a b c d e f g (u64.wrap (h-1))) (rY.aYT a b c d e f g (u64.wrap (h-1)) (u64.wrap (i+c))):=cJ aX
theorem aXE a b c d e f g h:bDO a b c d e f g h=letI A:=u64.wrap (u64.wrap (e*4294967296)+f)-u64.wrap (h*a);letI B:=u64.wrap A;if c=0 then none else rY.bDL a b c d g h (u64.wrap (u64.wrap A-u64.wrap (u64.wrap (B.tdiv c)*c))) B (u64.wrap (B.tdiv c)):=cJ aX
theorem aWZ a b c d e f g h i:bDL a b c d e f g h i=letI A:=rY.bKO a b c d e f g h i;aB (decide (4294967296<=i)) A (aB (decide (u64.wrap (u64.wrap ((4294967296:Int)*g)+e)<u64.wrap (i*d))) A (rY.bDN a b e f h i)):=lJ aX
theorem aXD a b c d e f g h i:bKO a b c d e f g h i=aB (decide (4294967296<=u64.wrap (g+c))) (rY.bDN a b e f h (u64.wrap (i-1))) (rY.bDL a b c d e f (u64.wrap (g+c)) h (u64.wrap (i-1))):=cJ aX
theorem aXC a b c d e f:bDN a b c d e f=if b<0 then none else some [D.s (sc (int u64 (u64.wrap (u64.wrap (d*4294967296)+f)))),D.s (sc (int u64 (u64.wrap (u64.wrap (u64.wrap (e*4294967296)+c)-u64.wrap (f*a))/(↑((2:Nat)^min b.toNat 64):Int))))]:=cJ aX
theorem aGY{n:Nat}(h:n<18446744073709551616):u64.wrap (n:Int)=(n:Int):=wrap_u64 (cEF _) (Int.ofNat_lt.2 h)
theorem loop{y1 y0 u u1:Nat}(aJQ:2147483648<=y1)(aUL:y1<4294967296)(aSI:y0<4294967296)(hu:u<y1*4294967296+y0)(aJS:u1<4294967296)
  (Lf Jf:Int->Int->Option (List D)) (Kf:Int->Option (List D))
  (hL:∀q r,Lf q r=aB (decide (4294967296<=q)) (Jf q r) (aB (decide (u64.wrap (u64.wrap (4294967296*r)+(u1:Int))<u64.wrap (q*(y0:Int)))) (Jf q r) (Kf q)))
  (hJ:∀q r,Jf q r=aB (decide (4294967296<=u64.wrap (r+(y1:Int)))) (Kf (u64.wrap (q-1))) (Lf (u64.wrap (q-1)) (u64.wrap (r+(y1:Int))))) :
  ∀(q r:Nat),u=q*y1+r->r<4294967296->u*4294967296+u1<(q+1)*(y1*4294967296+y0) ->
   Lf (q:Int) (r:Int)=Kf (((u*4294967296+u1)/(y1*4294967296+y0):Nat):Int):=by
 have hy:0<y1*4294967296+y0:=by omega
 intro q
 induction q with
 |zero =>
  intro r h1 h2 h3;have h0:(u*4294967296+u1)/(y1*4294967296+y0)=0:=cAK (by omega);rw[hL,aL,h0,show(((0:Nat):Int)*(y0:Int))=0 from by omega,wrap_u64 (n:=0),aL ?_];rw[wrap_u64 (n:=4294967296*(r:Int)),wrap_u64];omega
 |succ q ih =>
  intro r h1 h2 h3;have hq:q<=4294967296:=by
   refine bXL fun hc=>?_
   have:4294967297*y1<=q*y1:=bWG _ hc;rw[bVL]at h1;omega
  have w1:u64.wrap (((q+1:Nat):Int)-1)=(q:Int):=by rw[wrap_u64];omega
  have w2:u64.wrap ((r:Int)+(y1:Int))=((r+y1:Nat):Int):=by rw[wrap_u64];omega
  have hle:(q+1)*y0<=4294967297*4294967295:=cFA (by omega) (by omega);have w3:u64.wrap (((q+1:Nat):Int)*(y0:Int))=(((q+1)*y0:Nat):Int):=by
   rw[<-cAN];exact wrap_u64
  have w4:u64.wrap (u64.wrap (4294967296*(r:Int))+(u1:Int))=((4294967296*r+u1:Nat):Int):=by
   rw[wrap_u64 (n:=4294967296*(r:Int)),wrap_u64];omega
  have ex:(q+1)*(y1*4294967296+y0)=(q*y1+y1)*4294967296+(q+1)*y0:=by
   rw[bZR,<-bZT,bVL q 1 y1,bYV]
  have bTU:q*(y1*4294967296+y0)=(q*y1)*4294967296+q*y0:=by
   rw[bZR,<-bZT]
  have Xj:u=q*y1+(r+y1):=by rw[bVL]at h1;omega
  have aEW:u*4294967296+u1<(q+1)*(y1*4294967296+y0)->Jf ((q+1:Nat):Int) r=Kf (((u*4294967296+u1)/(y1*4294967296+y0):Nat):Int):=by
   intro hT;rw[hJ,w1,w2]
   by_cases hc:4294967296<=r+y1
   ·have aXZ:q*y0<=4294967296*4294967295:=cFA hq (by omega);have:(u*4294967296+u1)/(y1*4294967296+y0)=q:=by
     refine cFI ?_ hT;rw[bTU,Xj];omega
    rw[aQ,this]
   ·rw[aL];exact ih (r+y1) Xj (by omega) hT
  rw[hL,w3,w4]
  by_cases hb:4294967296<=q+1
  ·rw[aQ];apply aEW;have:4294967296*(y1*4294967296+y0)<=(q+1)*(y1*4294967296+y0):=bWG _ hb;omega
  ·rw[aL]
   by_cases hc:4294967296*r+u1<(q+1)*y0
   ·rw[aQ];apply aEW;rw[ex];omega
   ·have:(u*4294967296+u1)/(y1*4294967296+y0)=q+1:=by
     refine cFI ?_ h3;rw[ex,Xj];rw[bVL (q*y1)];omega
    rw[aL,this]
theorem aYW(P b Q:Int):u64.wrap (u64.wrap (u64.wrap P+b)-u64.wrap Q)=u64.wrap (P+b-Q):=by
 rw[fK,fK,fK,fK,fK];omega
theorem aZU{u u1 y:Nat}(hy:0<y)(bGN:y<=18446744073709551616):u64.wrap ((u:Int)*4294967296+(u1:Int)-(((u*4294967296+u1)/y:Nat):Int)*(y:Int))=(((u*4294967296+u1)%y:Nat):Int):=by
 have h:=bZX (u*4294967296+u1) y;have hm:=bWZ (u*4294967296+u1) hy;rw[<-cAN,bZP _ y];generalize y*((u*4294967296+u1)/y)=z at *;generalize (u*4294967296+u1)%y=m at *;rw[wrap_u64];omega
theorem aZW{y1 y0 u u1 u0 s:Nat}(aJQ:2147483648<=y1)(aUL:y1<4294967296)(aSI:y0<4294967296)(hu:u<y1*4294967296+y0)(aJS:u1<4294967296)(aXX:u0<4294967296)(hs:s<=63) :
  aYT ((y1*4294967296+y0:Nat):Int) s y1 y0 u u1 u0 ((u/y1:Nat):Int) ((u%y1:Nat):Int) =
   some [D.s (.sc (.int .u64 (((u*18446744073709551616+(u1*4294967296+u0))/(y1*4294967296+y0):Nat):Int))),D.s (.sc (.int .u64 (((u*18446744073709551616+(u1*4294967296+u0))%(y1*4294967296+y0)/2^s:Nat):Int)))]:=by
 have hy:0<y1*4294967296+y0:=by omega
 have aIC:∀v:Nat,∀w:Nat,w<4294967296->v*4294967296+w<(v/y1+1)*(y1*4294967296+y0):=by
  intro v w hw;have h:=bZX v y1;have hm:=bWZ v (show 0<y1 by omega);have:(v/y1+1)*(y1*4294967296+y0)=(y1*(v/y1)+y1)*4294967296+(v/y1+1)*y0:=by
   rw[bZR,<-bZT,bVL,bYV,bZP y1]
  rw[this];omega
 have dm:∀v:Nat,v=v/y1*y1+v%y1:=by
  intro v;rw[bZP];exact(bZX v y1).symm
 obtain⟨Y,hY⟩:∃Y:Int,Y=((y1*4294967296+y0:Nat):Int):=⟨_,rfl⟩;rw[<-hY];have l1:aYT Y s y1 y0 u u1 u0 ((u/y1:Nat):Int) ((u%y1:Nat):Int)=bDO Y s y1 y0 u u1 u0 (((u*4294967296+u1)/(y1*4294967296+y0):Nat):Int) :=
  loop aJQ aUL aSI hu aJS (aYT Y s y1 y0 u u1 u0) (bKP Y s y1 y0 u u1 u0) (bDO Y s y1 y0 u u1 u0) (fun q r=>aXA ..) (fun q r=>aXF ..) (u/y1) (u%y1) (dm u) (by have:=bWZ u (show 0<y1 by omega);omega) (aIC u u1 aJS)
 refine l1.trans ?_;rw[aXE,aU,aYW];have m1:=aZU (u:=u) (u1:=u1) hy (by omega);rw[<-hY]at m1;rw[m1];obtain⟨q1,Mz⟩:∃q1,(u*4294967296+u1)/(y1*4294967296+y0)=q1:=⟨_,rfl⟩;rw[Mz];have hv:=bWZ (u*4294967296+u1) hy;have hT:=bZX (u*4294967296+u1) (y1*4294967296+y0);rw[Mz]at hT;obtain⟨v,bPV⟩:∃v,(u*4294967296+u1)%(y1*4294967296+y0)=v:=⟨_,rfl⟩;rw[bPV]at hv hT ⊢;have hd:v/y1<=v:=cFB _ _;have w5:u64.wrap ((v:Int).tdiv (y1:Int))=((v/y1:Nat):Int):=by
  rw[cDF (by omega),<-cAM];exact aGY (by omega)
 have w6:u64.wrap ((v:Int)-u64.wrap (((v/y1:Nat):Int)*(y1:Int)))=((v%y1:Nat):Int):=by
  have:=dm v;have hm:=bWZ v (show 0<y1 by omega);rw[<-cAN];generalize v/y1*y1=z at *;generalize v%y1=m at *;rw[wrap_u64 (n:=(z:Int)),wrap_u64];omega
 have l2:bDL Y s y1 y0 u0 q1 ((v%y1:Nat):Int) v ((v/y1:Nat):Int)=bDN Y s u0 q1 v (((v*4294967296+u0)/(y1*4294967296+y0):Nat):Int) :=
  loop aJQ aUL aSI hv aXX (fun q r=>bDL Y s y1 y0 u0 q1 r v q) (fun q r=>bKO Y s y1 y0 u0 q1 r v q) (bDN Y s u0 q1 v) (fun q r=>aWZ ..) (fun q r=>aXD ..) (v/y1) (v%y1) (dm v) (by have:=bWZ v (show 0<y1 by omega);omega) (aIC v u0 aXX)
 rw[w5,w6,l2];rw[aXC,aU,aYW];have m2:=aZU (u:=v) (u1:=u0) hy (by omega);rw[<-hY]at m2;rw[m2];have hw:=bWZ (v*4294967296+u0) hy;have hT0:=bZX (v*4294967296+u0) (y1*4294967296+y0);have aXZ:(v*4294967296+u0)/(y1*4294967296+y0)<4294967296:=cAJ (by omega);have hq1':q1<4294967296:=by rw[<-Mz];exact cAJ (by omega)
 obtain⟨q0,bQK⟩:∃q0,(v*4294967296+u0)/(y1*4294967296+y0)=q0:=⟨_,rfl⟩;obtain⟨w,bPT⟩:∃w,(v*4294967296+u0)%(y1*4294967296+y0)=w:=⟨_,rfl⟩;rw[bQK]at hT0 aXZ ⊢;rw[bPT]at hT0 hw ⊢;have key:u*18446744073709551616+(u1*4294967296+u0)=(y1*4294967296+y0)*(q1*4294967296+q0)+w:=by
  rw[bZR,<-bZT];generalize (y1*4294967296+y0)*q1=A at *;generalize (y1*4294967296+y0)*q0=C at *;omega
 rw[key,cEE hy,cAK hw,cGV,cFC hw,bVP,bYO,show min s 64=s from by omega];have w7:u64.wrap (u64.wrap ((q1:Int)*4294967296)+(q0:Int))=((q1*4294967296+q0:Nat):Int):=by
  rw[wrap_u64 (n:=(q1:Int)*4294967296),wrap_u64];omega
 rw[w7,<-cAM]
def sp(a b c:Int):Prop×List D:=((0<=a/\a<c)/\(0<=b/\b<18446744073709551616)/\c<18446744073709551616,[.s (.sc (.int .u64 (((a.toNat*18446744073709551616+b.toNat)/c.toNat:Nat):Int))),.s (.sc (.int .u64 (((a.toNat*18446744073709551616+b.toNat)%c.toNat:Nat):Int)))])
theorem spec:oP E f226 aE (pN .u64) (pN .u64) (pN .u64) sp:=by
 rintro a b c ⟨⟨h1,h2⟩,⟨h3,h4⟩,h5⟩;refine(start a b c).trans ?_;obtain⟨x,rfl⟩:=bZV h1;obtain⟨l,rfl⟩:=bZV h3;obtain⟨y,rfl⟩:=bZV (show 0<=c by omega);show _=some [D.s (.sc (.int .u64 ((((x:Int).toNat*18446744073709551616+(l:Int).toNat)/(y:Int).toNat:Nat):Int))),D.s (.sc (.int .u64 ((((x:Int).toNat*18446744073709551616+(l:Int).toNat)%(y:Int).toNat:Nat):Int)))];rw[bYO,bYO,bYO,bM,iA,aL,Wz]
 by_cases hx:x=0
 ·subst hx;have hd:l/y<=l:=cFB _ _;rw[cN (a:=((0:Nat):Int)) (b:=0) rfl,aU,aU,cDF (by omega),cDG (by omega),<-cAM,<-cCB,aGY (by omega),Nat.zero_mul,bUT]
 ·have aSI:y≠0:=by omega
  have bMQ:=pA aSI;have hb64:bl y<=64:=dA.2 (by omega);have Bt:=Wb aSI;have jL:=vD y;obtain⟨s,hs⟩:∃s,s=64-bl y:=⟨_,rfl⟩;have bHC:s<=63:=by omega
  have w1:u64.wrap (64-(bl y:Int))=(s:Int):=by rw[wrap_u64];omega
  have w2:u64.wrap (64-(s:Int))=((64-s:Nat):Int):=by rw[wrap_u64];omega
  have aLO:2^(64-s)*2^s=18446744073709551616:=by rw[<-bZS,show 64-s+s=64 from by omega]
  have bJW:2^(bl y-1)*2^s=9223372036854775808:=by rw[<-bZS,show bl y-1+s=63 from by omega]
  have Fz:0<2^s:=cY;have hyp:y+1<=2^(64-s):=by rw[show 64-s=bl y from by omega];omega
  have bGM:(y+1)*2^s<=18446744073709551616:=by rw[<-aLO];exact bWG _ hyp
  have hyp2:9223372036854775808<=y*2^s:=by rw[<-bJW];exact bWG _ Bt
  have aXV:(x+1)*2^s<=y*2^s:=bWG _ (by omega);rw[bVL,bYV]at bGM aXV;have wy:u64.wrap ((y:Int)*((2^s:Nat):Int))=((y*2^s:Nat):Int):=by rw[<-cAN];exact wrap_u64
  have wx:u64.wrap ((x:Int)*((2^s:Nat):Int))=((x*2^s:Nat):Int):=by rw[<-cAN];exact wrap_u64
  have wl:u64.wrap ((l:Int)*((2^s:Nat):Int))=((l*2^s%18446744073709551616:Nat):Int):=by rw[<-cAN,fK];omega
  have Yw:l/2^(64-s)<2^s:=by
   apply cAJ;rw[aLO];omega
  have aUP:=Fb l s (by omega);have bKQ:fY .or .u64 ((x*2^s:Nat):Int) (((l/2^(64-s):Nat)):Int)=((x*2^s+l/2^(64-s):Nat):Int):=by
   have:=Fm (n:=x) Yw;rw[Uk (by omega) (by omega) (by omega) (by omega),bYO,bYO,cDD,bZP x,this,cAQ]
  have aYY:∀z:Nat,z<18446744073709551616->fY .and .u64 (z:Int) 4294967295=((z%4294967296:Nat):Int):=by
   intro z hz;rw[xX (by omega) (by omega)];omega
  rw[bM,gP ⟨by omega,by omega⟩,bYO,w1,w2,aU,aU,aU,aU,
   bYO,bYO,show min s 64=s from by omega,show min (64-s) 64=64-s from by omega,wy,wx,wl,<-cAM l,bKQ]
  have hu:x*2^s+l/2^(64-s)<y*2^s:=by omega
  have hU:(x*18446744073709551616+l)*2^s=(x*2^s+l/2^(64-s))*18446744073709551616+l*2^s%18446744073709551616:=by
   rw[bVL,aUP,cFE];omega
  have bQY:l*2^s%18446744073709551616<18446744073709551616:=bWZ _ (by omega);have hdiv:(x*18446744073709551616+l)/y=((x*2^s+l/2^(64-s))*18446744073709551616+l*2^s%18446744073709551616)/(y*2^s):=by
   rw[<-hU,cDH _ _ Fz]
  have aEQ:(x*18446744073709551616+l)%y=((x*2^s+l/2^(64-s))*18446744073709551616+l*2^s%18446744073709551616)%(y*2^s)/2^s:=by
   rw[<-hU,cDI,cEP _ Fz]
  rw[hdiv,aEQ];clear hdiv aEQ hU bKQ wl wx wy aUP Yw aXV;generalize x*2^s+l/2^(64-s)=U at *;generalize y*2^s=Y at *;generalize l*2^s%18446744073709551616=V at *;have k:=aZW (y1:=Y/4294967296) (y0:=Y%4294967296) (u:=U) (u1:=V/4294967296) (u0:=V%4294967296) (s:=s) (by omega) (by omega) (by omega) (by omega) (by omega) (by omega) bHC;rw[show Y/4294967296*4294967296+Y%4294967296=Y from by omega,show V/4294967296*4294967296+V%4294967296=V from by omega]at k;have bSN:(Y:Int)/4294967296=((Y/4294967296:Nat):Int):=by omega
  have bMS:(V:Int)/4294967296=((V/4294967296:Nat):Int):=by omega
  have hd:U/(Y/4294967296)<=U:=cFB _ _;have aYI:=bZX U (Y/4294967296);have q1:u64.wrap ((U:Int).tdiv ((Y/4294967296:Nat):Int))=((U/(Y/4294967296):Nat):Int):=by
   rw[cDF (by omega),<-cAM];exact aGY (by omega)
  have r1:u64.wrap ((U:Int)-u64.wrap (((U/(Y/4294967296):Nat):Int)*((Y/4294967296:Nat):Int)))=((U%(Y/4294967296):Nat):Int):=by
   rw[<-cAN,bZP];generalize Y/4294967296*(U/(Y/4294967296))=z at *;generalize U%(Y/4294967296)=m at *;rw[wrap_u64 (n:=(z:Int)),wrap_u64];omega
  rw[bSN,bMS,aU,aYY _ (by omega),aYY _ bQY,q1,r1];exact k
def aJ:dO:=orc3 (pN .u64) (pN .u64) (pN .u64) sp
theorem ok:OK 226 aJ:=(fA E aE (aA aMX.ok aD) func226).yM rfl spec
end rY
namespace nF
def E:=mE [(144,gM.aJ),(145,cP.aJ),(226,rY.aJ)] 45 [34,40] [(8,[0,1,7,8,9])] []
def aE:=bd f194
theorem aX:Nk E aE:=nk
def L8 a b (c:Nat) (d:List Int) e f:=sJ E f194 aE 8 [iK a,dG b,Ce 2 c 22 d,dG e,cK f]
theorem start a b:aH E f194 aE [D.s (ints u64 a),D.s (sc (int u64 b))]=letI B:=sc (slice none 0 0);letI A:=(a.length:Int);aO (a.length<=1099511627776) (aB (!gM.oN a) (some [D.s B,D.s (sc (int u64 0)),D.s (sc (int i64 2))]) (aB (b==0) (some [D.s B,D.s (sc (int u64 0)),D.s (sc (int i64 4))]) (if 0<=A/\A<=A/\A<=(8796093022208:Int)then nF.L8 a b A.toNat (bWU A.toNat (0:Int)) 0 (i64.wrap (A-(1:Int)))else none))):=eJ aX
theorem Hm a b c d e f:L8 a b c d e f=letI A:=e.toNat*18446744073709551616+(a.getD f.toNat 0).toNat;aB (decide (0<=f)) (if 0<=f/\f<(a.length:Int)then aO ((0<=e/\e<b)/\(0<=a.getD f.toNat 0/\a.getD f.toNat 0<(18446744073709551616:Int))/\b<18446744073709551616) (if 0<=f/\f<(c:Int)then nF.L8 a b c (d.set f.toNat (↑(A/b.toNat):Int)) (↑(A%b.toNat):Int) (i64.wrap (f-1))else none)else none) (aO (M6.cZ d/\d.length<=1099511627776) (some [D.s (ints u64 (bif cP.mL (M6.val d)then M6.dg (M6.val d)else [])),D.s (sc (int u64 e)),D.s (sc (int i64 0))])):=lJ aX
theorem L{a:List Int}{b:Nat}(ha:M6.cR a)(hl:a.length<=8192)(hb0:0<b)(hb:b<18446744073709551616):∀(i:Nat) (Q:List Int),i+Q.length=a.length->M6.cZ Q->M6.val Q=M6.val (a.drop i)/b ->
  L8 a b a.length (bWU i 0 ++ Q) ((M6.val (a.drop i)%b:Nat):Int) ((i:Int)-1)=some [D.s (.ints .u64 (M6.dg (M6.val a/b))),D.s (.sc (.int .u64 ((M6.val a%b:Nat):Int))),D.s (.sc (.int .i64 0))]:=by
 intro i
 induction i with
 |zero =>
  intro Q hi hd hv;have Na:cP.mL (M6.val a/b)=true:=by
   refine decide_eq_true ?_;rw[cBE]at hv;rw[<-hv];have:=M6.tQ hd;omega
  rw[cBE]at hv ⊢;rw[List.replicate_zero,bYU,Hm,aL,gP ⟨hd,by omega⟩,hv,Na];rfl
 |succ i ih =>
  intro Q hi hd hv;have g:=ha.kU.get i;have hm:=bWZ (M6.val (a.drop (i+1))) hb0;have aYI:=bZX (M6.val (a.drop (i+1))) b;have w:i64.wrap ((i:Int)-1)=(i:Int)-1:=by rw[wrap_i64]
  have hs:(bWU i (0:Int) ++ 0 :: Q).set i ((((M6.val (a.drop (i+1))%b)*18446744073709551616+(a.getD i 0).toNat)/b:Nat):Int)=bWU i 0 ++ (((((M6.val (a.drop (i+1))%b)*18446744073709551616+(a.getD i 0).toNat)/b:Nat):Int) :: Q):=Fe (by simp) _ _ _;have hN:M6.val (a.drop i)=b*(18446744073709551616*(M6.val (a.drop (i+1))/b))+((M6.val (a.drop (i+1))%b)*18446744073709551616+(a.getD i 0).toNat):=by
   rw[M6.jM,cCG];generalize b*(M6.val (a.drop (i+1))/b)=z at *;omega
  have hq:((M6.val (a.drop (i+1))%b)*18446744073709551616+(a.getD i 0).toNat)/b<18446744073709551616:=by
   apply cAJ;have:(M6.val (a.drop (i+1))%b+1)*18446744073709551616<=b*18446744073709551616:=bWG _ hm;omega
  have aSR:(0:Int)<=((M6.val (a.drop (i+1))%b:Nat):Int)/\((M6.val (a.drop (i+1))%b:Nat):Int)<(b:Int):=⟨cEF _,Int.ofNat_lt.2 hm⟩;have aSO:=ih (((((M6.val (a.drop (i+1))%b)*18446744073709551616+(a.getD i 0).toNat)/b:Nat):Int) :: Q) (by rw[List.length_cons];omega) (M6.mH.2 ⟨⟨cEF _,Int.ofNat_lt.2 hq⟩,hd⟩) (by
    show(((((M6.val (a.drop (i+1))%b)*18446744073709551616+(a.getD i 0).toNat)/b:Nat):Int)).toNat+18446744073709551616*M6.val Q=_;rw[bYO,hN,cEE hb0,hv,cAQ])
  rw[Hm,show(((i+1:Nat):Int)-1)=(i:Int)from by omega,aQ,if_pos ⟨by omega,by omega⟩,bYO,gP ⟨aSR,g,by omega⟩,if_pos ⟨by omega,by omega⟩,bYO,bYO,w,List.replicate_succ',bWM,cBF,hs];rw[hN,cGV]at aSO;exact aSO
def sp(a:List Int)(n:Int):Prop×List D:=(M6.cR a/\a.length<=8192/\0<n/\n<18446744073709551616,[.s (.ints .u64 (M6.dg (M6.val a/n.toNat))),.s (.sc (.int .u64 ((M6.val a%n.toNat:Nat):Int))),.s (.sc (.int .i64 0))])
theorem spec:gU E f194 aE (pI .u64) (pN .u64) sp:=by
 rintro a n ⟨ha,hl,h0,h1⟩;obtain⟨b,rfl⟩:=bZV (show 0<=n by omega);refine(start a b).trans ?_;show _=some [D.s (.ints .u64 (M6.dg (M6.val a/(b:Int).toNat))),D.s (.sc (.int .u64 ((M6.val a%(b:Int).toNat:Nat):Int))),D.s (.sc (.int .i64 0))];have w:i64.wrap ((a.length:Int)-1)=(a.length:Int)-1:=by rw[wrap_i64]
 rw[bYO,bYO,gP,gM.nL ha hl,bWR,bF,bM,if_pos ⟨by omega,by omega,by omega⟩,w];have:=L (b:=b) ha hl (by omega) (by omega) a.length [] (by simp) M6.oX (by simp[M6.val]);rw[cAP,List.drop_length]at this;simp only[M6.val,cCF]at this;exact this
def aJ:dO:=orc2 (pI .u64) (pN .u64) sp
theorem ok:OK 194 aJ:=(fA E aE (aA gM.ok (aA cP.ok (aA rY.ok aD))) func194).mV rfl spec
end nF
namespace Aa
def E:=mE [] 43 [] [(7,[1,7,8,19,20])] []
def aE:=bd f196
theorem aX:Nk E aE:=nk
def L7 a (b:Nat) (c:List Int) d e f:=sJ E f196 aE 7 [cK a,Ce 1 b 22 c,dG d,cK e,cK f]
theorem start a b c:aH E f196 aE [D.s (ints u64 a),D.s (sc (int i64 b)),D.s (sc (int i64 c))]=letI A:=cDW c.toNat a ++ cDV (min a.length c.toNat) (bWU c.toNat (0:Int));if 0<=c/\c<=c/\c<=8796093022208 then aB (b==0) (some [D.own 22 u64 A]) (Aa.L7 b c.toNat A 0 (c.toNat:Int) 0)else none:=eJ aX
theorem wX a b c d e f:L7 a b c d e f=aB (decide (f<e)) (if 0<=f/\f<(b:Int)then if a<0 then none else if 0<=f/\f<(b:Int)then if i64.wrap ((64:Int)-a)<0 then none else if 0<=f/\f<(b:Int)then Aa.L7 a b (c.set f.toNat (fY BinOp.or u64 (u64.wrap (c.getD f.toNat 0*(↑((2:Nat)^min a.toNat 64):Int))) d)) (c.getD f.toNat 0/(↑((2:Nat)^min (i64.wrap ((64:Int)-a)).toNat 64):Int)) e (i64.wrap (f+1))else none else none else none) (some [D.own 22 u64 c]):=lJ aX
def sp(a:List Int)(s n:Int):Prop×List D:=(M6.cZ a/\0<=s/\s<64/\0<=n/\a.length<=n.toNat/\n<=549755813888/\M6.val a*2^s.toNat<18446744073709551616^n.toNat,[.own gH .u64 (M6.pT n.toNat (M6.val a*2^s.toNat))])
theorem L{A:List Int}{s n:Nat}(hA:M6.cZ A)(bJJ:A.length=n)(hn:n<=549755813888)(Xg:0<s)(hs:s<64)(hT:M6.val A*2^s<18446744073709551616^n):∀(r i:Nat) (P:List Int) (c:Int),i+r=n->P.length=i->M6.cZ P->0<=c->c<((2^s:Nat):Int) ->
  M6.val P+18446744073709551616^i*c.toNat=M6.val (A.take i)*2^s ->
  L7 s n (P ++ A.drop i) c n i=some [.own gH .u64 (M6.pT n (M6.val A*2^s))]:=by
 have Fz:2^s<2^64:=cCA (by omega) hs;intro r
 induction r with
 |zero =>
  intro i P c hi hP hd h0 h1 hv;have Yz:i=n:=by omega
  subst Yz;rw[M6.dR (by omega)]at hv;have hc:c=0:=by
   rcases Int.lt_or_le 0 c with h |h
   ·have h2:18446744073709551616^i*1<=18446744073709551616^i*c.toNat:=bXF _ (by omega);omega
   ·omega
  subst hc;simp at hv;rw[wX,aL,cGC (by omega),cAP,M6.oW hd hP hv]
 |succ r ih =>
  intro i P c hi hP hd h0 h1 hv;have g:=hA.get i;have w1:i64.wrap ((i:Int)+1)=((i+1:Nat):Int):=by rw[wrap_i64];omega
  have w3:i64.wrap (64-(s:Int))=((64-s:Nat):Int):=by rw[wrap_i64];omega
  have m1:min s 64=s:=by omega
  have m2:min (64-s) 64=64-s:=by omega
  have aKI:A.drop i=A.getD i 0 :: A.drop (i+1):=by
   rw[List.drop_eq_getElem_cons (by omega)];simp[bZU,List.getElem?_eq_getElem (show i<A.length by omega)]
  obtain⟨x,hx⟩:=bZV g.1;have jL:x*2^s%18446744073709551616<18446744073709551616:=bWZ _ (by omega);have Yw:u64.wrap ((x:Int)*((2^s:Nat):Int))=((x*2^s%18446744073709551616:Nat):Int):=by
   rw[fK,<-cAN,cCB];rfl
  have aPN:c.toNat+x*2^s%18446744073709551616<18446744073709551616:=by
   rw[Ic x s hs];have hm:x%2^(64-s)<2^(64-s):=bWZ _ (cY);have e:(18446744073709551616:Nat)=2^s*2^(64-s):=by rw[<-bZS,show s+(64-s)=64 from by omega]
   have h3:2^s*(x%2^(64-s)+1)<=2^s*2^(64-s):=bXF _ hm;rw[<-e,bZR]at h3;omega
  have bAV:fY .or .u64 ((x*2^s%18446744073709551616:Nat):Int) c=c+((x*2^s%18446744073709551616:Nat):Int):=by
   rw[Uk (by omega) (by omega) h0 (by omega),bYO,cDD,Ic x s hs,Fm (by omega)];omega
  have Xi:x/2^(64-s)<2^s:=by
   apply cAJ;rw[<-bZS,show 64-s+s=64 from by omega];omega
  rw[aKI,wX,aQ,aW,aU,aW,w3,aU,aW,w1,bYO,bYO,bYO,m1,m2,Gb hP,Fe hP,hx,Yw,bAV];have aUP:=Fb x s hs;have:=ih (i+1) (P ++ [c+((x*2^s%18446744073709551616:Nat):Int)]) ((x/2^(64-s):Nat):Int) (by omega) (by simp[hP]) (M6.nZ hd ⟨by omega,by omega⟩) (by omega) (by omega) (by
   rw[M6.nU,hP,M6.dP,hx,bYO,bYO,bZQ,bZT,bVL];have e1:(c+(((x*2^s%18446744073709551616:Nat)):Int)).toNat=c.toNat+x*2^s%18446744073709551616:=by omega
   rw[e1];have e2:18446744073709551616^i*(c.toNat+x*2^s%18446744073709551616)+18446744073709551616^i*(18446744073709551616*(x/2^(64-s)))=18446744073709551616^i*c.toNat+18446744073709551616^i*x*2^s:=by
    rw[bZT,<-bZR,<-bZR];congr 1;omega
   omega)
  rw[bWM,cBF,cAM]at this;exact this
theorem spec:oP E f196 aE (pI .u64) (pN .i64) (pN .i64) sp:=by
 rintro a s n ⟨hd,Xg,hs,Bn,hl,hn,hT⟩;obtain⟨s,rfl⟩:=bZV Xg;obtain⟨n,rfl⟩:=bZV Bn;simp only[sp,bYO]at hl hT ⊢;refine(start a s n).trans ?_;have hA:cDW n a ++ cDV (min a.length n) (bWU n (0:Int))=a ++ bWU (n-a.length) 0:=by
  rw[List.take_of_length_le hl,List.drop_replicate,cAV hl]
 have aKT:M6.val (a ++ bWU (n-a.length) 0)=M6.val a:=by rw[M6.jH,M6.jU];omega
 have bNC:M6.cZ (a ++ bWU (n-a.length) 0):=M6.qL.2 ⟨hd,M6.kY _⟩;have bJJ:(a ++ bWU (n-a.length) 0).length=n:=by simp;omega
 rw[aW,bYO,hA]
 by_cases hz:s=0
 ·subst hz;rw[cN (by rfl),cEN,bVB,M6.oW bNC bJJ aKT]
 ·rw[bM];have hp:0<((2^s:Nat):Int):=by
   have:0<2^s:=cY;omega
  have:=L (s:=s) bNC bJJ (by omega) (by omega) (by omega) (by rw[aKT];exact hT) n 0 [] 0 (by omega) rfl M6.oX (by omega) hp (by simp[M6.val]);rw[bYU,cBE,aKT]at this;exact this
def aJ:dO:=orc3 (pI .u64) (pN .i64) (pN .i64) sp
theorem ok:OK 196 aJ:=(fA E aE aD func196).yM rfl spec
end Aa
namespace aAB
def E:=mE [(226,rY.aJ)] 20 [16] [] []
def aE:=bd f227
theorem aX:Nk E aE:=nk
theorem start a b c:aH E f227 aE [D.s (sc (int u64 a)),D.s (sc (int u64 b)),D.s (sc (int u64 c))]=aB (decide (c<=a)) (some [D.s (sc (int u64 18446744073709551615))]) (aO ((0<=a/\a<c)/\(0<=b/\b<18446744073709551616)/\c<18446744073709551616) (some [D.s (sc (int u64 (↑((a.toNat*18446744073709551616+b.toNat)/c.toNat):Int)))])):=eJ aX
def sp(a b c:Int):Prop×List D:=(0<=a/\0<=b/\b<18446744073709551616/\c<18446744073709551616,[.s (.sc (.int .u64 (if c<=a then 18446744073709551615 else(((a.toNat*18446744073709551616+b.toNat)/c.toNat:Nat):Int))))])
theorem spec:oP E f227 aE (pN .u64) (pN .u64) (pN .u64) sp:=by
 rintro a b c ⟨h1,h2,h3,h4⟩;refine(start a b c).trans ?_;simp only[sp]
 by_cases hc:c<=a
 ·rw[aQ hc,if_pos hc]
 ·rw[aL hc,if_neg hc,gP ⟨⟨h1,by omega⟩,⟨h2,h3⟩,h4⟩]
def aJ:dO:=orc3 (pN .u64) (pN .u64) (pN .u64) sp
theorem ok:OK 227 aJ:=(fA E aE (aA rY.ok aD) func227).yM rfl spec
end aAB
namespace Mn
def E:=mE [] 51 [] [] []
def aE:=bd f250
theorem aX:Nk E aE:=nk
theorem start a b:aH E f250 aE [D.s (sc (int u64 a)),D.s (sc (int u64 b))]=letI A:=u64.wrap (a/4294967296*fY BinOp.and u64 b 4294967295)+u64.wrap (fY BinOp.and u64 a 4294967295*fY BinOp.and u64 b 4294967295)/4294967296;some [D.s (sc (int u64 (u64.wrap (u64.wrap (u64.wrap (a/4294967296*(b/4294967296))+u64.wrap A/4294967296)+u64.wrap (fY BinOp.and u64 (u64.wrap A) 4294967295+u64.wrap (fY BinOp.and u64 a 4294967295*(b/4294967296)))/4294967296)))),D.s (sc (int u64 (u64.wrap (a*b))))]:=eJ aX
def sp(a b:Int):Prop×List D:=(0<=a/\a<18446744073709551616/\0<=b/\b<18446744073709551616,[.s (.sc (.int .u64 (a*b/18446744073709551616))),.s (.sc (.int .u64 (a*b%18446744073709551616)))])
theorem spec:gU E f250 aE (pN .u64) (pN .u64) sp:=by
 rintro a b ⟨ha,bEP,hb,uX⟩;refine(start a b).trans ?_;simp only[sp];have m1:fY .and .u64 a 4294967295=a%4294967296:=xX ha bEP;have m2:fY .and .u64 b 4294967295=b%4294967296:=xX hb uX;rw[m1,m2];have bd:∀x y:Int,0<=x->x<=4294967295->0<=y->y<=4294967295->0<=x*y/\x*y<=18446744065119617025:=fun x y h1 h2 h3 h4 =>
  ⟨cGQ h1 h3,by have:=Int.mul_le_mul h2 h4 h3 (by omega:(0:Int)<=4294967295);omega⟩
 have q11:=bd (a/4294967296) (b/4294967296) (by omega) (by omega) (by omega) (by omega);have bFL:=bd (a/4294967296) (b%4294967296) (by omega) (by omega) (by omega) (by omega);have q01:=bd (a%4294967296) (b/4294967296) (by omega) (by omega) (by omega) (by omega);have bOO:=bd (a%4294967296) (b%4294967296) (by omega) (by omega) (by omega) (by omega);have e:a*b=(a/4294967296)*(b/4294967296)*18446744073709551616+((a/4294967296)*(b%4294967296)+(a%4294967296)*(b/4294967296))*4294967296+(a%4294967296)*(b%4294967296):=by
  conv=>lhs;rw[<-cDM a 4294967296,<-cDM b 4294967296]
  generalize a/4294967296=x;generalize a%4294967296=y;generalize b/4294967296=z;generalize b%4294967296=t;grind
 have e0:u64.wrap (a*b)=a*b%18446744073709551616:=fK _;rw[e0];generalize a*b=ab at *;generalize (a/4294967296)*(b/4294967296)=bFQ at *;generalize (a/4294967296)*(b%4294967296)=aTY at *;generalize (a%4294967296)*(b/4294967296)=bFR at *;generalize (a%4294967296)*(b%4294967296)=aTZ at *;rw[wrap_u64 (n:=aTZ),wrap_u64 (n:=bFQ),wrap_u64 (n:=bFR),wrap_u64 (n:=aTY)];rw[wrap_u64 (n:=aTY+aTZ/4294967296),xX (w:=aTY+aTZ/4294967296) (by omega) (by omega)];rw[wrap_u64 (n:=(aTY+aTZ/4294967296)%4294967296+bFR),wrap_u64 (n:=bFQ+(aTY+aTZ/4294967296)/4294967296),wrap_u64];have:bFQ+(aTY+aTZ/4294967296)/4294967296+((aTY+aTZ/4294967296)%4294967296+bFR)/4294967296=ab/18446744073709551616:=by omega
 rw[this]
def aJ:dO:=orc2 (pN .u64) (pN .u64) sp
theorem ok:OK 250 aJ:=(fA E aE aD func250).mV rfl spec
end Mn
namespace tH
def E:Env:={ ({ base with C:=callsOf [(250,Mn.aJ)],n0:=1,io:=[0] })with nt:=66,own:=[45,61],keep:=fun k=>(tlook [(3,[0,1,2,7,8,14,15])] k).getD [],cut:=tlook [] }
def aE:=bd f228
theorem aX:Nk E aE:=nk
def L3(a:List Int)(b:Nat)(c:Nat) d f g h i j:=sJ E f228 aE 3 [(A.any,some { e:=(22:Nat),cont:=yF.ints u64 a }),(A.v (V.one (L.view 0 b c)),none),iK d,dG f,dG g,dG h,cK i,cK j]
theorem start al ao an b c:aH E f228 aE [D.io gH u64 al ao an,D.s (ints u64 b),D.s (sc (int u64 c))]=tH.L3 al ao an b c 0 0 (b.length:Int) 0:=eJ aX
theorem An a b c d e f g h i:L3 a b c d e f g h i=letI C:=b+i.toNat;letI B:=(d.length:Int);letI F:=b+B.toNat;letI A:=d.getD i.toNat 0*e%18446744073709551616+f+0;aB (decide (i<h)) (if 0<=i/\i<B then aO (0<=d.getD i.toNat 0/\d.getD i.toNat 0<(18446744073709551616:Int)/\0<=e/\e<18446744073709551616) (aO (0<=d.getD i.toNat 0*e%18446744073709551616/\0<=f/\(0:Int)<=(0:Int)/\(0:Int)<=(1:Int)) (if 0<=i/\i<(c:Int)then aO (0<=a.getD C 0/\0<=A%18446744073709551616/\A%18446744073709551616<(18446744073709551616:Int)/\0<=g/\g<=1) (if 0<=i/\i<(c:Int)then tH.L3 (a.set C ((a.getD C 0-A%18446744073709551616-g)%18446744073709551616)) b c d e (u64.wrap (d.getD i.toNat 0*e/18446744073709551616+A/18446744073709551616)) (if a.getD C 0<A%18446744073709551616+g then(1:Int)else(0:Int)) h (i64.wrap (i+1))else none)else none))else none) (if 0<=B/\B<(c:Int)then aO (0<=a.getD F 0/\0<=f/\f<18446744073709551616/\0<=g/\g<=1) (if 0<=B/\B<(c:Int)then some [D.s (sc (int u64 (if a.getD F 0<f+g then(1:Int)else(0:Int)))),D.io 22 u64 (a.set F ((a.getD F 0-f-g)%18446744073709551616)) 0 0]else none)else none):=lJ aX
def Tl(v o n X:Nat):Nat:=if v/18446744073709551616^o%18446744073709551616^n<X then 1 else 0
def sp(x:List Int×Nat×Nat)(b:List Int)(w:Int):Prop×List D:=(M6.cZ x.1/\x.2.2=b.length+1/\x.2.1+x.2.2<=x.1.length/\M6.cZ b/\x.1.length<=1099511627776/\0<=w/\w<18446744073709551616,
 [.s (.sc (.int .u64 (Tl (M6.val x.1) x.2.1 x.2.2 (M6.val b*w.toNat)))),.io gH .u64 (M6.pT x.1.length (M6.val x.1+18446744073709551616^(x.2.1+x.2.2)*Tl (M6.val x.1) x.2.1 x.2.2 (M6.val b*w.toNat)-18446744073709551616^x.2.1*(M6.val b*w.toNat))) 0 0])
theorem fin{a z':List Int}{o n X c N:Nat}(aYL:c<=1)(hd:M6.cZ a)(Bu:M6.cZ z')(hl:z'.length=N)(h1:z'.take o=a.take o)(h2:z'.drop (o+n)=a.drop (o+n))(h:M6.val z'+18446744073709551616^o*X=M6.val a+18446744073709551616^(o+n)*c) :
  c=Tl (M6.val a) o n X/\z'=M6.pT N (M6.val a+18446744073709551616^(o+n)*Tl (M6.val a) o n X-18446744073709551616^o*X):=by
 obtain⟨k1,k2⟩:=M6.Tq hd Bu h1 h2;have e:=M6.Tp k1 k2 h;have jL:=M6.Xq (M6.val z') o n;have hc:c=Tl (M6.val a) o n X:=by
  unfold Tl;have:c=0\/c=1:=by omega
  rcases this with rfl |rfl
  ·rw[aU]
  ·rw[aW]
 subst hc;exact⟨rfl,M6.oW Bu hl (by omega)⟩
theorem aZB{x C s:Int}{p:Nat}(hp:p<=340282366920938463426481119284349108225)(h0:0<=x)(h1:x<18446744073709551616)(h2:0<=C)(h3:C<18446744073709551616)(h4:0<=s)(h5:s<=1) :
  (0<=(p:Int)/18446744073709551616+((p:Int)%18446744073709551616+C+0)/18446744073709551616/\(p:Int)/18446744073709551616+((p:Int)%18446744073709551616+C+0)/18446744073709551616<18446744073709551616) /\
  ((x-((p:Int)%18446744073709551616+C+0)%18446744073709551616-s)%18446744073709551616).toNat+p+C.toNat+s.toNat=x.toNat+18446744073709551616*(((p:Int)/18446744073709551616+((p:Int)%18446744073709551616+C+0)/18446744073709551616).toNat+(if x<((p:Int)%18446744073709551616+C+0)%18446744073709551616+s then(1:Int)else 0).toNat):=by
 split <;> omega
theorem L{a b:List Int}{o:Nat}{w:Int}(hN:a.length<=1099511627776)(ha:M6.cZ a)(hb:M6.cZ b)(ho:o+(b.length+1)<=a.length)(aEL:0<=w)(bGP:w<18446744073709551616):∀(r i:Nat) (z:List Int) (C s:Int),i+r=b.length->z.length=a.length->M6.cZ z->0<=C->C<18446744073709551616->0<=s->s<=1->z.take o=a.take o->z.drop (o+(b.length+1))=a.drop (o+(b.length+1)) ->
  M6.val z+18446744073709551616^o*(M6.val (b.take i)*w.toNat)=M6.val a+18446744073709551616^(o+i)*(C.toNat+s.toNat) ->
  L3 z o (b.length+1) b w C s b.length i=some [.s (.sc (.int .u64 (Tl (M6.val a) o (b.length+1) (M6.val b*w.toNat)))),.io gH .u64 (M6.pT a.length (M6.val a+18446744073709551616^(o+(b.length+1))*Tl (M6.val a) o (b.length+1) (M6.val b*w.toNat)-18446744073709551616^o*(M6.val b*w.toNat))) 0 0]:=by
 intro r
 induction r with
 |zero =>
  intro i z C s hi hz hd h0 h1 h2 h3 ht aEV hv;have aVE:i=b.length:=by omega
  subst aVE;rw[cBD]at hv;have g:=hd.get (o+b.length);rw[An,aL,aW,bYO,gP ⟨g.1,h0,h1,h2,h3⟩,aW];have hs:=M6.qR (a:=z) (j:=o+b.length) (by omega) ((z.getD (o+b.length) 0-C-s)%18446744073709551616);have hf:=fin (a:=a) (z':=z.set (o+b.length) ((z.getD (o+b.length) 0-C-s)%18446744073709551616)) (o:=o) (n:=b.length+1) (X:=M6.val b*w.toNat) (c:=(if z.getD (o+b.length) 0<C+s then(1:Int)else 0).toNat) (N:=a.length) (by split <;> omega) ha (M6.oF hd (by omega)) (by simp[hz]) (by rw[cFJ (by omega)];exact ht) (by rw[cFN (by omega)];exact aEV) (by
   rw[<-bYI o,bZQ,bZT];generalize z.getD (o+b.length) 0=x at *;generalize M6.val (z.set (o+b.length) _)=W at *;generalize 18446744073709551616^(o+b.length)=P at *;have e:((x-C-s)%18446744073709551616).toNat+(C.toNat+s.toNat)=x.toNat+18446744073709551616*(if x<C+s then(1:Int)else 0).toNat:=by split <;> omega
   have e2:P*((x-C-s)%18446744073709551616).toNat+P*(C.toNat+s.toNat)=P*x.toNat+P*(18446744073709551616*(if x<C+s then(1:Int)else 0).toNat):=by
    rw[<-bZR,e,bZR]
   omega)
  rw[<-hf.2,<-hf.1,cGX (by split <;> omega)]
 |succ r ih =>
  intro i z C s hi hz hd h0 h1 h2 h3 ht aEV hv;have g:=hd.get (o+i);have g2:=hb.get i;have w2:i64.wrap ((i:Int)+1)=((i+1:Nat):Int):=by rw[wrap_i64];omega
  obtain⟨X,hX⟩:=bZV g2.1;obtain⟨Y,hY⟩:=bZV aEL;have bIY:X*Y<=340282366920938463426481119284349108225:=by
   have h2:X<=18446744073709551615:=by omega
   have h3:Y<=18446744073709551615:=by omega
   have:=cFA h2 h3;omega
  obtain⟨k1,k2⟩:=aZB bIY g.1 g.2 h0 h1 h2 h3;rw[An,aQ,aW,w2];simp only[bYO];have hq:b.getD i 0*w=((X*Y:Nat):Int):=by rw[hX,hY];simp
  rw[gP ⟨g2.1,g2.2,aEL,bGP⟩];simp only[hq];rw[gP ⟨by omega,by omega,by omega,by omega⟩,aW,gP ⟨g.1,by omega,by omega,h2,h3⟩,aW,wrap_u64 k1.1 k1.2];refine ih (i+1) _ _ (if z.getD (o+i) 0<(((X*Y:Nat):Int)%18446744073709551616+C+0)%18446744073709551616+s then(1:Int)else 0) (by omega) (by simp[hz]) (M6.oF hd (by omega)) k1.1 k1.2 (by split <;> omega) (by split <;> omega) (by rw[cFJ (by omega)];exact ht) (by rw[cFN (by omega)];exact aEV) ?_;have hs:=M6.qR (a:=z) (j:=o+i) (by omega) ((z.getD (o+i) 0-(((X*Y:Nat):Int)%18446744073709551616+C+0)%18446744073709551616-s)%18446744073709551616);have e0:18446744073709551616^o*(M6.val (b.take (i+1))*w.toNat)=18446744073709551616^o*(M6.val (b.take i)*w.toNat)+18446744073709551616^(o+i)*(X*Y):=by
   rw[M6.dP,hX,hY,bYO,bYO,bVL,bZR,bZS,bZT,bZT]
  rw[e0,show o+(i+1)=(o+i)+1 from by omega,bZQ,bZT];generalize ((z.getD (o+i) 0-(((X*Y:Nat):Int)%18446744073709551616+C+0)%18446744073709551616-s)%18446744073709551616)=d at *;generalize (((X*Y:Nat):Int)/18446744073709551616+(((X*Y:Nat):Int)%18446744073709551616+C+0)/18446744073709551616).toNat=C' at *;generalize (if z.getD (o+i) 0<(((X*Y:Nat):Int)%18446744073709551616+C+0)%18446744073709551616+s then(1:Int)else 0).toNat=s' at *;generalize X*Y=q at *;generalize 18446744073709551616^(o+i)=P at *;generalize M6.val (z.set (o+i) d)=W at *;generalize (z.getD (o+i) 0).toNat=x at *;generalize 18446744073709551616^o*(M6.val (b.take i)*w.toNat)=U at *;have e2:P*d.toNat+P*q+P*(C.toNat+s.toNat)=P*x+P*(18446744073709551616*(C'+s')):=by
   rw[<-bZR,<-bZR,<-bZR];congr 1;omega
  omega
theorem bound{v o n N X:Nat}(hv:v<18446744073709551616^N)(bQQ:o+n<=N)(hX:X<18446744073709551616^n):v+18446744073709551616^(o+n)*Tl v o n X-18446744073709551616^o*X<18446744073709551616^N:=by
 have e1:=M6.Au v o n;have hW:=M6.Xq v o n;have hT:v/18446744073709551616^(o+n)<18446744073709551616^(N-(o+n)):=by
  apply cAJ;rw[<-bZS,show o+n+(N-(o+n))=N from by omega];exact hv
 have hL:v%18446744073709551616^o<18446744073709551616^o:=bWZ _ (cY);have s2:18446744073709551616^(o+n)*(v/18446744073709551616^(o+n)+1)<=18446744073709551616^N:=by
  have:=bXF (18446744073709551616^(o+n)) hT;rw[<-bZS,show o+n+(N-(o+n))=N from by omega]at this;exact this
 rw[bZR]at s2;unfold Tl;generalize v/18446744073709551616^o%18446744073709551616^n=W at *;generalize v%18446744073709551616^o=L at *;generalize v/18446744073709551616^(o+n)=T at *;split
 ·rename_i jL;have:18446744073709551616^o*(W+1)<=18446744073709551616^o*X:=bXF _ jL;rw[bZR]at this;omega
 ·omega
theorem spec(x:List Int×Nat×Nat)(b:List Int)(w:Int)(h:(sp x b w).1):aH E f228 aE [(Dl gH .u64).put x,(pI .u64).put b,(pN .u64).put w]=some (sp x b w).2/\∃rs mZ,(sp x b w).2=rs ++ [.io gH .u64 mZ 0 0]/\mZ.length=x.1.length:=by
 obtain⟨xl,o,n⟩:=x;obtain⟨hd,hn,ho,hb,hN,aEL,bGP⟩:=h;simp only at hd hn ho hN;subst hn;refine⟨(start xl o (b.length+1) b w).trans ?_,[_],_,rfl,M6.iG (bound (M6.dS hd) ho ?_)⟩
 ·exact L hN hd hb ho aEL bGP b.length 0 xl 0 0 (by omega) rfl hd (by omega) (by omega) (by omega) (by omega) rfl rfl (by simp[M6.val])
 ·rw[bZQ];exact cCV (M6.dS hb) (by omega)
def aJ:dO:=orc3 (Dl gH .u64) (pI .u64) (pN .u64) sp
theorem fnok:mA prog E 228 f228 aE:=vV rH mixed (lY _ rfl (aA Mn.ok aD) (nR)) func228 rfl rfl rfl rfl rfl
theorem ok:pW prog base.glob 228 aJ:=fnok.yM rfl spec
end tH
namespace yJ
def E:Env:={ ({ base with n0:=1,io:=[0] })with nt:=44,own:=[24,39],keep:=fun k=>(tlook [(3,[0,1,5,8,9])] k).getD [],cut:=tlook [] }
def aE:=bd f229
theorem aX:Nk E aE:=nk
def L3(a:List Int)(b:Nat)(c:Nat) d f g h:=sJ E f229 aE 3 [(A.any,some { e:=(22:Nat),cont:=yF.ints u64 a }),(A.v (V.one (L.view 0 b c)),none),iK d,dG f,cK g,cK h]
theorem start al ao an b:aH E f229 aE [D.io gH u64 al ao an,D.s (ints u64 b)]=yJ.L3 al ao an b 0 (b.length:Int) 0:=eJ aX
theorem An a b c d e f g:L3 a b c d e f g=letI G:=b+g.toNat;letI B:=a.getD G 0+d.getD g.toNat 0+e;letI A:=(d.length:Int);letI F:=b+A.toNat;letI C:=a.getD F 0+(0:Int)+e;aB (decide (g<f)) (if 0<=g/\g<(c:Int)then if 0<=g/\g<A then aO (0<=a.getD G 0/\0<=d.getD g.toNat 0/\0<=e/\e<=1) (if 0<=g/\g<(c:Int)then yJ.L3 (a.set G (B%18446744073709551616)) b c d (B/18446744073709551616) f (i64.wrap (g+1))else none)else none else none) (if 0<=A/\A<(c:Int)then aO (0<=a.getD F 0/\(0:Int)<=(0:Int)/\0<=e/\e<=1) (if 0<=A/\A<(c:Int)then some [D.s (sc (int u64 (C/18446744073709551616))),D.io 22 u64 (a.set F (C%18446744073709551616)) 0 0]else none)else none):=lJ aX
def Xk(v o n X:Nat):Nat:=(v/18446744073709551616^o%18446744073709551616^n+X)/18446744073709551616^n
def sp(x:List Int×Nat×Nat)(b:List Int):Prop×List D:=(M6.cZ x.1/\x.2.2=b.length+1/\x.2.1+x.2.2<=x.1.length/\M6.cZ b/\x.1.length<=1099511627776,
 [.s (.sc (.int .u64 (Xk (M6.val x.1) x.2.1 x.2.2 (M6.val b)))),.io gH .u64 (M6.pT x.1.length (M6.val x.1+18446744073709551616^x.2.1*M6.val b-18446744073709551616^(x.2.1+x.2.2)*Xk (M6.val x.1) x.2.1 x.2.2 (M6.val b))) 0 0])
theorem fin{a z':List Int}{o n X c N:Nat}(hd:M6.cZ a)(Bu:M6.cZ z')(hl:z'.length=N)(h1:z'.take o=a.take o)(h2:z'.drop (o+n)=a.drop (o+n))(h:M6.val z'+18446744073709551616^(o+n)*c=M6.val a+18446744073709551616^o*X) :
  c=Xk (M6.val a) o n X/\z'=M6.pT N (M6.val a+18446744073709551616^o*X-18446744073709551616^(o+n)*Xk (M6.val a) o n X):=by
 obtain⟨k1,k2⟩:=M6.Tq hd Bu h1 h2;have e:=M6.Tp k1.symm k2.symm h.symm;have jL:=M6.Xq (M6.val z') o n;have hc:c=Xk (M6.val a) o n X:=by
  unfold Xk;rw[e];rw[cBW _ _ (cY),cAK jL,bUT]
 subst hc;exact⟨rfl,M6.oW Bu hl (by omega)⟩
theorem L{a b:List Int}{o:Nat}(hN:a.length<=1099511627776)(ha:M6.cZ a)(hb:M6.cZ b)(ho:o+(b.length+1)<=a.length):∀(r i:Nat) (z:List Int) (c:Int),i+r=b.length->z.length=a.length->M6.cZ z->0<=c->c<=1->z.take o=a.take o->z.drop (o+(b.length+1))=a.drop (o+(b.length+1)) ->
  M6.val z+18446744073709551616^(o+i)*c.toNat=M6.val a+18446744073709551616^o*M6.val (b.take i) ->
  L3 z o (b.length+1) b c b.length i=some [.s (.sc (.int .u64 (Xk (M6.val a) o (b.length+1) (M6.val b)))),.io gH .u64 (M6.pT a.length (M6.val a+18446744073709551616^o*M6.val b-18446744073709551616^(o+(b.length+1))*Xk (M6.val a) o (b.length+1) (M6.val b))) 0 0]:=by
 intro r
 induction r with
 |zero =>
  intro i z c hi hz hd h0 h1 ht aEV hv;have aVE:i=b.length:=by omega
  subst aVE;rw[cBD]at hv;have g:=hd.get (o+b.length);rw[An,aL,aW,bYO,gP ⟨g.1,by omega,h0,h1⟩,aW];have hs:=M6.qR (a:=z) (j:=o+b.length) (by omega) ((z.getD (o+b.length) 0+0+c)%18446744073709551616);have hf:=fin (a:=a) (z':=z.set (o+b.length) ((z.getD (o+b.length) 0+0+c)%18446744073709551616)) (o:=o) (n:=b.length+1) (X:=M6.val b) (c:=((z.getD (o+b.length) 0+0+c)/18446744073709551616).toNat) (N:=a.length) ha (M6.oF hd (by omega)) (by simp[hz]) (by rw[cFJ (by omega)];exact ht) (by rw[cFN (by omega)];exact aEV) (by
   rw[<-bYI o,bZQ,bZT];generalize z.getD (o+b.length) 0=x at *;generalize M6.val (z.set (o+b.length) _)=W at *;generalize 18446744073709551616^(o+b.length)=P at *;have e:((x+0+c)%18446744073709551616).toNat+18446744073709551616*((x+0+c)/18446744073709551616).toNat=x.toNat+c.toNat:=by omega
   have e2:P*((x+0+c)%18446744073709551616).toNat+P*(18446744073709551616*((x+0+c)/18446744073709551616).toNat)=P*x.toNat+P*c.toNat:=by
    rw[<-bZR,e,bZR]
   omega)
  rw[<-hf.2,<-hf.1,cGX (by omega)]
 |succ r ih =>
  intro i z c hi hz hd h0 h1 ht aEV hv;have g:=hd.get (o+i);have g2:=hb.get i;have w2:i64.wrap ((i:Int)+1)=((i+1:Nat):Int):=by rw[wrap_i64];omega
  rw[An,aQ,aW,aW,bYO,gP ⟨g.1,g2.1,h0,h1⟩,aW,w2];refine ih (i+1) _ _ (by omega) (by simp[hz]) (M6.oF hd (by omega)) (by omega) (by omega) (by rw[cFJ (by omega)];exact ht) (by rw[cFN (by omega)];exact aEV) ?_;have hs:=M6.qR (a:=z) (j:=o+i) (by omega) ((z.getD (o+i) 0+b.getD i 0+c)%18446744073709551616);rw[M6.dP,bZR,<-bZT,<-bZS,show o+(i+1)=(o+i)+1 from by omega,bZQ,bZT];generalize z.getD (o+i) 0=x at *;generalize b.getD i 0=y at *;generalize M6.val (z.set (o+i) _)=W at *;generalize 18446744073709551616^(o+i)=P at *;generalize 18446744073709551616^o*M6.val (b.take i)=U at *;have e:((x+y+c)%18446744073709551616).toNat+18446744073709551616*((x+y+c)/18446744073709551616).toNat=x.toNat+y.toNat+c.toNat:=by omega
  have e2:P*((x+y+c)%18446744073709551616).toNat+P*(18446744073709551616*((x+y+c)/18446744073709551616).toNat)=P*x.toNat+P*y.toNat+P*c.toNat:=by
   rw[<-bZR,e,bZR,bZR]
  omega
theorem bound{v o n N X:Nat}(hv:v<18446744073709551616^N)(bQQ:o+n<=N):v+18446744073709551616^o*X-18446744073709551616^(o+n)*Xk v o n X<18446744073709551616^N:=by
 have e1:=M6.Au v o n;unfold Xk;generalize hW:v/18446744073709551616^o%18446744073709551616^n=W at *;have h2:=cFF (W+X) (18446744073709551616^n);have h3:(W+X)%18446744073709551616^n<18446744073709551616^n:=bWZ _ (cY);generalize (W+X)/18446744073709551616^n=c at *;generalize (W+X)%18446744073709551616^n=M at *;have hL:v%18446744073709551616^o<18446744073709551616^o:=bWZ _ (cY);have hT:v/18446744073709551616^(o+n)<18446744073709551616^(N-(o+n)):=by
  apply cAJ;rw[<-bZS,show o+n+(N-(o+n))=N from by omega];exact hv
 generalize v%18446744073709551616^o=L at *;generalize v/18446744073709551616^(o+n)=T at *;have e3:18446744073709551616^(o+n)*c=18446744073709551616^o*(18446744073709551616^n*c):=by rw[bZS,bZT]
 have e4:18446744073709551616^o*(W+X)=18446744073709551616^o*M+18446744073709551616^o*(18446744073709551616^n*c):=by rw[<-h2,bZR]
 rw[bZR]at e4;have e5:v+18446744073709551616^o*X-18446744073709551616^(o+n)*c=L+18446744073709551616^o*M+18446744073709551616^(o+n)*T:=by omega
 rw[e5];have s1:L+18446744073709551616^o*M<18446744073709551616^(o+n):=by
  have:18446744073709551616^o*(M+1)<=18446744073709551616^o*18446744073709551616^n:=bXF _ h3;rw[<-bZS,bZR]at this;omega
 have s2:18446744073709551616^(o+n)*(T+1)<=18446744073709551616^N:=by
  have:=bXF (18446744073709551616^(o+n)) hT;rw[<-bZS,show o+n+(N-(o+n))=N from by omega]at this;exact this
 rw[bZR]at s2;omega
theorem spec(x:List Int×Nat×Nat)(b:List Int)(h:(sp x b).1):aH E f229 aE [(Dl gH .u64).put x,(pI .u64).put b]=some (sp x b).2/\∃rs mZ,(sp x b).2=rs ++ [.io gH .u64 mZ 0 0]/\mZ.length=x.1.length:=by
 obtain⟨xl,o,n⟩:=x;obtain⟨hd,hn,ho,hb,hN⟩:=h;simp only at hd hn ho hN;subst hn;refine⟨(start xl o (b.length+1) b).trans ?_,[_],_,rfl,M6.iG (bound (M6.dS hd) ho)⟩;exact L hN hd hb ho b.length 0 xl 0 (by omega) rfl hd (by omega) (by omega) rfl rfl (by simp[M6.val])
def aJ:dO:=orc2 (Dl gH .u64) (pI .u64) sp
theorem fnok:mA prog E 229 f229 aE:=vV rH mixed (lY _ rfl aD (nR)) func229 rfl rfl rfl rfl rfl
theorem ok:pW prog base.glob 229 aJ:=fnok.mV rfl spec
end yJ
namespace El
def E:Env:={ ({ base with C:=qZ [(228,tH.aJ),(229,yJ.aJ)] (callsOf [(227,aAB.aJ)]),ioF:=Ni [(228,tH.aJ),(229,yJ.aJ)],n0:=1,io:=[0] })with nt:=72,own:=[],keep:=fun k=>(tlook [(10,[0,1,5,6,7,8,9]),(4,[0,1,5,6,7])] k).getD [],cut:=tlook [] }
def aE:=bd f197
theorem aX:Nk E aE:=nk
def L4(a:List Int)(b:Nat)(c:Nat) d f (g:Nat) (h:List Int) i:=sJ E f197 aE 4 [(A.any,some { e:=(22:Nat),cont:=yF.ints u64 a }),(A.v (V.one (L.view 0 b c)),none),iK d,cK f,Ce 4 g 22 h,cK i]
def Gy(a:List Int)(b:Nat)(c:Nat) d f (g:Nat) (h:List Int) i j (k:Nat) (l:Nat):=sJ E f197 aE 10 [(A.any,some { e:=(22:Nat),cont:=yF.ints u64 a }),(A.v (V.one (L.view 0 b c)),none),iK d,cK f,Ce 4 g 22 h,cK i,dG j,(A.v (V.one (L.view 0 k l)),none)]
theorem start al ao an b:aH E f197 aE [D.io gH u64 al ao an,D.s (ints u64 b)]=letI B:=(an:Int);letI A:=(b.length:Int);if 0<=i64.wrap (B-A)/\i64.wrap (B-A)<=i64.wrap (B-A)/\i64.wrap (B-A)<=8796093022208 then El.L4 al ao an b A (i64.wrap (B-A)).toNat (bWU (i64.wrap (B-A)).toNat (0:Int)) (i64.wrap (i64.wrap (B-A)-1))else none:=eJ aX
theorem vI a b c d e f g h:L4 a b c d e f g h=letI N:=b+h.toNat;letI K:=i64.wrap (e-1);letI H:=i64.wrap (h+e)+1;letI G:=i64.wrap (h+e)-1;letI F:=b+(i64.wrap (h+e)).toNat;letI B:=b+(i64.wrap G).toNat;letI A:=i64.wrap H;letI C:=A.toNat-h.toNat;aB (decide (0<=h)) (if 0<=i64.wrap (h+e)/\i64.wrap (h+e)<(c:Int)then if 0<=i64.wrap G/\i64.wrap G<(c:Int)then if 0<=i64.wrap (e-1)/\i64.wrap (e-1)<(d.length:Int)then aO (0<=a.getD F 0/\0<=a.getD B 0/\a.getD B 0<(18446744073709551616:Int)/\d.getD K.toNat 0<(18446744073709551616:Int)) (aC (if d.getD K.toNat 0<=a.getD F 0 then(18446744073709551615:Int)else(↑(((a.getD F 0).toNat*18446744073709551616+(a.getD B 0).toNat)/(d.getD K.toNat 0).toNat):Int)) fun i=>letI I:=M6.val d*i.toNat;if 0<=h/\h<=i64.wrap H/\i64.wrap H<=(c:Int)then aO (M6.cZ a/\A.toNat-h.toNat=d.length+1/\b+h.toNat+C<=a.length/\M6.cZ d/\a.length<=1099511627776/\0<=i/\i<18446744073709551616) (aC (↑(tH.Tl (M6.val a) N C I):Int) fun j=>aC (M6.pT a.length (M6.val a+(18446744073709551616:Nat)^(b+h.toNat+C)*tH.Tl (M6.val a) N C I-(18446744073709551616:Nat)^N*I)) fun k=>aB (j==0) (if 0<=h/\h<(f:Int)then El.L4 k b c d e f (g.set h.toNat i) (i64.wrap (h-1))else none) (El.Gy k b c d e f g h i N C))else none)else none else none else none) (some [D.own 22 u64 g,D.io 22 u64 a 0 0]):=lJ aX
theorem qQ a b c d e f g h i j k:Gy a b c d e f g h i j k=aO (M6.cZ a/\k=d.length+1/\j+k<=a.length/\M6.cZ d/\a.length<=1099511627776) (aC (↑(yJ.Xk (M6.val a) j k (M6.val d)):Int) fun l=>aC (M6.pT a.length (M6.val a+(18446744073709551616:Nat)^j*M6.val d-(18446744073709551616:Nat)^(j+k)*yJ.Xk (M6.val a) j k (M6.val d))) fun m=>aB (l==1) (if 0<=h/\h<(f:Int)then El.L4 m b c d e f (g.set h.toNat (u64.wrap (i-1))) (i64.wrap (h-1))else none) (El.Gy m b c d e f g h (u64.wrap (i-1)) j k)):=lJ aX
def sp(x:List Int×Nat×Nat)(b:List Int):Prop×List D:=(M6.cZ x.1/\x.2.1=0/\x.2.2=x.1.length/\M6.cZ b/\0<b.length/\b.length<=x.1.length/\x.1.length<=549755813888/\M6.val x.1/18446744073709551616^(x.1.length-b.length)<M6.val b,
 [.own gH .u64 (M6.pT (x.1.length-b.length) (M6.val x.1/M6.val b)),.io gH .u64 (M6.pT x.1.length (M6.val x.1%M6.val b)) 0 0])
theorem digit{z:List Int}(hd:M6.cZ z)(k:Nat):(z.getD k 0).toNat=M6.val z/18446744073709551616^k%18446744073709551616:=by
 rw[<-M6.nG hd,M6.jM];have:=hd.get k;omega
theorem Hz{v j n:Nat}(h:v/18446744073709551616^j<18446744073709551616^n):v/18446744073709551616^j%18446744073709551616^n=v/18446744073709551616^j:=cFC h
theorem minus{v j R X:Nat}(hR:R=v/18446744073709551616^j)(hX:X<=R):(v-18446744073709551616^j*X)/18446744073709551616^j=R-X/\18446744073709551616^j*X<=v:=by
 have h1:=cFF v (18446744073709551616^j);have h2:v%18446744073709551616^j<18446744073709551616^j:=bWZ _ (cY);rw[<-hR]at h1;obtain⟨D,rfl⟩:=bVW hX;rw[bZR]at h1;have h3:v-18446744073709551616^j*X=v%18446744073709551616^j+18446744073709551616^j*D:=by omega
 rw[h3,cBW _ _ (cY),cAK h2];omega
theorem plus{v j n R X:Nat}(hR:R=v/18446744073709551616^j)(hX:R<X)(aYM:X<=18446744073709551616^n):(v+18446744073709551616^(j+n)-18446744073709551616^j*X)/18446744073709551616^j%18446744073709551616^n=R+18446744073709551616^n-X:=by
 have h1:=cFF v (18446744073709551616^j);have h2:v%18446744073709551616^j<18446744073709551616^j:=bWZ _ (cY);rw[<-hR]at h1;have h4:18446744073709551616^j*(R+18446744073709551616^n)=18446744073709551616^j*R+18446744073709551616^(j+n):=by rw[bZR,bZS]
 obtain⟨D,hD⟩:∃D,R+18446744073709551616^n=X+D:=bVW (by omega);rw[hD,bZR]at h4;have h3:v+18446744073709551616^(j+n)-18446744073709551616^j*X=v%18446744073709551616^j+18446744073709551616^j*D:=by omega
 rw[h3,cBW _ _ (cY),cAK h2,bUT,cFC (by omega)];omega
theorem aHJ{R V n:Nat}{hi lo d:Int}(hn:0<n)(hV:V<18446744073709551616^n)(bET:R<18446744073709551616*V)(Xi:hi.toNat=R/18446744073709551616^n)(Yw:lo.toNat=R/18446744073709551616^(n-1)%18446744073709551616)(hd:d.toNat=V/18446744073709551616^(n-1))(h0:0<=hi) :
  R/V<=(if d<=hi then(18446744073709551615:Int)else(((hi.toNat*18446744073709551616+lo.toNat)/d.toNat:Nat):Int)).toNat/\(0<=if d<=hi then(18446744073709551615:Int)else(((hi.toNat*18446744073709551616+lo.toNat)/d.toNat:Nat):Int))/\(if d<=hi then(18446744073709551615:Int)else(((hi.toNat*18446744073709551616+lo.toNat)/d.toNat:Nat):Int))<18446744073709551616:=by
 by_cases hc:d<=hi
 ·rw[if_pos hc];refine⟨?_,by omega,by omega⟩;have:R/V<18446744073709551616:=by
   apply cAJ;rw[bZP];exact bET
  show R/V<=18446744073709551615;omega
 ·rw[if_neg hc];obtain⟨k,rfl⟩:∃k,n=k+1:=⟨n-1,by omega⟩;rw[Nat.add_sub_cancel]at Yw hd;have e1:hi.toNat*18446744073709551616+lo.toNat=R/18446744073709551616^k:=by
   rw[Xi,Yw,bZQ,<-cAL];omega
  have bSB:0<d.toNat:=by omega
  have jL:hi.toNat<d.toNat:=by omega
  refine⟨?_,cEF _,?_⟩
  ·rw[bYO,e1,cAL];apply cFH
   ·rw[hd];exact cFL _ _
   ·exact Nat.mul_pos (cY) bSB
  ·have hlo2:lo.toNat<18446744073709551616:=by rw[Yw];exact bWZ _ (by omega)
   have:(hi.toNat*18446744073709551616+lo.toNat)/d.toNat<18446744073709551616:=by
    apply cAJ;have:(hi.toNat+1)*18446744073709551616<=d.toNat*18446744073709551616:=bWG _ jL;omega
   exact Int.ofNat_lt.2 this
theorem bKN{u b qs:List Int}{L j R q:Nat}(hL:L<=549755813888)(hu:u.length=L)(hd:M6.cZ u)(hb:M6.cZ b)(hj:j+(b.length+1)<=L)(hR:R=M6.val u/18446744073709551616^j)(aSY:R<18446744073709551616^(b.length+1))(hV:0<M6.val b)(hq:q=R/M6.val b)(hqs:qs.length=L-b.length):∀(k w:Nat),w=q+(k+1)->w<18446744073709551616 ->
  Gy (M6.pT L (M6.val u+18446744073709551616^(j+(b.length+1))-18446744073709551616^j*(M6.val b*w))) 0 L b b.length (L-b.length) qs j w j (b.length+1)=L4 (M6.pT L (M6.val u-18446744073709551616^j*(M6.val b*q))) 0 L b b.length (L-b.length) (qs.set j (q:Int)) ((j:Int)-1):=by
 have bCK:=M6.dS hb;have bEF:M6.val b*q<=R:=by rw[hq];exact cFL _ _
 have aUS:R<M6.val b*(q+1):=by rw[hq];exact cFT _ hV
 have bAE:=M6.dS hd;rw[hu]at bAE;intro k
 induction k with
 |zero =>
  intro w hw bPU;subst hw;have aYM:M6.val b*(q+(0+1))<=18446744073709551616^(b.length+1):=by
   rw[bZQ];exact cFA (by omega) (by omega)
  have Pd:=plus (n:=b.length+1) hR (X:=M6.val b*(q+(0+1))) aUS aYM;have bCE:M6.val u+18446744073709551616^(j+(b.length+1))-18446744073709551616^j*(M6.val b*(q+(0+1)))<18446744073709551616^L:=by
   have:=tH.bound bAE hj (X:=M6.val b*(q+(0+1))) (by rw[bZQ];exact cCV bCK (by omega));unfold tH.Tl at this;rw[Hz (by rw[<-hR];exact aSY),<-hR,if_pos aUS,bVB]at this;exact this
  have aVN:yJ.Xk (M6.val u+18446744073709551616^(j+(b.length+1))-18446744073709551616^j*(M6.val b*(q+(0+1)))) j (b.length+1) (M6.val b)=1:=by
   unfold yJ.Xk;rw[Pd];have e:R+18446744073709551616^(b.length+1)-M6.val b*(q+(0+1))+M6.val b=18446744073709551616^(b.length+1)*1+(R-M6.val b*q):=by
    rw[bZR]at aYM ⊢;omega
   have jL:R-M6.val b*q<18446744073709551616^(b.length+1):=by omega
   rw[e,cEE (cY),cAK jL]
  have w1:u64.wrap (((q+(0+1):Nat):Int)-1)=(q:Int):=by rw[wrap_u64];omega
  have w2:i64.wrap ((j:Int)-1)=(j:Int)-1:=by rw[wrap_i64]
  rw[qQ,aG,aG,M6.iG bCE,M6.lV,aVN,gP ⟨M6.lW,by trivial,hj,hb,by omega⟩,cN (by rfl),aW,w1,w2,bYO];congr 1;congr 1;have e1:18446744073709551616^j*(M6.val b*(q+(0+1)))=18446744073709551616^j*(M6.val b*q)+18446744073709551616^j*M6.val b:=by rw[bZR,bZR];simp
  have e2:=(minus hR bEF).2;have e3:18446744073709551616^j*M6.val b<=18446744073709551616^(j+(b.length+1)):=by
   rw[bZS,bZQ];exact bXF _ (by omega)
  omega
 |succ k ih =>
  intro w hw bPU;subst hw;have bBH:R<M6.val b*(q+(k+1)):=bVO aUS (bXF _ (by omega));have aJT:M6.val b*(q+(k+1+1))=M6.val b*(q+(k+1))+M6.val b:=by rw[<-bYI q,Nat.mul_succ]
  have aYM:M6.val b*(q+(k+1+1))<=18446744073709551616^(b.length+1):=by
   rw[bZQ];exact cFA (by omega) (by omega)
  have Pd:=plus (n:=b.length+1) hR (X:=M6.val b*(q+(k+1+1))) (by omega) aYM;have bCE:M6.val u+18446744073709551616^(j+(b.length+1))-18446744073709551616^j*(M6.val b*(q+(k+1+1)))<18446744073709551616^L:=by
   have:=tH.bound bAE hj (X:=M6.val b*(q+(k+1+1))) (by rw[bZQ];exact cCV bCK (by omega));unfold tH.Tl at this;rw[Hz (by rw[<-hR];exact aSY),<-hR,aW,bVB]at this;exact this
  have aVN:yJ.Xk (M6.val u+18446744073709551616^(j+(b.length+1))-18446744073709551616^j*(M6.val b*(q+(k+1+1)))) j (b.length+1) (M6.val b)=0:=by
   unfold yJ.Xk;rw[Pd];exact cAK (by omega)
  have w1:u64.wrap (((q+(k+1+1):Nat):Int)-1)=((q+(k+1):Nat):Int):=by rw[wrap_u64];omega
  rw[qQ,aG,aG,M6.iG bCE,M6.lV,aVN,gP ⟨M6.lW,by trivial,hj,hb,by omega⟩,bM (by decide),w1];have e4:M6.val u+18446744073709551616^(j+(b.length+1))-18446744073709551616^j*(M6.val b*(q+(k+1+1)))+18446744073709551616^j*M6.val b-18446744073709551616^(j+(b.length+1))*0=M6.val u+18446744073709551616^(j+(b.length+1))-18446744073709551616^j*(M6.val b*(q+(k+1))):=by
   have e1:18446744073709551616^j*(M6.val b*(q+(k+1+1)))=18446744073709551616^j*(M6.val b*(q+(k+1)))+18446744073709551616^j*M6.val b:=by rw[aJT,bZR]
   have e3:18446744073709551616^j*(M6.val b*(q+(k+1+1)))<=18446744073709551616^(j+(b.length+1)):=by
    rw[bZS];exact bXF _ aYM
   omega
  rw[e4];exact ih _ rfl (by omega)
theorem aNX{α R:Type}{x:α}{k:α->Option R}{r:Option R}(Q:α->Prop)(hx:Q x)(hk:∀w,Q w->k w=r):aC x k=r:=hk x hx
theorem bUP{b:List Int}{L U0:Nat}(hL:L<=549755813888)(hb:M6.cZ b)(hn:0<b.length)(hbL:b.length<=L):∀(t:Nat) (u qs:List Int),t<=L-b.length->u.length=L->M6.cZ u->qs.length=L-b.length->M6.cZ qs->M6.val u/18446744073709551616^t<M6.val b->U0=M6.val u+M6.val b*(18446744073709551616^t*M6.val (qs.drop t)) ->
  L4 u 0 L b b.length (L-b.length) qs ((t:Int)-1)=some [.own gH .u64 (M6.pT (L-b.length) (U0/M6.val b)),.io gH .u64 (M6.pT L (U0%M6.val b)) 0 0]:=by
 have bCK:=M6.dS hb;intro t
 induction t with
 |zero =>
  intro u qs _ hu hd hq bIF jL hU;rw[cEN,Nat.div_one]at jL;rw[cEN,bYV,cBE]at hU;rw[vI,aL];have e1:U0/M6.val b=M6.val qs:=by rw[hU,cBW _ _ (by omega),cAK jL,bUT]
  have e2:U0%M6.val b=M6.val u:=by rw[hU,cGU,cFC jL]
  rw[M6.oW hd hu e2.symm,M6.oW bIF hq e1.symm]
 |succ j ih =>
  intro u qs hj hu hd hq bIF jL hU;obtain⟨R,hR⟩:∃R,R=M6.val u/18446744073709551616^j:=⟨_,rfl⟩;have hV:0<M6.val b:=cBA (cAS _) jL;have bET:R<18446744073709551616*M6.val b:=by
   rw[bZQ,<-cAL,<-hR]at jL;rw[bZP];exact(cFU (by omega)).1 jL
  have aSY:R<18446744073709551616^(b.length+1):=by rw[bZQ];omega
  obtain⟨q,bEE⟩:∃q,q=R/M6.val b:=⟨_,rfl⟩;have bEF:M6.val b*q<=R:=by rw[bEE];exact cFL _ _
  have hqB:q<18446744073709551616:=by
   rw[bEE];apply cAJ;rw[bZP];exact bET
  have bAE:=M6.dS hd;rw[hu]at bAE;have bKY:L4 (M6.pT L (M6.val u-18446744073709551616^j*(M6.val b*q))) 0 L b b.length (L-b.length) (qs.set j (q:Int)) ((j:Int)-1)=some [.own gH .u64 (M6.pT (L-b.length) (U0/M6.val b)),.io gH .u64 (M6.pT L (U0%M6.val b)) 0 0]:=by
   obtain⟨m1,m2⟩:=minus hR bEF;refine ih _ _ (by omega) (M6.iG (by omega)) M6.lW (by simp[hq]) (M6.oF bIF ⟨by omega,by omega⟩) ?_ ?_
   ·rw[M6.lV,m1];have h1:=cFF R (M6.val b);have h2:=bWZ R hV;rw[<-bEE]at h1;omega
   ·rw[M6.lV,M6.xC (by omega),bYO,hU,bZQ];have e1:M6.val b*(18446744073709551616^j*(q+18446744073709551616*M6.val (qs.drop (j+1))))=18446744073709551616^j*(M6.val b*q)+M6.val b*(18446744073709551616^j*18446744073709551616*M6.val (qs.drop (j+1))):=by
     rw[bZR,bZR,cCG,bZT (18446744073709551616^j)]
    rw[e1];omega
  have hx:((j+1:Nat):Int)-1=(j:Int):=by omega
  have w1:i64.wrap ((j:Int)+(b.length:Int))=((j+b.length:Nat):Int):=by rw[wrap_i64];omega
  have w2:i64.wrap (((j+b.length:Nat):Int)-1)=((j+b.length-1:Nat):Int):=by rw[wrap_i64];omega
  have w3:i64.wrap ((b.length:Int)-1)=((b.length-1:Nat):Int):=by rw[wrap_i64];omega
  have w4:i64.wrap (((j+b.length:Nat):Int)+1)=((j+b.length+1:Nat):Int):=by rw[wrap_i64];omega
  have w5:i64.wrap ((j:Int)-1)=(j:Int)-1:=by rw[wrap_i64]
  have e5:j+b.length+1-j=b.length+1:=by omega
  have g1:=hd.get (j+b.length);have g2:=hd.get (j+b.length-1);have g3:=hb.get (b.length-1);have Xi:(u.getD (j+b.length) 0).toNat=R/18446744073709551616^b.length:=by
   rw[digit hd,bZS,<-cAL,<-hR,cFC];apply cAJ;rw[bZQ]at aSY;exact aSY
  have Yw:(u.getD (j+b.length-1) 0).toNat=R/18446744073709551616^(b.length-1)%18446744073709551616:=by
   rw[digit hd,show j+b.length-1=j+(b.length-1)from by omega,bZS,<-cAL,<-hR]
  have aSQ:(b.getD (b.length-1) 0).toNat=M6.val b/18446744073709551616^(b.length-1):=by
   rw[digit hb,cFC];apply cAJ;rw[<-bZQ,show(b.length-1).succ=b.length from by omega];exact bCK
  have ht:=aHJ hn bCK bET Xi Yw aSQ g1.1;rw[hx,vI,aQ,w1,w2,w3,w4,aW,aW,aW,bYO,bYO,bYO,bUT,bUT,gP ⟨g1.1,g2.1,g2.2,g3.2⟩];refine aNX (fun w:Int=>R/M6.val b<=w.toNat/\0<=w/\w<18446744073709551616) ht ?_;rintro w ⟨Bt,h0,h1⟩;obtain⟨w,rfl⟩:=bZV h0;rw[bYO]at Bt;rw[aW];simp only[bYO,bUT,e5];rw[hu,gP ⟨hd,by trivial,by omega,hb,by omega,h0,h1⟩,aG,aG]
  by_cases hc:M6.val b*w<=R
  ·have ho:tH.Tl (M6.val u) j (b.length+1) (M6.val b*w)=0:=by
    unfold tH.Tl;rw[Hz (by rw[<-hR];exact aSY),<-hR,aU]
   have bLJ:w=q:=by
    have:w<=R/M6.val b:=by rw[cGK hV,bZP];exact hc
    omega
   subst bLJ;rw[ho,cN (by rfl),aW,Nat.mul_zero,bVP,w5];exact bKY
  ·have ho:tH.Tl (M6.val u) j (b.length+1) (M6.val b*w)=1:=by
    unfold tH.Tl;rw[Hz (by rw[<-hR];exact aSY),<-hR,aW]
   have bLJ:q<w:=by
    rcases bVH q w with h |h
    ·exact h
    ·exact absurd (bVN (bXF _ h) bEF) hc
   rw[ho,bM (by decide),bVB];rw[bKN hL hu hd hb (by omega) hR aSY hV bEE hq (w-q-1) w (by omega) (by omega)];exact bKY
theorem spec(x:List Int×Nat×Nat)(b:List Int)(h:(sp x b).1):aH E f197 aE [(Dl gH .u64).put x,(pI .u64).put b]=some (sp x b).2/\∃rs mZ,(sp x b).2=rs ++ [.io gH .u64 mZ 0 0]/\mZ.length=x.1.length:=by
 obtain⟨xl,xo,xn⟩:=x;obtain⟨hd,ho,hn,hb,h0,Tn,hL,jL⟩:=h;simp only at hd ho hn Tn hL jL;subst ho;subst hn;refine⟨(start xl 0 xl.length b).trans ?_,[_],_,rfl,M6.iG ?_⟩
 ·have w1:i64.wrap ((xl.length:Int)-(b.length:Int))=((xl.length-b.length:Nat):Int):=by rw[wrap_i64];omega
  have w2:i64.wrap (((xl.length-b.length:Nat):Int)-1)=((xl.length-b.length:Nat):Int)-1:=by rw[wrap_i64]
  rw[w1,w2,aW,bYO];refine bUP hL hb h0 Tn (xl.length-b.length) xl _ (bUR _) rfl hd (by simp) (M6.kY _) jL ?_;rw[cGC (by simp)];simp[M6.val]
 ·show _<18446744073709551616^xl.length;exact cBA (Nat.mod_le _ _) (M6.dS hd)
def aJ:dO:=orc2 (Dl gH .u64) (pI .u64) sp
theorem fnok:mA prog E 197 f197 aE:=vV rH mixed (lZ _ _ rfl rfl (mG tH.ok (mG yJ.ok xM)) (aA aAB.ok aD) (nR)) func197 rfl rfl rfl rfl rfl
theorem ok:pW prog base.glob 197 aJ:=fnok.mV rfl spec
end El
namespace Af
def E:Env:={ ({ base with C:=qZ [(197,El.aJ)] (callsOf [(144,gM.aJ),(101,Aj.aJ),(193,aMV.aJ),(194,nF.aJ),(95,oA.aJ),(195,aMX.aJ),(196,Aa.aJ),(104,Er.aJ)]),ioF:=Ni [(197,El.aJ)] })with nt:=98,own:=[37,49,55,68,76,88,93],keep:=fun k=>(tlook [] k).getD [],cut:=tlook [(3,[0,1])] }
def aE:=bd f151
theorem aX:Nk E aE:=nk
def J3 a b:=mT E f151 aE 3 [iK a,iK b]
theorem start a b:aH E f151 aE [D.s (ints u64 a),D.s (ints u64 b)]=letI B:=sc (slice none 0 0);letI A:=some [D.s B,D.s B,D.s (sc (int i64 2))];aO (a.length<=1099511627776) (aB (!gM.oN a) A (aO (b.length<=1099511627776) (aB (!gM.oN b) A (Af.J3 a b)))):=eJ aX
theorem iA a b:J3 a b=letI K:=sc (int i64 0);letI H:=(a.length:Int);letI O:=H+(1:Int);letI G:=sc (slice none 0 0);letI C:=i64.wrap O;letI A:=(b.length:Int);letI N:=A-(1:Int);letI F:=i64.wrap N;aB (A==(0:Int)) (some [D.s G,D.s G,D.s (sc (int i64 4))]) (aO (M6.cZ a/\M6.cZ b/\a.length<=1099511627776/\b.length<=1099511627776) (aB (decide (lB (M6.val a) (M6.val b)<0)) (aO (M6.cZ a/\a.length<=1099511627776) (aC (bif cP.mL (M6.val a)then M6.dg (M6.val a)else []) fun c=>some [D.s G,D.s (ints u64 c),D.s K])) (aB (A==(1:Int)) (if(0:Int)<=(0:Int)/\0<A then aO (M6.cR a/\a.length<=8192/\0<b.getD 0 0/\b.getD 0 0<(18446744073709551616:Int)) (aC (M6.dg (M6.val a/(b.getD 0 0).toNat)) fun d=>aC (↑(M6.val a%(b.getD 0 0).toNat):Int) fun e=>aO (0<=e/\e<18446744073709551616) (some [D.s (ints u64 d),D.s (ints u64 (M6.dg e.toNat)),D.s K]))else none) (if 0<=i64.wrap N/\i64.wrap N<A then aO (0<=b.getD F.toNat 0/\b.getD F.toNat 0<(18446744073709551616:Int)) (aC ((64:Int)-(↑(bl (b.getD F.toNat 0).toNat):Int)) fun f=>aO (M6.cZ a/\0<=f/\f<64/\0<=i64.wrap O/\a.length<=C.toNat/\i64.wrap O<=549755813888/\M6.val a*(2:Nat)^f.toNat<(18446744073709551616:Nat)^C.toNat) (aC (M6.pT C.toNat (M6.val a*(2:Nat)^f.toNat)) fun g=>aO (M6.cZ b/\0<=f/\f<64/\0<=A/\b.length<=A.toNat/\A<=(549755813888:Int)/\M6.val b*(2:Nat)^f.toNat<(18446744073709551616:Nat)^A.toNat) (aC (M6.pT A.toNat (M6.val b*(2:Nat)^f.toNat)) fun h=>letI P:=g.length-h.length;letI I:=(h.length:Int);aO (M6.cZ g/\(0:Nat)=(0:Nat)/\g.length=g.length/\M6.cZ h/\0<h.length/\h.length<=g.length/\g.length<=549755813888/\M6.val g/(18446744073709551616:Nat)^P<M6.val h) (aC (M6.pT P (M6.val g/M6.val h)) fun i=>aC (M6.pT g.length (M6.val g%M6.val h)) fun j=>letI B:=cDW (I.toNat-0) (cDV 0 j);if(0:Int)<=(0:Int)/\0<=I/\I<=(g.length:Int)then aO (M6.cZ B/\B.length<=1099511627776) (aC (bif cP.mL (M6.val B)then M6.dg (M6.val B)else []) fun k=>aO (M6.cR k/\k.length<=8192/\0<=f/\f<4611686018427387904) (aC (M6.dg (M6.val k/(2:Nat)^f.toNat)) fun l=>aO (M6.cZ i/\i.length<=1099511627776) (aC (bif cP.mL (M6.val i)then M6.dg (M6.val i)else []) fun m=>some [D.s (ints u64 m),D.s (ints u64 l),D.s K])))else none))))else none)))):=cJ aX
def sp(a b:List Int):Prop×List D:=(M6.cR a/\a.length<=8192/\M6.cR b/\1<=b.length/\b.length<=8192,[.s (.ints .u64 (M6.dg (M6.val a/M6.val b))),.s (.ints .u64 (M6.dg (M6.val a%M6.val b))),.s (.sc (.int .i64 0))])
theorem Yj{n k:Nat}(h:n<18446744073709551616^k)(hk:k<=8192):cP.mL n=true:=decide_eq_true (by have:=M6.dZ h;omega)
theorem spec:Oe E f151 aE (pI .u64) (pI .u64) sp:=by
 rintro a b ⟨ha,hl,hb,h1,Tn⟩;have e:=start a b;have g:=hb.kU.get 0;have hz:M6.val b≠0:=fun h=>by have:=(M6.dY hb).2 h;omega
 rw[gP,gM.nL ha hl,bWR,bF,gP,gM.nL hb (by omega),bWR,bF,iA,bM,gP ⟨ha.kU,hb.kU,by omega,by omega⟩]at e;unfold sp;simp only
 by_cases hc:M6.val a<M6.val b
 ·have Na:cP.mL (M6.val a)=true:=Yj (M6.dS ha.kU) hl;rw[aQ (by unfold lB;rw[if_pos hc];omega),gP ⟨ha.kU,by omega⟩,aG,Na]at e;rw[cAK hc,cFC hc,M6.cF];exact⟨_,e,.cons (yQ.nil _) (iE.refl _)⟩
 have hm:=bWZ (M6.val a) (show 0<M6.val b by omega);rw[aL (by unfold lB;rw[if_neg hc];split <;> omega)]at e
 by_cases Kw:b.length=1
 ·have hv:M6.val b=(b.getD 0 0).toNat:=by
   have:=M6.dP (a:=b) 0;rw[M6.dR (by omega)]at this;simpa [M6.val] using this
  rw[cN,if_pos ⟨by omega,by omega⟩,gP ⟨ha,by omega,by omega,by omega⟩,<-hv,aG,aG,gP ⟨cEF _,by generalize M6.val a%M6.val b=m at *;omega⟩,bYO]at e;exact⟨_,e,iE.refl _⟩
 ·have w1:i64.wrap ((b.length:Int)-1)=((b.length-1:Nat):Int):=by rw[wrap_i64];omega
  have w2:i64.wrap ((a.length:Int)+1)=((a.length+1:Nat):Int):=by rw[wrap_i64];omega
  have gt:=hb.kU.get (b.length-1);have htop:b.getD (b.length-1) 0≠0:=by
   have:=M6.getLast_take (a:=b) (n:=b.length-1) (by omega);rw[show b.length-1+1=b.length from by omega,cBD]at this;exact hb.top this
  have bGR:=M6.dP (a:=b) (b.length-1);rw[show b.length-1+1=b.length from by omega,cBD]at bGR;have bLN:=M6.iL hb.kU (b.length-1);obtain⟨x,hx⟩:=bZV gt.1;have Tm:x≠0:=by omega
  have hbx:bl x<=64:=dA.2 (by omega);have bMQ:=pA Tm;have bLI:=vD x;obtain⟨s,hs⟩:∃s:Nat,s=64-bl x:=⟨_,rfl⟩;have ws:(64-(bl x:Int))=(s:Int):=by omega
  have aKT:=M6.dS ha.kU;have bEW:=M6.dS hb.kU;have Fz:2^s<18446744073709551616:=by
   have:2^s<2^64:=cCA (by omega) (by omega);omega
  have aJY:0<2^s:=cY;have bND:M6.val a*2^s<18446744073709551616^(a.length+1):=by rw[bZQ];exact cCV aKT Fz
  have aCQ:M6.val b*2^s<18446744073709551616^b.length:=by
   have h2:(x+1)*2^s<=2^bl x*2^s:=bWG _ bLI;rw[<-bZS,show bl x+s=64 from by omega]at h2;have h3:M6.val b+1<=18446744073709551616^(b.length-1)*(x+1):=by
    rw[bGR,hx,bYO,bZR];omega
   have h4:(M6.val b+1)*2^s<=18446744073709551616^(b.length-1)*(x+1)*2^s:=bWG _ h3;have h5:18446744073709551616^(b.length-1)*((x+1)*2^s)<=18446744073709551616^(b.length-1)*2^64:=bXF _ h2;have h6:18446744073709551616^(b.length-1)*2^64=18446744073709551616^b.length:=by
    conv=>rhs;rw[show b.length=(b.length-1)+1 from by omega,bZQ]
   rw[h6]at h5;rw[bZT]at h4;rw[bVL]at h4;omega
  have hlab:b.length<=a.length:=by
   rcases bVH a.length b.length with h |h
   ·exact absurd (M6.uK ha.kU hb h) hc
   ·exact h
  have Bt:18446744073709551616^(b.length-1)<=M6.val b:=by
   rw[bGR,hx,bYO];have:18446744073709551616^(b.length-1)*1<=18446744073709551616^(b.length-1)*x:=bXF _ (by omega);omega
  have aCK:M6.val a*2^s/18446744073709551616^(a.length+1-b.length)<M6.val b*2^s:=by
   apply cAJ;have h1:18446744073709551616^(a.length+1-b.length)*18446744073709551616^(b.length-1)<=18446744073709551616^(a.length+1-b.length)*M6.val b:=bXF _ Bt;rw[<-bZS,show a.length+1-b.length+(b.length-1)=a.length from by omega]at h1;rw[<-bZT];exact cGY (bVO aKT h1) aJY
  have hQ:M6.val a*2^s/(M6.val b*2^s)=M6.val a/M6.val b:=cDH _ _ aJY;have hR:M6.val a*2^s%(M6.val b*2^s)=M6.val a%M6.val b*2^s:=cDI _ _ _;have bES:M6.val a%M6.val b*2^s<18446744073709551616^b.length:=Nat.lt_trans (cGY hm aJY) aCQ;have hRl2:M6.val a%M6.val b*2^s<18446744073709551616^(a.length+1):=bVO bES (M6.qB (by omega));have bSX:M6.val a/M6.val b<18446744073709551616^a.length:=cBA (cFB _ _) aKT;have bJA:M6.val a/M6.val b<18446744073709551616^(a.length+1-b.length):=by
   apply cAJ;have h1:18446744073709551616^(b.length-1)*18446744073709551616^(a.length+1-b.length)<=M6.val b*18446744073709551616^(a.length+1-b.length):=bWG _ Bt;rw[<-bZS,show b.length-1+(a.length+1-b.length)=a.length from by omega]at h1;omega
  have bAK:M6.val ((M6.pT (a.length+1) (M6.val a%M6.val b*2^s)).take b.length)=M6.val a%M6.val b*2^s:=by
   rw[M6.tJ M6.lW,M6.lV,cFC bES]
  rw[bM,w1,w2,aW,bYO,bYO,bYO,gP gt,hx,bYO,ws,aG,bYO,
   gP ⟨ha.kU,by omega,by omega,by omega,by omega,by omega,bND⟩,aG,gP ⟨hb.kU,by omega,by omega,by omega,bUR _,by omega,aCQ⟩,aG,
   M6.iG bND,M6.iG aCQ,M6.lV,M6.lV,bYO,gP ⟨M6.lW,rfl,rfl,M6.lW,by omega,by omega,by omega,aCK⟩,aG,aG,hQ,hR,
   aW,cBE,Nat.sub_zero,bAK,gP ⟨M6.lW.take _,by rw[bXH];omega⟩,Yj bES Tn,cond_true,aG,
   gP ⟨M6.aY _,by have:=M6.dZ bES;omega,by omega,by omega⟩,M6.bN,cEP _ aJY,aG,gP ⟨M6.lW,by rw[M6.iG bJA];omega⟩,M6.lV,Yj bSX hl,cond_true,aG]at e
  exact⟨_,e,iE.refl _⟩
def aJ:dO:=orc2 (pI .u64) (pI .u64) sp
theorem fnok:sZ prog E 151 f151 aE:=aFA rH mixed (lZ _ _ rfl rfl (mG El.ok xM) (aA gM.ok (aA Aj.ok (aA aMV.ok (aA nF.ok (aA oA.ok (aA aMX.ok (aA Aa.ok (aA Er.ok aD)))))))) (nR)) func151 rfl rfl rfl
theorem ok:lA prog base.glob 151 aJ:=fnok.aNH rfl spec
end Af
namespace aFZ
def E:=mE [(96,fI.aJ),(151,Af.aJ),(102,uD.aJ),(99,Ak.aJ)] 60 [28,50,57] [(3,[2,3,4])] [3]
def aE:=bd f109
theorem aX:Nk E aE:=nk
def J3 a b c d e:=mT E f109 aE 3 [dK 0 27 [cU a,fU b],dK 1 27 [cU c,fU d],dK 2 27 [cU e,sc (slice none 0 0)]]
theorem start a b c d:aH E f109 aE [D.agg [sc (bool a),ints u64 b],D.agg [sc (bool c),ints u64 d]]=letI A:=some [D.agg [sc (bool false),sc (slice none 0 0)],D.s (sc (int i64 2))];aO (b.length<=1099511627776) (aB (!fI.nP (a,b)) A (aO (d.length<=1099511627776) (aB (!fI.nP (c,d)) A (aFZ.J3 a b c d false)))):=eJ aX
theorem iA a b c d e:J3 a b c d e=letI A:=M6.dg (M6.val b%M6.val d);letI F:=M6.dg (M6.val d-M6.val A);letI C:=bif (if M6.val d<M6.val A then(3:Int)else(0:Int))==0 then zs c (M6.val F)else(0:Int);letI B:=aO (M6.cR A/\A.length<=1099511627776) (some [D.agg [sc (bool (isNeg (zs c (M6.val A)))),ints u64 (M6.dg (zs c (M6.val A)).natAbs)],D.s (sc (int i64 0))]);aB ((d.length:Int)==(0:Int)) (some [D.agg [sc (bool false),sc (slice none 0 0)],D.s (sc (int i64 4))]) (aO (M6.cR b/\b.length<=8192/\M6.cR d/\1<=d.length/\d.length<=8192) (aB (a !=c) (aB (decide (0<(A.length:Int))) (aO (M6.cR d/\M6.cR A/\d.length<=8192/\A.length<=8192) (aO (M6.cR F/\F.length<=1099511627776) (some [D.agg [sc (bool (isNeg C)),ints u64 (M6.dg C.natAbs)],D.s (sc (int i64 (if M6.val d<M6.val A then(3:Int)else(0:Int))))]))) B) B)):=cJ aX
def sp(x y:Bool×List Int):Prop×List D:=(gI x/\gI y/\y.1=false/\1<=y.2.length,[wD (wv x%wv y),.s (.sc (.int .i64 0))])
theorem spec:gU E f109 aE oD oD sp:=by
 rintro x y ⟨hx,hy,hn,h1⟩;refine(start x.1 x.2 y.1 y.2).trans ?_;have l1:=hx.len;have l2:=hy.len;have f1:=fI.kS hx;have f2:=fI.kS hy;have b2:=hy.bl;obtain⟨p,a⟩:=x;obtain⟨q,b⟩:=y;have n1:M6.cR a:=hx.1;have n2:M6.cR b:=hy.1
 try dsimp only at *
 subst hn;unfold sp
 try dsimp only
 have hz:M6.val b≠0:=fun h=>by have:=(M6.dY n2).2 h;omega
 have hm:=bWZ (M6.val a) (show 0<M6.val b by omega);have hl:=fM (n:=M6.val a%M6.val b) (k:=8192) (bVN (fX (Nat.le_of_lt hm)) b2);have bEI:=fM (n:=M6.val b-M6.val a%M6.val b) (k:=8192) (bVN (fX (Nat.sub_le _ _)) b2);have hb:wv (false,b)=(M6.val b:Int):=Ev (x:=(false,b)) rfl;have zf:∀n:Nat,zs false n=(n:Int):=fun n=>rfl
 rw[gP,f1,bWR,bF,gP,f2,bWR,bF,iA,bM,gP ⟨n1,l1,n2,h1,l2⟩];simp only[M6.bN];cases p with
 |false =>
  have ha:wv (false,a)=(M6.val a:Int):=Ev (x:=(false,a)) rfl;rw[show(false !=false)=false from rfl,bF,gP ⟨M6.aY _,by omega⟩,ha,hb,<-cCB];rfl
 |true =>
  have ha:wv (true,a)=-(M6.val a:Int):=Qf (x:=(true,a)) rfl;rw[show(true !=false)=true from rfl,bT]
  by_cases hr:M6.val a%M6.val b=0
  ·have e0:-(M6.val a:Int)%(M6.val b:Int)=0:=by
    have aYI:=bZX (M6.val a) (M6.val b);rw[hr,bVP]at aYI;rw[<-aYI,cAN,<-cDJ];exact Int.mul_emod_right _ _
   rw[hr,M6.cF,aL (by simp),gP ⟨M6.It,by simp⟩,ha,hb,e0];rfl
  ·have hd:(M6.dg (M6.val a%M6.val b)).length≠0:=fun h=>hr (M6.iO.1 h)
   have e0:-(M6.val a:Int)%(M6.val b:Int)=((M6.val b-M6.val a%M6.val b:Nat):Int):=by
    have aYI:=bZX (M6.val a) (M6.val b);have e1:-(M6.val a:Int)=((M6.val b-M6.val a%M6.val b:Nat):Int)+(M6.val b:Int)*(-(((M6.val a/M6.val b+1:Nat)):Int)):=by
     have e2:((M6.val b*(M6.val a/M6.val b)+M6.val a%M6.val b:Nat):Int)=(M6.val a:Int):=by rw[aYI]
     rw[cFM,cAN]at e2;rw[cDJ,cFM,Int.mul_add];generalize M6.val a%M6.val b=r at *;generalize (M6.val b:Int)*((M6.val a/M6.val b:Nat):Int)=z at *;omega
    rw[e1,Int.add_mul_emod_self_left];exact Int.emod_eq_of_lt (by omega) (by omega)
   rw[aQ,gP ⟨n2,M6.aY _,l2,hl⟩,gP ⟨M6.aY _,by omega⟩,aU,ha,hb,e0];rfl
def aJ:dO:=orc2 oD oD sp
theorem ok:OK 109 aJ:=(fA E aE (aA fI.ok (aA Af.ok (aA uD.ok (aA Ak.ok aD)))) func109).mV rfl spec
end aFZ
namespace sU
def E:=mE [(96,fI.aJ)] 40 [] [(8,[1,4])] [8]
def aE:=bd f110
theorem aX:Nk E aE:=nk
def J8 a b c:=mT E f110 aE 8 [dK 0 27 [cU a,fU b],dG c]
theorem start a b:aH E f110 aE [D.agg [sc (bool a),ints u64 b]]=letI F:=sU.J8 a b (b.getD 0 0);letI C:=(b.length:Int);letI B:=sc (int i64 0);letI A:=some [D.s B,D.s (sc (int i64 5))];aO (b.length<=1099511627776) (aB (!fI.nP (a,b)) (some [D.s B,D.s (sc (int i64 2))]) (aB (C==(0:Int)) (some [D.s B,D.s B]) (if(0:Int)<=(0:Int)/\0<C then aB (decide (1<C)) A (aB (decide (9223372036854775808<b.getD 0 0)) A (aB (b.getD 0 0==(9223372036854775808:Int)) (aB (!a) A F) F))else none))):=eJ aX
theorem Cb a b c:J8 a b c=aB a (some [D.s (sc (int i64 (i64.wrap (u64.wrap ((0:Int)-c))))),D.s (sc (int i64 0))]) (some [D.s (sc (int i64 (i64.wrap c))),D.s (sc (int i64 0))]):=cJ aX
def sA(z:Int):Bool:=decide (-9223372036854775808<=z)&&decide (z<9223372036854775808)
def sp(x:Bool×List Int):Prop×List D:=(gI x,[.s (.sc (.int .i64 (bif sA (wv x)then wv x else 0))),.s (.sc (.int .i64 (bif sA (wv x)then 0 else 5)))])
theorem spec:jD E f110 aE oD sp:=by
 intro x h;have h:gI x:=h;refine(start x.1 x.2).trans ?_;obtain⟨b,a⟩:=x;have hl:a.length<=8192:=h.len;have h1:M6.cR a:=h.1;have g:=h1.kU.get 0;have hf:=fI.kS h
 try dsimp only
 unfold sp
 try dsimp only
 rw[gP,hf,bWR,bF];have yes:∀z:Int,-9223372036854775808<=z->z<9223372036854775808->sA z=true:=fun z h h'=>by unfold sA;rw[decide_eq_true h,decide_eq_true h'];rfl
 have no:∀z:Int,(z < -9223372036854775808\/9223372036854775808<=z)->sA z=false:=fun z h=>by
  unfold sA;rcases h with h |h
  ·rw[decide_eq_false (by omega),cAA]
  ·rw[decide_eq_false (show ¬z<_ by omega),cAD]
 by_cases hz:a.length=0
 ·have hv:=(M6.dY h1).1 hz;have:wv (b,a)=0:=by
   have:=iF (b,a);rw[show M6.val (b,a).2=0 from hv]at this;omega
  rw[cN,this];rfl
 ·rw[bM,if_pos ⟨by omega,by omega⟩];have bGQ:M6.val a≠0:=fun h=>hz ((M6.dY h1).2 h)
  have aKO:=iF (b,a)
  try dsimp only at aKO
  by_cases h2:1<a.length
  ·have Bt:18446744073709551616<=M6.val a:=by
    have:=M6.Bc (n:=M6.val a) (k:=1) (by rw[aIY h1];exact h2);omega
   rw[aQ,no _ (by omega)];rfl
  ·have hv:M6.val a=(a.getD 0 0).toNat:=by
    have:=M6.dP (a:=a) 0;rw[M6.dR (by omega)]at this;simpa [M6.val] using this
   rw[aL];generalize a.getD 0 0=w at *
   by_cases h3:9223372036854775808<w
   ·rw[aQ h3,no _ (by omega)];rfl
   ·rw[aL h3,Cb];cases b with
    |true =>
     have hw:wv (true,a)=-(M6.val a:Int):=Qf (x:=(true,a)) rfl;have e1:i64.wrap (u64.wrap (0-w))=wv (true,a):=by rw[hw,fK,Gz];omega
     rw[yes _ (by omega) (by omega),bWR,bF,bT,e1];unfold aB;cases (w==9223372036854775808) <;> rfl
    |false =>
     have hw:wv (false,a)=(M6.val a:Int):=Ev (x:=(false,a)) rfl;rw[cFY,bT,bF]
     by_cases h4:w=9223372036854775808
     ·rw[cN h4,no _ (by omega)];rfl
     ·rw[bM h4,yes _ (by omega) (by omega),wrap_i64];rw[show w=wv (false,a)from by omega];rfl
def aJ:dO:=orc1 oD sp
theorem ok:OK 110 aJ:=(fA E aE (aA fI.ok aD) func110).pU rfl spec
end sU
namespace Wr
def E:=mE [(51,aFX.aJ),(109,aFZ.aJ),(110,sU.aJ)] 19 [15] [] []
def aE:=bd f60
theorem aX:Nk E aE:=nk
theorem start a b:aH E f60 aE [D.agg [sc (bool a),ints u64 b]]=letI B:=(isNeg 4,M6.dg 4);letI A:=(isNeg (wv (a,b)%wv B),M6.dg (wv (a,b)%wv B).natAbs);aO ((-9223372036854775808:Int)<=(4:Int)/\(4:Int)<(9223372036854775808:Int)) (aO (gI (a,b)/\gI B/\isNeg 4=false/\1<=(M6.dg 4).length) (aO (gI A) (some [D.s (sc (int i64 (bif sU.sA (wv A)then wv A else(0:Int))))]))):=eJ aX
def sp(x:Bool×List Int):Prop×List D:=(gI x,[.s (.sc (.int .i64 (wv x%4)))])
theorem spec:jD E f60 aE oD sp:=by
 intro x h;have h:gI x:=h;have e4:wv (isNeg 4,M6.dg 4)=4:=nA 4;have w4:gI (isNeg 4,M6.dg 4):=fT (z:=4) (bVN (dA.2 (show(4:Int).natAbs<2^3 by decide)) (by omega));have l4:(M6.dg 4).length=1:=by
  have h1:=M6.dZ (n:=4) (k:=1) (by decide);have h2:(M6.dg 4).length≠0:=fun h=>by have:=M6.iO.1 h;omega
  omega
 have hr:0<=wv x%4/\wv x%4<4:=by omega
 refine(start x.1 x.2).trans ?_;rw[gP,gP ⟨h,w4,rfl,Nat.le_of_eq l4.symm⟩,e4,nA];show aO _ _=some [D.s (.sc (.int .i64 (wv x%4)))];generalize wv (x.1,x.2)%4=r at *;rw[gP (fT (bVN (dA.2 (show r.natAbs<2^3 by omega)) (by omega)))];have:sU.sA r=true:=by unfold sU.sA;rw[decide_eq_true (by omega),decide_eq_true (by omega)];rfl
 rw[this];rfl
def aJ:dO:=orc1 oD sp
theorem ok:OK 60 aJ:=(fA E aE (aA aFX.ok (aA aFZ.ok (aA sU.ok aD))) func60).pU rfl spec
end Wr
namespace cV
def E:=mE [(12,bP.aJ),(56,jQ.aJ),(13,bI.aJ),(57,Wt.aJ),(58,Td.aJ),(59,Tc.aJ),(48,Al.aJ),(60,Wr.aJ)] 71 [22,68] [] []
def aE:=bd f18
theorem aX:Nk E aE:=nk
theorem start a:aH E f18 aE [D.s (sc (int u64 a))]=letI N:=sc (int i64 0);letI I:=bif gT 1 (-1:Int)then aN 1 (-1:Int)else((0:Int),(0:Int));letI B:=bif cS.fO 64 a&&cA.jB 64 a then aN (bP.nB 64 a) (bP.nH 64 a)else((0:Int),(0:Int));aO (((64:Int)=(32:Int)\/(64:Int)=(64:Int))/\0<=a/\a<18446744073709551616) (aC (isNeg B.fst) fun b=>aC (M6.dg B.fst.natAbs) fun c=>aC B.snd fun d=>letI O:=dv (b,c,d);letI H:=bif jQ.Ff O 1 then jQ.Mv O 1 else((0:Int),(0:Int));aC (bif cS.fO 64 a then bif cA.jB 64 a then(0:Int)else(6:Int)else(2:Int)) fun e=>aB (e !=0) (some [D.s N,D.agg [sc (bool false),sc (slice none 0 0),sc (int i64 0)],D.s (sc (int i64 e))]) (aO (aP (b,c,d)/\(-9223372036854775808:Int)<=(1:Int)/\(1:Int)<(9223372036854775808:Int)) (aC (isNeg H.fst) fun f=>aC (M6.dg H.fst.natAbs) fun g=>aC H.snd fun h=>aO (((-9223372036854775808:Int)<=(1:Int)/\(1:Int)<(9223372036854775808:Int))/\(-9223372036854775808:Int)<=(-1:Int)/\(-1:Int)<(9223372036854775808:Int)) (aC (isNeg I.fst) fun i=>aC (M6.dg I.fst.natAbs) fun j=>aC I.snd fun k=>letI C:=bif bI.jW (dv (f,g,h)) (dv (i,j,k))then bI.nC (dv (f,g,h)) (dv (i,j,k))else((0:Int),(0:Int));aO (aP (f,g,h)/\aP (i,j,k)) (aC (isNeg C.fst) fun l=>aC (M6.dg C.fst.natAbs) fun m=>aC C.snd fun n=>letI G:=bif pM.sR (dv (l,m,n)) 0 then pM.zS (dv (l,m,n)) 0 else((0:Int),(0:Int));aO (aP (l,m,n)/\(-4611686018427387904:Int)<=(0:Int)/\(0:Int)<(4611686018427387904:Int)) (aC (isNeg G.fst) fun o=>aC (M6.dg G.fst.natAbs) fun p=>aC G.snd fun q=>letI K:=bif fit (M6.val p*(2:Nat)^q.toNat)then wv (o,p)*(↑((2:Nat)^q.toNat):Int)else(0:Int);letI F:=bif jQ.Ff (dv (o,p,q)) (-1:Int)then jQ.Mv (dv (o,p,q)) (-1:Int)else((0:Int),(0:Int));aO (aP (o,p,q)/\(-9223372036854775808:Int)<=(-1:Int)/\(-1:Int)<(9223372036854775808:Int)) (aC (isNeg F.fst) fun r=>aC (M6.dg F.fst.natAbs) fun s=>aC F.snd fun t=>letI P:=dv (r,s,t);letI A:=bif bI.jW O (-P.fst,P.snd)then bI.nC O (-P.fst,P.snd)else((0:Int),(0:Int));aO (aP (b,c,d)/\aP (r,s,t)) (aC (isNeg A.fst) fun u=>aC (M6.dg A.fst.natAbs) fun v=>aC A.snd fun w=>aB (decide (q<2)) (aO (gI (o,p)/\0<=q/\q<4611686018427387904) (aC (isNeg K) fun x=>aC (M6.dg K.natAbs) fun y=>aO (gI (x,y)) (aC (wv (x,y)%4) fun z=>some [D.s (sc (int i64 z)),D.agg [sc (bool u),ints u64 v,sc (int i64 w)],D.s N]))) (some [D.s N,D.agg [sc (bool u),ints u64 v,sc (int i64 w)],D.s N]))))))))):=eJ aX
def zC(p:Int×Int):Int:=if 0<=p.2 then p.1*p2 (p.2+1)else(p.1*4+p2 (-p.2))/p2 (1-p.2)
def Ud(p:Int×Int):Int:=if 0<=p.2 then 0 else p.1*2-zC p*p2 (-p.2)
def Fj(p:Int×Int):Int×Int:=aN (Ud p) (p.2-1)
def pS(a:Int):Int×Int:=aN (bP.nB 64 a) (bP.nH 64 a)
def sp(a:Int):Prop×List D:=(0<=a/\a<18446744073709551616,[.s (.sc (.int .i64 (bif cA.jB 64 a then zC (pS a)%4 else 0))),dD (bif cA.jB 64 a then Fj (pS a)else(0,0)),.s (.sc (.int .i64 (bif cA.jB 64 a then 0 else 6)))])
theorem dS{a:Int}(_:0<=a)(hf:cA.jB 64 a=true):(bP.nB 64 a).natAbs<2^53/\-1074<=bP.nH 64 a/\bP.nH 64 a<=971:=by
 have Bn:0<=a%cE.cT (aI.fS 64):=by rw[show cE.cT (aI.fS 64)=9223372036854775808 from rfl];omega
 have oV:a%cE.cT (aI.fS 64)<jZ.lK (aI.fS 64):=of_decide_eq_true hf;have hm:=bP.Re aI.tD Bn;have hx:=bP.Rt aI.tD Bn oV;refine⟨?_,hx.1,?_⟩
 ·unfold bP.nB;rw[lP];have:=hm.2;rw[show aI.fS 64=(64,53,-1074,9221120237041090561)from rfl]at *;omega
 ·unfold bP.nH dU.tW;rw[show jZ.lK (aI.fS 64)=9218868437227405312 from rfl]at oV;rw[show cG.kI (aI.fS 64)=4503599627370496 from rfl];rw[show(aI.fS 64).2.2.1=-1074 from rfl];split <;> omega
theorem aIW{a:Int}(h0:0<=a)(hf:cA.jB 64 a=true):jJ (pS a)/\(pS a).1.natAbs<2^53/\-1074<=(pS a).2/\(pS a).2<=1024:=by
 obtain⟨h1,h2,h3⟩:=dS h0 hf;have hb:bl (bP.nB 64 a).natAbs<=53:=dA.2 h1;have ha:=Kj (bP.nB 64 a) (bP.nH 64 a);refine⟨gJ (gO (by omega) (by omega)) (by omega),?_,?_⟩
 ·unfold pS;omega
 ·unfold pS
  by_cases hz:bP.nB 64 a=0
  ·rw[hz,fC];exact⟨by show(-1074:Int)<=0;omega,by show(0:Int)<=1024;omega⟩
  ·have:=(lE (e:=bP.nH 64 a) hz).2;have:=Dd (n:=(bP.nB 64 a).natAbs) (by omega);omega
theorem spec:aMO E f18 aE (pN .u64) sp:=by
 rintro a ⟨h0,h1⟩;have hp:cS.fO 64 a=true:=rfl;unfold sp
 try dsimp only
 cases hf:cA.jB 64 a with
 |false =>
  have s:=start a;rw[gP ⟨.inr rfl,h0,h1⟩,hp,hf,vl,vl,vl,vl,oI (by decide)]at s;refine⟨_,s,.cons (yQ.refl _) (.cons ?_ (iE.refl _))⟩;unfold dD;rw[cond_false,show((0,0):Int×Int).1.natAbs=0 from rfl,M6.cF];exact yQ.agg (.cons (Cu.refl _) (.cons (Cu.nil _) (yE.refl _)))
 |true =>
  refine⟨_,(start a).trans ((gP ⟨.inr rfl,h0,h1⟩).trans ?_),iE.refl _⟩
  try dsimp only[cond_true]
  have e1:(bif cS.fO 64 a&&cA.jB 64 a then aN (bP.nB 64 a) (bP.nH 64 a)else((0:Int),(0:Int)))=pS a:=by rw[hp,hf];rfl
  have bUB:(bif cS.fO 64 a then bif cA.jB 64 a then(0:Int)else 6 else 2)=0:=by rw[hp,hf];rfl
  rw[e1,bUB,Bq,vl,gE rfl];obtain⟨aEN,hm,aPW,aCM⟩:=aIW h0 hf;generalize pS a=p at *;obtain⟨m,e⟩:=p;have hs:aN m e=(m,e):=aEN.same
  try dsimp only at hm aPW aCM
  have bm:bl m.natAbs<=53:=dA.2 hm;rw[gP ⟨dJ aEN,by omega,by omega⟩,dT];have bK:bl (zC (m,e)).natAbs<=1100:=by
   unfold zC
   try dsimp only
   split
   ·have:=zY (n:=e+1) (k:=1025) bm (by omega);omega
   ·refine aWQ ?_ _;have b1:=zY (z:=m) (n:=2) (k:=2) bm (by omega);have b2:=zY (z:=1) (n:=-e) (k:=1074) Gl (by omega);rw[cGD]at b2;exact bVN (Zs (n:=1075) (bVN b1 (by omega)) b2) (by omega)
  have hR:Fj (m,e)=aN (if 0<=e then 0 else m*2-zC (m,e)*p2 (-e)) (e-1):=rfl;have hK:zC (m,e)=if 0<=e then m*p2 (e+1)else(m*4+p2 (-e))/p2 (1-e):=rfl
  generalize zC (m,e)=K at *;generalize Fj (m,e)=R at *;rw[<-hs];have e2:(bif jQ.Ff (aN m e) 1 then jQ.Mv (aN m e) 1 else((0:Int),(0:Int)))=aN m (e+1):=by
   rw[Ub (by omega) (by omega),aBI];rfl
  have e3:(bif gT 1 (-1)then aN 1 (-1)else((0:Int),(0:Int)))=aN 1 (-1):=by
   rw[gO (by omega) (by have:=Gl;omega)];rfl
  have bOS:jJ (aN m (e+1)):=gJ (gO (by omega) (by omega)) (by omega);have p3:jJ (aN 1 (-1)):=gJ (gO (by omega) (by have:=Gl;omega)) (by have:=Gl;omega);rw[e2,e3,Bq,gP ⟨by omega,by omega⟩,Bq,gP ⟨dJ bOS,dJ p3⟩,dT,dT];obtain⟨S,G,hS,hG0,bJI,Na,aPZ,aYG⟩:∃S G:Int,bl S.natAbs<=1100/\-1100<=G/\G<=-1/\bI.jW (aN m (e+1)) (aN 1 (-1))=true/\bI.nC (aN m (e+1)) (aN 1 (-1))=aN S G/\S/p2 (0-G)=K:=by
   by_cases hc:0<=e
   ·have b1:=zY (z:=m) (n:=e+1 - -1) (k:=1026) bm (by omega);have b2:=zY (z:=1) (n:=-1 - -1) (k:=0) Gl (by omega);refine⟨_,-1,bVN (Zs (n:=1080) (bVN b1 (by omega)) (bVN b2 (by omega))) (by omega),by omega,by omega,Bi (G:=-1) (by omega) (by omega) (by omega) (by omega) (by omega) (by omega),Ek (by omega) (by omega),?_⟩;rw[hK,if_pos hc,show e+1 - -1=e+1+1 by omega,sG (by omega) (by omega),show p2 (0 - -1)=2 from rfl,show p2 (-1 - -1)=1 from rfl,aIQ];generalize p2 (e+1)=q;rw[<-cAY];omega
   ·have b1:=zY (z:=m) (n:=e+1-(e-1)) (k:=2) bm (by omega);have b2:=zY (z:=1) (n:=-1-(e-1)) (k:=1074) Gl (by omega);refine⟨_,e-1,bVN (Zs (n:=1080) (bVN b1 (by omega)) (bVN b2 (by omega))) (by omega),by omega,by omega,Bi (G:=e-1) (by omega) (by omega) (by omega) (by omega) (by omega) (by omega),Ek (by omega) (by omega),?_⟩;rw[hK,if_neg hc,show e+1-(e-1)=2 by omega,show -1-(e-1)=-e by omega,cGD,show p2 2=4 from rfl,show 0-(e-1)=1-e by omega]
  have e4:(bif bI.jW (aN m (e+1)) (aN 1 (-1))then bI.nC (aN m (e+1)) (aN 1 (-1))else((0:Int),(0:Int)))=aN S G:=by rw[Na,aPZ];rfl
  have p4:jJ (aN S G):=gJ (gO (by omega) (by omega)) (by omega);have e5:(bif pM.sR (aN S G) 0 then pM.zS (aN S G) 0 else((0:Int),(0:Int)))=aN K 0:=by
   rw[Ze (by omega) (by omega) (by rw[aYG];omega),aEX (by omega),aYG];rfl
  have p5:jJ (aN K 0):=gJ (gO (by omega) (by omega)) (by omega);rw[e4,Bq,gP ⟨dJ p4,by omega,by omega⟩,dT,e5,Bq,gP ⟨dJ p5,by omega,by omega⟩,dT];have e6:(bif jQ.Ff (aN K 0) (-1)then jQ.Mv (aN K 0) (-1)else((0:Int),(0:Int)))=aN K (-1):=by
   rw[Ub (by omega) (by omega),aBI];rfl
  have p6:jJ (aN K (-1)):=gJ (gO (by omega) (by omega)) (by omega);rw[e6,Bq,gP ⟨dJ (hs▸aEN),dJ p6⟩,dT,<-aIX];have e7:(bif bI.jW (aN m e) (aN (-K) (-1))then bI.nC (aN m e) (aN (-K) (-1))else((0:Int),(0:Int)))=R:=by
   rw[hR]
   by_cases hc:0<=e
   ·have b1:=zY (z:=m) (n:=e - -1) (k:=1026) bm (by omega);have b2:=zY (z:=-K) (n:=-1 - -1) (k:=0) (aMJ bK) (by omega);rw[Bi (G:=-1) (by omega) (by omega) (by omega) (by omega) (by omega) (by omega),Ek (G:=-1) (by omega) (by omega),if_pos hc,hK,if_pos hc,show e - -1=e+1 by omega,show p2 (-1 - -1)=1 from rfl,cGA];rw[show m*p2 (e+1)+-(m*p2 (e+1))=0 by omega,fC,fC];rfl
   ·have b1:=zY (z:=m) (n:=e-(e-1)) (k:=1) bm (by omega);have b2:=zY (z:=-K) (n:=-1-(e-1)) (k:=1074) (aMJ bK) (by omega);rw[Bi (G:=e-1) (by omega) (by omega) (by omega) (by omega) (by omega) (by omega),Ek (G:=e-1) (by omega) (by omega),if_neg hc,show e-(e-1)=1 by omega,show -1-(e-1)=-e by omega,aIQ,cEB,<-Int.sub_eq_add_neg];rfl
  rw[e7,Bq];have gK:=Yk (z:=K) (e:=0) (G:=0) (by omega);rw[Int.sub_self,Int.sub_zero,aBV,cGA]at gK;have bRE:0<=(aN K 0).2:=by
   by_cases hz:K=0
   ·rw[hz,fC];exact cFZ 0
   ·exact qT hz
  have bPW:M6.val (M6.dg (aN K 0).1.natAbs)=(aN K 0).1.natAbs:=M6.bN _;have aKG:fit (M6.val (M6.dg (aN K 0).1.natAbs)*2^(aN K 0).2.toNat)=true:=by
   rw[bPW,<-Zz,gK];exact decide_eq_true (by omega)
  by_cases hc:(aN K 0).2<2
  ·rw[aQ hc,gP ⟨(dJ p5).Db,by omega,by omega⟩,nA,aKG];have e8:(bif true then(aN K 0).1*((2^(aN K 0).2.toNat:Nat):Int)else(0:Int))=K:=gK;rw[e8,vl,vl,gP (fT (by omega)),nA,vl];rfl
  ·rw[aL hc];have:K%4=0:=by
    have e9:p2 (aN K 0).2=p2 ((aN K 0).2-2)*4:=by
     have:=sG (m:=(aN K 0).2-2) (n:=2) (by omega) (by omega);rwa [show(aN K 0).2-2+2=(aN K 0).2 by omega]at this
    rw[e9,<-cAY]at gK;generalize (aN K 0).1*p2 ((aN K 0).2-2)=q at *;omega
   rw[this];rfl
def aJ:dO:=orc1 (pN .u64) sp
theorem ok:OK 18 aJ:=(fA E aE (aA bP.ok (aA jQ.ok (aA bI.ok (aA Wt.ok (aA Td.ok (aA Tc.ok (aA Al.ok (aA Wr.ok aD)))))))) func18).aYX rfl spec
end cV
namespace mP
def E:=mE [(78,aI.aJ)] 12 [] [] []
def aE:=bd f84
theorem aX:Nk E aE:=nk
theorem start a:aH E f84 aE [D.s (sc (int i64 a))]=letI A:=aI.fS a;aO True (aB (A.fst==0&&(A.snd.fst==0&&(A.snd.snd.fst==0&&(A.snd.snd.snd==0&&true)))) (some [D.s (sc (int u64 0)),D.s (sc (int i64 1))]) (some [D.s (sc (int u64 A.snd.snd.snd)),D.s (sc (int i64 0))])):=eJ aX
def Cp(f:Int):Bool:=decide (f=32\/f=64)
def sp(f:Int):Prop×List D:=(True,[.s (.sc (.int .u64 (aI.fS f).2.2.2)),.s (.sc (.int .i64 (bif Cp f then 0 else 1)))])
theorem spec:jD E f84 aE (pN .i64) sp:=by
 intro f h;refine(start f).trans ((gP trivial).trans ?_);unfold sp Cp
 try dsimp only
 by_cases h1:f=32
 ·subst h1;rfl
 ·by_cases h2:f=64
  ·subst h2;rfl
  ·have:aI.fS f=(0,0,0,0):=by unfold aI.fS;rw[if_neg h1,if_neg h2]
   rw[this,decide_eq_false (by omega)];rfl
def aJ:dO:=orc1 (pN .i64) sp
theorem ok:OK 84 aJ:=(fA E aE (aA aI.ok aD) func84).pU rfl spec
end mP
namespace uS
def E:=mE [] 13 [] [] []
def aE:=bd f61
theorem aX:Nk E aE:=nk
theorem start a:aH E f61 aE [D.s (sc (int i64 a))]=letI A:=some [D.s (sc (bool true))];aB (a==4) A (aB (a==5) A (some [D.s (sc (bool (a==6)))])):=eJ aX
def zK(a:Int):Bool:=decide (a=4\/a=5\/a=6)
def sp(a:Int):Prop×List D:=(True,[.s (.sc (.bool (zK a)))])
theorem spec:jD E f61 aE (pN .i64) sp:=by
 intro a h;refine(start a).trans ?_;unfold sp zK
 try dsimp only
 by_cases h1:a=4
 ·rw[cN h1,decide_eq_true (by omega)]
 ·rw[bM h1]
  by_cases h2:a=5
  ·rw[cN h2,decide_eq_true (by omega)]
  ·rw[bM h2]
   by_cases h3:a=6
   ·rw[beq_iff_eq.2 h3,decide_eq_true (by omega)]
   ·rw[beq_eq_false_iff_ne.2 h3,decide_eq_false (by omega)]
def aJ:dO:=orc1 (pN .i64) sp
theorem ok:OK 61 aJ:=(fA E aE aD func61).pU rfl spec
end uS
namespace fB
def E:=mE [(94,cG.aJ),(81,jZ.aJ)] 23 [] [] []
def aE:=bd f79
theorem aX:Nk E aE:=nk
theorem start a c d e b:aH E f79 aE [D.agg [sc (int i64 a),sc (int i64 c),sc (int i64 d),sc (int u64 e)],D.s (sc (int u64 b))]=letI B:=(a,c,d,e);letI A:=aI.uY B;aB (b==0) (some [D.s (sc (int i64 0))]) (aO A (aB (decide (b<cG.kI B)) (some [D.s (sc (int i64 1))]) (aO A (aB (decide (b<jZ.lK B)) (some [D.s (sc (int i64 2))]) (aO A (aB (b==jZ.lK B) (some [D.s (sc (int i64 3))]) (some [D.s (sc (int i64 4))]))))))):=eJ aX
def fW(s:Int×Int×Int×Int)(n:Int):Int:=if n=0 then 0 else if n<cG.kI s then 1 else if n<jZ.lK s then 2 else if n=jZ.lK s then 3 else 4
def sp(s:Int×Int×Int×Int)(n:Int):Prop×List D:=(aI.uY s,[.s (.sc (.int .i64 (fW s n)))])
theorem spec:gU E f79 aE (pG (.pair (sN .i64) (.pair (sN .i64) (.pair (sN .i64) (sN .u64))))) (pN .u64) sp:=by
 intro s n h;obtain⟨s1,s2,s3,s4⟩:=s;have h:aI.uY (s1,s2,s3,s4):=h;refine(start s1 s2 s3 s4 n).trans ?_;show _=some [D.s (.sc (.int .i64 (fW (s1,s2,s3,s4) n)))];unfold fW
 by_cases h1:n=0
 ·rw[cN h1,if_pos h1]
 ·rw[bM h1,if_neg h1,gP h]
  by_cases h2:n<cG.kI (s1,s2,s3,s4)
  ·rw[aQ h2,if_pos h2]
  ·rw[aL h2,if_neg h2,gP h]
   by_cases h3:n<jZ.lK (s1,s2,s3,s4)
   ·rw[aQ h3,if_pos h3]
   ·rw[aL h3,if_neg h3,gP h]
    by_cases h4:n=jZ.lK (s1,s2,s3,s4)
    ·rw[cN h4,if_pos h4]
    ·rw[bM h4,if_neg h4]
def aJ:dO:=orc2 (pG (.pair (sN .i64) (.pair (sN .i64) (.pair (sN .i64) (sN .u64))))) (pN .u64) sp
theorem ok:OK 79 aJ:=(fA E aE (aA cG.ok (aA jZ.ok aD)) func79).mV rfl spec
end fB
namespace Aq
def E:=mE [(77,cS.aJ),(79,fB.aJ)] 24 [13,23] [] []
def aE:=bd f83
theorem aX:Nk E aE:=nk
theorem start a b:aH E f83 aE [D.s (sc (int i64 a)),D.s (sc (int u64 b))]=letI C:=bif cS.fO a b then(0:Int)else(2:Int);letI A:=aI.fS a;letI B:=(A.fst,A.snd.fst,A.snd.snd.fst,A.snd.snd.snd);aO ((a=32\/a=64)/\0<=b/\b<18446744073709551616) (aB (C !=0) (some [D.s (sc (int i64 0)),D.s (sc (int i64 C))]) (aO (aI.uY B) (some [D.s (sc (int i64 (fB.fW B (bif cS.fO a b then b%cE.cT A else(0:Int))))),D.s (sc (int i64 0))]))):=eJ aX
def sp(f b:Int):Prop×List D:=((f=32\/f=64)/\0<=b/\b<18446744073709551616,[.s (.sc (.int .i64 (bif cS.fO f b then fB.fW (aI.fS f) (b%cE.cT (aI.fS f))else 0))),.s (.sc (.int .i64 (bif cS.fO f b then 0 else 2)))])
theorem spec:gU E f83 aE (pN .i64) (pN .u64) sp:=by
 intro f b h;refine(start f b).trans ((gP h).trans ?_);unfold sp
 try dsimp only
 have ht:aI.uY (aI.fS f):=by
  rcases h.1 with rfl |rfl
  ·exact .inl rfl
  ·exact .inr rfl
 cases hp:cS.fO f b with
 |false=>rfl
 |true =>
  try dsimp only[cond_true]
  rw[gE rfl,gP ht]
def aJ:dO:=orc2 (pN .i64) (pN .u64) sp
theorem ok:OK 83 aJ:=(fA E aE (aA cS.ok (aA fB.ok aD)) func83).mV rfl spec
end Aq
namespace Gs
def E:=mE [] 5 [] [] []
def aE:=bd f142
theorem aX:Nk E aE:=nk
theorem start a:aH E f142 aE [D.s (sc (int i64 a))]=aB (a==32) (some [D.s (sc (int u64 2139095040))]) (some [D.s (sc (int u64 9218868437227405312))]):=eJ aX
def sp(f:Int):Prop×List D:=(f=32\/f=64,[.s (.sc (.int .u64 (jZ.lK (aI.fS f))))])
theorem spec:jD E f142 aE (pN .i64) sp:=by
 intro f h;refine(start f).trans ?_;rcases h with rfl |rfl <;> rfl
def aJ:dO:=orc1 (pN .i64) sp
theorem ok:OK 142 aJ:=(fA E aE aD func142).pU rfl spec
end Gs
namespace Xb
def E:=mE [(135,cE.aJ)] 13 [] [] []
def aE:=bd f80
theorem aX:Nk E aE:=nk
theorem start a d e f b c:aH E f80 aE [D.agg [sc (int i64 a),sc (int i64 d),sc (int i64 e),sc (int u64 f)],D.s (sc (bool b)),D.s (sc (int u64 c))]=aB b (aO (aI.uY (a,d,e,f)) (some [D.s (sc (int u64 (fY BinOp.or u64 c (cE.cT (a,d,e,f)))))])) (some [D.s (sc (int u64 c))]):=eJ aX
def sp(s:Int×Int×Int×Int)(b:Bool)(c:Int):Prop×List D:=(aI.uY s,[.s (.sc (.int .u64 (bif b then fY .or .u64 c (cE.cT s)else c)))])
theorem spec:oP E f80 aE (pG (.pair (sN .i64) (.pair (sN .i64) (.pair (sN .i64) (sN .u64))))) pB (pN .u64) sp:=by
 intro s b c h;refine(start s.1 s.2.1 s.2.2.1 s.2.2.2 b c).trans ?_;cases b with
 |true=>exact gP h
 |false=>rfl
def aJ:dO:=orc3 (pG (.pair (sN .i64) (.pair (sN .i64) (.pair (sN .i64) (sN .u64))))) pB (pN .u64) sp
theorem ok:OK 80 aJ:=(fA E aE (aA cE.ok aD) func80).yM rfl spec
end Xb
namespace gR
def E:=mE [(78,aI.aJ),(80,Xb.aJ),(136,aMN.aJ),(137,Am.aJ),(94,cG.aJ),(81,jZ.aJ)] 102 [25,80,101] [(8,[1,2,3,10]),(13,[1,2,3,10,12])] [8,13]
def aE:=bd f82
theorem aX:Nk E aE:=nk
def J8 a b c d e f g:=mT E f82 aE 8 [Nd a,dG b,cK c,dK 3 84 [cX d,cX e,cX f,Xr g]]
def Qb a b c d e f g h:=mT E f82 aE 13 [Nd a,dG b,cK c,dK 3 84 [cX d,cX e,cX f,Xr g],cK h]
theorem start a b c d:aH E f82 aE [D.s (sc (int i64 a)),D.s (sc (bool b)),D.s (sc (int u64 c)),D.s (sc (int i64 d))]=letI B:=some [D.s (sc (int u64 0)),D.s (sc (int i64 5))];letI A:=aI.fS a;letI C:=(A.fst,A.snd.fst,A.snd.snd.fst,A.snd.snd.snd);aO True (aB (A.fst==0&&(A.snd.fst==0&&(A.snd.snd.fst==0&&(A.snd.snd.snd==0&&true)))) (some [D.s (sc (int u64 0)),D.s (sc (int i64 1))]) (aB (c==0) (aO (aI.uY C) (some [D.s (sc (int u64 (bif b then fY BinOp.or u64 0 (cE.cT C)else(0:Int)))),D.s (sc (int i64 0))])) (aB (decide (d<i64.wrap (A.snd.snd.fst-64))) B (aB (decide (i64.wrap (A.snd.snd.fst+4096)<d)) B (gR.J8 b c d A.fst A.snd.fst A.snd.snd.fst A.snd.snd.snd))))):=eJ aX
theorem Cb a b c d e f g:J8 a b c d e f g=letI C:=some [D.s (sc (int u64 0)),D.s (sc (int i64 5))];letI B:=(↑(tz b.toNat):Int);letI A:=(↑((2:Nat)^min (if b=0 then(64:Int)else B).toNat 64):Int);letI F:=(↑(bl (b/A).toNat):Int);aO (0<=b/\b<18446744073709551616) (if(if b=0 then(64:Int)else B)<0 then none else aO (0<=b/A/\b/A<(18446744073709551616:Int)) (aB (decide (e<F)) C (aB (decide (i64.wrap (c+if b=0 then(64:Int)else B)<f)) C (gR.Qb a (b/A) (i64.wrap (c+if b=0 then(64:Int)else B)) d e f g F)))):=cJ aX
theorem yD a b c d e f g h:Qb a b c d e f g h=letI F:=(d,e,f,g);letI C:=aI.uY F;letI B:=b*(↑((2:Nat)^min (if i64.wrap (c-f)<i64.wrap (e-h)then i64.wrap (c-f)else i64.wrap (e-h)).toNat 64):Int);letI A:=u64.wrap (u64.wrap (u64.wrap (i64.wrap (i64.wrap (i64.wrap (c-if i64.wrap (c-f)<i64.wrap (e-h)then i64.wrap (c-f)else i64.wrap (e-h))-f)+1))-1)*cG.kI F)+u64.wrap B;if(if i64.wrap (c-f)<i64.wrap (e-h)then i64.wrap (c-f)else i64.wrap (e-h))<0 then none else aO C (aB (decide (u64.wrap B<cG.kI F)) (aO C (some [D.s (sc (int u64 (bif a then fY BinOp.or u64 (u64.wrap B) (cE.cT F)else u64.wrap B))),D.s (sc (int i64 0))])) (aO C (aO C (aB (decide (jZ.lK F<=u64.wrap A)) (some [D.s (sc (int u64 0)),D.s (sc (int i64 5))]) (aO C (some [D.s (sc (int u64 (bif a then fY BinOp.or u64 (u64.wrap A) (cE.cT F)else u64.wrap A))),D.s (sc (int i64 0))])))))):=cJ aX
def Xx(s:Int×Int×Int×Int)(b:Bool)(c:Int):Int:=bif b then c+cE.cT s else c
def Nf(s:Int×Int×Int×Int)(m:Nat)(e:Int):Nat:=(if e-s.2.2.1<s.2.1-(bl m:Int)then e-s.2.2.1 else s.2.1-(bl m:Int)).toNat
def Ju(s:Int×Int×Int×Int)(m:Nat)(e:Int):Option Int :=
 if((m*2^Nf s m e:Nat):Int)<cG.kI s then some ((m*2^Nf s m e:Nat):Int)
 else if jZ.lK s<=(e-(Nf s m e:Nat)-s.2.2.1)*cG.kI s+((m*2^Nf s m e:Nat):Int)then none
 else some ((e-(Nf s m e:Nat)-s.2.2.1)*cG.kI s+((m*2^Nf s m e:Nat):Int))
def aCD(s:Int×Int×Int×Int)(m:Nat)(e:Int):Option Int :=
 if e<s.2.2.1-64\/s.2.2.1+4096<e then none
 else if s.2.1<(bl (m/2^tz m):Int)\/e+(tz m:Int)<s.2.2.1 then none
 else Ju s (m/2^tz m) (e+(tz m:Int))
def Qg(s:Int×Int×Int×Int)(b:Bool)(o:Option Int):Int:=match o with
 |some c=>Xx s b c
 |none=>0
def aLC(o:Option Int):Int:=match o with
 |some _=>0
 |none=>5
def uL(s:Int×Int×Int×Int)(m e:Int):Option Int:=if m=0 then some 0 else aCD s m.toNat e
def aZF(s:Int×Int×Int×Int)(b:Bool)(o:Option Int):List D:=[.s (.sc (.int .u64 (Qg s b o))),.s (.sc (.int .i64 (aLC o)))]
theorem xJ{s:Int×Int×Int×Int}(hs:aI.uY s){b:Bool}{c:Int}(h0:0<=c)(h1:c<cE.cT s):(bif b then fY .or .u64 c (cE.cT s)else c)=Xx s b c:=by
 unfold Xx;cases b with
 |false=>rfl
 |true =>
  try dsimp only[cond_true]
  obtain⟨n,rfl⟩:=bZV h0;rcases hs with rfl |rfl
  ·rw[show cE.cT (32,24,-149,2143289345)=2147483648 from rfl]at *;rw[Uk (by omega) (by omega) (by omega) (by omega)];have:=Fm (c:=n) (n:=1) (k:=31) (by omega);rw[show(2147483648:Int).toNat=2^31*1 from rfl,bYO,this];omega
  ·rw[show cE.cT (64,53,-1074,9221120237041090561)=9223372036854775808 from rfl]at *;rw[Uk (by omega) (by omega) (by omega) (by omega)];have:=Fm (c:=n) (n:=1) (k:=63) (by omega);rw[show(9223372036854775808:Int).toNat=2^63*1 from rfl,bYO,this];omega
theorem j13{s:Int×Int×Int×Int}(hs:aI.uY s)(b:Bool)(m:Nat)(e:Int)(h1:(bl m:Int)<=s.2.1)(h2:s.2.2.1<=e)(h3:e<=3000)(hm:m≠0) :
  Qb b (m:Int) e s.1 s.2.1 s.2.2.1 s.2.2.2 (bl m:Int)=some (aZF s b (Ju s m e)):=by
 have hb:=pA hm;have jL:m*2^Nf s m e<2^(bl m+Nf s m e):=by
  rw[bZS];exact Nat.mul_lt_mul_of_lt_of_le (vD m) (bUR _) (bXR (by decide))
 have aGM:((bl m+Nf s m e:Nat):Int)<=s.2.1:=by
  unfold Nf;split <;> omega
 have aXX:((Nf s m e:Nat):Int)<=e-s.2.2.1:=by
  unfold Nf;split <;> omega
 rw[yD];have bDZ:∀k:Nat,s.2.1<=(k:Int)->m*2^Nf s m e<2^k:=fun k hk=>bVO jL (bXS (by decide) (by omega))
 have low:-1074<=s.2.2.1/\s.2.2.1<=0/\s.2.1<=53:=by rcases hs with rfl |rfl <;> ((try dsimp only);omega)
 rw[wrap_i64 (n:=e-s.2.2.1),wrap_i64 (n:=s.2.1-(bl m:Int))];have bPZ:(if e-s.2.2.1<s.2.1-(bl m:Int)then e-s.2.2.1 else s.2.1-(bl m:Int))=((Nf s m e:Nat):Int):=by
  unfold Nf;split <;> omega
 rw[bPZ,aU,bYO,show min (Nf s m e) 64=Nf s m e by omega,<-cAN,gP hs];unfold Ju;generalize Nf s m e=u at *;generalize m*2^u=M at *;rcases hs with rfl |rfl
 ·have hM:=bDZ 24 (by decide);simp only[show cG.kI (32,24,-149,2143289345)=8388608 from rfl,show jZ.lK (32,24,-149,2143289345)=2139095040 from rfl]at *;rw[wrap_u64 (n:=(M:Int)),wrap_i64 (n:=e-(u:Int)),wrap_i64 (n:=e-(u:Int) - -149),wrap_i64 (n:=e-(u:Int) - -149+1),wrap_u64 (n:=e-(u:Int) - -149+1),wrap_u64 (n:=e-(u:Int) - -149+1-1),show e-(u:Int) - -149+1-1=e-(u:Int) - -149 by omega,wrap_u64 (n:=(e-(u:Int) - -149)*8388608),wrap_u64 (n:=(e-(u:Int) - -149)*8388608+(M:Int))]
  by_cases c1:(M:Int)<8388608
  ·rw[aQ c1,if_pos c1,gP aI.two32,xJ aI.two32 (by omega) (by show(M:Int)<2147483648;omega)];rfl
  ·rw[aL c1,if_neg c1,gP aI.two32,gP aI.two32]
   by_cases c2:2139095040<=(e-(u:Int) - -149)*8388608+(M:Int)
   ·rw[aQ c2,if_pos c2];rfl
   ·rw[aL c2,if_neg c2,gP aI.two32,xJ aI.two32 (by omega) (by show _<2147483648;omega)];rfl
 ·have hM:=bDZ 53 (by decide);simp only[show cG.kI (64,53,-1074,9221120237041090561)=4503599627370496 from rfl,show jZ.lK (64,53,-1074,9221120237041090561)=9218868437227405312 from rfl]at *
  by_cases c1:(M:Int)<4503599627370496
  ·rw[wrap_u64 (n:=(M:Int)),aQ c1,if_pos c1,gP aI.tD,xJ aI.tD (by omega) (by show(M:Int)<9223372036854775808;omega)];rfl
  ·rw[wrap_u64 (n:=(M:Int)),wrap_i64 (n:=e-(u:Int)),wrap_i64 (n:=e-(u:Int) - -1074),wrap_i64 (n:=e-(u:Int) - -1074+1),wrap_u64 (n:=e-(u:Int) - -1074+1),wrap_u64 (n:=e-(u:Int) - -1074+1-1),show e-(u:Int) - -1074+1-1=e-(u:Int) - -1074 by omega];rw[wrap_u64 (n:=(e-(u:Int) - -1074)*4503599627370496),wrap_u64 (n:=(e-(u:Int) - -1074)*4503599627370496+(M:Int)),aL c1,if_neg c1,gP aI.tD,gP aI.tD]
   by_cases c2:9218868437227405312<=(e-(u:Int) - -1074)*4503599627370496+(M:Int)
   ·rw[aQ c2,if_pos c2];rfl
   ·rw[aL c2,if_neg c2,gP aI.tD,xJ aI.tD (by omega) (by show _<9223372036854775808;omega)];rfl
def sp(f:Int)(b:Bool)(m e:Int):Prop×List D:=((f=32\/f=64)/\(0<=m/\m<18446744073709551616)/\-4000<=e/\e<=2900,[.s (.sc (.int .u64 (Qg (aI.fS f) b (uL (aI.fS f) m e)))),.s (.sc (.int .i64 (aLC (uL (aI.fS f) m e))))])
theorem spec:Of E f82 aE (pN .i64) pB (pN .u64) (pN .i64) sp:=by
 rintro f b m e ⟨hf,⟨aER,bQW⟩,aPW,aCM⟩;refine(start f b m e).trans ((gP trivial).trans ?_);show _=some (aZF (aI.fS f) b (uL (aI.fS f) m e));unfold uL;have hs:aI.uY (aI.fS f):=by
  rcases hf with rfl |rfl
  ·exact .inl rfl
  ·exact .inr rfl
 generalize aI.fS f=s at *;obtain⟨n,rfl⟩:=bZV aER;have low:-1074<=s.2.2.1/\s.2.2.1<=0/\s.2.1<=53:=by rcases hs with rfl |rfl <;> ((try dsimp only);omega)
 have zP:(s.1==0&&(s.2.1==0&&(s.2.2.1==0&&(s.2.2.2==0&&true))))=false:=by rcases hs with rfl |rfl <;> rfl
 have aEJ:0<cE.cT s:=by unfold cE.cT;split <;> omega
 rw[Sj zP]
 by_cases h0:(n:Int)=0
 ·rw[cN h0,if_pos h0];refine(gP hs).trans ?_;rw[xJ hs (by omega) aEJ];rfl
 ·have Bn:n≠0:=by omega
  have ht:=Ji Bn;have bED:tz n<64:=(cGZ (by decide:1<2)).1 (cBA ht (by omega));rw[bM h0,if_neg h0,wrap_i64 (n:=s.2.2.1-64),wrap_i64 (n:=s.2.2.1+4096)];unfold aCD
  by_cases c1:e<s.2.2.1-64
  ·rw[aQ c1,if_pos (.inl c1)];rfl
  ·rw[aL c1]
   by_cases c2:s.2.2.1+4096<e
   ·rw[aQ c2,if_pos (.inr c2)];rfl
   ·rw[aL c2,aU,Cb,if_neg h0,bYO,aU,gP,bYO,show min (tz n) 64=tz n by omega,<-cAM,bYO,wrap_i64 (n:=e+(tz n:Int))];have hd:n/2^tz n≠0:=fun h=>by have:=(tK n Bn).2;rw[h]at this;cases this
    have hl:n/2^tz n<=n:=cFB _ _;generalize n/2^tz n=q at *;rw[gP]
    by_cases c3:s.2.1<(bl q:Int)
    ·rw[aQ c3,if_pos (.inl c3)];rfl
    ·rw[aL c3]
     by_cases c4:e+(tz n:Int)<s.2.2.1
     ·rw[aQ c4,if_pos (.inr c4)];rfl
     ·rw[aL c4,aU,j13 hs b _ _ (by omega) (by omega) (by omega) hd]
def aJ:dO:=orc4 (pN .i64) pB (pN .u64) (pN .i64) sp
theorem ok:OK 82 aJ:=(fA E aE (aA aI.ok (aA Xb.ok (aA aMN.ok (aA Am.ok (aA cG.ok (aA jZ.ok aD)))))) func82).aNM rfl spec
end gR
namespace Sp
def E:=mE [] 14 [] [] []
def aE:=bd f141
theorem aX:Nk E aE:=nk
theorem start a b c:aH E f141 aE [D.s (sc (int i64 a)),D.s (sc (bool b)),D.s (sc (int u64 c))]=aB b (if i64.wrap (a-1)<0 then none else some [D.s (sc (int u64 (fY BinOp.or u64 c (u64.wrap ((1:Int)*(↑((2:Nat)^min (i64.wrap (a-1)).toNat 64):Int))))))]) (some [D.s (sc (int u64 c))]):=eJ aX
def sp(f:Int)(b:Bool)(c:Int):Prop×List D:=((f=32\/f=64)/\0<=c/\c<cE.cT (aI.fS f),[.s (.sc (.int .u64 (gR.Xx (aI.fS f) b c)))])
theorem spec:oP E f141 aE (pN .i64) pB (pN .u64) sp:=by
 rintro f b c ⟨hf,h0,h1⟩;refine(start f b c).trans ?_;have hs:aI.uY (aI.fS f):=cA.De hf;unfold sp
 try dsimp only
 rw[<-gR.xJ hs h0 h1];cases b with
 |false=>rfl
 |true=>rcases hf with rfl |rfl <;> rfl
def aJ:dO:=orc3 (pN .i64) pB (pN .u64) sp
theorem ok:OK 141 aJ:=(fA E aE aD func141).yM rfl spec
end Sp
namespace pD
def E:=mE [(142,Gs.aJ),(141,Sp.aJ),(82,gR.aJ)] 27 [15,23] [] []
def aE:=bd f92
theorem aX:Nk E aE:=nk
theorem start a b c:aH E f92 aE [D.s (sc (int i64 a)),D.agg [sc (int i64 b),sc (bool c)]]=letI A:=aI.fS a;aB (b==2) (aO (a=32\/a=64) (aO ((a=32\/a=64)/\0<=jZ.lK A/\jZ.lK A<cE.cT A) (some [D.s (sc (int u64 (gR.Xx A c (jZ.lK A))))]))) (aO ((a=32\/a=64)/\(0<=u64.wrap b/\u64.wrap b<18446744073709551616)/\(-4000:Int)<=(0:Int)/\(0:Int)<=(2900:Int)) (some [D.s (sc (int u64 (gR.Qg A c (gR.uL A (u64.wrap b) 0))))])):=eJ aX
def Uh(f:Int)(s:Int)(n:Bool):Int:=gR.Xx (aI.fS f) n (if s=2 then jZ.lK (aI.fS f)else if s=1 then(if f=32 then 1065353216 else 4607182418800017408)else 0)
def sp(f:Int)(v:Int×Bool):Prop×List D:=((f=32\/f=64)/\(v.1=0\/v.1=1\/v.1=2),[.s (.sc (.int .u64 (Uh f v.1 v.2)))])
theorem Ul:gR.uL (aI.fS 64) 1 0=some 4607182418800017408/\gR.uL (aI.fS 32) 1 0=some 1065353216:=by
 have b1:bl 1=1:=rfl;have t1:tz (1:Int).toNat=0:=yR rfl;unfold gR.uL gR.aCD gR.Ju gR.Nf;rw[t1];exact⟨rfl,rfl⟩
theorem spec:gU E f92 aE (pN .i64) (pG (.pair (sN .i64) sB)) sp:=by
 rintro f v ⟨hf,hv⟩;obtain⟨s,n⟩:=v;refine(start f s n).trans ?_;unfold sp Uh
 try dsimp only at *
 have hi:0<=jZ.lK (aI.fS f)/\jZ.lK (aI.fS f)<cE.cT (aI.fS f):=by
  rcases hf with rfl |rfl
  ·exact⟨by show(0:Int)<=2139095040;omega,by show(2139095040:Int)<2147483648;omega⟩
  ·exact⟨by show(0:Int)<=9218868437227405312;omega,by show(9218868437227405312:Int)<9223372036854775808;omega⟩
 rcases hv with rfl |rfl |rfl
 ·rw[bM,show u64.wrap 0=0 from rfl,gP ⟨hf,by omega,by omega⟩];rfl
 ·rw[bM,show u64.wrap 1=1 from rfl,gP ⟨hf,by omega,by omega⟩];rcases hf with rfl |rfl
  ·rw[Ul.2];rfl
  ·rw[Ul.1];rfl
 ·rw[cN rfl,gP hf,gP ⟨hf,hi⟩];rfl
def aJ:dO:=orc2 (pN .i64) (pG (.pair (sN .i64) sB)) sp
theorem ok:OK 92 aJ:=(fA E aE (aA Gs.ok (aA Sp.ok (aA gR.ok aD))) func92).mV rfl spec
end pD
namespace pC
def E:=mE [] 19 [] [] []
def aE:=bd f111
theorem aX:Nk E aE:=nk
theorem start a b c:aH E f111 aE [D.agg [sc (bool a),ints u64 b,sc (int i64 c)]]=aB (decide (0<c)) (some [D.s (sc (int i64 1))]) (aB (c==0) (some [D.s (sc (int i64 2))]) (aB (c==(-1:Int)) (some [D.s (sc (int i64 3))]) (aB (c==(-2:Int)) (some [D.s (sc (int i64 4))]) (some [D.s (sc (int i64 0))])))):=eJ aX
def qC(e:Int):Int:=if 0<e then 1 else if e=0 then 2 else if e=-1 then 3 else if e=-2 then 4 else 0
def sp(x:gB):Prop×List D:=(True,[.s (.sc (.int .i64 (qC x.2.2)))])
theorem spec:jD E f111 aE iW sp:=by
 intro x h;refine(start x.1 x.2.1 x.2.2).trans ?_;unfold sp qC
 try dsimp only
 by_cases h1:0<x.2.2
 ·rw[aQ h1,if_pos h1]
 ·rw[aL h1,if_neg h1]
  by_cases h2:x.2.2=0
  ·rw[cN h2,if_pos h2]
  ·rw[bM h2,if_neg h2]
   by_cases h3:x.2.2=-1
   ·rw[cN h3,if_pos h3]
   ·rw[bM h3,if_neg h3]
    by_cases h4:x.2.2=-2
    ·rw[cN h4,if_pos h4]
    ·rw[bM h4,if_neg h4]
def aJ:dO:=orc1 iW sp
theorem ok:OK 111 aJ:=(fA E aE aD func111).pU rfl spec
end pC
namespace fF
def E:=mE [(111,pC.aJ),(60,Wr.aJ)] 97 [] [] []
def aE:=bd f63
theorem aX:Nk E aE:=nk
theorem start a b c d:aH E f63 aE [D.s (sc (int i64 a)),D.agg [sc (bool b),ints u64 c,sc (int i64 d)]]=letI Z:=bool false;letI Y:=bool (wv (b,c)%4==(3:Int));letI X:=int i64 0;letI U:=pC.qC d==1;letI O:=pC.qC d==3;letI N:=some [D.agg [sc X,sc Z],D.s (sc Z)];letI I:=pC.qC d==2;letI F:=sc (bool true);letI T:=some [D.agg [sc X,sc (bool b)],D.s F];letI Q:=some [D.agg [sc (int i64 1),sc (bool I)],D.s F];letI P:=some [D.agg [sc X,sc (bool (b !=I))],D.s F];letI G:=some [D.agg [sc (int i64 1),sc Y],D.s F];letI C:=aB (a==6) (aB (pC.qC d==4) G N) N;letI H:=aB (a==6) (aB O (some [D.agg [sc (int i64 2),sc Y],D.s F]) C) C;letI A:=aB (a==6) (aB U P (aB I P H)) H;letI K:=aB (a==5) (aB O (some [D.agg [sc X,sc Z],D.s F]) A) A;letI B:=aB (a==5) (aB U Q (aB I Q K)) K;letI W:=aB (a==4) (aB O G B) B;aO True (aO (gI (b,c)) (aB (a==4) (aB U T (aB I T W)) W)):=eJ aX
def Bp(fn:Int)(p:Int×Int):Int×Bool×Bool :=
 if fn=4 then(if 0<=p.2 then(0,isNeg p.1,true)else if p.2=-1 then(1,p.1%4==3,true)else(0,false,false))
 else if fn=5 then(if 0<=p.2 then(1,p.2==0,true)else if p.2=-1 then(0,false,true)else(0,false,false))
 else if fn=6 then(if 0<=p.2 then(0,isNeg p.1 !=(p.2==0),true)else if p.2=-1 then(2,p.1%4==3,true)else if p.2=-2 then(1,p.1%4==3,true)else(0,false,false))
 else(0,false,false)
def sp(fn:Int)(x:gB):Prop×List D:=(aP x,[.agg [.sc (.int .i64 (Bp fn (dv x)).1),.sc (.bool (Bp fn (dv x)).2.1)],.s (.sc (.bool (Bp fn (dv x)).2.2))])
theorem spec:gU E f63 aE (pN .i64) iW sp:=by
 intro fn x h;have h:aP x:=h;refine(start fn x.1 x.2.1 x.2.2).trans ((gP trivial).trans ((gP h.Db).trans ?_));have hw:=h.Db.cells.1;obtain⟨b,a,e⟩:=x
 try dsimp only at *
 unfold sp Bp dv
 try dsimp only
 rw[hw];generalize wv (b,a)=z;have Pd:(0<e/\pC.qC e=1)\/(e=0/\pC.qC e=2)\/(e=-1/\pC.qC e=3)\/(e=-2/\pC.qC e=4)\/(e < -2/\pC.qC e=0):=by
  unfold pC.qC;split
  ·omega
  ·split
   ·omega
   ·split
    ·omega
    ·split <;> omega
 generalize pC.qC e=pv at *
 by_cases h4:fn=4
 ·subst h4;rcases Pd with ⟨he,rfl⟩ |⟨rfl,rfl⟩ |⟨rfl,rfl⟩ |⟨rfl,rfl⟩ |⟨he,rfl⟩
  ·rw[if_pos rfl,aW];rfl
  ·rfl
  ·rfl
  ·rfl
  ·rw[if_pos rfl,aU,aU];rfl
 ·by_cases h5:fn=5
  ·subst h5;rcases Pd with ⟨he,rfl⟩ |⟨rfl,rfl⟩ |⟨rfl,rfl⟩ |⟨rfl,rfl⟩ |⟨he,rfl⟩
   ·rw[aU,if_pos rfl,aW,beq_eq_false_iff_ne.2 (show e≠0 by omega)];rfl
   ·rfl
   ·rfl
   ·rfl
   ·rw[aU,if_pos rfl,aU,aU];rfl
  ·by_cases h6:fn=6
   ·subst h6;rcases Pd with ⟨he,rfl⟩ |⟨rfl,rfl⟩ |⟨rfl,rfl⟩ |⟨rfl,rfl⟩ |⟨he,rfl⟩
    ·rw[aU,aU,if_pos rfl,aW,beq_eq_false_iff_ne.2 (show e≠0 by omega)];rfl
    ·rfl
    ·rfl
    ·rfl
    ·rw[aU,aU,if_pos rfl,aU,aU,aU];rfl
   ·rw[if_neg h4,if_neg h5,if_neg h6];simp only[beq_eq_false_iff_ne.2 h4,beq_eq_false_iff_ne.2 h5,beq_eq_false_iff_ne.2 h6,bF]
def aJ:dO:=orc2 (pN .i64) iW sp
theorem ok:OK 63 aJ:=(fA E aE (aA pC.ok (aA Wr.ok aD)) func63).mV rfl spec
end fF
namespace fR
def E:=mE [(84,mP.aJ),(61,uS.aJ),(83,Aq.aJ),(92,pD.aJ),(12,bP.aJ),(63,fF.aJ)] 67 [18,31,48,66] [(4,[0,1,2,9]),(15,[0,1,2])] [4,15]
def aE:=bd f39
theorem aX:Nk E aE:=nk
def J4 a b c d:=mT E f39 aE 4 [cK a,cK b,dG c,dG d]
def aGX a b c:=mT E f39 aE 15 [cK a,cK b,dG c]
theorem start a b c:aH E f39 aE [D.s (sc (int i64 a)),D.s (sc (int i64 b)),D.s (sc (int u64 c))]=letI A:=some [D.s (sc (int u64 0)),D.s (sc (bool false)),D.s (sc (int i64 1))];aO True (aC (aI.fS a).snd.snd.snd fun d=>aC (bif mP.Cp a then(0:Int)else(1:Int)) fun e=>aB (e !=0) A (aO True (aB (!uS.zK b) A (fR.J4 a b c d)))):=eJ aX
theorem Hn a b c d:J4 a b c d=letI C:=sc (int i64 0);letI B:=sc (bool true);letI A:=some [D.s (sc (int u64 d)),D.s B,D.s C];aO ((a=32\/a=64)/\0<=c/\c<18446744073709551616) (aC (bif cS.fO a c then fB.fW (aI.fS a) (c%cE.cT (aI.fS a))else(0:Int)) fun e=>aC (bif cS.fO a c then(0:Int)else(2:Int)) fun f=>aB (f !=0) (some [D.s (sc (int u64 0)),D.s (sc (bool false)),D.s (sc (int i64 f))]) (aB (e==4) A (aB (e==3) A (aB (e==0) (aB (b==5) (aO ((a=32\/a=64)/\((1:Int)=(0:Int)\/(1:Int)=(1:Int)\/(1:Int)=(2:Int))) (aC (pD.Uh a 1 false) fun g=>some [D.s (sc (int u64 g)),D.s B,D.s C])) (some [D.s (sc (int u64 c)),D.s B,D.s C])) (fR.aGX a b c))))):=cJ aX
theorem Ms a b c:aGX a b c=letI A:=bif cS.fO a c&&cA.jB a c then aN (bP.nB a c) (bP.nH a c)else((0:Int),(0:Int));aO ((a=32\/a=64)/\0<=c/\c<18446744073709551616) (aC (isNeg A.fst) fun d=>aC (M6.dg A.fst.natAbs) fun e=>aC A.snd fun f=>letI B:=fF.Bp b (dv (d,e,f));aO (aP (d,e,f)) (aC B.fst fun g=>aC B.snd.fst fun h=>aC B.snd.snd fun i=>aB (!i) (some [D.s (sc (int u64 0)),D.s (sc (bool false)),D.s (sc (int i64 0))]) (aO ((a=32\/a=64)/\(g=0\/g=1\/g=2)) (some [D.s (sc (int u64 (pD.Uh a g h))),D.s (sc (bool true)),D.s (sc (int i64 0))])))):=cJ aX
def nW(f b:Int):Int×Int:=aN (bP.nB f b) (bP.nH f b)
theorem Uo{f b:Int}(h:f=32\/f=64)(_:0<=b)(hf:cA.jB f b=true):jJ (nW f b)/\(bP.nB f b).natAbs<2^53/\-1074<=bP.nH f b/\bP.nH f b<=1023:=by
 have hs:=cA.De h;have Bn:0<=b%cE.cT (aI.fS f):=by unfold cE.cT;split <;> omega
 have oV:b%cE.cT (aI.fS f)<jZ.lK (aI.fS f):=of_decide_eq_true hf;have hm:=bP.Re hs Bn;have hx:=bP.Rt hs Bn oV;have hz:(bP.nB f b).natAbs<2^53:=by
  unfold bP.nB;rw[lP];omega
 have he:-1074<=bP.nH f b/\bP.nH f b<=1023:=⟨hx.1,by unfold bP.nH;omega⟩;have hb:bl (bP.nB f b).natAbs<=53:=dA.2 hz;exact⟨gJ (gO (by omega) (by omega)) (by omega),hz,he⟩
def uP(f fn b:Int):Int×Bool×Int :=
 if mP.Cp f=false\/uS.zK fn=false then(0,false,1)
 else if cS.fO f b=false then(0,false,2)
 else if fB.fW (aI.fS f) (b%cE.cT (aI.fS f))=4\/fB.fW (aI.fS f) (b%cE.cT (aI.fS f))=3 then((aI.fS f).2.2.2,true,0)
 else if fB.fW (aI.fS f) (b%cE.cT (aI.fS f))=0 then(if fn=5 then pD.Uh f 1 false else b,true,0)
 else if(fF.Bp fn (nW f b)).2.2=true then(pD.Uh f (fF.Bp fn (nW f b)).1 (fF.Bp fn (nW f b)).2.1,true,0)
 else(0,false,0)
def sp(f fn b:Int):Prop×List D:=(0<=b/\b<18446744073709551616,[.s (.sc (.int .u64 (uP f fn b).1)),.s (.sc (.bool (uP f fn b).2.1)),.s (.sc (.int .i64 (uP f fn b).2.2))])
theorem aCU(fn:Int)(p:Int×Int):(fF.Bp fn p).1=0\/(fF.Bp fn p).1=1\/(fF.Bp fn p).1=2:=by
 unfold fF.Bp
 repeat' split
 all_goals simp
theorem aFN{f b:Int}(h:f=32\/f=64)(c3:fB.fW (aI.fS f) (b%cE.cT (aI.fS f))≠3)(c4:fB.fW (aI.fS f) (b%cE.cT (aI.fS f))≠4):cA.jB f b=true:=by
 unfold cA.jB;have hi:cG.kI (aI.fS f)<jZ.lK (aI.fS f)/\0<cG.kI (aI.fS f):=by
  rcases h with rfl |rfl
  ·exact⟨by show(8388608:Int)<2139095040;omega,by show(0:Int)<8388608;omega⟩
  ·exact⟨by show(4503599627370496:Int)<9218868437227405312;omega,by show(0:Int)<4503599627370496;omega⟩
 generalize b%cE.cT (aI.fS f)=n at *;refine decide_eq_true ?_;unfold fB.fW at c3 c4
 by_cases h0:n=0
 ·omega
 ·by_cases h1:n<cG.kI (aI.fS f)
  ·omega
  ·by_cases h2:n<jZ.lK (aI.fS f)
   ·exact h2
   ·rw[if_neg h0,if_neg h1,if_neg h2]at c3 c4
    by_cases h3:n=jZ.lK (aI.fS f)
    ·rw[if_pos h3]at c3;exact(c3 rfl).elim
    ·rw[if_neg h3]at c4;exact(c4 rfl).elim
theorem spec:oP E f39 aE (pN .i64) (pN .i64) (pN .u64) sp:=by
 intro f fn b h;have h:0<=b/\b<18446744073709551616:=h;refine(start f fn b).trans ((gP trivial).trans ?_);rw[vl,vl,gP trivial];unfold sp uP;cases hq:mP.Cp f with
 |false=>rw[if_pos (.inl rfl)];rfl
 |true =>
  have hf:f=32\/f=64:=of_decide_eq_true hq;rw[cond_true,gE rfl];cases hk:uS.zK fn with
  |false=>rw[if_pos (.inr rfl)];rfl
  |true =>
   rw[if_neg (by simp),bWR,bF,Hn,gP ⟨hf,h⟩,vl,vl];cases hp:cS.fO f b with
   |false=>rw[if_pos rfl];rfl
   |true =>
    rw[if_neg (by simp),cond_true,cond_true,gE rfl]
    by_cases c4:fB.fW (aI.fS f) (b%cE.cT (aI.fS f))=4
    ·rw[cN c4,if_pos (.inl c4)]
    ·rw[bM c4]
     by_cases c3:fB.fW (aI.fS f) (b%cE.cT (aI.fS f))=3
     ·rw[cN c3,if_pos (.inr c3)]
     ·rw[bM c3,if_neg (fun h=>h.elim c4 c3)];have oV:=aFN hf c3 c4
      by_cases c0:fB.fW (aI.fS f) (b%cE.cT (aI.fS f))=0
      ·rw[cN c0,if_pos c0]
       by_cases h5:fn=5
       ·rw[cN h5,if_pos h5,gP ⟨hf,.inr (.inl rfl)⟩];rfl
       ·rw[bM h5,if_neg h5]
      ·rw[bM c0,if_neg c0,Ms,gP ⟨hf,h⟩];have e1:(bif cS.fO f b&&cA.jB f b then aN (bP.nB f b) (bP.nH f b)else((0:Int),(0:Int)))=nW f b:=by rw[hp,oV];rfl
       rw[e1,Bq,gP (dJ (Uo hf h.1 oV).1),dT,vl,vl,vl];cases hv:(fF.Bp fn (nW f b)).2.2 with
       |false=>rw[if_neg (by simp)];try rfl
       |true=>rw[if_pos rfl,bWR,bF,gP ⟨hf,aCU _ _⟩];try rfl
def aJ:dO:=orc3 (pN .i64) (pN .i64) (pN .u64) sp
theorem ok:OK 39 aJ:=(fA E aE (aA mP.ok (aA uS.ok (aA Aq.ok (aA pD.ok (aA bP.ok (aA fF.ok aD)))))) func39).yM rfl spec
end fR
namespace eN
def E:=mE [(77,cS.aJ),(78,aI.aJ),(79,fB.aJ),(80,Xb.aJ),(81,jZ.aJ),(43,dU.aJ),(82,gR.aJ)] 48 [13,35,45] [] []
def aE:=bd f31
theorem aX:Nk E aE:=nk
theorem start a:aH E f31 aE [D.s (sc (int u64 a))]=letI I:=bif cS.fO 32 a then(0:Int)else(2:Int);letI F:=aI.uY ((64:Int),(53:Int),(-1074:Int),(9221120237041090561:Int));letI C:=aI.fS 32;letI H:=(C.fst,C.snd.fst,C.snd.snd.fst,C.snd.snd.snd);letI G:=bif cS.fO 32 a then a%cE.cT C else(0:Int);letI B:=bif cS.fO 32 a then a%2147483648 else(0:Int);letI A:=gR.uL (aI.fS 64) (dU.qF H G) (dU.tW H G);aO (((32:Int)=(32:Int)\/(32:Int)=(64:Int))/\0<=a/\a<18446744073709551616) (aB (I !=0) (some [D.s (sc (int u64 0)),D.s (sc (int i64 I))]) (aO True (aO (aI.uY ((32:Int),(24:Int),(-149:Int),(2143289345:Int))) (aB (fB.fW ((32:Int),(24:Int),(-149:Int),(2143289345:Int)) B==4) (some [D.s (sc (int u64 9221120237041090561)),D.s (sc (int i64 0))]) (aB (fB.fW ((32:Int),(24:Int),(-149:Int),(2143289345:Int)) B==3) (aO F (aO F (some [D.s (sc (int u64 (bif cS.fO 32 a&&decide (2147483648<=a)then fY BinOp.or u64 9218868437227405312 9223372036854775808 else(9218868437227405312:Int)))),D.s (sc (int i64 0))]))) (aO (aI.uY ((32:Int),(24:Int),(-149:Int),(2143289345:Int))/\(0<=bif cS.fO 32 a then a%2147483648 else(0:Int))/\B<9223372036854775808) (aO (((64:Int)=(32:Int)\/(64:Int)=(64:Int))/\(0<=dU.qF ((32:Int),(24:Int),(-149:Int),(2143289345:Int)) B/\dU.qF ((32:Int),(24:Int),(-149:Int),(2143289345:Int)) B<18446744073709551616)/\(-4000:Int)<=dU.tW ((32:Int),(24:Int),(-149:Int),(2143289345:Int)) B/\dU.tW ((32:Int),(24:Int),(-149:Int),(2143289345:Int)) B<=2900) (some [D.s (sc (int u64 (gR.Qg (aI.fS 64) (cS.fO 32 a&&decide (2147483648<=a)) A))),D.s (sc (int i64 (gR.aLC A)))])))))))):=eJ aX
abbrev Eu:Int×Int×Int×Int:=(32,24,-149,2143289345)
abbrev Tk:Int×Int×Int×Int:=(64,53,-1074,9221120237041090561)
def aHA(b:Int):Option Int:=gR.uL Tk (dU.qF Eu (b%2147483648)) (dU.tW Eu (b%2147483648))
def Jg(b:Int):Int:=bif cS.fO 32 b then(if fB.fW Eu (b%2147483648)=4 then 9221120237041090561 else if fB.fW Eu (b%2147483648)=3 then gR.Xx Tk (decide (2147483648<=b)) 9218868437227405312 else gR.Qg Tk (decide (2147483648<=b)) (aHA b))else 0
def aHB(b:Int):Int:=bif cS.fO 32 b then(if fB.fW Eu (b%2147483648)=4 then 0 else if fB.fW Eu (b%2147483648)=3 then 0 else gR.aLC (aHA b))else 2
def sp(b:Int):Prop×List D:=(0<=b/\b<18446744073709551616,[.s (.sc (.int .u64 (Jg b))),.s (.sc (.int .i64 (aHB b)))])
theorem spec:jD E f31 aE (pN .u64) sp:=by
 intro b h;refine(start b).trans ((gP ⟨.inl rfl,h⟩).trans ?_);unfold sp Jg aHB
 try dsimp only
 cases hp:cS.fO 32 b with
 |false=>rfl
 |true =>
  try dsimp only[cond_true,bXT]
  rw[gE rfl,gP trivial,gP aI.two32];have Bn:0<=b%2147483648:=by omega
  by_cases c4:fB.fW Eu (b%2147483648)=4
  ·rw[cN c4,if_pos c4,if_pos c4]
  ·rw[bM c4,if_neg c4,if_neg c4]
   by_cases c3:fB.fW Eu (b%2147483648)=3
   ·rw[cN c3,if_pos c3,if_pos c3,gP aI.tD,gP aI.tD];rw[<-gR.xJ aI.tD (by show(0:Int)<=9218868437227405312;omega) (by show(9218868437227405312:Int)<9223372036854775808;omega)];rfl
   ·have hf:b%2147483648<jZ.lK Eu:=by
     unfold fB.fW at c3 c4;split at c3
     ·rename_i h0;show _<(2139095040:Int);omega
     ·split at c3
      ·rename_i h0 h1;have:cG.kI Eu=8388608:=rfl;show _<(2139095040:Int);omega
      ·split at c3
       ·assumption
       ·split at c3
        ·exact(c3 rfl).elim
        ·rename_i h0 h1 h2 h3;rw[if_neg h0,if_neg h1,if_neg h2,if_neg h3]at c4;exact(c4 rfl).elim
    have hm:=bP.Re aI.two32 Bn;have hx:=bP.Rt aI.two32 Bn hf;rw[bM c3,if_neg c3,if_neg c3,gP ⟨aI.two32,by omega,by omega⟩,gP ⟨.inr rfl,⟨hm.1,by omega⟩,by omega,by omega⟩];rfl
def aJ:dO:=orc1 (pN .u64) sp
theorem ok:OK 31 aJ:=(fA E aE (aA cS.ok (aA aI.ok (aA fB.ok (aA Xb.ok (aA jZ.ok (aA dU.ok (aA gR.ok aD))))))) func31).pU rfl spec
end eN
end W
namespace W.aYS
open Go AI M W
theorem Vo{fn:Int}(h:4<=fn/\fn<=6):uS.zK fn=true:=by
 have:fn=4\/fn=5\/fn=6:=by omega
 rcases this with rfl |rfl |rfl <;> rfl
theorem aJM{f:Int}(h:f=32\/f=64):0<cG.kI (aI.fS f)/\cG.kI (aI.fS f)<jZ.lK (aI.fS f)/\jZ.lK (aI.fS f)<cE.cT (aI.fS f):=by
 rcases h with rfl |rfl
 ·exact⟨by show(0:Int)<8388608;omega,by show(8388608:Int)<2139095040;omega,by show(2139095040:Int)<2147483648;omega⟩
 ·exact⟨by show(0:Int)<4503599627370496;omega,by show(4503599627370496:Int)<9218868437227405312;omega,by show(9218868437227405312:Int)<9223372036854775808;omega⟩
theorem aQJ{f fn b:Int}(h:f=32\/f=64)(hf:4<=fn/\fn<=6)(hp:cS.fO f b=true)(hn:b%cE.cT (aI.fS f)=0):fR.uP f fn b=(if fn=5 then pD.Uh f 1 false else b,true,0):=by
 have hq:mP.Cp f=true:=decide_eq_true h;have hc:fB.fW (aI.fS f) (b%cE.cT (aI.fS f))=0:=by unfold fB.fW;rw[if_pos hn]
 unfold fR.uP;rw[if_neg (by rw[hq,Vo hf];simp),if_neg (by rw[hp];simp),if_neg (by rw[hc];omega),if_pos hc]
theorem aWA{f fn b:Int}(h:f=32\/f=64)(hf:4<=fn/\fn<=6)(hp:cS.fO f b=true)(hn:0<b%cE.cT (aI.fS f))(aPQ:b%cE.cT (aI.fS f)<jZ.lK (aI.fS f)) :
  fR.uP f fn b=if(fF.Bp fn (fR.nW f b)).2.2=true then(pD.Uh f (fF.Bp fn (fR.nW f b)).1 (fF.Bp fn (fR.nW f b)).2.1,true,0)else(0,false,0):=by
 have hq:mP.Cp f=true:=decide_eq_true h;have hc:fB.fW (aI.fS f) (b%cE.cT (aI.fS f))=1\/fB.fW (aI.fS f) (b%cE.cT (aI.fS f))=2:=by
  unfold fB.fW;rw[aU];split
  ·exact .inl rfl
  ·first |exact .inr rfl | (rw[if_pos aPQ];exact .inr rfl)
 unfold fR.uP;rw[if_neg (by rw[hq,Vo hf];simp),if_neg (by rw[hp];simp),aU,aU]
theorem aCA{f b:Int}(h:f=32\/f=64)(_:0<=b)(hn:0<b%cE.cT (aI.fS f)):0<(dU.qF (aI.fS f) (b%cE.cT (aI.fS f))):=by
 have hi:=aJM h;unfold dU.qF;split
 ·rename_i hd;have:=Int.emod_add_mul_ediv (b%cE.cT (aI.fS f)) (cG.kI (aI.fS f));rw[hd,Int.mul_zero]at this;omega
 ·have:=Int.emod_nonneg (b%cE.cT (aI.fS f)) (show cG.kI (aI.fS f)≠0 by omega);omega
theorem aPA{f b:Int}(h:f=32\/f=64)(h0:0<=b)(hn:0<b%cE.cT (aI.fS f)):(fR.nW f b).1%2=1:=by
 have hm:=aCA h h0 hn;apply Dn;rw[Ne,dW];unfold bP.nB;rw[Qc];omega
theorem aNW{b:Int}(h0:0<=b)(h1:b<4294967296)(hn:0<b%2147483648)(aPQ:b%2147483648<2139095040) :
  eN.aHB b=0/\0<=eN.Jg b/\eN.Jg b<18446744073709551616/\0<eN.Jg b%9223372036854775808/\eN.Jg b%9223372036854775808<9218868437227405312/\fR.nW 64 (eN.Jg b)=fR.nW 32 b:=by
 have hp:cS.fO 32 b=true:=decide_eq_true (by show b<4294967296;omega);have hc:fB.fW eN.Eu (b%2147483648)=1\/fB.fW eN.Eu (b%2147483648)=2:=by
  unfold fB.fW;rw[aU];split
  ·exact .inl rfl
  ·first |exact .inr rfl | (rw[if_pos (show b%2147483648<jZ.lK eN.Eu from aPQ)];exact .inr rfl)
 have aXY:cE.cT (aI.fS 32)=2147483648:=rfl;have aUX:=aCA (f:=32) (.inl rfl) h0 (by rw[aXY];exact hn);rw[aXY]at aUX;have hmlt:dU.qF eN.Eu (b%2147483648)<16777216:=by
  unfold dU.qF;rw[show cG.kI eN.Eu=8388608 from rfl];split <;> omega
 have hexp:-149<=dU.tW eN.Eu (b%2147483648)/\dU.tW eN.Eu (b%2147483648)<=104:=by
  unfold dU.tW;rw[show cG.kI eN.Eu=8388608 from rfl,show eN.Eu.2.2.1=-149 from rfl];split <;> omega
 have aUU:fR.nW 32 b=aN (zs (decide (2147483648<=b)) (dU.qF eN.Eu (b%2147483648)).toNat) (dU.tW eN.Eu (b%2147483648)):=rfl;have hV:eN.Jg b=gR.Qg eN.Tk (decide (2147483648<=b)) (eN.aHA b):=by
  unfold eN.Jg;rw[hp,cond_true,aU,aU]
 have hE:eN.aHB b=gR.aLC (eN.aHA b):=by
  unfold eN.aHB;rw[hp,cond_true,aU,aU]
 have hO:eN.aHA b=gR.uL eN.Tk (dU.qF eN.Eu (b%2147483648)) (dU.tW eN.Eu (b%2147483648)):=rfl;rw[hE,hV,aUU,hO];have aUX:0<dU.qF eN.Eu (b%2147483648):=aUX;generalize dU.qF eN.Eu (b%2147483648)=M at *;generalize dU.tW eN.Eu (b%2147483648)=e at *;obtain⟨m,rfl⟩:=bZV (show 0<=M by omega);have aER:m≠0:=by omega
 have bQA:=tK m aER;have hmul:m=m/2^tz m*2^tz m:=by
  have:=bZX m (2^tz m);rw[bQA.1]at this;rw[bZP];omega
 have bHP:m/2^tz m≠0:=by omega
 have bSI:bl m<=24:=dA.2 (by omega);have hbm':bl (m/2^tz m)<=24:=bVN (fX (cFB _ _)) bSI;have htl:=Dd aER;have hJ:gR.uL eN.Tk (m:Int) e=gR.Ju eN.Tk (m/2^tz m) (e+(tz m:Int)):=by
  unfold gR.uL gR.aCD;rw[bYO,aU,show eN.Tk.2.2.1=-1074 from rfl,show eN.Tk.2.1=53 from rfl,aU,aU]
 rw[hJ];generalize hg:m/2^tz m=m' at *;generalize tz m=t at *;have aGM:gR.Nf eN.Tk m' (e+(t:Int))=53-bl m':=by
  unfold gR.Nf;rw[show eN.Tk.2.2.1=-1074 from rfl,show eN.Tk.2.1=53 from rfl,aU];omega
 have aVP:2^52<=m'*2^(53-bl m')/\m'*2^(53-bl m')<2^53:=by
  have hb:bl (m'*2^(53-bl m'))=53:=by rw[bZP,xT bHP];omega
  refine⟨?_,dA.1 (by omega)⟩;have:=(qG (n:=m'*2^(53-bl m')) (k:=52)).1 (by omega);exact this
 have hS:gR.Ju eN.Tk m' (e+(t:Int))=some ((e+(t:Int)-((53-bl m':Nat):Int) - -1074)*4503599627370496+((m'*2^(53-bl m'):Nat):Int)):=by
  unfold gR.Ju;rw[aGM,show cG.kI eN.Tk=4503599627370496 from rfl,show jZ.lK eN.Tk=9218868437227405312 from rfl,show eN.Tk.2.2.1=-1074 from rfl,aU,aU]
 rw[hS];generalize hu:53-bl m'=u at *;generalize bTC:m'*2^u=MM at *;have bCB:0<=(e+(t:Int)-(u:Int) - -1074)*4503599627370496+(MM:Int)/\(e+(t:Int)-(u:Int) - -1074)*4503599627370496+(MM:Int)<9218868437227405312:=by omega
 generalize bEN:(e+(t:Int)-(u:Int) - -1074)*4503599627370496+(MM:Int)=c at *;have hsgv:cE.cT eN.Tk=9223372036854775808:=rfl;have hval:gR.Qg eN.Tk (decide (2147483648<=b)) (some c)=bif decide (2147483648<=b)then c+9223372036854775808 else c:=rfl
 rw[hval];have aEQ:(bif decide (2147483648<=b)then c+9223372036854775808 else c)%9223372036854775808=c:=by
  cases decide (2147483648<=b)with
  |true=>rw[cond_true];omega
  |false=>rw[cond_false];omega
 have bIJ:decide (9223372036854775808<=(bif decide (2147483648<=b)then c+9223372036854775808 else c))=decide (2147483648<=b):=by
  cases decide (2147483648<=b)with
  |true=>rw[cond_true];exact decide_eq_true (by omega)
  |false=>rw[cond_false];exact decide_eq_false (by omega)
 refine⟨rfl,?_,?_,?_,?_,?_⟩
 ·cases decide (2147483648<=b)with
  |true=>rw[cond_true];omega
  |false=>rw[cond_false];omega
 ·cases decide (2147483648<=b)with
  |true=>rw[cond_true];omega
  |false=>rw[cond_false];omega
 ·rw[aEQ];omega
 ·rw[aEQ];omega
 ·unfold fR.nW bP.nB bP.nH;rw[show cE.cT (aI.fS 64)=9223372036854775808 from rfl,aEQ,bIJ];have bBF:dU.qF (aI.fS 64) c=(MM:Int):=by
   unfold dU.qF;rw[show cG.kI (aI.fS 64)=4503599627370496 from rfl,aU];omega
  have bBV:dU.tW (aI.fS 64) c=e+(t:Int)-(u:Int):=by
   unfold dU.tW;rw[show cG.kI (aI.fS 64)=4503599627370496 from rfl,aU,show(aI.fS 64).2.2.1=-1074 from rfl];omega
  rw[bBF,bBV,bYO,bYO];have z1:zs (decide (2147483648<=b)) MM=zs (decide (2147483648<=b)) m'*p2 (u:Nat):=by
   rw[Cl,<-bTC];unfold zs;cases decide (2147483648<=b) <;> simp[cEB]
  have z2:zs (decide (2147483648<=b)) m=zs (decide (2147483648<=b)) m'*p2 (t:Nat):=by
   rw[Cl,hmul];unfold zs;cases decide (2147483648<=b) <;> simp[cEB]
  rw[z1,z2,Ay _ _ (by omega),Ay _ _ (by omega)];congr 1;omega
end W.aYS
namespace W.aMU
open Go AI M W
def aGW(N V k:Nat):Prop:=2*(k*N)<=2*V+N/\2*V<=2*(k*N)+N/\(2*(k*N)=2*V+N->k%2=0)/\(2*V=2*(k*N)+N->k%2=0)
theorem aIM{N V V' k k':Nat}(hN:0<N)(h:aGW N V k)(h':aGW N V' k')(hV:V<=V'):k<=k':=by
 obtain⟨a1,a2,a3,a4⟩:=h;obtain⟨b1,b2,b3,b4⟩:=h';apply bXL;intro jL;have m:(k'+1)*N<=k*N:=bWG _ jL;rw[bVL,bYV]at m;have e:k*N=(k'+1)*N:=by rw[bVL,bYV];omega
 have e2:=cGE hN e;have:=a3 (by omega);have:=b4 (by omega);omega
theorem aDZ{N V k K:Nat}(hK:0<K)(h:aGW N V k):aGW (N*K) (V*K) k:=by
 obtain⟨a1,a2,a3,a4⟩:=h;have e1:2*(k*(N*K))=2*(k*N)*K:=by rw[<-bZT,<-bZT,<-bZT]
 have e2:2*(V*K)+N*K=(2*V+N)*K:=by rw[bVL,bZT]
 have e3:2*(k*(N*K))+N*K=(2*(k*N)+N)*K:=by rw[e1,bVL]
 have e4:2*(V*K)=2*V*K:=by rw[bZT]
 refine⟨?_,?_,fun h=>a3 ?_,fun h=>a4 ?_⟩
 ·rw[e1,e2];exact bWG _ a1
 ·rw[e3,e4];exact bWG _ a2
 ·rw[e1,e2]at h;exact cGE hK h
 ·rw[e3,e4]at h;exact cGE hK h
theorem aEA{N k:Nat}(hN:0<N):aGW N (k*N) k:=⟨by omega,by omega,fun h=>by omega,fun h=>by omega⟩
theorem aJB{v:Nat}{n:Int}(h:0<=n):aGW (2^n.toNat) v (oB.zE v n):=by
 unfold oB.zE mN.uI mU.mS;rw[show((2:Int)==0)=false from rfl,show((2:Int)==1)=false from rfl,cond_false,cond_false];have hv0:=bZX v (2^n.toNat);have bLY:=bWZ v (bXR (n:=n.toNat) (show 0<2 by omega))
 by_cases h0:n=0
 ·subst h0;have:mN.Lh v 0=-1:=rfl;rw[this];simp[aGW]
 ·obtain⟨m,hm⟩:∃m:Nat,n=(m:Int)+1:=⟨(n-1).toNat,by omega⟩;subst hm;have t1:((m:Int)+1).toNat=m+1:=by omega
  have t2:((m:Int)+1-1).toNat=m:=by omega
  unfold mN.Lh;rw[t1,t2]at *;have hp:=bXR (n:=m) (show 0<2 by omega);have hN:2^(m+1)=2^m*2:=bZQ ..;have hq:v/2^(m+1)=v/2^m/2:=by rw[hN,cAL]
  have hs:=bZX v (2^m);have bGX:=bWZ v hp;rw[decide_eq_true (show(0:Int)<=(m:Int)+1-1 by omega),bXT];rw[hq]at *;rw[hN]at *
  by_cases hb:v/2^m%2=1
  ·have hv:v≠0:=fun hz=>by rw[hz,cEG]at hb;omega
   rw[decide_eq_true hb,cond_true];have ht:(tz v=m↔v%2^m=0):=by
    constructor
    ·intro e;apply Classical.byContradiction;intro zP;have a:=aHG (n:=v/2^m) bGX zP;rw[cAQ,hs]at a;have b:=Ji zP;have:=(cGZ (a:=2) (by omega)).1 (cBA b bGX);omega
    ·intro e;rw[e,bVP]at hs;have a:=Qh (n:=v/2^m) (by omega) m;rw[hs,yR hb]at a;exact a
   generalize v/2^m=d at *;generalize v%2^m=s at *;generalize hM:2^m=M at *;have hd:d=2*(d/2)+1:=by omega
   generalize d/2=q at *;have bJC:M*d=2*(M*q)+M:=by rw[hd,bZR,bVB,cCG]
   have bEG:q*(M*2)=2*(M*q):=by rw[bZP q,cFE,bZP]
   have Mz:(q+1)*(M*2)=2*(M*q)+2*M:=by rw[bVL,bEG];omega
   by_cases hc:tz v=m
   ·have s0:=ht.1 hc;rw[beq_iff_eq.2 (show(tz v:Int)=(m:Int)+1-1 by omega),cond_true];rw[show decide ((0:Int)<0)=false from rfl,bWS,show((0:Int)==0)=true from rfl,bXT]
    by_cases ho:q%2=1
    ·rw[decide_eq_true ho,cond_true];unfold aGW;rw[Mz];exact⟨by omega,by omega,fun _=>by omega,fun h=>by omega⟩
    ·rw[decide_eq_false ho,cond_false,bVP];unfold aGW;rw[bEG];exact⟨by omega,by omega,fun h=>by omega,fun _=>by omega⟩
   ·have s0:s≠0:=fun h=>hc (ht.2 h)
    rw[beq_eq_false_iff_ne.2 (show(tz v:Int)≠(m:Int)+1-1 by omega),cond_false];rw[show decide ((0:Int)<1)=true from rfl,cAB,cond_true];unfold aGW;rw[Mz];exact⟨by omega,by omega,fun h=>by omega,fun h=>by omega⟩
  ·rw[decide_eq_false hb,cond_false];rw[show decide ((0:Int) < -1)=false from rfl,show((-1:Int)==0)=false from rfl,cAA,bWS,cond_false,bVP];generalize v/2^m=d at *;generalize v%2^m=s at *;generalize 2^m=M at *;have hd:d=2*(d/2):=by omega
   generalize d/2=q at *;have bJC:M*d=2*(M*q):=by rw[hd,cCG]
   have bEG:q*(M*2)=2*(M*q):=by rw[bZP q,cFE,bZP]
   unfold aGW;rw[bEG];exact⟨by omega,by omega,fun h=>by omega,fun h=>by omega⟩
theorem Og{w:Int×Int×Int}{v:Nat}{e G:Int}(h1:G<=e)(h2:G<=jE.fZ w v e):aGW (2^(jE.fZ w v e-G).toNat) (v*2^(e-G).toNat) (jE.xD w v e):=by
 unfold jE.xD;generalize jE.fZ w v e=u at *;have hp:∀n:Nat,0<2^n:=fun n=>cY
 split
 ·rename_i h;have r:=aDZ (hp (e-G).toNat) (aJB (v:=v) (show 0<=u-e by omega));rw[<-bZS,show(u-e).toNat+(e-G).toNat=(u-G).toNat by omega]at r;exact r
 ·rename_i h;have r:=aEA (k:=v*2^(e-u).toNat) (hp (u-G).toNat);rw[bZT,<-bZS,show(e-u).toNat+(u-G).toNat=(e-G).toNat by omega]at r;exact r
theorem aAL(w:Int×Int×Int)(v:Nat)(e:Int):w.2.1<=jE.fZ w v e/\e+(bl v:Nat)-w.1<=jE.fZ w v e/\(jE.fZ w v e=w.2.1\/jE.fZ w v e=e+(bl v:Nat)-w.1):=by
 unfold jE.fZ;split <;> omega
theorem Om{w:Int×Int×Int}(hw:mJ.uY w){v v':Nat}{e e' G:Int}(hv:v≠0)(aGL:v'≠0)(h1:G<=e)(h2:G<=e')(h:v*2^(e-G).toNat<=v'*2^(e'-G).toNat):jE.yX w v e<=jE.yX w v' e':=by
 obtain⟨g,aNN,aGQ⟩:∃g:Int,g<=G/\g<=w.2.1:=⟨min G w.2.1,cHA _ _,cHB _ _⟩;have hp:∀n:Nat,0<2^n:=fun n=>cY
 have h3:v*2^(e-g).toNat<=v'*2^(e'-g).toNat:=by
  have:=bWG (2^(G-g).toNat) h;rw[bZT,bZT,<-bZS,<-bZS,show(e-G).toNat+(G-g).toNat=(e-g).toNat by omega,show(e'-G).toNat+(G-g).toNat=(e'-g).toNat by omega]at this;exact this
 obtain⟨u1,u2,u3⟩:=aAL w v e;obtain⟨u1',u2',u3'⟩:=aAL w v' e';have r:=Og (w:=w) (v:=v) (show g<=e by omega) (show g<=jE.fZ w v e by omega);have r':=Og (w:=w) (v:=v') (show g<=e' by omega) (show g<=jE.fZ w v' e' by omega);have b:bl (v*2^(e-g).toNat)=(e-g).toNat+bl v:=by rw[bZP,xT hv]
 have b':bl (v'*2^(e'-g).toNat)=(e'-g).toNat+bl v':=by rw[bZP,xT aGL]
 have hb:=fX h3;have bp:=pA hv;have bp':=pA aGL;have l1:=vD (v*2^(e-g).toNat);have l2:=Wb (n:=v'*2^(e'-g).toNat) (Nat.ne_of_gt (Nat.mul_pos (Nat.pos_of_ne_zero aGL) (hp _)));have hm:1<=w.1/\w.1<=53:=by rcases hw with rfl |rfl <;> decide
 unfold jE.yX;generalize hU:jE.fZ w v e=u at *;generalize bMT:jE.fZ w v' e'=u' at *;generalize jE.xD w v e=k at *;generalize jE.xD w v' e'=k' at *;generalize hV:v*2^(e-g).toNat=V at *;generalize hV':v'*2^(e'-g).toNat=V' at *
 by_cases c:1100<e+(bl v:Nat)-1
 ·rw[if_pos c,if_pos (show 1100<e'+(bl v':Nat)-1 by omega)];exact cFZ _
 ·rw[if_neg c]
  by_cases c':1100<e'+(bl v':Nat)-1
  ·rw[if_pos c'];split <;> omega
  ·rw[if_neg c'];have key:(u-w.2.1)*((2^(w.1-1).toNat:Nat):Int)+(k:Int)<=(u'-w.2.1)*((2^(w.1-1).toNat:Nat):Int)+(k':Int):=by
    have hH:=hp (w.1-1).toNat;rcases Int.lt_trichotomy u u' with jL |heq |hgt
    ·
     have k1:k<=2*2^(w.1-1).toNat:=by
      apply bXL;intro hh;have a1:=r.1;have m:(2*2^(w.1-1).toNat+1)*2^(u-g).toNat<=k*2^(u-g).toNat:=bWG _ hh;have lt:V<2*2^(w.1-1).toNat*2^(u-g).toNat:=by
       refine bVO l1 ?_;rw[show 2*2^(w.1-1).toNat=2^(w.1-1).toNat*2^1 by omega,<-bZS,<-bZS];exact gN
      rw[bVL,bYV]at m;have:=hp (u-g).toNat;generalize 2*2^(w.1-1).toNat*2^(u-g).toNat=x at *;omega
     have k2:2^(w.1-1).toNat<=k':=by
      apply bXL;intro hh;have a2:=r'.2.1;have m:(k'+1)*2^(u'-g).toNat<=2^(w.1-1).toNat*2^(u'-g).toNat:=bWG _ hh;have ge:2^(w.1-1).toNat*2^(u'-g).toNat<=V':=by
       refine bVN ?_ l2;rw[<-bZS];exact gN
      rw[bVL,bYV]at m;have:=hp (u'-g).toNat;generalize 2^(w.1-1).toNat*2^(u'-g).toNat=x at *;omega
     have hd:u-w.2.1+1<=u'-w.2.1:=by omega
     have m:=Int.mul_le_mul_of_nonneg_right hd (show(0:Int)<=((2^(w.1-1).toNat:Nat):Int) by omega);rw[Int.add_mul,cGD]at m;generalize (u-w.2.1)*((2^(w.1-1).toNat:Nat):Int)=x at *;generalize (u'-w.2.1)*((2^(w.1-1).toNat:Nat):Int)=y at *;omega
    ·subst heq;have:=aIM (hp _) r r' h3;omega
    ·omega
   generalize (u-w.2.1)*((2^(w.1-1).toNat:Nat):Int)+(k:Int)=x at *;generalize (u'-w.2.1)*((2^(w.1-1).toNat:Nat):Int)+(k':Int)=y at *;split <;> split <;> omega
def sg(f:Int):Int:=if f=32 then 2147483648 else 9223372036854775808
def ord(f w:Int):Int:=if w<sg f then w else sg f-w
def sz(f:Int)(p:Int×Int):Int:=jE.yX (Hx.Ir f) p.1.natAbs p.2
theorem aZD{f:Int}(h:f=32\/f=64):(if(Hx.Ir f).1=24 then(2147483648:Int)else 9223372036854775808)=sg f:=by rcases h with rfl |rfl <;> rfl
theorem Oj{f:Int}(h:f=32\/f=64)(p:Int×Int):0<=sz f p/\sz f p<=mJ.rJ (Hx.Ir f)/\mJ.rJ (Hx.Ir f)<sg f:=by
 have:=jG.aBF (jG.Qj h) p.1.natAbs p.2;exact⟨this.1,this.2,by rcases h with rfl |rfl <;> decide⟩
theorem Dp{f:Int}{p:Int×Int}(h:0<p.1):jG.kR f p=sz f p:=by
 unfold jG.kR sz yC.aXS;rw[aU,iM.2 (by omega),cond_false]
theorem aJD{f:Int}(hf:f=32\/f=64){p:Int×Int}(h:p.1<0):jG.kR f p=sz f p+sg f:=by
 unfold jG.kR sz yC.aXS;rw[aU,nJ.2 h,cond_true,aZD hf]
theorem aJC{f:Int}{p:Int×Int}(h:p.1=0):jG.kR f p=0:=by unfold jG.kR;rw[if_pos h]
theorem Ui{f:Int}(hf:f=32\/f=64)(p:Int×Int):ord f (jG.kR f p)=if p.1<0 then -sz f p else if p.1=0 then 0 else sz f p:=by
 have hb:=Oj hf p
 by_cases h:p.1<0
 ·rw[if_pos h,aJD hf h];unfold ord;rw[aU];omega
 ·rw[if_neg h]
  by_cases h0:p.1=0
  ·rw[if_pos h0,aJC h0];unfold ord;rw[aW]
  ·rw[if_neg h0,Dp (by omega)];unfold ord;rw[aW]
theorem aEF{f:Int}(hf:f=32\/f=64){p q:Int×Int}(h:R.qz p<=R.qz q):ord f (jG.kR f p)<=ord f (jG.kR f q):=by
 obtain⟨G,h1,h2⟩:∃G:Int,G<=p.2/\G<=q.2:=⟨min p.2 q.2,cHA _ _,cHB _ _⟩;rw[R.Ue h1 h2]at h;have hp:∀n:Nat,(0:Int)<((2^n:Nat):Int):=fun n=>by have:=bXR (n:=n) (show 0<2 by omega);omega
 have s1:=Oj hf p;have s2:=Oj hf q;have a1:=hp (p.2-G).toNat;have a2:=hp (q.2-G).toNat;rw[Ui hf,Ui hf];have hP:p.1<0->p.1*((2^(p.2-G).toNat:Nat):Int)<0:=fun h=>cEK h a1
 have bMV:0<p.1->0<p.1*((2^(p.2-G).toNat:Nat):Int):=fun h=>Int.mul_pos h a1
 have hQ:q.1<0->q.1*((2^(q.2-G).toNat:Nat):Int)<0:=fun h=>cEK h a2
 have bTB:p.1=0->p.1*((2^(p.2-G).toNat:Nat):Int)=0:=fun h=>by rw[h,Int.zero_mul]
 have bTA:q.1=0->q.1*((2^(q.2-G).toNat:Nat):Int)=0:=fun h=>by rw[h,Int.zero_mul]
 have aPD:∀(z:Int) (n:Nat),z.natAbs*2^n=(z*((2^n:Nat):Int)).natAbs:=fun z n=>by rw[Int.natAbs_mul,cAH]
 by_cases c1:p.1<0
 ·rw[if_pos c1]
  by_cases c2:q.1<0
  ·rw[if_pos c2];have:=Om (jG.Qj hf) (v:=q.1.natAbs) (v':=p.1.natAbs) (by omega) (by omega) h2 h1 (by rw[aPD,aPD];have:=hP c1;have:=hQ c2;omega);unfold sz;omega
  ·rw[if_neg c2];split <;> omega
 ·rw[if_neg c1]
  by_cases c0:p.1=0
  ·rw[if_pos c0]
   by_cases c2:q.1<0
   ·have:=hQ c2;have:=bTB c0;omega
   ·rw[if_neg c2];split <;> omega
  ·rw[if_neg c0];have p0:=bMV (by omega)
   by_cases c2:q.1<0
   ·have:=hQ c2;omega
   ·by_cases c3:q.1=0
    ·have:=bTA c3;omega
    ·rw[if_neg c2,if_neg c3];have:=Om (jG.Qj hf) (v:=p.1.natAbs) (v':=q.1.natAbs) (by omega) (by omega) h1 h2 (by rw[aPD,aPD];omega);exact this
def Fin(f b:Int):Prop:=(f=32\/f=64)/\(0<=b/\b<2*sg f)/\0<b%sg f/\b%sg f<mJ.rJ (Hx.Ir f)
theorem aRT{f:Int}(h:f=32\/f=64):cE.cT (aI.fS f)=sg f/\jZ.lK (aI.fS f)=mJ.rJ (Hx.Ir f):=by rcases h with rfl |rfl <;> exact⟨rfl,rfl⟩
end W.aMU
namespace W
open Go AI M
namespace Mp
def E:=mE [(149,mN.aJ)] 11 [8] [] []
def aE:=bd f191
theorem aX:Nk E aE:=nk
theorem start a c b:aH E f191 aE [D.agg [sc (bool a),ints u64 c],D.s (sc (int i64 b))]=letI A:=mN.uI 1 a (M6.val c) b;letI B:=bif fit A then zs a A else(0:Int);aO (gI (a,c)/\0<=b/\b<4611686018427387904) (some [D.agg [sc (bool (isNeg B)),ints u64 (M6.dg B.natAbs)],D.s (sc (int i64 (bif fit A then(0:Int)else(5:Int))))]):=eJ aX
theorem up{p:Bool}{v:Nat}{n:Int}(h:0<=n):zs p (mN.uI 1 p v n)=-(-(zs p v)/((2^n.toNat:Nat):Int)):=by
 have e1:zs p (mN.uI 1 p v n)=-(zs (!p) (mN.uI 0 (!p) v n)):=by
  unfold mN.uI mU.mS zs;cases p <;> simp
 have e2:-(zs p v)=zs (!p) v:=by unfold zs;cases p <;> simp
 rw[e1,e2,iU.down h]
theorem small{p:Bool}{v:Nat}{n:Int}(h:0<=n)(hb:bl v<=524288):fit (mN.uI 1 p v n)=true:=by
 have e1:mN.uI 1 p v n=mN.uI 0 (!p) v n:=by
  unfold mN.uI mU.mS;cases p <;> simp
 rw[e1];exact iU.small h hb
def sp(x:Bool×List Int)(n:Int):Prop×List D:=(gI x/\0<=n/\n<4611686018427387904,[wD (-(-(wv x)/((2^n.toNat:Nat):Int))),.s (.sc (.int .i64 0))])
theorem spec:gU E f191 aE oD (pN .i64) sp:=by
 intro x n h;have h':=h;obtain⟨hx,h0,h1⟩:=h;refine(start x.1 x.2 n).trans ((gP h').trans ?_);unfold sp
 try dsimp only
 rw[small h0 hx.bl];show some (wE true _)=_;rw[up h0];rfl
def aJ:dO:=orc2 oD (pN .i64) sp
theorem ok:OK 191 aJ:=(fA E aE (aA mN.ok aD) func191).mV rfl spec
end Mp
namespace kD
def E:=mE [(192,iU.aJ),(191,Mp.aJ)] 22 [] [] []
def aE:=bd f150
theorem aX:Nk E aE:=nk
theorem start a d b c:aH E f150 aE [D.agg [sc (bool a),ints u64 d],D.s (sc (int i64 b)),D.s (sc (bool c))]=letI B:=gI (a,d)/\0<=b/\b<4611686018427387904;letI A:=(↑((2:Nat)^b.toNat):Int);aB c (aO B (some [D.agg [sc (bool (isNeg (-(-wv (a,d)/A)))),ints u64 (M6.dg (-(-wv (a,d)/A)).natAbs)]])) (aO B (some [D.agg [sc (bool (isNeg (wv (a,d)/A))),ints u64 (M6.dg (wv (a,d)/A).natAbs)]])):=eJ aX
def oZ(up:Bool)(z:Int)(n:Nat):Int:=bif up then -(-z/((2^n:Nat):Int))else z/((2^n:Nat):Int)
theorem aDA(up:Bool)(z:Int)(n:Nat):(oZ up z n).natAbs<=z.natAbs:=by
 unfold oZ;cases up with
 |false=>exact uA (bXR (by decide))
 |true =>
  rw[cond_true,cBC];have:=uA (z:=-z) (bXR (n:=n) (show 0<2 by decide));rwa [cBC]at this
def sp(x:Bool×List Int)(n:Int)(up:Bool):Prop×List D:=(gI x/\(0<=n/\n<4611686018427387904),[wD (oZ up (wv x) n.toNat)])
theorem spec:oP E f150 aE oD (pN .i64) pB sp:=by
 rintro x n up ⟨h1,h2⟩;refine(start x.1 x.2 n up).trans ?_;cases up with
 |true=>rw[bT,gP ⟨h1,h2⟩];rfl
 |false=>rw[bF,gP ⟨h1,h2⟩];rfl
def aJ:dO:=orc3 oD (pN .i64) pB sp
theorem ok:OK 150 aJ:=(fA E aE (aA iU.ok (aA Mp.ok aD)) func150).yM rfl spec
end kD
namespace cD
def E:=mE [(106,rU.aJ),(50,iX.aJ),(150,kD.aJ)] 33 [20,30] [] []
def aE:=bd f240
theorem aX:Nk E aE:=nk
theorem start a e b c d:aH E f240 aE [D.agg [sc (bool a),ints u64 e],D.s (sc (int i64 b)),D.s (sc (int i64 c)),D.s (sc (bool d))]=letI H:=wv (a,e);letI C:=bif gT H b then aN H b else((0:Int),(0:Int));letI B:=(↑(bl (M6.val e)):Int);letI G:=kD.oZ d H (i64.wrap (B-c)).toNat;letI F:=b+i64.wrap (B-c);letI I:=i64.wrap F;aO (M6.cZ e/\e.length<=1099511627776) (aB (decide (i64.wrap (B-c)<=0)) (aO (gI (a,e)/\(-9223372036854775808:Int)<=b/\b<9223372036854775808) (aC (isNeg C.fst) fun f=>aC (M6.dg C.fst.natAbs) fun g=>aC C.snd fun h=>aC (bif gT H b then(0:Int)else(5:Int)) fun i=>some [D.agg [sc (bool f),ints u64 g,sc (int i64 h)],D.s (sc (int i64 i))])) (aO (gI (a,e)/\0<=i64.wrap (B-c)/\i64.wrap (B-c)<4611686018427387904) (aC (isNeg G) fun j=>aC (M6.dg G.natAbs) fun k=>letI A:=bif gT (wv (j,k)) I then aN (wv (j,k)) I else((0:Int),(0:Int));aO (gI (j,k)/\(-9223372036854775808:Int)<=i64.wrap F/\i64.wrap F<9223372036854775808) (aC (isNeg A.fst) fun l=>aC (M6.dg A.fst.natAbs) fun m=>aC A.snd fun n=>aC (bif gT (wv (j,k)) I then(0:Int)else(5:Int)) fun o=>some [D.agg [sc (bool l),ints u64 m,sc (int i64 n)],D.s (sc (int i64 o))])))):=eJ aX
def nO(up:Bool)(z e p:Int):Int×Int:=if(bl z.natAbs:Int)-p<=0 then(z,e)else(kD.oZ up z ((bl z.natAbs:Int)-p).toNat,e+((bl z.natAbs:Int)-p))
def sp(x:Bool×List Int)(e p:Int)(up:Bool):Prop×List D:=(gI x/\(-4611686018427387904<=e/\e<4611686018427387904)/\1<=p/\p<=70000,dE (gT (nO up (wv x) e p).1 (nO up (wv x) e p).2) (aN (nO up (wv x) e p).1 (nO up (wv x) e p).2))
theorem spec:Of E f240 aE oD (pN .i64) (pN .i64) pB sp:=by
 rintro x e p up ⟨hw,he,hp⟩;have hb:=hw.bl;have hl:=hw.len;have ha:=iF x;refine(start x.1 x.2 e p up).trans ?_;unfold sp nO
 try dsimp only
 rw[gP ⟨hw.1.kU,by omega⟩,aG,ha,wrap_i64 (n:=(bl (M6.val x.2):Int)-p) (by omega) (by omega)];have hx:wv (x.1,x.2)=wv x:=rfl
 by_cases hn:(bl (M6.val x.2):Int)-p<=0
 ·rw[aQ hn,if_pos hn,gP ⟨hw,by omega,by omega⟩];simp only[aG];rfl
 ·have aEW:=kD.aDA up (wv x) ((bl (M6.val x.2):Int)-p).toNat;have Na:gI (isNeg (kD.oZ up (wv x) ((bl (M6.val x.2):Int)-p).toNat),M6.dg (kD.oZ up (wv x) ((bl (M6.val x.2):Int)-p).toNat).natAbs):=fT (bVN (fX aEW) (by rw[ha];exact hb));rw[aL hn,if_neg hn,gP ⟨hw,by omega,by omega⟩];simp only[aG];rw[wrap_i64 (n:=e+((bl (M6.val x.2):Int)-p)) (by omega) (by omega)];rw[gP ⟨Na,by omega,by omega⟩,nA];rfl
def aJ:dO:=orc4 oD (pN .i64) (pN .i64) pB sp
theorem ok:OK 240 aJ:=(fA E aE (aA rU.ok (aA iX.ok (aA kD.ok aD))) func240).aNM rfl spec
end cD
namespace nD
def E:=mE [] 8 [] [] []
def aE:=bd f252
theorem aX:Nk E aE:=nk
theorem start a:aH E f252 aE [D.s (ints u64 a)]=aB (decide (8192<(a.length:Int))) (some [D.s (sc (slice none 0 0)),D.s (sc (int i64 5))]) (some [D.s (ints u64 a),D.s (sc (int i64 0))]):=eJ aX
def can(a b:List Int):Prop:=Contract prog base.glob 253 [(pI .u64).put a,(pI .u64).put b] [.own gH .u64 (M6.dg (M6.val a*M6.val b))]
def less(n:Nat):Prop:=∀c d:List Int,M6.cR c->M6.cR d->c.length+d.length<n->can c d
def prec:dO:=orc2 (pI .u64) (pI .u64) fun a b=>(can a b,[.own gH .u64 (M6.dg (M6.val a*M6.val b))])
theorem aBR:lA prog base.glob 253 prec:=by
 intro ds g rs hd hg;unfold prec orc2 at hd;split at hd
 ·split at hd
  ·rename_i x y hx hy;have hd:=Option.some.inj hd;have e1:g=can x y:=(Prod.mk.inj hd).1.symm;have e2:=(Prod.mk.inj hd).2;subst e1;rw[<-e2];exact⟨Contract.bFW (show Contract _ _ _ _ _ from hg) ((pI .u64).le hx) ((pI .u64).le hy),qJ (c:=(f253.body).getD .skip) func253 rfl rfl⟩
  ·cases hd
 ·cases hd
def Jk(a:List Int):Bool:=decide (a.length<=8192)
def sp(a:List Int):Prop×List D:=(True,[.s (.ints .u64 (bif Jk a then a else [])),.s (.sc (.int .i64 (bif Jk a then 0 else 5)))])
theorem spec:aMO E f252 aE (pI .u64) sp:=by
 intro a _;have e:=start a;unfold sp Jk;simp only
 by_cases hc:a.length<=8192
 ·rw[aL]at e;rw[decide_eq_true hc];exact⟨_,e,iE.refl _⟩
 ·rw[aQ]at e;rw[decide_eq_false hc];exact⟨_,e,.cons (yQ.nil _) (iE.refl _)⟩
def aJ:dO:=orc1 (pI .u64) sp
theorem ok:OK 252 aJ:=(fA E aE aD func252).aYX rfl spec
end nD
namespace Hl
def E:Env:={ ({ base with C:=callsOf [(250,Mn.aJ)],n0:=1,io:=[0] })with nt:=71,own:=[],keep:=fun k=>(tlook [(5,[0,1,2,6,7,13,14,18,19]),(1,[0,1,2,13,14])] k).getD [],cut:=tlook [] }
def aE:=bd f264
theorem aX:Nk E aE:=nk
def L1(a:List Int)(b:Nat)(c:Nat) d f g h:=sJ E f264 aE 1 [(A.any,some { e:=(22:Nat),cont:=yF.ints u64 a }),(A.v (V.one (L.view 0 b c)),none),iK d,iK f,cK g,cK h]
def L5(a:List Int)(b:Nat)(c:Nat) d f g h i j k l:=sJ E f264 aE 5 [(A.any,some { e:=(22:Nat),cont:=yF.ints u64 a }),(A.v (V.one (L.view 0 b c)),none),iK d,iK f,cK g,dG h,cK i,cK j,cK k,cK l]
theorem start al ao an b c:aH E f264 aE [D.io gH u64 al ao an,D.s (ints u64 b),D.s (ints u64 c)]=Hl.L1 al ao an b c (c.length:Int) 0:=eJ aX
theorem Qa a b c d e f g:L1 a b c d e f g=aB (decide (g<f)) (Hl.L5 a b c d e g 0 f g (d.length:Int) 0) (some [D.io 22 u64 a 0 0]):=lJ aX
theorem aDQ a b c d e f g h i j k:L5 a b c d e f g h i j k=letI C:=(d.length:Int);letI B:=b+(i64.wrap (k+f)).toNat;letI A:=d.getD k.toNat 0*e.getD f.toNat 0%(18446744073709551616:Int)+g+0;letI F:=a.getD B 0+A%18446744073709551616+(0:Int);aB (decide (k<j)) (if 0<=k/\k<C then if 0<=f/\f<(e.length:Int)then aO (0<=d.getD k.toNat 0/\d.getD k.toNat 0<(18446744073709551616:Int)/\0<=e.getD f.toNat 0/\e.getD f.toNat 0<(18446744073709551616:Int)) (aO (0<=d.getD k.toNat 0*e.getD f.toNat 0%(18446744073709551616:Int)/\0<=g/\(0:Int)<=(0:Int)/\(0:Int)<=(1:Int)) (if 0<=i64.wrap (k+f)/\i64.wrap (k+f)<(c:Int)then aO (0<=a.getD B 0/\0<=A%18446744073709551616/\(0:Int)<=(0:Int)/\(0:Int)<=(1:Int)) (if 0<=i64.wrap (k+f)/\i64.wrap (k+f)<(c:Int)then Hl.L5 (a.set B (F%18446744073709551616)) b c d e f (u64.wrap (u64.wrap (d.getD k.toNat 0*e.getD f.toNat 0/(18446744073709551616:Int)+A/18446744073709551616)+F/18446744073709551616)) h i j (i64.wrap (k+1))else none)else none))else none else none) (if 0<=i64.wrap (f+C)/\i64.wrap (f+C)<(c:Int)then Hl.L1 (a.set (b+(i64.wrap (f+C)).toNat) g) b c d e h (i64.wrap (i+1))else none):=lJ aX
def sp(x:List Int×Nat×Nat)(a b:List Int):Prop×List D:=(M6.cZ x.1/\x.2.1=0/\x.2.2=x.1.length/\M6.cZ a/\M6.cZ b/\x.1.length=a.length+b.length/\x.1.length<=1099511627776/\M6.val x.1=0,
 [.io gH .u64 (M6.pT x.1.length (M6.val a*M6.val b)) 0 0])
theorem aZT{x c:Int}{p:Nat}(hp:p<=340282366920938463426481119284349108225)(h0:0<=x)(h1:x<18446744073709551616)(h2:0<=c)(h3:c<18446744073709551616) :
  (0<=(p:Int)/18446744073709551616+((p:Int)%18446744073709551616+c+0)/18446744073709551616/\(p:Int)/18446744073709551616+((p:Int)%18446744073709551616+c+0)/18446744073709551616<18446744073709551616) /\
  (0<=(p:Int)/18446744073709551616+((p:Int)%18446744073709551616+c+0)/18446744073709551616+(x+((p:Int)%18446744073709551616+c+0)%18446744073709551616+0)/18446744073709551616/\(p:Int)/18446744073709551616+((p:Int)%18446744073709551616+c+0)/18446744073709551616+(x+((p:Int)%18446744073709551616+c+0)%18446744073709551616+0)/18446744073709551616<18446744073709551616) /\
  ((x+((p:Int)%18446744073709551616+c+0)%18446744073709551616+0)%18446744073709551616).toNat+18446744073709551616*((p:Int)/18446744073709551616+((p:Int)%18446744073709551616+c+0)/18446744073709551616+(x+((p:Int)%18446744073709551616+c+0)%18446744073709551616+0)/18446744073709551616).toNat=x.toNat+p+c.toNat:=by
 omega
theorem bFZ{i j u X Y:Nat}:18446744073709551616^j*((u+18446744073709551616^i*X)*Y)=18446744073709551616^j*(u*Y)+18446744073709551616^(i+j)*(X*Y):=by
 rw[bVL,bZR,bZS];congr 1;rw[bZT,<-bZT (18446744073709551616^j),bZP (18446744073709551616^j)]
theorem bUO{a b:List Int}{N j V:Nat}(hN:N<=1099511627776)(ha:M6.cZ a)(hb:M6.cZ b)(hj:j<b.length)(bJB:a.length+b.length=N):∀(r i:Nat) (z:List Int) (c:Int),i+r=a.length->z.length=N->M6.cZ z->0<=c->c<18446744073709551616->z.getD (a.length+j) 0=0 ->
  M6.val z+18446744073709551616^(i+j)*c.toNat=V+18446744073709551616^j*(M6.val (a.take i)*(b.getD j 0).toNat) ->
  ∃z',L5 z 0 N a b j c b.length j a.length i=L1 z' 0 N a b b.length ((j+1:Nat):Int)/\z'.length=N/\M6.cZ z'/\M6.val z'=V+18446744073709551616^j*(M6.val a*(b.getD j 0).toNat):=by
 intro r
 induction r with
 |zero =>
  intro i z c hi hz hd h0 h1 aZZ hv;have w1:i64.wrap ((j:Int)+(a.length:Int))=((a.length+j:Nat):Int):=by rw[wrap_i64];omega
  have w2:i64.wrap ((j:Int)+1)=((j+1:Nat):Int):=by rw[wrap_i64];omega
  have bHY:i=a.length:=by omega
  subst bHY;refine⟨z.set (a.length+j) c,?_,by simp[hz],M6.oF hd ⟨h0,h1⟩,?_⟩
  ·rw[aDQ,aL,w1,aW,bYO,bUT,w2]
  ·have hs:=M6.qR (a:=z) (j:=a.length+j) (by omega) c;rw[aZZ]at hs;rw[cBD]at hv;simp at hs;rw[hs];exact hv
 |succ r ih =>
  intro i z c hi hz hd h0 h1 aZZ hv;have g:=hd.get (i+j);have ga:=ha.get i;have gb:=hb.get j;have w1:i64.wrap ((i:Int)+(j:Int))=((i+j:Nat):Int):=by rw[wrap_i64];omega
  have w2:i64.wrap ((i:Int)+1)=((i+1:Nat):Int):=by rw[wrap_i64];omega
  obtain⟨X,hX⟩:=bZV ga.1;obtain⟨Y,hY⟩:=bZV gb.1;have bIY:X*Y<=340282366920938463426481119284349108225:=by
   have h2:X<=18446744073709551615:=by omega
   have h3:Y<=18446744073709551615:=by omega
   have:=cFA h2 h3;omega
  rw[aDQ,aQ,aW,aW,w1,w2];simp only[bYO,bUT];have hs:=fun d=>M6.qR (a:=z) (j:=i+j) (by omega) d
  rw[show a.getD i 0*b.getD j 0=((X*Y:Nat):Int)from by rw[hX,hY];simp];obtain⟨k1,k2,k3⟩:=aZT bIY g.1 g.2 h0 h1;rw[gP ⟨ga.1,ga.2,gb.1,gb.2⟩,gP ⟨by omega,by omega,by omega,by omega⟩,aW,gP ⟨by omega,by omega,by omega,by omega⟩,aW];rw[wrap_u64 k1.1 k1.2,wrap_u64 k2.1 k2.2];refine ih (i+1) _ _ (by omega) (by simp[hz]) (M6.oF hd (by omega)) k2.1 k2.2 (by
   rw[bZU,List.getElem?_set_ne (by omega),<-bZU];exact aZZ) ?_
  rw[M6.dP,bFZ,show i+1+j=(i+j)+1 from by omega,bZQ,bZT];have hs:=hs ((z.getD (i+j) 0+(((X*Y:Nat):Int)%18446744073709551616+c+0)%18446744073709551616+0)%18446744073709551616);rw[hX,hY,bYO,bYO];rw[hY,bYO]at hv;generalize ((z.getD (i+j) 0+(((X*Y:Nat):Int)%18446744073709551616+c+0)%18446744073709551616+0)%18446744073709551616)=d at *;generalize ((X*Y:Nat):Int)/18446744073709551616+(((X*Y:Nat):Int)%18446744073709551616+c+0)/18446744073709551616+(z.getD (i+j) 0+(((X*Y:Nat):Int)%18446744073709551616+c+0)%18446744073709551616+0)/18446744073709551616=c' at *;generalize X*Y=q at *;generalize 18446744073709551616^(i+j)=B at *;generalize M6.val (z.set (i+j) d)=W at *;generalize (z.getD (i+j) 0).toNat=x at *;generalize 18446744073709551616^j*(M6.val (a.take i)*Y)=U at *;have e2:B*d.toNat+B*(18446744073709551616*c'.toNat)=B*x+B*q+B*c.toNat:=by
   rw[<-bZR,k3,bZR,bZR]
  omega
theorem aNT{z:List Int}(hd:M6.cZ z){k:Nat}(h:M6.val z<18446744073709551616^k):z.getD k 0=0:=by
 have h1:=M6.nG hd k;rw[cAK h,M6.jM]at h1;have:=hd.get k;omega
theorem bKM{a b:List Int}{N:Nat}(hN:N<=1099511627776)(ha:M6.cZ a)(hb:M6.cZ b)(bJB:a.length+b.length=N):∀(r j:Nat) (z:List Int),j+r=b.length->z.length=N->M6.cZ z->M6.val z=M6.val a*M6.val (b.take j) ->
  L1 z 0 N a b b.length j=some [.io gH .u64 (M6.pT N (M6.val a*M6.val b)) 0 0]:=by
 intro r
 induction r with
 |zero =>
  intro j z hj hz hd hv;rw[Qa,aL];rw[M6.dR (by omega)]at hv;rw[M6.oW hd hz hv]
 |succ r ih =>
  intro j z hj hz hd hv;rw[Qa,aQ];have jL:M6.val z<18446744073709551616^(a.length+j):=by
   rw[hv,bZS];exact cCV (M6.dS ha) (M6.iL hb j)
  obtain⟨z',h1,h2,h3,h4⟩:=bUO hN ha hb (show j<b.length by omega) bJB a.length 0 z 0 (by omega) hz hd (by omega) (by omega) (aNT hd jL) (V:=M6.val z) (by simp[M6.val]);have h1:L5 z 0 N a b j 0 b.length j a.length 0=L1 z' 0 N a b b.length ((j+1:Nat):Int):=h1;rw[h1];refine ih (j+1) z' (by omega) h2 h3 ?_;rw[h4,hv,M6.dP,bZR];congr 1;rw[<-bZT,<-bZT,bZP (18446744073709551616^j)]
theorem spec(x:List Int×Nat×Nat)(a b:List Int)(h:(sp x a b).1):aH E f264 aE [(Dl gH .u64).put x,(pI .u64).put a,(pI .u64).put b]=some (sp x a b).2/\∃rs mZ,(sp x a b).2=rs ++ [.io gH .u64 mZ 0 0]/\mZ.length=x.1.length:=by
 obtain⟨xl,xo,xn⟩:=x;obtain⟨hd,ho,hn,ha,hb,hl,hN,hv⟩:=h;simp only at hd ho hn hl hN hv;subst ho;subst hn;refine⟨(start xl 0 xl.length a b).trans ?_,[],_,rfl,M6.iG ?_⟩
 ·exact bKM hN ha hb hl.symm b.length 0 xl (by omega) rfl hd (by simp[hv,M6.val])
 ·show _<18446744073709551616^xl.length;rw[hl,bZS];exact cCV (M6.dS ha) (M6.dS hb)
def aJ:dO:=orc3 (Dl gH .u64) (pI .u64) (pI .u64) sp
theorem fnok:mA prog E 264 f264 aE:=vV rH mixed (lY _ rfl (aA Mn.ok aD) (nR)) func264 rfl rfl rfl rfl rfl
theorem ok:pW prog base.glob 264 aJ:=fnok.yM rfl spec
end Hl
namespace Ag
def E:=mE [] 22 [] [(2,[0,3])] []
def aE:=bd f261
theorem aX:Nk E aE:=nk
def L2 a b:=sJ E f261 aE 2 [iK a,cK b]
theorem start a:aH E f261 aE [D.s (ints u64 a)]=Ag.L2 a (a.length:Int):=eJ aX
theorem lN a b:L2 a b=letI B:=(a.length:Int);letI A:=ints u64 (cDV 0 (cDW b.toNat a));aB (decide (0<b)) (if 0<=i64.wrap (b-1)/\i64.wrap (b-1)<B then aB (a.getD (i64.wrap (b-1)).toNat 0==(0:Int)) (Ag.L2 a (i64.wrap (b-1))) (if(0:Int)<=(0:Int)/\0<=b/\b<=b/\b<=B then some [D.s A]else none)else none) (if(0:Int)<=(0:Int)/\0<=b/\b<=b/\b<=B then some [D.s A]else none):=lJ aX
def sp(a:List Int):Prop×List D:=(M6.cZ a/\a.length<=1099511627776,[.s (.ints .u64 (M6.dg (M6.val a)))])
theorem L{xs:List Int}(hd:M6.cZ xs)(hl:xs.length<=4398046511104):∀n:Nat,n<=xs.length->L2 xs n=some [D.s (.ints .u64 (M6.dg (M6.val (xs.take n))))]
 |0,h=>by
  rw[lN,aL,aW];simp[M6.val,M6.cF]
 |n+1,h=>by
  rw[lN];have e:i64.wrap (((n+1:Nat):Int)-1)=(n:Int):=by rw[wrap_i64];omega
  rw[e,aQ,aW,bYO]
  by_cases hz:xs.getD n 0=0
  ·rw[cN hz,L hd hl n (by omega),M6.mK (by omega),hz];simp
  ·rw[bM hz,aW,bYO,cBE];have:M6.cR (xs.take (n+1)):=M6.Fo (hd.take _) fun d hg=>by
    rw[M6.getLast_take (by omega)]at hg;cases hg;exact hz
   rw[<-this]
theorem spec:jD E f261 aE (pI .u64) sp:=by
 rintro a ⟨hd,hl⟩;refine(start a).trans ?_;rw[L hd (by omega) a.length (bUR _),cBD];rfl
def aJ:dO:=orc1 (pI .u64) sp
theorem ok:OK 261 aJ:=(fA E aE aD func261).pU rfl spec
end Ag
namespace pJ
def E:Env:={ ({ base with n0:=1,io:=[0] })with nt:=55,own:=[],keep:=fun k=>(tlook [(7,[0,6,8]),(2,[0,1,2,6,10,11])] k).getD [],cut:=tlook [] }
def aE:=bd f267
theorem aX:Nk E aE:=nk
def L2(a:List Int)(b:Nat)(c:Nat) d f g h i:=sJ E f267 aE 2 [(A.any,some { e:=(22:Nat),cont:=yF.ints u64 a }),(A.v (V.one (L.view 0 b c)),none),iK d,cK f,dG g,cK h,cK i]
def L7(a:List Int)(b:Nat)(c:Nat) d f:=sJ E f267 aE 7 [(A.any,some { e:=(22:Nat),cont:=yF.ints u64 a }),(A.v (V.one (L.view 0 b c)),none),dG d,cK f]
theorem start al ao an b c:aH E f267 aE [D.io gH u64 al ao an,D.s (ints u64 b),D.s (sc (int i64 c))]=pJ.L2 al ao an b c 0 (b.length:Int) 0:=eJ aX
theorem lN a b c d e f g h:L2 a b c d e f g h=letI A:=b+(i64.wrap (e+h)).toNat;letI B:=a.getD A 0+d.getD h.toNat 0+f;aB (decide (h<g)) (if 0<=i64.wrap (e+h)/\i64.wrap (e+h)<(c:Int)then if 0<=h/\h<(d.length:Int)then aO (0<=a.getD A 0/\0<=d.getD h.toNat 0/\0<=f/\f<=1) (if 0<=i64.wrap (e+h)/\i64.wrap (e+h)<(c:Int)then pJ.L2 (a.set A (B%18446744073709551616)) b c d e (B/18446744073709551616) g (i64.wrap (h+1))else none)else none else none) (pJ.L7 a b c f (i64.wrap (e+(d.length:Int)))):=lJ aX
theorem wX a b c d e:L7 a b c d e=letI B:=b+e.toNat;letI A:=a.getD B 0+(0:Int)+d;aB (decide (0<d)) (if 0<=e/\e<(c:Int)then aO (0<=a.getD B 0/\(0:Int)<=(0:Int)/\0<=d/\d<=1) (if 0<=e/\e<(c:Int)then pJ.L7 (a.set B (A%18446744073709551616)) b c (A/18446744073709551616) (i64.wrap (e+1))else none)else none) (some [D.io 22 u64 a 0 0]):=lJ aX
def sp(x:List Int×Nat×Nat)(b:List Int)(k:Int):Prop×List D:=(M6.cZ x.1/\x.2.1=0/\x.2.2=x.1.length/\M6.cZ b/\0<=k/\k.toNat+b.length<=x.1.length/\x.1.length<=1099511627776/\M6.val x.1+M6.val b*18446744073709551616^k.toNat<18446744073709551616^x.1.length,
 [.io gH .u64 (M6.pT x.1.length (M6.val x.1+M6.val b*18446744073709551616^k.toNat)) 0 0])
theorem bKJ{T N:Nat}(hN:N<=1099511627776)(hT:T<18446744073709551616^N):∀(r j:Nat) (z:List Int) (c:Int),j+r=N+1->z.length=N->M6.cZ z->0<=c->c<=1->M6.val z+18446744073709551616^j*c.toNat=T ->
  L7 z 0 N c j=some [.io gH .u64 (M6.pT N T) 0 0]:=by
 intro r
 induction r with
 |zero =>
  intro j z c hj hz hd h0 h1 hv;have hc:c=0:=by
   have h2:=M6.qB (show N<=j by omega);rcases Int.lt_or_le 0 c with h3 |h3
   ·have:c=1:=by omega
    subst this;simp at hv;omega
   ·omega
  subst hc;rw[wX,aL];simp at hv;rw[M6.oW hd hz hv]
 |succ r ih =>
  intro j z c hj hz hd h0 h1 hv
  by_cases hc:c=0
  ·subst hc;rw[wX,aL];simp at hv;rw[M6.oW hd hz hv]
  ·have aYL:c=1:=by omega
   subst aYL;have bRI:j<N:=by
    rcases bVH j N with h |h
    ·exact h
    ·have h2:=M6.qB h;simp at hv;omega
   have g:=hd.get j;have w2:i64.wrap ((j:Int)+1)=((j+1:Nat):Int):=by rw[wrap_i64];omega
   rw[wX,aQ,aW,bUT,bYO,gP ⟨g.1,by omega,by omega,by omega⟩,aW,w2];refine ih (j+1) _ _ (by omega) (by simp[hz]) (M6.oF hd (by omega)) (by omega) (by omega) ?_;have hs:=M6.qR (a:=z) (j:=j) (by omega) ((z.getD j 0+0+1)%18446744073709551616);rw[bZQ,bZT];generalize z.getD j 0=x at *;generalize M6.val (z.set j _)=V at *;generalize 18446744073709551616^j=B at *;have e:((x+0+1)%18446744073709551616).toNat+18446744073709551616*((x+0+1)/18446744073709551616).toNat=x.toNat+1:=by omega
   have e2:B*((x+0+1)%18446744073709551616).toNat+B*(18446744073709551616*((x+0+1)/18446744073709551616).toNat)=B*x.toNat+B:=by
    rw[<-bZR,e,bZR,bVB]
   simp at hv;omega
theorem bKL{b:List Int}{V N k:Nat}(hN:N<=1099511627776)(hb:M6.cZ b)(hk:k+b.length<=N)(hT:V+M6.val b*18446744073709551616^k<18446744073709551616^N):∀(r i:Nat) (z:List Int) (c:Int),i+r=b.length->z.length=N->M6.cZ z->0<=c->c<=1 ->
  M6.val z+18446744073709551616^(k+i)*c.toNat=V+M6.val (b.take i)*18446744073709551616^k ->
  L2 z 0 N b k c b.length i=some [.io gH .u64 (M6.pT N (V+M6.val b*18446744073709551616^k)) 0 0]:=by
 intro r
 induction r with
 |zero =>
  intro i z c hi hz hd h0 h1 hv;have w1:i64.wrap ((k:Int)+(b.length:Int))=((k+b.length:Nat):Int):=by rw[wrap_i64];omega
  rw[lN,aL,w1];have aVE:i=b.length:=by omega
  subst aVE;rw[cBD]at hv;exact bKJ hN hT (N+1-(k+b.length)) (k+b.length) z c (by omega) hz hd h0 h1 hv
 |succ r ih =>
  intro i z c hi hz hd h0 h1 hv;have g:=hd.get (k+i);have g2:=hb.get i;have w1:i64.wrap ((k:Int)+(i:Int))=((k+i:Nat):Int):=by rw[wrap_i64];omega
  have w2:i64.wrap ((i:Int)+1)=((i+1:Nat):Int):=by rw[wrap_i64];omega
  rw[lN,aQ,w1,aW,aW,bUT,bYO,bYO,gP ⟨g.1,g2.1,h0,h1⟩,aW,w2];refine ih (i+1) _ _ (by omega) (by simp[hz]) (M6.oF hd (by omega)) (by omega) (by omega) ?_;have hs:=M6.qR (a:=z) (j:=k+i) (by omega) ((z.getD (k+i) 0+b.getD i 0+c)%18446744073709551616);have e0:M6.val (b.take (i+1))*18446744073709551616^k=M6.val (b.take i)*18446744073709551616^k+18446744073709551616^(k+i)*(b.getD i 0).toNat:=by
   rw[M6.dP,bVL,bZS];congr 1;rw[cFE,bZP (18446744073709551616^i)]
  rw[e0,show k+(i+1)=(k+i)+1 from by omega,bZQ,bZT];generalize z.getD (k+i) 0=x at *;generalize b.getD i 0=y at *;generalize M6.val (z.set (k+i) _)=W at *;generalize 18446744073709551616^(k+i)=B at *;generalize M6.val (b.take i)*18446744073709551616^k=U at *;have e:((x+y+c)%18446744073709551616).toNat+18446744073709551616*((x+y+c)/18446744073709551616).toNat=x.toNat+y.toNat+c.toNat:=by omega
  have e2:B*((x+y+c)%18446744073709551616).toNat+B*(18446744073709551616*((x+y+c)/18446744073709551616).toNat)=B*x.toNat+B*y.toNat+B*c.toNat:=by
   rw[<-bZR,e,bZR,bZR]
  omega
theorem spec(x:List Int×Nat×Nat)(b:List Int)(k:Int)(h:(sp x b k).1):aH E f267 aE [(Dl gH .u64).put x,(pI .u64).put b,(pN .i64).put k]=some (sp x b k).2/\∃rs mZ,(sp x b k).2=rs ++ [.io gH .u64 mZ 0 0]/\mZ.length=x.1.length:=by
 obtain⟨xl,xo,xn⟩:=x;obtain⟨hd,ho,hn,hb,hk,aGO,hl,hT⟩:=h;simp only at hd ho hn hb hk aGO hl hT;subst ho;subst hn;obtain⟨k,rfl⟩:=bZV hk;rw[bYO]at aGO hT;refine⟨(start xl 0 xl.length b k).trans ?_,[],_,rfl,M6.iG hT⟩;have:=bKL hl hb aGO hT b.length 0 xl 0 (by omega) rfl hd (by omega) (by omega) (by simp[M6.val]);exact this
def aJ:dO:=orc3 (Dl gH .u64) (pI .u64) (pN .i64) sp
theorem fnok:mA prog E 267 f267 aE:=vV rH mixed (lY _ rfl aD (nR)) func267 rfl rfl rfl rfl rfl
theorem ok:pW prog base.glob 267 aJ:=fnok.yM rfl spec
end pJ
namespace Gx
def E:Env:={ ({ base with C:=qZ [(267,pJ.aJ)] (callsOf [(261,Ag.aJ),(253,nD.prec)]),ioF:=Ni [(267,pJ.aJ)],n0:=1,io:=[0] })with nt:=34,own:=[],keep:=fun k=>(tlook [(1,[0,1,2,6])] k).getD [],cut:=tlook [] }
def aE:=bd f265
theorem aX:Nk E aE:=nk
def L1(a:List Int)(b:Nat)(c:Nat) d f g:=sJ E f265 aE 1 [(A.any,some { e:=(22:Nat),cont:=yF.ints u64 a }),(A.v (V.one (L.view 0 b c)),none),iK d,iK f,cK g]
theorem start al ao an b c:aH E f265 aE [D.io gH u64 al ao an,D.s (ints u64 b),D.s (ints u64 c)]=Gx.L1 al ao an b c 0:=eJ aX
theorem Qa a b c d e f:L1 a b c d e f=letI C:=(d.length:Int);letI B:=f+(e.length:Int);letI A:=cDV f.toNat (cDW (if C<i64.wrap B then C else i64.wrap B).toNat d);aB (decide (f<C)) (if 0<=f/\(f<=if C<i64.wrap B then C else i64.wrap B)/\((if C<i64.wrap B then C else i64.wrap B)<=if C<i64.wrap B then C else i64.wrap B)/\(if C<i64.wrap B then C else i64.wrap B)<=C then aO (M6.cZ A/\A.length<=1099511627776) (aC (M6.dg (M6.val A)) fun g=>aO (nD.can g e) (aC (M6.dg (M6.val g*M6.val e)) fun h=>aO (M6.cZ a/\b=0/\c=a.length/\M6.cZ h/\0<=f/\f.toNat+h.length<=a.length/\a.length<=1099511627776/\M6.val a+M6.val h*(18446744073709551616:Nat)^f.toNat<(18446744073709551616:Nat)^a.length) (aC (M6.pT a.length (M6.val a+M6.val h*(18446744073709551616:Nat)^f.toNat)) fun i=>Gx.L1 i b c d e (i64.wrap B))))else none) (some [D.io 22 u64 a 0 0]):=lJ aX
def sp(x:List Int×Nat×Nat)(a b:List Int):Prop×List D:=(M6.cZ x.1/\x.2.1=0/\x.2.2=x.1.length/\M6.cR a/\M6.cR b/\x.1.length=a.length+b.length/\x.1.length<=549755813888/\M6.val x.1=0/\0<b.length/\2*b.length<=a.length/\nD.less (a.length+b.length),
 [.io gH .u64 (M6.pT x.1.length (M6.val a*M6.val b)) 0 0])
theorem bKM{a b:List Int}{N:Nat}(hN:N<=549755813888)(ha:M6.cR a)(hb:M6.cR b)(bJB:N=a.length+b.length)(h0:0<b.length)(h2:2*b.length<=a.length)(hc:nD.less (a.length+b.length)):∀(r at_:Nat) (z:List Int),a.length<=at_+r->at_<=N->z.length=N->M6.cZ z->M6.val z=M6.val (a.take at_)*M6.val b ->
  L1 z 0 N a b at_=some [.io gH .u64 (M6.pT N (M6.val a*M6.val b)) 0 0]:=by
 intro r
 induction r with
 |zero =>
  intro t z hr ht hz hd hv;rw[Qa,aL];rw[M6.dR (by omega)]at hv;rw[M6.oW hd hz hv]
 |succ r ih =>
  intro t z hr ht hz hd hv
  by_cases jL:t<a.length
  ·have w:i64.wrap ((t:Int)+(b.length:Int))=((t+b.length:Nat):Int):=by rw[wrap_i64];omega
   obtain⟨e,he⟩:∃e:Nat,e=min a.length (t+b.length):=⟨_,rfl⟩;have bRN:(if(a.length:Int)<((t+b.length:Nat):Int)then(a.length:Int)else((t+b.length:Nat):Int))=(e:Int):=by split <;> omega
   have Pd:((a.take e).drop t).length=e-t:=by rw[List.length_drop,bXH];omega
   have bMA:M6.cZ ((a.take e).drop t):=(ha.kU.take _).drop _;have bHH:=M6.dS bMA;rw[Pd]at bHH;have Mx:M6.val (a.take e)=M6.val (a.take t)+18446744073709551616^t*M6.val ((a.take e).drop t):=by
    have:=M6.iY (a.take e) (n:=t) (by rw[bXH];omega);rw[List.take_take,show min t e=t from by omega]at this;exact this
   have bMO:=M6.dS hb.kU;have iN:=M6.iL ha.kU e;have h1:M6.val ((a.take e).drop t)*M6.val b<18446744073709551616^(e-t+b.length):=by
    rw[bZS];exact cCV bHH bMO
   have h3:M6.val (a.take e)*M6.val b<18446744073709551616^N:=by
    have:M6.val (a.take e)*M6.val b<18446744073709551616^(e+b.length):=by
     rw[bZS];exact cCV iN bMO
    exact bVO this (M6.qB (by omega))
   have h4:M6.val z+M6.val ((a.take e).drop t)*M6.val b*18446744073709551616^t=M6.val (a.take e)*M6.val b:=by
    rw[hv,Mx,bVL];congr 1;rw[bZP (18446744073709551616^t),cFE]
   rw[Qa,aQ,w,bRN,if_pos ⟨by omega,by omega,by omega,by omega⟩];simp only[bYO];rw[gP ⟨bMA,by omega⟩,aG,gP (hc _ _ (M6.aY _) hb (by have:=M6.dZ bHH;omega)),aG,M6.bN,M6.bN];have Hf:=M6.dZ h1;rw[gP ⟨hd,by trivial,by omega,M6.lG _,by omega,by omega,by omega,by rw[h4,hz];exact h3⟩,aG,hz,h4];refine ih (t+b.length) _ (by omega) (by omega) (M6.iG h3) M6.lW ?_;rw[M6.lV];congr 1
   by_cases bBZ:t+b.length<=a.length
   ·rw[he,Nat.min_eq_right bBZ]
   ·rw[he,cAV (by omega),cBD,M6.dR (by omega)]
  ·rw[Qa,aL];rw[M6.dR (by omega)]at hv;rw[M6.oW hd hz hv]
theorem spec(x:List Int×Nat×Nat)(a b:List Int)(h:(sp x a b).1):aH E f265 aE [(Dl gH .u64).put x,(pI .u64).put a,(pI .u64).put b]=some (sp x a b).2/\∃rs mZ,(sp x a b).2=rs ++ [.io gH .u64 mZ 0 0]/\mZ.length=x.1.length:=by
 obtain⟨xl,xo,xn⟩:=x;obtain⟨hd,ho,hn,ha,hb,hl,hN,hv,h0,h2,hc⟩:=h;simp only at hd ho hn hl hN hv;subst ho;subst hn;refine⟨(start xl 0 xl.length a b).trans ?_,[],_,rfl,M6.iG ?_⟩
 ·exact bKM hN ha hb hl h0 h2 hc a.length 0 xl (by omega) (by omega) rfl hd (by simp[hv,M6.val])
 ·show _<18446744073709551616^xl.length;rw[hl,bZS];exact cCV (M6.dS ha.kU) (M6.dS hb.kU)
def aJ:dO:=orc3 (Dl gH .u64) (pI .u64) (pI .u64) sp
theorem fnok:mA prog E 265 f265 aE:=vV rH mixed (lZ _ _ rfl rfl (mG pJ.ok xM) (aA Ag.ok (aA nD.aBR aD)) (nR)) func265 rfl rfl rfl rfl rfl
theorem ok:pW prog base.glob 265 aJ:=fnok.yM rfl spec
end Gx
namespace aWX
def E:=mE [(261,Ag.aJ)] 29 [16,21] [] []
def aE:=bd f268
theorem aX:Nk E aE:=nk
theorem start a b:aH E f268 aE [D.s (ints u64 a),D.s (sc (int i64 b))]=letI C:=cDV 0 (cDW b.toNat a);letI A:=(a.length:Int);letI F:=cDW A.toNat a;letI B:=cDV 0 F;aB (decide (A<=b)) (if(0:Int)<=(0:Int)/\0<=A/\A<=A/\A<=A then aO (M6.cZ B/\B.length<=1099511627776) (some [D.s (ints u64 (M6.dg (M6.val B))),D.s (sc (slice none 0 0))])else none) (if(0:Int)<=(0:Int)/\0<=b/\b<=b/\b<=A then aO (M6.cZ C/\C.length<=1099511627776) (if 0<=b/\b<=A/\A<=A/\A<=A then some [D.s (ints u64 (M6.dg (M6.val C))),D.s (ints u64 (cDV b.toNat F))]else none)else none):=eJ aX
def sp(a:List Int)(k:Int):Prop×List D:=(M6.cR a/\a.length<=1099511627776/\0<=k,[.s (.ints .u64 (M6.dg (M6.val a%18446744073709551616^k.toNat))),.s (.ints .u64 (M6.dg (M6.val a/18446744073709551616^k.toNat)))])
theorem spec:Oe E f268 aE (pI .u64) (pN .i64) sp:=by
 rintro a k ⟨ha,hl,h0⟩;obtain⟨k,rfl⟩:=bZV h0;simp only[sp,bYO];have aCG:=start a (k:Int)
 by_cases hk:a.length<=k
 ·rw[aQ,aW,bYO,cBD,cBE,gP ⟨ha.kU,hl⟩]at aCG;refine⟨_,aCG,?_⟩;have h1:M6.val a<18446744073709551616^k:=bVO (M6.dS ha.kU) (M6.qB hk);rw[cFC h1,cAK h1,M6.cF];exact .cons (.refl _) (.cons (.nil _) .nil)
 ·rw[aL,aW,bYO,bYO,cBE,gP ⟨ha.kU.take _,by rw[bXH];omega⟩,aW,cBD,M6.tJ ha.kU]at aCG;refine⟨_,aCG,?_⟩;have h2:a.drop k=M6.dg (M6.val a/18446744073709551616^k):=by
   rw[<-M6.nG ha.kU];exact M6.Ur ha k
  rw[h2];exact .refl _
def aJ:dO:=orc2 (pI .u64) (pN .i64) sp
theorem ok:OK 268 aJ:=(fA E aE (aA Ag.ok aD) func268).aNH rfl spec
end aWX
end W
end Go.Proofs.YtplagoepbghhpaaGreatDoor
end
