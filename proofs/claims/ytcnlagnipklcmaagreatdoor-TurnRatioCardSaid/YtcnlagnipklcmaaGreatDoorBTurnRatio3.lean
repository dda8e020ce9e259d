/- Contracts of functions and laws, for the claim on TurnRatio. -/
import Derived.KernelRfl
import Derived.Test.YtcnlagnipklcmaaGreatDoorBTurnRatio2
set_option linter.unusedVariables false
set_option linter.unusedSimpArgs false
set_option exponentiation.threshold 10000000
noncomputable section
open Go.IntKind(i8 i16 i32 i64 u8 u16 u32 u64)
open Go.Proofs.Tryz
open Int renaming toNat_natCast->bQX,eq_ofNat_of_zero_le->bSE,natCast_mul->bTA,natCast_ediv->bSS,tdiv_eq_ediv_of_nonneg->bUQ,natAbs_neg->bTV,tmod_eq_emod_of_nonneg->bUR,natCast_nonneg->bWU,mul_neg->bWB,mul_ediv_add_emod->bWE,lt_or_le->bYP,mul_nonneg->bZB,natCast_emod->bTS,toNat_of_nonneg->bZE,emod_nonneg->bWF,emod_lt_of_pos->bWG,mul_le_mul_of_nonneg_left->bZG,natAbs_natCast->bSU
open Nat renaming pow_add->bSD,mul_add->bSB,pow_succ->bSA,mul_assoc->bSF,mul_comm->bRZ,mod_lt->bPJ,lt_of_le_of_lt->bTQ,zero_add->bND,div_le_self->bVO,mul_le_mul_left->bPP,lt_of_lt_of_le->bOB,le_trans->bNX,div_lt_of_lt_mul->bSW,div_eq_of_lt->bSZ,pow_pos->bQA,mul_le_mul_right->bOO,add_mul->bNV,mul_lt_mul''->bVP,div_div_eq_div_mul->bST,mod_eq_of_lt->bXQ,div_add_mod->bSI,zero_le->bTF,beq->bNC,eq_of_beq_eq_true->bNP,mul_one->bNL,le_refl->bNB,mul_le_mul->bXP,mod_add_div->bXS,one_mul->bRE,pow_lt_pow_right->bTU,pow_le_pow_right->bQB,le_of_ble_eq_true->bOZ,add_mul_div_left->bTR,add_zero->bOC,pow_zero->bXC,ble->bNE,div_eq_of_lt_le->bXV,add_assoc->bQR,div_le_div_left->bXY,testBit_mod_two_pow->bXZ,le_of_not_lt->bRY,mul_div_le->bYA,mul_right_comm->bYB,lt_or_ge->bNQ,add_comm->bTD,testBit_and->bYE,testBit_div_two_pow->bYF,eq_of_testBit_eq->bYG,div_mul_le_self->bYH,lt_div_mul_add->bYI,mul_left_comm->bUY,lt_mul_div_succ->bYJ,div_lt_iff_lt_mul->bYK,pow_mul->bTT,div_one->bYM,zero_mod->bUX,min_eq_left->bTI,mul_add_div->bWT,testBit_two_pow->bYR,testBit_two_pow_sub_one->bYT,testBit_two_pow_sub_succ->bYU,div_le_of_le_mul->bYV,le_div_iff_mul_le->bYX,add_mul_mod_self_left->bZA,mul_add_mod->bZD,mul_div_mul_right->bVZ,mul_mod_mul_right->bWA,mul_div_cancel->bXE,exists_eq_add_of_le->bOG,mul_lt_mul_of_pos_right->bZF,testBit_lt_two_pow->bZJ,mul_lt_mul_of_pos_left->bZK,lt_succ_self->bZL
open Rat renaming le_of_lt->bSJ,natCast_mul->bUB,le_trans->bSH,le_refl->bTP,intCast_natCast->bXT,intCast_mul->bXW,intCast_neg->bYC,mul_pos->bSV,mul_assoc->bYL,div_mul_cancel->bYW,intCast_add->bYY,le_antisymm->bZH
open List renaming replicate->bPE,take->bSX,drop->bSY,take_length->bTW,drop_zero->bTJ,take_set_of_le->bXX,length_take->bPR,drop_set_of_lt->bYD,length_replicate->bYN,drop_of_length_le->bYO,getD_eq_getElem?_getD->bSG,take_of_length_le->bUM,drop_replicate->bYQ,nil_append->bRD,append_nil->bTC,length_append->bOE,take_zero->bRC,append_assoc->bOW,singleton_append->bTX
open Bool renaming not_true->bPB,true_and->bQC,false_and->bSL,false_or->bPC,or_true->bTB,true_or->bSM,and_eq_true->bNH,not_false->bYZ,and_false->bSO
namespace Go.Proofs.YtcnlagnipklcmaaGreatDoor
namespace R
def fF{α:Type}(n:Nat)(k:Nat->α):α:=Nat.rec (motive:=fun _=>α) (k 0) (fun m _=>k (m+1)) n
theorem dY{α:Type}(n:Nat)(k:Nat->α):fF n k=k n:=by cases n <;> rfl
def inner(q:Nat)(f:Nat):Nat->Nat->Nat->Nat×Nat:=Nat.rec (motive:=fun _=>Nat->Nat->Nat->Nat×Nat) (fun t s _=>(t,s))
 (fun _ ih t s i=>fF (t/q) fun u=>fF (u/q) fun v=>fF (s+t/i-u/(i+2)) fun s'=>fF (i+4) fun i'=>ih v s' i') f
def outer(q:Nat)(g:Nat)(f:Nat):Nat->Nat->Nat->Nat×Nat:=Nat.rec (motive:=fun _=>Nat->Nat->Nat->Nat×Nat) (fun t s _=>(t,s))
 (fun _ ih t s i=>Prod.rec (motive:=fun _=>Nat×Nat) (fun t' s'=>ih t' s' (i+4*g)) (inner q g t s i)) f
theorem aGY(n w:Nat){j:Nat}(hn:0<n):fU n w (j+1)<=fU n w j:=by
 unfold fU;refine bNX (bXY (show 2*j+1<=2*(j+1)+1 by omega) (by omega)) (Nat.div_le_div_right ?_);exact bXY (bQB hn (by omega)) (bQA hn)
def At(n w:Nat)(j:Nat)(t s:Nat):Prop:=t=2^w/n^(2*j+1)/\(s:Rat)=sum (fun j=>sg j*(fU n w j:Rat)) j/\j%2=0
theorem aLF{n w j t s:Nat}(hn:0<n)(h:At n w j t s):At n w (j+2) (t/(n*n)/(n*n)) (s+t/(2*j+1)-t/(n*n)/(2*j+1+2)):=by
 obtain⟨h1,h2,h3⟩:=h;have e1:t/(n*n)=2^w/n^(2*(j+1)+1):=by
  rw[h1,bST,show 2*(j+1)+1=2*j+1+2 by omega,bSD _ (2*j+1) 2,Nat.pow_two]
 have e2:t/(n*n)/(n*n)=2^w/n^(2*(j+2)+1):=by
  rw[e1,bST,show 2*(j+2)+1=2*(j+1)+1+2 by omega,bSD _ (2*(j+1)+1) 2,Nat.pow_two]
 refine⟨e2,?_,by omega⟩;have a1:t/(2*j+1)=fU n w j:=by rw[h1];rfl
 have a2:t/(n*n)/(2*j+1+2)=fU n w (j+1):=by rw[e1];rfl
 rw[a1,a2,cZ,cZ,<-h2];have hle:=aGY n w (j:=j) hn;have:((s+fU n w j-fU n w (j+1):Nat):Rat)+(fU n w (j+1):Rat)=(s:Rat)+(fU n w j:Rat):=by
  exact_mod_cast(show s+fU n w j-fU n w (j+1)+fU n w (j+1)=s+fU n w j by omega)
 have g1:sg j=1:=by unfold sg;rw[if_pos h3]
 have g2:sg (j+1)=-1:=by unfold sg;rw[aX]
 rw[g1,g2];grind
theorem Uc(q f t s i:Nat):inner q (f+1) t s i=fF (t/q) fun u=>fF (u/q) fun v=>fF (s+t/i-u/(i+2)) fun s'=>fF (i+4) fun i'=>inner q f v s' i':=rfl
theorem Tr(q g f t s i:Nat):outer q g (f+1) t s i=outer q g f (inner q g t s i).1 (inner q g t s i).2 (i+4*g):=rfl
theorem aDY{n w:Nat}(hn:0<n):∀(f j t s:Nat),At n w j t s->At n w (j+2*f) (inner (n*n) f t s (2*j+1)).1 (inner (n*n) f t s (2*j+1)).2:=by
 intro f
 induction f with
 |zero=>intro j t s h;exact h
 |succ f ih =>
  intro j t s h;have e:inner (n*n) (f+1) t s (2*j+1)=inner (n*n) f (t/(n*n)/(n*n)) (s+t/(2*j+1)-t/(n*n)/(2*j+1+2)) (2*(j+2)+1):=by
   rw[Uc,dY,dY,dY,dY];rfl
  rw[e,show j+2*(f+1)=(j+2)+2*f by omega];exact ih _ _ _ (aLF hn h)
theorem aDK{n w:Nat}(hn:0<n)(g:Nat):∀(f j t s:Nat),At n w j t s->At n w (j+2*(g*f)) (outer (n*n) g f t s (2*j+1)).1 (outer (n*n) g f t s (2*j+1)).2:=by
 intro f
 induction f with
 |zero=>intro j t s h;exact h
 |succ f ih =>
  intro j t s h;have e:outer (n*n) g (f+1) t s (2*j+1)=outer (n*n) g f (inner (n*n) g t s (2*j+1)).1 (inner (n*n) g t s (2*j+1)).2 (2*(j+2*g)+1):=by
   rw[Tr,show 2*j+1+4*g=2*(j+2*g)+1 by omega]
  rw[e,show j+2*(g*(f+1))=(j+2*g)+2*(g*f) by rw[Nat.mul_succ];omega];exact ih _ _ _ (aDY hn g j t s h)
def Sx(n w g f:Nat):Nat×Nat:=outer (n*n) g f (2^w/n) 0 1
theorem Df{n:Nat}(hn:2<=n)(w g f:Nat)(hJ:2*(g*f)<=1048576)(hz:(Sx n w g f).1=0):ab (((Sx n w g f).2:Rat)-((2^w:Nat):Rat)*Rs n)<=((2*(g*f):Nat):Rat)+2:=by
 have h:=aDK (n:=n) (w:=w) (by omega) g f 0 (2^w/n) 0 ⟨by rw[Nat.mul_zero,Nat.pow_one],by simp only[sum];norm_cast,rfl⟩;obtain⟨h1,h2,_⟩:=h;rw[bND]at h1 h2;have h3:(Sx n w g f).2=(outer (n*n) g f (2^w/n) 0 (2*0+1)).2:=rfl;have h4:(Sx n w g f).1=(outer (n*n) g f (2^w/n) 0 (2*0+1)).1:=rfl;rw[h3,h2];rw[h4,h1]at hz;rw[bND]at hz ⊢;refine Yq hn w hJ ?_;unfold fU;rw[hz,Nat.zero_div]
def Ma(u w:Nat)(f:Nat):Nat->Nat->Nat->Nat->Nat×Nat×Nat:=Nat.rec (motive:=fun _=>Nat->Nat->Nat->Nat->Nat×Nat×Nat) (fun t c s _=>(t,c,s))
 (fun _ ih t c s k=>fF (t*u/w/(k+1)) fun t1=>fF (t1*u/w/(k+2)) fun t2=>fF (t2*u/w/(k+3)) fun t3=>fF (t3*u/w/(k+4)) fun t4=>fF (c+t-t2) fun c'=>fF (s+t1-t3) fun s'=>fF (k+4) fun k'=>ih t4 c' s' k') f
def Cy(w:Nat)(h:Nat):Nat->Nat->Nat×Nat:=Nat.rec (motive:=fun _=>Nat->Nat->Nat×Nat) (fun s c=>(s,c))
 (fun _ ih s c=>fF (2*(s*c/w)) fun s'=>fF (w-2*(s*s/w)) fun c'=>ih s' c') h
def aJB(x:Nat):Bool :=
 fF (x &&& (x >>> 1)) fun x=>fF (x &&& (x >>> 2)) fun x=>fF (x &&& (x >>> 4)) fun x=>fF (x &&& (x >>> 8)) fun x=>bNC (x &&& (x >>> 8)) 0
def aNU(P w:Nat):Bool :=
 fF (P/2^102) fun u=>fF (2^w) fun W =>
 Prod.rec (motive:=fun _=>Bool) (fun t r=>Prod.rec (motive:=fun _=>Bool) (fun c s=>bNC t 0 &&
  Prod.rec (motive:=fun _=>Bool) (fun s' c'=>bNE (2*s'*s') (W*W+2^(w+240))&&(bNE (W*W) (2*s'*s'+2^(w+240))&&bNE 1 c')) (Cy W 100 s c)) r) (Ma u W 320 W 0 0 0)
def aQC(w:Nat):Bool :=
 Prod.rec (motive:=fun _=>Bool) (fun t5 s5=>Prod.rec (motive:=fun _=>Bool) (fun t239 kE=>Prod.rec (motive:=fun _=>Bool) (fun t18 aID=>Prod.rec (motive:=fun _=>Bool) (fun t57 aIC =>
  bNC t5 0&&(bNC t239 0&&(bNC t18 0&&(bNC t57 0 &&
  fF (16*s5-4*kE) fun P=>fF (48*aID+32*aIC-20*kE) fun G =>
  bNE P (G+2^24)&&(bNE G (P+2^24)&&fF (P/2^64) fun Q =>
  bNC ((P+2^40)/2^64) Q&&(bNC ((P-2^40)/2^64) Q&&(bNC (Q/2^(w-104)) 3454217652357&&(aJB Q&&(aJB (2^(w-62)-1-Q)&&aNU P w)))))))))
  (Sx 57 w 78 78)) (Sx 18 w 92 92)) (Sx 239 w 66 66)) (Sx 5 w 122 122)
def Gw(x n:Nat):Prop:=∀p,∃i,i<n/\x.testBit (p+i)=false
theorem tR{x a n:Nat}(h:Gw (x &&& (x >>> a)) n):Gw x (n+a):=by
 intro p;obtain⟨i,hi,hb⟩:=h p;rw[bYE,Nat.testBit_shiftRight,Bool.and_eq_false_iff]at hb;rcases hb with hb |hb
 ·exact⟨i,by omega,hb⟩
 ·exact⟨i+a,by omega,by rwa [show p+(i+a)=a+(p+i) by omega]⟩
theorem Wr{x:Nat}(h:aJB x=true):Gw x 24:=by
 unfold aJB at h;rw[dY,dY,dY,dY]at h;have h0:=bNP h;have n0:Gw ((((x &&& x >>> 1) &&& (x &&& x >>> 1) >>> 2) &&& ((x &&& x >>> 1) &&& (x &&& x >>> 1) >>> 2) >>> 4) &&& (((x &&& x >>> 1) &&& (x &&& x >>> 1) >>> 2) &&& ((x &&& x >>> 1) &&& (x &&& x >>> 1) >>> 2) >>> 4) >>> 8 &&& ((((x &&& x >>> 1) &&& (x &&& x >>> 1) >>> 2) &&& ((x &&& x >>> 1) &&& (x &&& x >>> 1) >>> 2) >>> 4) &&& (((x &&& x >>> 1) &&& (x &&& x >>> 1) >>> 2) &&& ((x &&& x >>> 1) &&& (x &&& x >>> 1) >>> 2) >>> 4) >>> 8) >>> 8) 1:=by
  rw[h0];exact fun p=>⟨0,by omega,by simp⟩
 exact tR (a:=1) (n:=23) (tR (a:=2) (n:=21) (tR (a:=4) (n:=17) (tR (a:=8) (n:=9) (tR (a:=8) (n:=1) n0))))
theorem Ks{x n:Nat}(h:Gw x n)(p:Nat):x/2^p%2^n≠2^n-1:=by
 intro hc;obtain⟨i,hi,hb⟩:=h p;have h1:(x/2^p%2^n).testBit i=true:=by
  rw[hc,bYT];exact decide_eq_true hi
 rw[bXZ,bYF]at h1;rw[show p+i=i+p by omega]at hb;rw[hb]at h1;simp at h1
theorem aAP{x L n p:Nat}(hx:x<2^L)(hp:p+n<=L)(h:(2^L-1-x)/2^p%2^n≠2^n-1):x/2^p%2^n≠0:=by
 intro hc;apply h;apply bYG;intro i;rw[bYT,bXZ,bYF,show 2^L-1-x=2^L-(x+1) by omega,bYU hx];have h1:(x/2^p%2^n).testBit i=false:=by rw[hc];simp
 rw[bXZ,bYF]at h1
 by_cases hi:i<n
 ·simp[hi]at h1 ⊢;exact⟨by omega,h1⟩
 ·simp[hi]
theorem Xc(h:Nat):((4^(h+1):Nat):Rat)=4*((4^h:Nat):Rat):=by
 rw[bSA,bUB];grind
theorem Fj(h:Nat):((2^(h+1):Nat):Rat)=2*((2^h:Nat):Rat):=by
 rw[bSA,bUB];grind
theorem Gn(b h:Nat)(hb:0<b):(1:Rat)<=((b^h:Nat):Rat):=by exact_mod_cast bQA hb
theorem Lb(w h s c:Nat):Cy w (h+1) s c=Cy w h (2*(s*c/w)) (w-2*(s*s/w)):=by
 show fF _ (fun s'=>fF _ fun c'=>Cy w h s' c')=_;rw[dY,dY]
theorem aGE{W s c:Nat}{x e:Rat}(hW:1<=W)(h0:0<=x)(h1:x<=1/2)(hs:ab ((s:Rat)-W*sn x)<=e)(hc:ab ((c:Rat)-W*cs x)<=e)(he:100*(e*e)<=(W:Rat))(aZX:(8*e+4*(W:Rat))*sO<=1/4) :
  ab (((2*(s*c/W):Nat):Rat)-W*sn (2*x))<=4*e+4/\ab (((W-2*(s*s/W):Nat):Rat)-W*cs (2*x))<=4*e+4/\2*(s*s/W)<=W:=by
 have bLK:(1:Rat)<=(W:Rat):=by exact_mod_cast hW
 have aII:0<=e:=bSH (aN _) hs;have aON:ab x<=1:=by rw[bG h0];grind
 have aOO:2*(s*s/W)<=W:=by
  have h2:=Wk h0 (by grind);have h3:=Gg h0 (by grind);rw[cT]at hs;have e1:e<=(W:Rat)/10:=by
   have:=Ge (a:=10*e) (b:=(W:Rat)) (by have:=aG (show 0<=(W:Rat)-1 by grind) (show 0<=(W:Rat) by grind);grind) (by grind);rw[bG (by grind)]at this;grind
  have e2:=aG (show 0<=(W:Rat) by grind) (show 0<=1/2-sn x by grind);have e3:(s:Rat)<=3/5*(W:Rat):=by grind
  have e4:(0:Rat)<=(s:Rat):=by exact_mod_cast bTF _
  have e5:=cC e4 e3 e4 e3;have d:=(uV (s*s) (b:=W) (by omega)).1;rw[bUB]at d;have e6:(W:Rat)*(2*((s*s/W:Nat):Rat))<=(W:Rat)*(W:Rat):=by
   have:=aG (show 0<=(W:Rat) by grind) (show 0<=(W:Rat) by grind);grind
  have e7:=cN (show 0<(W:Rat) by grind) e6;exact_mod_cast e7
 have aAB:ab ((W:Rat)*((2*(s*c/W):Nat):Rat)-2*((s:Rat)*(c:Rat)))<=2*(W:Rat):=by
  obtain⟨d1,d2⟩:=uV (s*c) (b:=W) (by omega);rw[bUB]at d1 d2;rw[bUB,cT];have:((2:Nat):Rat)=2:=by norm_cast
  rw[this];constructor <;> grind
 have aRR:ab ((W:Rat)*((W-2*(s*s/W):Nat):Rat)-((W:Rat)*(W:Rat)-2*((s:Rat)*(s:Rat))))<=2*(W:Rat):=by
  obtain⟨d1,d2⟩:=uV (s*s) (b:=W) (by omega);have aMV:((W-2*(s*s/W):Nat):Rat)+2*((s*s/W:Nat):Rat)=(W:Rat):=by
   exact_mod_cast(show W-2*(s*s/W)+2*(s*s/W)=W by omega)
  rw[bUB]at d1 d2;generalize ((W-2*(s*s/W):Nat):Rat)=z at *;generalize ((s*s/W:Nat):Rat)=y at *;have:z=(W:Rat)-2*y:=by grind
  subst this;rw[cT];constructor <;> grind
 obtain⟨r1,r2⟩:=aRV bLK aON hs hc (by have:=aG aII aII;grind) aZX aAB aRR;exact⟨r1,r2,aOO⟩
theorem Yd{W:Nat}(hW:1<=W){E:Rat}(hE:100*(E*E)<=(W:Rat))(aZX:(8*E+4*(W:Rat))*sO<=1/4):∀(h:Nat) (x e:Rat) (s c:Nat),0<=x->((2^h:Nat):Rat)*x<=1->ab ((s:Rat)-W*sn x)<=e->ab ((c:Rat)-W*cs x)<=e->((4^h:Nat):Rat)*(e+2)<=E ->
  ab (((Cy W h s c).1:Rat)-W*sn (((2^h:Nat):Rat)*x))<=((4^h:Nat):Rat)*(e+2)-2/\ab (((Cy W h s c).2:Rat)-W*cs (((2^h:Nat):Rat)*x))<=((4^h:Nat):Rat)*(e+2)-2:=by
 intro h
 induction h with
 |zero =>
  intro x e s c h0 h1 hs hc bGA;rw[bXC,show((1:Nat):Rat)*x=x by grind];have:((1:Nat):Rat)=1:=by norm_cast
  rw[this];exact⟨by show ab ((s:Rat)-_)<=_;grind,by show ab ((c:Rat)-_)<=_;grind⟩
 |succ h ih =>
  intro x e s c h0 h1 hs hc bGA;rw[Fj]at h1;rw[Xc]at bGA;have aII:0<=e:=bSH (aN _) hs;have g2:=Gn 2 h (by omega);have g4:=Gn 4 h (by omega);have aBG:x<=1/2:=by
   have:=aG (show 0<=((2^h:Nat):Rat)-1 by grind) h0;grind
  have aKA:e<=E:=by
   have:=aG (show 0<=((4^h:Nat):Rat)-1 by grind) (show 0<=e+2 by grind);grind
  have bEZ:=cC aII aKA aII aKA;have aMR:=sZ;have hsm2:=aG (show 0<=E-e by grind) (bSJ aMR);obtain⟨r1,r2,_⟩:=aGE hW h0 aBG hs hc (by grind) (by grind);have:=ih (2*x) (4*e+4) _ _ (by grind) (by grind) r1 r2 (by grind);rw[Lb,Fj,Xc,show 2*((2^h:Nat):Rat)*x=((2^h:Nat):Rat)*(2*x) by grind];refine⟨bSH this.1 ?_,bSH this.2 ?_⟩ <;> grind
theorem Gc{u W:Nat}(h:u<=W)(k:Nat):sq u W (k+1)<=sq u W k:=by
 rw[sq];refine bNX (bVO _ _) ?_
 by_cases hW:W=0
 ·rw[hW,Nat.div_zero];omega
 ·exact bYV (by rw[bRZ];exact bOO _ h)
theorem Yy(u w f t c s k:Nat):Ma u w (f+1) t c s k=fF (t*u/w/(k+1)) fun t1=>fF (t1*u/w/(k+2)) fun t2=>fF (t2*u/w/(k+3)) fun t3=>fF (t3*u/w/(k+4)) fun t4=>fF (c+t-t2) fun c'=>fF (s+t1-t3) fun s'=>fF (k+4) fun k'=>Ma u w f t4 c' s' k':=rfl
theorem aIX{u W:Nat}(hu:u<=W):∀(f k t c s:Nat),k%4=0->t=sq u W k->(c:Rat)=sum (fun k=>cc k*(sq u W k:Rat)) k->(s:Rat)=sum (fun k=>ss k*(sq u W k:Rat)) k ->
  (Ma u W f t c s k).1=sq u W (k+4*f)/\(((Ma u W f t c s k).2.1:Nat):Rat)=sum (fun k=>cc k*(sq u W k:Rat)) (k+4*f)/\(((Ma u W f t c s k).2.2:Nat):Rat)=sum (fun k=>ss k*(sq u W k:Rat)) (k+4*f):=by
 intro f
 induction f with
 |zero=>intro k t c s _ h1 h2 h3;exact⟨h1,h2,h3⟩
 |succ f ih =>
  intro k t c s hk h1 h2 h3;have e:Ma u W (f+1) t c s k=Ma u W f (sq u W (k+4)) (c+sq u W k-sq u W (k+2)) (s+sq u W (k+1)-sq u W (k+3)) (k+4):=by
   rw[Yy,dY,dY,dY,dY,dY,dY,dY,h1];rfl
  have l1:sq u W (k+1)<=sq u W k:=Gc hu k;have l2:sq u W (k+2)<=sq u W (k+1):=Gc hu (k+1);have l3:sq u W (k+3)<=sq u W (k+2):=Gc hu (k+2);rw[e,show k+4*(f+1)=k+4+4*f by omega];have c0:cc k=1/\cc (k+1)=0/\cc (k+2)=-1/\cc (k+3)=0:=by
   unfold cc;refine⟨?_,?_,?_,?_⟩
   ·rw[if_pos hk]
   ·rw[aX,aX]
   ·rw[aX,aT]
   ·rw[aX,aX]
  have s0:ss k=0/\ss (k+1)=1/\ss (k+2)=0/\ss (k+3)=-1:=by
   unfold ss;refine⟨?_,?_,?_,?_⟩
   ·rw[aX,aX]
   ·rw[aT]
   ·rw[aX,aX]
   ·rw[aX,aT]
  refine ih (k+4) _ _ _ (by omega) rfl ?_ ?_
  ·rw[cZ,cZ,cZ,cZ,<-h2,c0.1,c0.2.1,c0.2.2.1,c0.2.2.2];have:((c+sq u W k-sq u W (k+2):Nat):Rat)+(sq u W (k+2):Rat)=(c:Rat)+(sq u W k:Rat):=by exact_mod_cast(show c+sq u W k-sq u W (k+2)+sq u W (k+2)=c+sq u W k by omega)
   grind
  ·rw[cZ,cZ,cZ,cZ,<-h3,s0.1,s0.2.1,s0.2.2.1,s0.2.2.2];have:((s+sq u W (k+1)-sq u W (k+3):Nat):Rat)+(sq u W (k+3):Rat)=(s:Rat)+(sq u W (k+1):Rat):=by exact_mod_cast(show s+sq u W (k+1)-sq u W (k+3)+sq u W (k+3)=s+sq u W (k+1) by omega)
   grind
set_option maxRecDepth 10000
def pi:Rat:=16*Rs 5-4*Rs 239
def aYO:Rat:=48*Rs 18+32*Rs 57-20*Rs 239
theorem eF{a b:Bool}(h:(a&&b)=true):a=true/\b=true:=by simpa using h
structure Ot(w:Nat)(Q:Nat):Prop where
 lo:(Q:Rat)<=((2^(w-64):Nat):Rat)*pi
 hi:((2^(w-64):Nat):Rat)*pi<(Q:Rat)+1
 gauss:ab (((2^w:Nat):Rat)*(pi-aYO))<=33554432
 top:Q/2^(w-104)=3454217652357
 aYR:Gw Q 24
 aJN:Gw (2^(w-62)-1-Q) 24
 cos:ab (((2^w:Nat):Rat)*cs (pi/2))<=((2^250:Nat):Rat)
theorem tP(w:Nat)(hw:64<=w):2^w=2^64*2^(w-64):=by rw[<-bSD];congr 1;omega
theorem Xf{u W:Nat}(hW:0<W):∃x:Rat,x*(W:Rat)=(u:Rat)/\0<=x:=by
 have h:(0:Rat)<(W:Rat):=by exact_mod_cast hW
 have h1:(W:Rat)≠0:=by grind
 refine⟨(u:Rat)/(W:Rat),bYW h1,?_⟩;have hu:(0:Rat)<=(u:Rat):=by exact_mod_cast bTF _
 refine Rat.not_lt.1 fun hn=>?_
 have:=bSV h (show 0 < -((u:Rat)/(W:Rat)) by grind);have e:(u:Rat)/(W:Rat)*(W:Rat)=u:=bYW h1;grind
theorem Nq{w:Nat}(hw:w<=1000000):((2^w:Nat):Rat)*sO<=1/1048576:=by
 have h1:=yD (n:=w+20) (by omega);have h2:=Nc w;have h3:=Hh w 20;have h4:hf 20=1/1048576:=by simp only[hf];grind
 have h5:(0:Rat)<=((2^w:Nat):Rat):=by exact_mod_cast bTF _
 have h6:=aG h5 (show 0<=hf (w+20)-sO by grind);rw[h3,h4]at h6;generalize ((2^w:Nat):Rat)=W at *;generalize hf w=H at *;clear h1 h3 h4;grind
theorem Pr{W E:Rat}(h:E<=W)(aMR:W*sO<=1/1048576):(8*E+4*W)*sO<=1/4:=by
 have:=aG (show 0<=W-E by grind) (bSJ sZ);grind
theorem aKS{W u P p x y:Rat}(hx:x*W=u)(hy:y=1267650600228229401496703205376*x)(v1:u*5070602400912917605986812821504<=P)(v2:P<u*5070602400912917605986812821504+5070602400912917605986812821504)(hp:ab (P-W*p)<=524288):ab (W*(p/2-2*y))<=10141204801825835211973625643008:=by
 rw[cT]at hp ⊢;subst hy;have:W*(p/2-2*(1267650600228229401496703205376*x))=W*p/2-2535301200456458802993406410752*u:=by rw[<-hx];grind
 rw[this];grind
theorem aPX{w P:Nat}(hw:1000<=w)(aTO:w<=1000000)(hP:P<3454217652358*2^(w-40)){p:Rat}(hp:ab ((P:Rat)-((2^w:Nat):Rat)*p)<=524288)(h:aNU P w=true):ab (((2^w:Nat):Rat)*cs (p/2))<=((2^250:Nat):Rat):=by
 unfold aNU at h;rw[dY,dY]at h;have aIJ:0<2^w:=cI;have aEE:P/2^102*2^102<=P:=bYH P (2^102);have aXD:P<P/2^102*2^102+2^102:=bYI (cI);have bMN:2^w=2^40*2^(w-40):=by rw[<-bSD];congr 1;omega
 have bET:P/2^102*2^100<=2^w:=by
  rw[show 2^102=4*2^100 from rfl,show 2^40=1099511627776 from rfl]at *;generalize 2^100=b at *;generalize 2^(w-40)=q at *;generalize P/(4*b)=u at *;have:u*(4*b)=4*(u*b):=by rw[bUY]
  omega
 obtain⟨x,hx,Pg⟩:=Xf (u:=P/2^102) aIJ;have ht:=aIX (u:=P/2^102) (W:=2^w) (by omega) 320 0 (2^w) 0 0 rfl rfl (by simp only[sum];norm_cast) (by simp only[sum];norm_cast);generalize Ma (P/2^102) (2^w) 320 (2^w) 0 0 0=T at *;obtain⟨t,c,s⟩:=T;dsimp only at h ht;rw[bND,show 4*320=1280 from rfl]at ht;obtain⟨ht0,bEV,aXE⟩:=ht;obtain⟨z0,h⟩:=eF h;have z0:=bNP z0;rw[z0]at ht0;have hW:(0:Rat)<((2^w:Nat):Rat):=by exact_mod_cast aIJ
 have aXB:((2^100:Nat):Rat)*x<=1:=by
  refine cN hW ?_;have h1:((P/2^102:Nat):Rat)*((2^100:Nat):Rat)<=((2^w:Nat):Rat):=by exact_mod_cast bET
  grind
 have aBG:x<=1/2:=by
  have n1:((2^100:Nat):Rat)=1267650600228229401496703205376:=by norm_cast
  rw[n1]at aXB;grind
 have ec:=aCH aIJ hx Pg aBG (n:=1280) (by omega) (by omega) ht0.symm;have es:=aCG aIJ hx Pg aBG (n:=1280) (by omega) (by omega) ht0.symm;rw[<-bEV]at ec;rw[<-aXE]at es;have aME:((1280:Nat):Rat)=1280:=by norm_cast
 rw[aME]at ec es;have aMR:=Nq aTO;have n4:((4^100:Nat):Rat)=1606938044258990275541962092341162602522202993782792835301376:=by norm_cast
 have aVM:(100000000000000000000000000000000000000000000000000000000000000000000000000000000000000000000000000000000000000000000000000000000000000000000000000000000000000000000000000000000000000000000000000000000:Rat)<=((2^w:Nat):Rat):=by
  have e:2^w=2^200*(2^200*(2^200*(2^200*2^(w-800)))):=by simp only[<-bSD];congr 1;omega
  have h1:100000000000000000000000000000000000000000000000000000000000000000000000000000000000000000000000000000000000000000000000000000000000000000000000000000000000000000000000000000000000000000000000000000000<=2^200*(2^200*(2^200*(2^200*1))):=bOZ rfl;have h2:100000000000000000000000000000000000000000000000000000000000000000000000000000000000000000000000000000000000000000000000000000000000000000000000000000000000000000000000000000000000000000000000000000000<=2^w:=by
   rw[e];exact bNX h1 (bPP _ (bPP _ (bPP _ (bPP _ (cI)))))
  exact_mod_cast h2
 have hepp:=sZ;have hept:=Ho;have hd:=Yd (W:=2^w) aIJ (E:=4499426523925172771517493858555255287062168382591819938843852800) (bSH (by grind) aVM) (Pr (bSH (by grind) aVM) aMR) 100 x 2564 s c Pg aXB (by grind) (by grind) (by rw[n4];grind);generalize Cy (2^w) 100 s c=R at *;obtain⟨s',c'⟩:=R;dsimp only at h hd;obtain⟨k1,h⟩:=eF h;obtain⟨k2,k3⟩:=eF h;have k1:=bOZ k1;have k2:=bOZ k2;have oB:=hd.1;rw[n4]at oB;have aTA:((2^100:Nat):Rat)=1267650600228229401496703205376:=by norm_cast
 rw[aTA]at oB aXB;obtain⟨y,hy⟩:∃y:Rat,y=1267650600228229401496703205376*x:=⟨_,rfl⟩;rw[<-hy]at oB aXB;have aMK:0<=y:=by grind
 have bFO:=Le (x:=y) (by rw[bG aMK];grind);have bEJ:2*(s':Rat)*(s':Rat)<=((2^w:Nat):Rat)*((2^w:Nat):Rat)+((2^w:Nat):Rat)*((2^240:Nat):Rat):=by
  rw[bSD]at k1;exact_mod_cast k1
 have bEI:((2^w:Nat):Rat)*((2^w:Nat):Rat)<=2*(s':Rat)*(s':Rat)+((2^w:Nat):Rat)*((2^240:Nat):Rat):=by
  rw[bSD]at k2;exact_mod_cast k2
 have aSZ:((2^240:Nat):Rat)=1766847064778384329583297500742918515827483896875618958121606201292619776:=by norm_cast
 have aSY:((2^250:Nat):Rat)=1809251394333065553493296640760748560207343510400633813116524750123642650624:=by norm_cast
 rw[aSZ]at bEJ bEI;rw[aSY];have Xs:ab (((2^w:Nat):Rat)*(p/2-2*y))<=10141204801825835211973625643008:=by
  have v1:((P/2^102:Nat):Rat)*((2^102:Nat):Rat)<=(P:Rat):=by exact_mod_cast aEE
  have v2:(P:Rat)<((P/2^102:Nat):Rat)*((2^102:Nat):Rat)+((2^102:Nat):Rat):=by exact_mod_cast aXD
  have aYZ:((2^102:Nat):Rat)=5070602400912917605986812821504:=by norm_cast
  rw[aYZ]at v1 v2;exact aKS hx hy v1 v2 hp
 generalize ((2^w:Nat):Rat)=W at *;have Jd:(0:Rat)<=(s':Rat):=by exact_mod_cast bTF _
 generalize (s':Rat)=S at *;clear hd k1 k2 k3 ec es bEV aXE aME Pg aBG aEE aXD bET bMN hx n4 aTA aSZ aSY;have bLS:S<=W:=by
  refine Rat.not_lt.1 fun hn=>?_
  have:=cC (bSJ hW) (bSJ hn) (bSJ hW) (bSJ hn);have:=aG (bSJ hW) (show 0<=W-1000000000000000000000000000000000000000000000000000000000000000000000000000000000000000000 by grind);grind
 have aMW:ab (W*cs (2*y))<=56539106072908298546665520023773392506479484700019806659891398441363832832:=by
  obtain⟨a,ha⟩:∃a,a=S-W*sn y:=⟨_,rfl⟩;rw[<-ha]at oB;have eS:W*sn y=S-a:=by grind
  have q1:=cC (aN S) (show ab S<=W by rwa [bG Jd]) (aN a) oB;have q2:=cC (aN a) oB (aN a) oB;rw[<-fG]at q1 q2;have e2:W*(W*(1-2*(sn y*sn y)))=W*W-2*((S-a)*(S-a)):=by rw[<-eS];grind
  have w1:=aG (bSJ hW) (bSJ hW);rw[cT]at bFO q1 q2 ⊢;have w2:=aG w1 (show 0<=2*sO-(cs (2*y)-(1-2*(sn y*sn y))) by grind);have w3:=aG w1 (show 0<=2*sO+(cs (2*y)-(1-2*(sn y*sn y))) by grind);have w4:=aG (bSJ hW) (show 0<=1/1048576-W*sO by grind);generalize cs (2*y)=C2 at *;generalize sn y=Sy at *;constructor
  ·refine cN hW ?_;grind
  ·refine cN hW ?_;grind
 have aMU:ab (p/2-2*y)<=1:=by
  have e3:ab (W*(p/2-2*y))=W*ab (p/2-2*y):=by rw[fG,bG (bSJ hW)]
  rw[e3]at Xs;refine cN hW ?_;grind
 have aOL:ab (2*y)<=4:=by rw[bG (by grind)];grind
 have aKF:=Cz aOL (show ab (p/2-2*y)<=4 by grind);rw[show 2*y+(p/2-2*y)=p/2 by grind]at aKF;have b1:=Tg aMU;have b2:=aGK (show ab (p/2-2*y)<=4 by grind);have b3:=aCQ aOL;have m1:=cC (aN _) aMW (aN _) b2;have m2:=cC (aN _) b3 (aN _) b1;have m3:W*ab (p/2-2*y)<=10141204801825835211973625643008:=by
  rw[fG,bG (bSJ hW)]at Xs;exact Xs
 rw[<-fG]at m1 m2;have m4:=aG (bSJ hW) (show 0<=(1+sO)*ab (p/2-2*y)-ab (sn (2*y)*sn (p/2-2*y)) by grind);have m5:=aG (show 0<=1+sO by grind) (show 0<=10141204801825835211973625643008-W*ab (p/2-2*y) by grind);have l1:=Ao (sn (2*y)*sn (p/2-2*y));have l2:=mW (sn (2*y)*sn (p/2-2*y));have m6:=aG (bSJ hW) (show 0<=ab (sn (2*y)*sn (p/2-2*y))-sn (2*y)*sn (p/2-2*y) by grind);have m7:=aG (bSJ hW) (show 0<=ab (sn (2*y)*sn (p/2-2*y))+sn (2*y)*sn (p/2-2*y) by grind);rw[cT]at aKF m1 ⊢;have m8:=aG (bSJ hW) (show 0<=sO-(cs (p/2)-(cs (2*y)*cs (p/2-2*y)-sn (2*y)*sn (p/2-2*y))) by grind);have m9:=aG (bSJ hW) (show 0<=sO+(cs (p/2)-(cs (2*y)*cs (p/2-2*y)-sn (2*y)*sn (p/2-2*y))) by grind);generalize cs (2*y)=C2 at *;generalize sn (2*y)*sn (p/2-2*y)=SS at *;generalize ab SS=aS at *;generalize cs (p/2-2*y)=Cd at *;generalize ab (p/2-2*y)=dd at *;generalize cs (p/2)=X at *;clear bFO oB bEJ bEI bLS Xs aMU b1 b2 b3 aOL aMW;constructor <;> grind
theorem aFK{w:Nat}(hw:1000<=w)(aTO:w<=1000000)(h:aQC w=true):∃Q,Ot w Q:=by
 unfold aQC at h;have h5:=Df (n:=5) (by omega) w 122 122 (by omega);have Ng:=Df (n:=239) (by omega) w 66 66 (by omega);have bCK:=Df (n:=18) (by omega) w 92 92 (by omega);have bCH:=Df (n:=57) (by omega) w 78 78 (by omega);generalize Sx 5 w 122 122=A at *;generalize Sx 239 w 66 66=B at *;generalize Sx 18 w 92 92=C at *;generalize Sx 57 w 78 78=D at *;obtain⟨t5,s5⟩:=A;obtain⟨t239,kE⟩:=B;obtain⟨t18,aID⟩:=C;obtain⟨t57,aIC⟩:=D;dsimp only at *;obtain⟨z5,h⟩:=eF h;obtain⟨aNJ,h⟩:=eF h;obtain⟨bHE,h⟩:=eF h;obtain⟨bHD,h⟩:=eF h;rw[dY,dY]at h;obtain⟨g1,h⟩:=eF h;obtain⟨g2,h⟩:=eF h;rw[dY]at h;obtain⟨q1,h⟩:=eF h;obtain⟨q2,h⟩:=eF h;obtain⟨q3,h⟩:=eF h;obtain⟨r1,h⟩:=eF h;obtain⟨r2,aZY⟩:=eF h;have g1:=bOZ g1;have g2:=bOZ g2;have q1:=bNP q1;have q2:=bNP q2;have q3:=bNP q3;have h5:=h5 (bNP z5);have Ng:=Ng (bNP aNJ);have bCK:=bCK (bNP bHE);have bCH:=bCH (bNP bHD);have aFB:ab (((16*s5-4*kE:Nat):Rat)-((2^w:Nat):Rat)*pi)<=524288:=by
  have oO:4*kE<=16*s5:=by
   refine bRY fun hn=>?_
   rw[show 16*s5-4*kE=0 by omega]at q3;simp at q3
  have hc:((16*s5-4*kE:Nat):Rat)+4*(kE:Rat)=16*(s5:Rat):=by exact_mod_cast(show 16*s5-4*kE+4*kE=16*s5 by omega)
  have n1:((2*(122*122):Nat):Rat)=29768:=by norm_cast
  have n2:((2*(66*66):Nat):Rat)=8712:=by norm_cast
  rw[n1]at h5;rw[n2]at Ng;unfold pi;rw[cT]at *;generalize ((2^w:Nat):Rat)=W at *;grind
 have bCE:20*kE<=48*aID+32*aIC->ab (((48*aID+32*aIC-20*kE:Nat):Rat)-((2^w:Nat):Rat)*aYO)<=2097152:=by
  intro hle;have hc:((48*aID+32*aIC-20*kE:Nat):Rat)+20*(kE:Rat)=48*(aID:Rat)+32*(aIC:Rat):=by exact_mod_cast(show 48*aID+32*aIC-20*kE+20*kE=48*aID+32*aIC by omega)
  have n1:((2*(92*92):Nat):Rat)=16928:=by norm_cast
  have n3:((2*(78*78):Nat):Rat)=12168:=by norm_cast
  have n2:((2*(66*66):Nat):Rat)=8712:=by norm_cast
  rw[n1]at bCK;rw[n2]at Ng;rw[n3]at bCH;unfold aYO;rw[cT]at *;generalize ((2^w:Nat):Rat)=W at *;grind
 have hple:2^104<=16*s5-4*kE:=by
  refine bRY fun hn=>?_
  have:(16*s5-4*kE)/2^64<2^40:=bSW (by rw[<-bSD];exact hn);have h2:(16*s5-4*kE)/2^64/2^(w-104)<=(16*s5-4*kE)/2^64:=bVO _ _;omega
 have bCD:20*kE<=48*aID+32*aIC:=by omega
 have bCE:=bCE bCD;generalize hP:16*s5-4*kE=P at *;generalize 48*aID+32*aIC-20*kE=G at *;have aGA:=tP w (by omega);refine⟨P/2^64,?_,?_,?_,q3,Wr r1,Wr r2,?_⟩
 ·have:2^64*(P/2^64)<=P-2^40:=by
   have:=bYA (P-2^40) (2^64);rwa [q2]at this
  have h2:2^64*(P/2^64)+2^40<=P:=by omega
  have h3:((2^64:Nat):Rat)*((P/2^64:Nat):Rat)+((2^40:Nat):Rat)<=(P:Rat):=by exact_mod_cast h2
  rw[aGA,bUB,cT]at aFB;have n1:((2^64:Nat):Rat)=18446744073709551616:=by norm_cast
  have n2:((2^40:Nat):Rat)=1099511627776:=by norm_cast
  rw[n1]at aFB h3;rw[n2]at h3;refine cN (q:=18446744073709551616) (by grind) ?_;generalize ((2^(w-64):Nat):Rat)=W at *;grind
 ·have:P+2^40<2^64*(P/2^64+1):=by
   have:=bYJ (P+2^40) (show 0<2^64 by omega);rwa [q1]at this
  have h3:(P:Rat)+((2^40:Nat):Rat)<((2^64:Nat):Rat)*(((P/2^64:Nat):Rat)+1):=by exact_mod_cast this
  rw[aGA,bUB,cT]at aFB;have n1:((2^64:Nat):Rat)=18446744073709551616:=by norm_cast
  have n2:((2^40:Nat):Rat)=1099511627776:=by norm_cast
  rw[n1]at aFB h3;rw[n2]at h3;refine oR (q:=18446744073709551616) (by grind) ?_;generalize ((2^(w-64):Nat):Rat)=W at *;grind
 ·have c1:(P:Rat)<=(G:Rat)+((2^24:Nat):Rat):=by exact_mod_cast g1
  have c2:(G:Rat)<=(P:Rat)+((2^24:Nat):Rat):=by exact_mod_cast g2
  have n1:((2^24:Nat):Rat)=16777216:=by norm_cast
  rw[n1]at c1 c2;rw[cT]at *;generalize ((2^w:Nat):Rat)=W at *;grind
 ·refine aPX hw aTO ?_ aFB aZY;have h1:P/2^64/2^(w-104)<3454217652358:=by omega
  have h2:P/2^64<2^(w-104)*3454217652358:=(bYK (cI)).1 h1 |> fun h=>by rwa [bRZ]at h
  have h3:P<2^64*(2^(w-104)*3454217652358):=by
   have:=(bYK (show 0<2^64 by omega)).1 h2;rwa [bRZ]at this
  have e:2^(w-40)=2^64*2^(w-104):=by rw[<-bSD];congr 1;omega
  rw[e,bRZ,bSF];exact h3
theorem bMS:aQC 136064=true:=by kernel_rfl
theorem Wx:∃w,w=136064/\∃Q,Ot w Q:=⟨136064,rfl,aFK (by omega) (by omega) bMS⟩
def pw:Nat:=Classical.choose Wx
theorem Kn:pw=136064:=(Classical.choose_spec Wx).1
def pq:Nat:=Classical.choose (Classical.choose_spec Wx).2
theorem Cl:Ot pw pq:=Classical.choose_spec (Classical.choose_spec Wx).2
theorem iO:314159/100000<pi/\pi<314160/100000:=by
 have h:=Cl;have h1:=h.lo;have h2:=h.hi;have h3:=h.top;have e:2^(pw-64)=2^40*2^(pw-104):=by have:=Kn;rw[<-bSD];congr 1;omega
 have hp:0<2^(pw-104):=cI;have l1:=bYH pq (2^(pw-104));have l2:=bYI hp (a:=pq);rw[h3]at l1 l2;have bIJ:(3454217652357:Rat)*((2^(pw-104):Nat):Rat)<=(pq:Rat):=by exact_mod_cast l1
 have bII:(pq:Rat)+1<=(3454217652357:Rat)*((2^(pw-104):Nat):Rat)+((2^(pw-104):Nat):Rat):=by exact_mod_cast l2
 rw[e,bUB]at h1 h2;have n40:((2^40:Nat):Rat)=1099511627776:=by norm_cast
 rw[n40]at h1 h2;have hq:(0:Rat)<((2^(pw-104):Nat):Rat):=by exact_mod_cast hp
 generalize ((2^(pw-104):Nat):Rat)=W at *;generalize (pq:Rat)=Q at *;clear h h3 e hp l1 l2 n40;constructor
 ·refine oR hq ?_;grind
 ·refine oR hq ?_;grind
def Jg:Rat:=hf (pw-264)
theorem Nr:0<Jg:=tI _
theorem Yc:1048576*sO<=Jg:=by
 have h1:=Hh (pw-264) 20;have h4:hf 20=1/1048576:=by simp only[hf];grind
 have h2:=yD (n:=pw-264+20) (by rw[Kn];omega);rw[h1,h4]at h2;unfold Jg;grind
theorem La{n:Nat}(h:n<=135800):Jg<=hf n:=aER (by rw[Kn];exact h)
theorem Hp:Jg<=1/1048576:=by
 have:=La (n:=20) (by omega);simp only[hf]at this;grind
theorem Rk:16384*ab (cs (pi/2))<=Jg:=by
 have h:=Cl.cos;have e:2^pw=2^(pw-264)*(2^250*2^14):=by
  have:=Kn;have e0:pw=pw-264+250+14:=by omega
  conv=>lhs;rw[e0,bSD,bSD]
  exact bSF _ _ _
 rw[fG,bG (show(0:Rat)<=((2^pw:Nat):Rat) by exact_mod_cast bTF _),e,bUB,bUB]at h;have bEF:((2^14:Nat):Rat)=16384:=by norm_cast
 have h2:=Nc (pw-264);have hq:(0:Rat)<((2^250:Nat):Rat):=by exact_mod_cast(cI)
 rw[bEF]at h;unfold Jg;have hp:=tI (pw-264);generalize hf (pw-264)=H at *;generalize ((2^(pw-264):Nat):Rat)=W at *;generalize ((2^250:Nat):Rat)=B at *;generalize ab (cs (pi/2))=X at *;clear bEF e;have h3:B*(16384*(W*X))<=B*1:=by grind
 have h4:=cN hq h3;have:=aG (bSJ hp) (show 0<=1-16384*(W*X) by grind);have h5:H*W*X=X:=by rw[h2];grind
 grind
theorem aCS:1024*ab (sn (pi/2)-1)<=Jg:=by
 obtain⟨p1,p2⟩:=iO;have a2:ab (pi/2)<=4:=by rw[cT];grind
 have h1:=aDH a2;have hc:=Rk;have he:=Yc;have het:=Hp;have hd:=Kk (x:=pi/4) (by rw[cT];grind);rw[show 2*(pi/4)=pi/2 by grind]at hd;have s1:=(wL (x:=pi/4) (by grind) (by grind)).1;have c1:=(Ht (x:=pi/4) (by grind) (by grind)).1;have bHK:=cC (a:=0) (b:=pi/4) (c:=pi/4) (d:=pi/4) (by grind) (by grind) (by grind) (by grind);have q1:=cC (a:=pi/4) (b:=4/5) (c:=pi/4) (d:=4/5) (by grind) (by grind) (by grind) (by grind);have q2:=cC (a:=pi/4*(pi/4)) (b:=16/25) (c:=pi/4) (d:=4/5) (by grind) (by grind) (by grind) (by grind);have s2:1/2<=sn (pi/4):=by grind
 have c2:1/2<=cs (pi/4):=by grind
 have m:=cC (by grind) s2 (by grind) c2;have oO:1/4<=sn (pi/2):=by rw[cT]at hd;have:=Ho;grind
 have bGK:=cC (aN (cs (pi/2))) (show ab (cs (pi/2))<=Jg/16384 by grind) (aN (cs (pi/2))) (show ab (cs (pi/2))<=1/16384 by grind);rw[<-fG]at bGK;have l1:=Ao (cs (pi/2)*cs (pi/2));have bEZ:ab (sn (pi/2)*sn (pi/2)-1)<=Jg/16384:=by
  have:=aYH (cs (pi/2));rw[cT]at h1 ⊢;grind
 have e:sn (pi/2)*sn (pi/2)-1=(sn (pi/2)-1)*(sn (pi/2)+1):=by grind
 rw[e,fG,bG (show 0<=sn (pi/2)+1 by grind)]at bEZ;have m2:=aG (aN (sn (pi/2)-1)) (show 0<=sn (pi/2)+1-1 by grind);have m3:=Nr;clear e l1 bGK hd s1 c1 bHK q1 q2 m h1 hc a2;generalize ab (sn (pi/2)-1)=d at *;grind
theorem aNM{x:Rat}(hx:ab x<=4):ab (cs (x+pi/2)+sn x)<=Jg:=by
 obtain⟨p1,p2⟩:=iO;have h:=Cz hx (show ab (pi/2)<=4 by rw[cT];grind);have hc:=Rk;have hs:=aCS;have he:=Yc;have het:=Ho;have aMR:=sZ;have m1:=cC (aN _) (aGK hx) (aN _) (show ab (cs (pi/2))<=Jg/16384 by grind);have m2:=cC (aN _) (aCQ hx) (aN _) (show ab (sn (pi/2)-1)<=Jg/1024 by grind);have m3:=aG (show 0<=Jg by grind) (show 0<=1/1048576-sO by grind);rw[<-fG]at m1 m2;rw[cT]at *;grind
def rs(k:Int)(s c:Rat):Rat:=if k%4=0 then s else if k%4=1 then c else if k%4=2 then -s else -c
def rc(k:Int)(s c:Rat):Rat:=if k%4=0 then c else if k%4=1 then -s else if k%4=2 then -c else s
def Sf(x:Rat)(k:Int):Rat:=rs k (sn (x-(k:Rat)*(pi/2))) (cs (x-(k:Rat)*(pi/2)))
def Cf(x:Rat)(k:Int):Rat:=rc k (sn (x-(k:Rat)*(pi/2))) (cs (x-(k:Rat)*(pi/2)))
end R
namespace R
def pF(q:Nat):Nat:=pq/2^(pw-64-q)
theorem aAF{x:Rat}{Q m:Nat}(h1:(Q:Rat)<=((2^m:Nat):Rat)*x)(h2:((2^m:Nat):Rat)*x<(Q:Rat)+1):((Q/2^m:Nat):Rat)<=x/\x<((Q/2^m:Nat):Rat)+1:=by
 have hp:0<2^m:=cI;obtain⟨d1,d2⟩:=uV Q hp;have hq:(0:Rat)<((2^m:Nat):Rat):=by exact_mod_cast hp
 have hs:(Q:Rat)+1<=((2^m:Nat):Rat)*((Q/2^m:Nat):Rat)+((2^m:Nat):Rat):=by
  have:=bYJ Q hp;exact_mod_cast(show Q+1<=2^m*(Q/2^m)+2^m by rw[bSB,bNL]at this;omega)
 constructor
 ·exact cN hq (by grind)
 ·exact oR hq (by grind)
theorem Gq{q:Nat}(hq:q<=136000):(pF q:Rat)<=((2^q:Nat):Rat)*pi/\((2^q:Nat):Rat)*pi<(pF q:Rat)+1:=by
 have h:=Cl;have h1:=h.lo;have h2:=h.hi;have hw:=Kn;have e:2^(pw-64)=2^(pw-64-q)*2^q:=by rw[<-bSD];congr 1;omega
 rw[e,bUB,bYL]at h1 h2;exact aAF h1 h2
theorem aOA{q:Nat}(hq:q+24<=136000):16777216*(pF q:Rat)+1<=((2^(q+24):Nat):Rat)*pi/\((2^(q+24):Nat):Rat)*pi<16777216*(pF q:Rat)+16777215:=by
 obtain⟨h1,h2⟩:=Gq hq;have hw:=Kn;have e:pF q=pF (q+24)/2^24:=by
  unfold pF;rw[bST,<-bSD];congr 2;omega
 have bAN:pF (q+24)%2^24≠2^24-1:=Ks Cl.aYR _;have hx:pq<2^(pw-62):=by
  have h3:=Cl.top;have hp:0<2^(pw-104):=cI;have l2:=bYI hp (a:=pq);rw[h3]at l2;have e:2^(pw-62)=4398046511104*2^(pw-104):=by
   rw[show 4398046511104=2^42 from rfl,<-bSD];congr 1;omega
  omega
 have aRG:pF (q+24)%2^24≠0:=aAP hx (by omega) (Ks Cl.aJN _);have hd:=bSI (pF (q+24)) (2^24);rw[<-e]at hd;have l1:16777216*pF q+1<=pF (q+24):=by omega
 have aUM:=bPJ (pF (q+24)) (show 0<2^24 by omega);have l2:pF (q+24)+1<=16777216*pF q+16777215:=by omega
 have bIJ:(16777216:Rat)*(pF q:Rat)+1<=(pF (q+24):Rat):=by exact_mod_cast l1
 have bII:(pF (q+24):Rat)+1<=(16777216:Rat)*(pF q:Rat)+16777215:=by exact_mod_cast l2
 grind
theorem aSS{q g X off:Nat}(hq:q+24<=136000)(hg:24<=g)(bAI:2*off<=2^(g-24))(hX:ab ((X:Rat)-((2^(q+g):Nat):Rat)*pi)<=(off:Rat)):off<=X/\(X-off)/2^g=pF q/\(X+off)/2^g=pF q:=by
 obtain⟨h1,h2⟩:=aOA hq;have e:2^(q+g)=2^(g-24)*2^(q+24):=by rw[<-bSD];congr 1;omega
 have eg:2^g=2^(g-24)*16777216:=by rw[show 16777216=2^24 from rfl,<-bSD];congr 1;omega
 rw[e,bUB,bYL,cT]at hX;have hG:(0:Rat)<=((2^(g-24):Nat):Rat):=by exact_mod_cast bTF _
 have ho:(2:Rat)*(off:Rat)<=((2^(g-24):Nat):Rat):=by exact_mod_cast bAI
 have m1:=aG hG (show 0<=((2^(q+24):Nat):Rat)*pi-(16777216*(pF q:Rat)+1) by grind);have bLX:(0:Rat)<((2^(g-24):Nat):Rat):=by exact_mod_cast cI
 have m2:=bSV bLX (show 0<16777216*(pF q:Rat)+16777215-((2^(q+24):Nat):Rat)*pi by grind);have r1:2^(g-24)*16777216*pF q+off<=X:=by
  have:((2^(g-24):Nat):Rat)*16777216*(pF q:Rat)+(off:Rat)<=(X:Rat):=by grind
  exact_mod_cast this
 have r2:X+off<2^(g-24)*16777216*(pF q+1):=by
  have:(X:Rat)+(off:Rat)<((2^(g-24):Nat):Rat)*16777216*((pF q:Rat)+1):=by grind
  exact_mod_cast this
 rw[eg];generalize 2^(g-24)*16777216=B at *;refine⟨by omega,?_,?_⟩
 ·refine bXV ?_ ?_
  ·rw[bRZ];omega
  ·rw[bRZ];omega
 ·refine bXV ?_ ?_
  ·rw[bRZ];omega
  ·rw[bRZ];omega
theorem Wh{u W:Nat}(h:2*u<=W)(hW:0<W):∀k,sq u W k*2^k<=W
 |0=>by simp[sq]
 |k+1=>by
  have ih:=Wh h hW k;have h1:sq u W (k+1)<=sq u W k/2:=by
   rw[sq];refine bNX (bVO _ _) ?_;rw[bYX (by omega)];have h2:=bYH (sq u W k*u) W;have h3:sq u W k*u*2<=sq u W k*W:=by
    rw[bSF];exact bPP _ (by omega)
   generalize sq u W k*u/W=z at *;have h4:z*2*W<=sq u W k*W:=by
    rw[bYB];omega
   exact Nat.le_of_mul_le_mul_right h4 hW
  have h2:sq u W (k+1)*2<=sq u W k:=by omega
  rw[bSA,bRZ (2^k) 2,<-bSF];exact bNX (bOO _ h2) ih
theorem Wg{u w:Nat}(h:2*u<=2^w):sq u (2^w) (w+1)=0:=by
 have h1:=Wh h (cI) (w+1);refine Nat.eq_zero_of_not_pos fun hp=>?_
 have:1*2^(w+1)<=sq u (2^w) (w+1)*2^(w+1):=bOO _ hp;rw[bSA]at this h1;have:=bQA (n:=w) (show 0<2 by omega);omega
theorem Pp{u W m:Nat}(h:sq u W m=0):∀k,sq u W (m+k)=0
 |0=>h
 |k+1=>by rw[<-bQR,sq,Pp h k];simp
theorem Hn(h:Nat):4^h=2^(2*h):=by rw[bTT]
theorem aLB{T:Rat}(hT0:0<=T)(bLR:T<=1){w1 h u s0 c0:Nat}(aEE:(u:Rat)<=((2^w1:Nat):Rat)*T)(aXD:((2^w1:Nat):Rat)*T<(u:Rat)+1)(hh:1<=h)(hw:w1+h<=1000000)(bEP:4*h+50<=w1+h)
  (Jd:(s0:Rat)=sum (fun k=>ss k*(sq u (2^(w1+h)) k:Rat)) (w1+h+1)) (aXS:(c0:Rat)=sum (fun k=>cc k*(sq u (2^(w1+h)) k:Rat)) (w1+h+1)) :
  ab (((Cy (2^(w1+h)) h s0 c0).1:Rat)-((2^(w1+h):Nat):Rat)*sn T)<=((4^h*(2*(w1+h)+10):Nat):Rat)/\ab (((Cy (2^(w1+h)) h s0 c0).2:Rat)-((2^(w1+h):Nat):Rat)*cs T)<=((4^h*(2*(w1+h)+10):Nat):Rat):=by
 have aIJ:0<2^(w1+h):=cI;have aVP:(0:Rat)<((2^w1:Nat):Rat):=by exact_mod_cast cI
 have eW:((2^(w1+h):Nat):Rat)=((2^w1:Nat):Rat)*((2^h:Nat):Rat):=by rw[bSD,bUB]
 have g2:=Gn 2 h (by omega);have g2':(2:Rat)<=((2^h:Nat):Rat):=by
  exact_mod_cast(show 2<=2^h from bQB (n:=2) (by omega) hh)
 have aZR:u<=2^w1:=by
  have:=aG (bSJ aVP) (show 0<=1-T by grind);have:(u:Rat)<=((2^w1:Nat):Rat):=by grind
  exact_mod_cast this
 have aZU:2*u<=2^(w1+h):=by
  have e:2^(w1+h)=2^w1*2^h:=bSD _ _ _;have:2^w1*2<=2^w1*2^h:=bPP _ (bQB (n:=2) (by omega) hh);omega
 obtain⟨x,hx,Pg⟩:=Xf (u:=u) aIJ;have bIQ:((2^h:Nat):Rat)*x*((2^w1:Nat):Rat)=(u:Rat):=by rw[eW]at hx;grind
 have aTM:((2^h:Nat):Rat)*x<=1:=by
  have:(u:Rat)<=((2^w1:Nat):Rat):=by exact_mod_cast aZR
  refine cN aVP ?_;grind
 have aBG:x<=1/2:=by
  have:=aG (show 0<=((2^h:Nat):Rat)-2 by grind) Pg;grind
 have hz:=Wg aZU;have ec:=aCH aIJ hx Pg aBG (n:=w1+h+1) (by omega) (by omega) hz;have es:=aCG aIJ hx Pg aBG (n:=w1+h+1) (by omega) (by omega) hz;rw[<-aXS]at ec;rw[<-Jd]at es;have hn:((w1+h+1:Nat):Rat)=((w1+h:Nat):Rat)+1:=by norm_cast
 have aBI:((w1+h:Nat):Rat)<=1000000:=by exact_mod_cast hw
 have Eo:(0:Rat)<=((w1+h:Nat):Rat):=by exact_mod_cast bTF _
 rw[hn]at ec es;have aMR:=Nq (w:=w1+h) (by omega);have e4:((4^h*(2*(w1+h)+10):Nat):Rat)=((4^h:Nat):Rat)*(2*((w1+h:Nat):Rat)+10):=by
  rw[bUB];congr 1;push_cast;grind
 have aFA:((4^h:Nat):Rat)*((4^h:Nat):Rat)*1125899906842624<=((2^(w1+h):Nat):Rat):=by
  have:4^h*4^h*2^50<=2^(w1+h):=by
   rw[Hn,<-bSD,<-bSD];exact fY
  have bID:(2^50:Nat)=1125899906842624:=by rfl
  rw[bID]at this;exact_mod_cast this
 have g4:=Gn 4 h (by omega);have g42:((2^h:Nat):Rat)<=((4^h:Nat):Rat):=by exact_mod_cast Nat.pow_le_pow_left (show 2<=4 by omega) h
 have hq4:=aG (show 0<=((4^h:Nat):Rat) by grind) (show 0<=((4^h:Nat):Rat)-1 by grind);have hE:((4^h:Nat):Rat)*(2*((w1+h:Nat):Rat)+8)<=((4^h:Nat):Rat)*2097152:=by
  have:=aG (show 0<=((4^h:Nat):Rat) by grind) (show 0<=2097152-(2*((w1+h:Nat):Rat)+8) by grind);grind
 have bFZ:0<=((4^h:Nat):Rat)*(2*((w1+h:Nat):Rat)+8):=aG (by grind) (by grind);have vR:100*(((4^h:Nat):Rat)*(2*((w1+h:Nat):Rat)+8)*(((4^h:Nat):Rat)*(2*((w1+h:Nat):Rat)+8)))<=((2^(w1+h):Nat):Rat):=by
  refine bSH ?_ aFA;have:=cC bFZ hE bFZ hE;grind
 have aKE:((4^h:Nat):Rat)*(2*((w1+h:Nat):Rat)+8)<=((2^(w1+h):Nat):Rat):=by
  refine bSH (bSH hE ?_) aFA;grind
 have hd:=Yd (W:=2^(w1+h)) aIJ vR (Pr aKE aMR) h x (2*((w1+h:Nat):Rat)+6) s0 c0 Pg aTM (bSH es (by grind)) (bSH ec (by grind)) (by grind);have hT:ab T<=1:=by rw[bG hT0];exact bLR
 have hX:ab (((2^h:Nat):Rat)*x)<=1:=by rw[bG (aG (by grind) Pg)];exact aTM
 have l1:=Wj hX hT;have l2:=aGI hX hT;have hd0:0<=T-((2^h:Nat):Rat)*x:=by
  have:((2^w1:Nat):Rat)*(((2^h:Nat):Rat)*x)<=((2^w1:Nat):Rat)*T:=by grind
  have:=cN aVP this;grind
 have aXR:((2^(w1+h):Nat):Rat)*(T-((2^h:Nat):Rat)*x)<=((2^h:Nat):Rat):=by
  rw[eW];have:((2^w1:Nat):Rat)*(T-((2^h:Nat):Rat)*x)<=1:=by grind
  have:=aG (show 0<=((2^h:Nat):Rat) by grind) (show 0<=1-((2^w1:Nat):Rat)*(T-((2^h:Nat):Rat)*x) by grind);grind
 rw[bG hd0]at l1 l2;have hW:(0:Rat)<=((2^(w1+h):Nat):Rat):=by exact_mod_cast bTF _
 obtain⟨r1,r2⟩:=hd;rw[e4];clear aEE aXD vR aKE aFA bIQ hx eW ec es Jd aXS hz;generalize ((2^(w1+h):Nat):Rat)=W at *;generalize ((w1+h:Nat):Rat)=wr at *;generalize ((4^h:Nat):Rat)=F at *;generalize ((2^h:Nat):Rat)*x=y at *;generalize ((2^h:Nat):Rat)=H at *;rw[cT]at l1 l2 r1 r2;have m1:=aG hW (show 0<=2*(T-y)-(sn T-sn y) by grind);have m2:=aG hW (show 0<=2*(T-y)+(sn T-sn y) by grind);have m3:=aG hW (show 0<=(T-y+2*sO)-(cs T-cs y) by grind);have m4:=aG hW (show 0<=(T-y+2*sO)+(cs T-cs y) by grind);rw[cT,cT];refine⟨⟨?_,?_⟩,?_,?_⟩ <;> grind
end R
namespace R
def pz(e:Int):Rat:=if 0<=e then((2^e.toNat:Nat):Rat)else hf (-e).toNat
theorem oH(k:Nat):pz (k:Int)=((2^k:Nat):Rat):=by unfold pz;rw[aT,bQX]
theorem wR(k:Nat):pz (-(k:Int))=hf k:=by
 unfold pz
 by_cases h:k=0
 ·subst h;simp[hf]
 ·rw[aX,Int.neg_neg,bQX]
theorem fS:pz 0=1:=by rw[show(0:Int)=((0:Nat):Int)from rfl,oH];norm_cast
theorem dJ(e:Int):0<pz e:=by
 unfold pz;split
 ·exact_mod_cast cI
 ·exact tI _
theorem jJ(e:Int):pz (e+1)=2*pz e:=by
 by_cases h:0<=e
 ·obtain⟨k,rfl⟩:=bSE h;rw[show(k:Int)+1=((k+1:Nat):Int) by omega,oH,oH,Fj]
 ·obtain⟨k,hk⟩:=bSE (show 0<=-e by omega);have e1:e=-(k:Int):=by omega
  subst e1;obtain⟨j,rfl⟩:∃j,k=j+1:=⟨k-1,by omega⟩;rw[show -((j+1:Nat):Int)+1=-(j:Int) by omega,wR,wR,hf];grind
theorem dW(a:Int):∀k:Nat,pz (a+k)=pz a*((2^k:Nat):Rat)
 |0=>by rw[show a+((0:Nat):Int)=a by omega,bXC];grind
 |k+1=>by
  rw[show a+((k+1:Nat):Int)=(a+k)+1 by omega,jJ,dW a k,Fj];grind
theorem mH(a b:Int):pz (a+b)=pz a*pz b:=by
 by_cases h:0<=b
 ·obtain⟨k,rfl⟩:=bSE h;rw[dW,oH]
 ·obtain⟨k,hk⟩:=bSE (show 0<=-b by omega);have h1:=dW (a+b) k;rw[show a+b+(k:Int)=a by omega]at h1;have e1:b=-(k:Int):=by omega
  have h2:=Nc k;rw[show pz b=hf k by rw[e1,wR],h1];rw[bYL,Rat.mul_comm ((2^k:Nat):Rat),h2];grind
theorem dR{a b:Int}(h:a<=b):pz a<=pz b:=by
 obtain⟨k,hk⟩:=bSE (show 0<=b-a by omega);rw[show b=a+(k:Int) by omega,dW];have h1:=dJ a;have:=aG (bSJ h1) (show 0<=((2^k:Nat):Rat)-1 by have:=Gn 2 k (by omega);grind);grind
theorem aSP(k:Nat):hf k=pz (-(k:Int)):=(wR k).symm
theorem Tq(e:Int):pz e*pz (-e)=1:=by rw[<-mH,Int.add_right_neg,fS]
def qz(p:Int×Int):Rat:=(p.1:Rat)*pz p.2
theorem nH{p:Int×Int}(h:p.1=0):qz p=0:=by
 unfold qz;rw[h];have:((0:Int):Rat)=0:=by norm_cast
 rw[this];grind
theorem aDD{p q:Int×Int}{g:Int}(hp:g<=p.2)(hq:g<=q.2):qz p<=qz q↔p.1*((2^(p.2-g).toNat:Nat):Int)<=q.1*((2^(q.2-g).toNat:Nat):Int):=by
 unfold qz;have e1:pz p.2=pz g*((2^(p.2-g).toNat:Nat):Rat):=by
  rw[<-dW];congr 1;omega
 have e2:pz q.2=pz g*((2^(q.2-g).toNat:Nat):Rat):=by
  rw[<-dW];congr 1;omega
 have hg:=dJ g;have c1:((p.1*((2^(p.2-g).toNat:Nat):Int):Int):Rat)=(p.1:Rat)*((2^(p.2-g).toNat:Nat):Rat):=by push_cast;rfl
 have c2:((q.1*((2^(q.2-g).toNat:Nat):Int):Int):Rat)=(q.1:Rat)*((2^(q.2-g).toNat:Nat):Rat):=by push_cast;rfl
 rw[<-Rat.intCast_le_intCast,c1,c2,e1,e2];generalize ((2^(p.2-g).toNat:Nat):Rat)=x;generalize ((2^(q.2-g).toNat:Nat):Rat)=y;constructor
 ·intro h;exact cN hg (by grind)
 ·intro h;have:=aG (bSJ hg) (show 0<=(q.1:Rat)*y-(p.1:Rat)*x by grind);grind
end R
namespace M
open Go AI W
def cO(p q:Int×Int):Int:=lG (bM.lK p q) (bM.lI p q)
def bB(p:Int×Int):Int:=p.2+(bl p.1.natAbs:Nat)-1
abbrev rQ:=Bool×List Int×Int×Bool×List Int×Int
def gM(s:rQ):dU:=(s.1,s.2.1,s.2.2.1)
def gN(s:rQ):dU:=(s.2.2.2.1,s.2.2.2.2.1,s.2.2.2.2.2)
def eB(s:rQ):Prop:=aJ (gM s)/\aJ (gN s)/\cO (dv (gM s)) (dv (gN s))<=0
def yM(a b:Int×Int):D:=.agg [.sc (.bool (isNeg a.1)),.ints .u64 (M6.dg a.1.natAbs),.sc (.int .i64 a.2),.sc (.bool (isNeg b.1)),.ints .u64 (M6.dg b.1.natAbs),.sc (.int .i64 b.2)]
def mQ(a b:Int×Int):rQ:=(isNeg a.1,M6.dg a.1.natAbs,a.2,isNeg b.1,M6.dg b.1.natAbs,b.2)
theorem qJ(a b:Int×Int):dv (gM (mQ a b))=a:=dK a
theorem qK(a b:Int×Int):dv (gN (mQ a b))=b:=dK b
theorem qQ{a b:Int×Int}(ha:jG a)(hb:jG b)(h:cO a b<=0):eB (mQ a b):=by
 refine⟨cQ ha,cQ hb,?_⟩;rw[qJ,qK];exact h
theorem eB.yM{s:rQ}(h:eB s):M.yM (dv (gM s)) (dv (gN s))=.agg [.sc (.bool s.1),.ints .u64 s.2.1,.sc (.int .i64 s.2.2.1),.sc (.bool s.2.2.2.1),.ints .u64 s.2.2.2.2.1,.sc (.int .i64 s.2.2.2.2.2)]:=by
 have h1:=h.1.Dr.cells;have h2:=h.2.1.Dr.cells;unfold M.yM;have e1:(dv (gM s)).1=wv ((gM s).1,(gM s).2.1):=rfl;have e2:(dv (gN s)).1=wv ((gN s).1,(gN s).2.1):=rfl;rw[e1,e2,h1.1,h1.2,h2.1,h2.2];rfl
theorem aKW{a b:Int}:lG a b<=0↔a<=b:=by unfold lG;split <;> (try split) <;> omega
theorem aKX{a b:Int}:lG a b=0↔a=b:=by unfold lG;split <;> (try split) <;> omega
theorem Fs(p q:Int×Int):bM.fK p q<=p.2/\bM.fK p q<=q.2:=Mp
theorem jT{p q:Int×Int}:cO p q<=0↔R.qz p<=R.qz q:=by
 obtain⟨h1,h2⟩:=Fs p q;unfold cO;rw[aKW,R.aDD h1 h2];rfl
theorem tA{p q:Int×Int}:0<cO p q↔R.qz q<R.qz p:=by
 have:=jT (p:=p) (q:=q);constructor
 ·intro h;refine Rat.not_le.1 fun hn=>?_;have:=this.2 hn;omega
 ·intro h;refine Int.not_le.1 fun hn=>?_;exact Rat.not_lt.2 (this.1 hn) h
theorem Li(p:Int×Int):cO p p<=0:=jT.2 bTP
theorem mT(z e:Int):R.qz (aK z e)=(z:Rat)*R.pz e:=by
 by_cases hz:z=0
 ·subst hz;rw[dO,R.nH rfl];have:((0:Int):Rat)=0:=by norm_cast
  rw[this];grind
 ·obtain⟨h1,h2⟩:=jK (e:=e) hz;unfold R.qz;rw[h2]
  conv=>rhs;rw[h1]
  rw[Gs,R.dW,bXW,bXT];grind
theorem mG(p:Int×Int):R.qz (-p.1,p.2)=- R.qz p:=by
 unfold R.qz;rw[bYC];grind
theorem aDE(p q:Int×Int):R.qz (bM.oT p q)=R.qz p+R.qz q:=by
 unfold bM.oT;split
 ·rename_i h;rw[R.nH h];grind
 ·split
  ·rename_i h;rw[R.nH h];grind
  ·obtain⟨h1,h2⟩:=Fs p q;rw[mT];unfold bM.lK bM.lI R.qz;have e1:R.pz p.2=R.pz (bM.fK p q)*((2^(p.2-bM.fK p q).toNat:Nat):Rat):=by rw[<-R.dW];congr 1;omega
   have e2:R.pz q.2=R.pz (bM.fK p q)*((2^(q.2-bM.fK p q).toNat:Nat):Rat):=by rw[<-R.dW];congr 1;omega
   rw[e1,e2,bYY,bXW,bXW,bXT,bXT];grind
end M
open Go.Value(int bool slice)
open AI.S(sc ints)
namespace W
open Go AI M
namespace aAY
def E:=mE [] 24 [] [(3,[0,1])] [3]
def aE:=bd f210
theorem aU:Nk E aE:=nk
def J3 a b:=lD E f210 aE 3 [gD a,bR b]
theorem start a b:aF E f210 aE [D.s (ints u64 a),D.s (sc (int i64 b))]=letI A:=some [D.s (sc (bool false))];aB (decide (b<0)) A (aB (decide ((a.length:Int)<=i64.wrap (b.tdiv 64))) A (aAY.J3 a b)):=eJ aU
theorem gL a b:J3 a b=letI A:=b.tdiv 64;if 0<=i64.wrap A/\i64.wrap A<(a.length:Int)then if b.tmod 64<(0:Int)then none else some [D.s (sc (bool (eY BinOp.and u64 (a.getD (i64.wrap A).toNat 0/(↑((2:Nat)^min (b.tmod 64).toNat 64):Int)) 1==(1:Int))))]else none:=cJ aU
def sp(a:List Int)(i:Int):Prop×List D:=(M6.cB a/\a.length<=1099511627776/\-9223372036854775808<=i/\i<9223372036854775808,[.s (.sc (.bool (decide (0<=i)&&decide (M6.val a/2^i.toNat%2=1))))])
theorem aLG{x:Int}(h:0<=x)(h':x<18446744073709551616):eY .and .u64 x 1=x%2:=by
 rw[Rz h h' (by omega) (by omega)];have:x.toNat &&& 1=x.toNat%2:=Nat.and_one_is_mod _;show((x.toNat &&& 1:Nat):Int)=_;rw[this];omega
theorem spec:fO E f210 aE (pI .u64) (pN .i64) sp:=by
 rintro a i ⟨ha,hl,h1,h2⟩;refine(start a i).trans ?_;show _=some [D.s (.sc (.bool (decide (0<=i)&&decide (M6.val a/2^i.toNat%2=1))))]
 by_cases hn:i<0
 ·rw[aO hn,decide_eq_false (show ¬0<=i by omega),bSL]
 ·have t1:i.tdiv 64=i/64:=bUQ (by omega);have t2:i.tmod 64=i%64:=bUR (by omega);have e1:(i/64).toNat=i.toNat/64:=by omega
  have e2:(i%64).toNat=i.toNat%64:=by omega
  have ps:2^i.toNat=18446744073709551616^(i.toNat/64)*2^(i.toNat%64):=by
   rw[show(18446744073709551616:Nat)=2^64 from rfl,<-bTT,<-bSD];congr 1;omega
  rw[aI hn,decide_eq_true (show 0<=i by omega),bQC,t1,wrap_i64 (n:=i/64),ps,<-bST]
  by_cases hz:(a.length:Int)<=i/64
  ·have hv:M6.val a/18446744073709551616^(i.toNat/64)=0:=by
    apply bSZ;exact bOB (M6.cK ha) (fY)
   rw[aO hz,hv,Nat.zero_div];rfl
  ·have g:=ha.get (i.toNat/64);have hv:=M6.gE a (n:=i.toNat/64) (by omega);have hq:M6.val a/18446744073709551616^(i.toNat/64)=M6.val (a.drop (i.toNat/64)):=by
    rw[hv,bTR _ _ (cI),bSZ (M6.gQ ha _),bND]
   rw[aI hz,gL,t1,t2,wrap_i64 (n:=i/64),aT,aX,e1,e2,hq,M6.gF];have em:min (i.toNat%64) 64=i.toNat%64:=by omega
   have iN:i.toNat%64<64:=bPJ _ (by omega);rw[em];generalize i.toNat%64=k at *;generalize a.getD (i.toNat/64) 0=x at *;generalize M6.val (a.drop (i.toNat/64+1))=r at *;have hp:0<2^k:=cI;have e3:(x.toNat+18446744073709551616*r)/2^k%2=x.toNat/2^k%2:=by
    have:18446744073709551616*r=2^k*(2*(2^(63-k)*r)):=by
     rw[show(18446744073709551616:Nat)=2^64 from rfl,show 64=k+(1+(63-k))from by omega,bSD,bSD,bSF,bSF]
    rw[this,bTR _ _ hp];omega
   rw[e3];have ex:x/((2^k:Nat):Int)=((x.toNat/2^k:Nat):Int):=by
    obtain⟨n,rfl⟩:=bSE g.1;rw[<-bSS];rfl
   have hle:x.toNat/2^k<=x.toNat:=bVO _ _;rw[ex];clear ex e3 hq hv ps;generalize x.toNat/2^k=q at *;rw[aLG (by omega) (by omega)];congr 4
   by_cases h:q%2=1
   ·rw[decide_eq_true h];have:((q:Int)%2)=1:=by omega
    rw[this];rfl
   ·rw[decide_eq_false h];have:((q:Int)%2)=0:=by omega
    rw[this];rfl
def aH:dC:=orc2 (pI .u64) (pN .i64) sp
theorem ok:OK 210 aH:=(eI E aE aD func210).lP rfl spec
end aAY
namespace oF
def E:=mE [] 34 [] [] []
def aE:=bd f236
theorem aU:Nk E aE:=nk
theorem start a b c d e:aF E f236 aE [D.s (sc (int i64 a)),D.s (sc (bool b)),D.s (sc (bool c)),D.s (sc (bool d)),D.s (sc (int i64 e))]=letI B:=some [D.s (sc (bool d))];letI A:=some [D.s (sc (bool false))];aB (a==0) (aB b B A) (aB (a==1) (aB (!b) B A) (aB (decide (0<e)) (some [D.s (sc (bool true))]) (aB (e==0) (some [D.s (sc (bool c))]) A))):=eJ aU
def oA(w:Int)(neg bED rest:Bool)(half:Int):Bool:=bif w==0 then neg&&rest else bif w==1 then !neg&&rest else(decide (0<half)||(half==0&&bED))
def sp(a:Int)(b c d:Bool)(e:Int):Prop×List D:=(True,[.s (.sc (.bool (oA a b c d e)))])
theorem spec(a:Int)(b c d:Bool)(e:Int)(h:(sp a b c d e).1):aF E f236 aE [(pN .i64).put a,pB.put b,pB.put c,pB.put d,(pN .i64).put e]=some (sp a b c d e).2:=by
 refine(start a b c d e).trans ?_;show _=some [D.s (.sc (.bool (oA a b c d e)))];unfold oA aB;cases (a==0) <;> cases (a==1) <;> cases b <;> cases c <;> cases d <;> cases (decide (0<e)) <;> cases (e==0) <;> rfl
def aH:dC:=orc5 (pN .i64) pB pB pB (pN .i64) sp
theorem ok:OK 236 aH:=(eI E aE aD func236).aYU rfl spec
end oF
namespace mP
def E:=mE [] 7 [] [] []
def aE:=bd f117
theorem aU:Nk E aE:=nk
theorem start a:aF E f117 aE [D.s (sc (int u64 a))]=aB (a==0) (some [D.s (sc (slice none 0 0))]) (some [D.own 22 u64 [a]]):=eJ aU
def sp(w:Int):Prop×List D:=(0<=w/\w<18446744073709551616,[.s (.ints .u64 (M6.dg w.toNat))])
theorem spec:aHD E f117 aE (pN .u64) sp:=by
 intro w h;have e:=start w;obtain⟨h1,h2⟩:=h;unfold sp;simp only
 by_cases hz:w=0
 ·rw[cF hz]at e;subst hz;rw[show(0:Int).toNat=0 from rfl,M6.bN];exact⟨_,e,.cons (vZ.nil _) .nil⟩
 ·rw[bS hz]at e;have:M6.dg w.toNat=[w]:=by
   rw[M6.mU (by omega),bXQ (by omega),bSZ (by omega),M6.bN];congr 1;omega
  rw[this];exact⟨_,e,.cons (vZ.own _ _ _) .nil⟩
def aH:dC:=orc1 (pN .u64) sp
theorem ok:OK 117 aH:=(eI E aE aD func117).aSD rfl spec
end mP
namespace aHN
def E:=mE [(210,aAY.aH),(236,oF.aH),(123,xP.aH),(117,mP.aH),(124,rE.aH)] 39 [24,36] [] []
def aE:=bd f211
theorem aU:Nk E aE:=nk
theorem start a b c d e:aF E f211 aE [D.s (sc (int i64 a)),D.s (sc (bool b)),D.s (ints u64 c),D.s (sc (bool d)),D.s (sc (int i64 e))]=letI C:=M6.val c+M6.val (M6.dg 1);letI B:=bif bZ.kX C then(0:Int)else(5:Int);letI A:=bif bZ.kX C then M6.dg C else [];letI F:=bif B==0 then zs b (M6.val A)else(0:Int);aQ (M6.cB c/\c.length<=1099511627776/\(-9223372036854775808:Int)<=(0:Int)/\(0:Int)<(9223372036854775808:Int)) (aQ True (aB (!oF.oA a b (true&&decide (M6.val c/1%(2:Nat)=(1:Nat))) d e) (aQ (M6.cD c/\c.length<=1099511627776) (some [D.agg [sc (bool (isNeg (zs b (M6.val c)))),ints u64 (M6.dg (zs b (M6.val c)).natAbs)],D.s (sc (int i64 0))])) (aQ ((0:Int)<=(1:Int)/\(1:Int)<(18446744073709551616:Int)) (aQ (M6.cD c/\M6.cD (M6.dg 1)/\c.length<=8192/\(M6.dg 1).length<=8192) (aQ (M6.cD A/\A.length<=1099511627776) (some [D.agg [sc (bool (isNeg F)),ints u64 (M6.dg F.natAbs)],D.s (sc (int i64 B))])))))):=eJ aU
def sp(w:Int)(neg:Bool)(q:List Int)(rest:Bool)(half:Int):Prop×List D:=(M6.cD q/\q.length<=8192,
 wE (fit (M6.val q+bif oF.oA w neg (decide (M6.val q%2=1)) rest half then 1 else 0)) (zs neg (M6.val q+bif oF.oA w neg (decide (M6.val q%2=1)) rest half then 1 else 0)))
theorem spec(w:Int)(neg:Bool)(q:List Int)(rest:Bool)(half:Int)(h:(sp w neg q rest half).1):aF E f211 aE [(pN .i64).put w,pB.put neg,(pI .u64).put q,pB.put rest,(pN .i64).put half]=some (sp w neg q rest half).2:=by
 obtain⟨h1,h2⟩:=h;have hb:=yJ h1.iX h2;refine(start w neg q rest half).trans ?_;unfold sp
 try dsimp only
 rw[gP ⟨h1.iX,by omega,by omega,by omega⟩,gP trivial,bYM,bQC];cases hm:oF.oA w neg (decide (M6.val q%2=1)) rest half with
 |false =>
  have hf:fit (M6.val q+0)=true:=decide_eq_true (by rw[bOC];omega);rw[bYZ,bT,gP ⟨h1,by omega⟩,cond_false,hf];rfl
 |true =>
  have o1:=eZ (n:=1) (k:=1) (dV.2 (by omega));rw[bPB,bF,gP ⟨by omega,by omega⟩,gP ⟨h1,M6.aW _,h2,by omega⟩,M6.bJ,gP (Fm (fun h=>by rw[show bZ.kX _=_ from yB]at h;exact xD h)),Ez,show bZ.kX _=_ from yB,cond_true]
def aH:dC:=orc5 (pN .i64) pB (pI .u64) pB (pN .i64) sp
theorem ok:OK 211 aH:=(eI E aE (aA aAY.ok (aA oF.ok (aA xP.ok (aA mP.ok (aA rE.ok aD))))) func211).aYU rfl spec
end aHN
namespace pO
def E:=mE [(112,gJ.aH),(115,Bm.aH),(114,zO.aH),(210,aAY.aH),(211,aHN.aH)] 61 [23,58] [(9,[0,2,4,6,8,10]),(14,[0,4,6,8,10,11])] [9,14]
def aE:=bd f177
theorem aU:Nk E aE:=nk
def J9 a b c d e f g:=lD E f177 aE 9 [bR a,bR b,dG 2 27 [cG c,eM d],dG 3 27 [cG e,sc (slice none 0 0)],gD f,Lv g]
def aLM a b c d e f g:=lD E f177 aE 14 [bR a,dG 1 27 [cG b,eM c],dG 2 27 [cG d,sc (slice none 0 0)],gD e,Lv f,bR g]
theorem start a b d c:aF E f177 aE [D.s (sc (int i64 a)),D.agg [sc (bool b),ints u64 d],D.s (sc (int i64 c))]=letI A:=M6.dg (M6.val d/(2:Nat)^c.toNat);aB (decide (c<0)) (some [D.agg [sc (bool false),sc (slice none 0 0)],D.s (sc (int i64 1))]) (aQ (d.length<=1099511627776) (aB (!gJ.qL (b,d)) (some [D.agg [sc (bool false),sc (slice none 0 0)],D.s (sc (int i64 2))]) (aQ (M6.cD d/\d.length<=8192/\0<=c/\c<4611686018427387904) (aB (decide (0<(d.length:Int))) (aQ (M6.cB d/\d.length<=1099511627776) (pO.J9 a c b d false A (decide ((↑(tz (M6.val d)):Int)<c)))) (pO.J9 a c b d false A false))))):=eJ aU
theorem Si a b c d e f g:J9 a b c d e f g=aQ (M6.cB d/\d.length<=1099511627776/\(-9223372036854775808:Int)<=i64.wrap (b-1)/\i64.wrap (b-1)<9223372036854775808) (aB (decide (0<=i64.wrap (b-1))&&decide (M6.val d/(2:Nat)^(i64.wrap (b-1)).toNat%2=(1:Nat))) (aQ (M6.cB d/\d.length<=1099511627776) (aB ((↑(tz (M6.val d)):Int)==i64.wrap (b-1)) (pO.aLM a c d e f g 0) (pO.aLM a c d e f g 1))) (pO.aLM a c d e f g (-1:Int))):=cJ aU
theorem Pa a b c d e f g:aLM a b c d e f g=letI A:=M6.val e+bif oF.oA a b (decide (M6.val e%2=(1:Nat))) f g then(1:Nat)else(0:Nat);letI B:=bif fit A then zs b A else(0:Int);aQ (M6.cD e/\e.length<=8192) (some [D.agg [sc (bool (isNeg B)),ints u64 (M6.dg B.natAbs)],D.s (sc (int i64 (bif fit A then(0:Int)else(5:Int))))]):=cJ aU
def Wt(v:Nat)(n:Int):Bool:=decide (v≠0)&&decide ((tz v:Int)<n)
def Xv(v:Nat)(n:Int):Int:=bif decide (0<=n-1)&&decide (v/2^(n-1).toNat%2=1)then(bif ((tz v:Int)==n-1)then 0 else 1)else -1
def wO(w:Int)(neg:Bool)(v:Nat)(n:Int):Nat:=v/2^n.toNat+bif oF.oA w neg (decide (v/2^n.toNat%2=1)) (Wt v n) (Xv v n)then 1 else 0
def sp(w:Int)(x:Bool×List Int)(n:Int):Prop×List D:=(kA x/\0<=n/\n<4611686018427387904,wE (fit (wO w x.1 (M6.val x.2) n)) (zs x.1 (wO w x.1 (M6.val x.2) n)))
theorem spec:tL E f177 aE (pN .i64) wB (pN .i64) sp:=by
 rintro w x n ⟨hx,h0,h1⟩;refine(start w x.1 x.2 n).trans ?_;have l1:=hx.len;have f1:=gJ.nL hx;have b1:=hx.bl;obtain⟨p,a⟩:=x;have n1:M6.cD a:=hx.1
 try dsimp only at *
 unfold sp
 try dsimp only
 have hq:=eZ (n:=M6.val a/2^n.toNat) (k:=8192) (bNX (gU (bVO _ _)) b1);have j14:∀(r:Bool) (hf:Int),aLM w p a false (M6.dg (M6.val a/2^n.toNat)) r hf=some (wE (fit (M6.val a/2^n.toNat+bif oF.oA w p (decide (M6.val a/2^n.toNat%2=1)) r hf then 1 else 0)) (zs p (M6.val a/2^n.toNat+bif oF.oA w p (decide (M6.val a/2^n.toNat%2=1)) r hf then 1 else 0))):=by
  intro r hf;rw[Pa,gP ⟨M6.aW _,hq⟩,M6.bJ];rfl
 have wn:i64.wrap (n-1)=n-1:=by rw[wrap_i64]
 have j9:∀r:Bool,J9 w n p a false (M6.dg (M6.val a/2^n.toNat)) r=some (wE (fit (M6.val a/2^n.toNat+bif oF.oA w p (decide (M6.val a/2^n.toNat%2=1)) r (Xv (M6.val a) n)then 1 else 0)) (zs p (M6.val a/2^n.toNat+bif oF.oA w p (decide (M6.val a/2^n.toNat%2=1)) r (Xv (M6.val a) n)then 1 else 0))):=by
  intro r;rw[Si,wn,gP ⟨n1.iX,by omega,by omega,by omega⟩,j14,j14,j14,gP ⟨n1.iX,by omega⟩];unfold Xv aB;cases (decide (0<=n-1)&&decide (M6.val a/2^(n-1).toNat%2=1))with
  |false=>rfl
  |true=>cases ((tz (M6.val a):Int)==n-1) <;> rfl
 have hz:=M6.cS n1;rw[aI,gP,f1,bPB,bF,gP ⟨n1,l1,h0,h1⟩,j9,j9,gP ⟨n1.iX,by omega⟩];unfold wO Wt
 by_cases h:M6.val a=0
 ·rw[aI (by have:=hz.2 h;omega),decide_eq_false (show ¬(M6.val a≠0) by omega),bSL]
 ·rw[aO (by have:a.length≠0:=fun hl=>h (hz.1 hl);omega),decide_eq_true (show(M6.val a≠0) by omega),bQC]
def aH:dC:=orc3 (pN .i64) wB (pN .i64) sp
theorem ok:OK 177 aH:=(eI E aE (aA gJ.ok (aA Bm.ok (aA zO.ok (aA aAY.ok (aA aHN.ok aD))))) func177).Bp rfl spec
end pO
namespace lZ
def E:=mE [(177,pO.aH)] 11 [8] [] []
def aE:=bd f148
theorem aU:Nk E aE:=nk
theorem start a c b:aF E f148 aE [D.agg [sc (bool a),ints u64 c],D.s (sc (int i64 b))]=letI A:=pO.wO 0 a (M6.val c) b;letI B:=bif fit A then zs a A else(0:Int);aQ (kA (a,c)/\0<=b/\b<4611686018427387904) (some [D.agg [sc (bool (isNeg B)),ints u64 (M6.dg B.natAbs)],D.s (sc (int i64 (bif fit A then(0:Int)else(5:Int))))]):=eJ aU
theorem Pv{v:Nat}{n:Int}(h:0<=n):pO.Wt v n=decide (v%2^n.toNat≠0):=by
 unfold pO.Wt
 by_cases hv:v=0
 ·subst hv;rw[decide_eq_false (by omega),bSL,bUX];rfl
 ·rw[decide_eq_true hv,bQC];have hs:=oW v hv;obtain⟨k,rfl⟩:=bSE h;rw[bQX];generalize tz v=j at *
  by_cases hk:j<k
  ·have:v%2^k≠0:=by
    intro hm;have e1:v=2^k*(v/2^k):=by have:=bSI v (2^k);omega
    have e2:v/2^j=2*(2^(k-j-1)*(v/2^k)):=by
     have hp:2^k=2^j*(2*2^(k-j-1)):=by
      rw[<-Nat.pow_succ',<-bSD];congr 1;omega
     generalize v/2^k=t at e1 ⊢;rw[e1,hp,bSF,Nat.mul_div_cancel_left _ (bQA (by decide)),bSF]
    omega
   rw[decide_eq_true (by omega),decide_eq_true this]
  ·have:v%2^k=0:=by
    have hp:2^j=2^k*2^(j-k):=by rw[<-bSD];congr 1;omega
    have e1:v=2^j*(v/2^j):=by have:=bSI v (2^j);omega
    rw[e1,hp,bSF,Nat.mul_mod_right]
   rw[decide_eq_false (by omega),decide_eq_false (by omega)]
theorem down{p:Bool}{v:Nat}{n:Int}(h:0<=n):zs p (pO.wO 0 p v n)=zs p v/((2^n.toNat:Nat):Int):=by
 unfold pO.wO oF.oA;rw[Pv h,show((0:Int)==0)=true from rfl,cond_true];have hp:0<2^n.toNat:=cI;have hd:=bSI v (2^n.toNat);have hm:=bPJ v hp;generalize 2^n.toNat=q at *;cases p with
 |false =>
  rw[bSL,cond_false,bOC];show((v/q:Nat):Int)=(v:Int)/(q:Int);rw[bSS]
 |true =>
  rw[bQC];show -(((v/q+bif decide (v%q≠0)then 1 else 0:Nat)):Int)=-(v:Int)/(q:Int)
  by_cases hz:v%q=0
  ·rw[decide_eq_false (by omega),cond_false,bOC];have e:-(v:Int)=(q:Int)*(-((v/q:Nat):Int)):=by
    rw[bWB,<-bTA];omega
   rw[e,Int.mul_ediv_cancel_left _ (by omega)]
  ·rw[decide_eq_true hz,cond_true];have e:-(v:Int)=((q-v%q:Nat):Int)+(q:Int)*(-((v/q+1:Nat):Int)):=by
    rw[bWB,<-bTA,bSB];omega
   rw[e,Int.add_mul_ediv_left _ _ (by omega),Int.ediv_eq_zero_of_lt (by omega) (by omega),Int.zero_add]
theorem small{p:Bool}{v:Nat}{n:Int}(h:0<=n)(hb:bl v<=524288):fit (pO.wO 0 p v n)=true:=by
 refine decide_eq_true (bNX (gU ?_) hb);unfold pO.wO oF.oA;rw[Pv h,show((0:Int)==0)=true from rfl,cond_true];have hp:0<2^n.toNat:=cI
 by_cases hz:v%2^n.toNat=0
 ·rw[decide_eq_false (by omega),bSO,cond_false];exact bVO _ _
 ·have h2:2<=2^n.toNat:=by
   refine bRY fun hc=>hz ?_
   rw[show 2^n.toNat=1 from by omega,Nat.mod_one]
  have:v/2^n.toNat<=v/2:=bXY h2 (by omega);have hv:v≠0:=fun h=>hz (by rw[h,bUX])
  have:(bif p&&decide (v%2^n.toNat≠0)then(1:Nat)else 0)<=1:=by cases p <;> cases decide (v%2^n.toNat≠0) <;> decide
  omega
def sp(x:Bool×List Int)(n:Int):Prop×List D:=(kA x/\0<=n/\n<4611686018427387904,[wD (wv x/((2^n.toNat:Nat):Int)),.s (.sc (.int .i64 0))])
theorem spec:fO E f148 aE wB (pN .i64) sp:=by
 intro x n h;have h':=h;obtain⟨hx,h0,h1⟩:=h;refine(start x.1 x.2 n).trans ((gP h').trans ?_);unfold sp
 try dsimp only
 rw[small h0 hx.bl];show some (wE true _)=_;rw[down h0];rfl
def aH:dC:=orc2 wB (pN .i64) sp
theorem ok:OK 148 aH:=(eI E aE (aA pO.ok aD) func148).lP rfl spec
end lZ
namespace Iq
def E:=mE [(177,pO.aH)] 11 [8] [] []
def aE:=bd f212
theorem aU:Nk E aE:=nk
theorem start a c b:aF E f212 aE [D.agg [sc (bool a),ints u64 c],D.s (sc (int i64 b))]=letI A:=pO.wO 1 a (M6.val c) b;letI B:=bif fit A then zs a A else(0:Int);aQ (kA (a,c)/\0<=b/\b<4611686018427387904) (some [D.agg [sc (bool (isNeg B)),ints u64 (M6.dg B.natAbs)],D.s (sc (int i64 (bif fit A then(0:Int)else(5:Int))))]):=eJ aU
theorem up{p:Bool}{v:Nat}{n:Int}(h:0<=n):zs p (pO.wO 1 p v n)=-(-(zs p v)/((2^n.toNat:Nat):Int)):=by
 have e1:zs p (pO.wO 1 p v n)=-(zs (!p) (pO.wO 0 (!p) v n)):=by
  unfold pO.wO oF.oA zs;cases p <;> simp
 have e2:-(zs p v)=zs (!p) v:=by unfold zs;cases p <;> simp
 rw[e1,e2,lZ.down h]
theorem small{p:Bool}{v:Nat}{n:Int}(h:0<=n)(hb:bl v<=524288):fit (pO.wO 1 p v n)=true:=by
 have e1:pO.wO 1 p v n=pO.wO 0 (!p) v n:=by
  unfold pO.wO oF.oA;cases p <;> simp
 rw[e1];exact lZ.small h hb
def sp(x:Bool×List Int)(n:Int):Prop×List D:=(kA x/\0<=n/\n<4611686018427387904,[wD (-(-(wv x)/((2^n.toNat:Nat):Int))),.s (.sc (.int .i64 0))])
theorem spec:fO E f212 aE wB (pN .i64) sp:=by
 intro x n h;have h':=h;obtain⟨hx,h0,h1⟩:=h;refine(start x.1 x.2 n).trans ((gP h').trans ?_);unfold sp
 try dsimp only
 rw[small h0 hx.bl];show some (wE true _)=_;rw[up h0];rfl
def aH:dC:=orc2 wB (pN .i64) sp
theorem ok:OK 212 aH:=(eI E aE (aA pO.ok aD) func212).lP rfl spec
end Iq
namespace iU
def E:=mE [(148,lZ.aH),(212,Iq.aH)] 22 [] [] []
def aE:=bd f178
theorem aU:Nk E aE:=nk
theorem start a d b c:aF E f178 aE [D.agg [sc (bool a),ints u64 d],D.s (sc (int i64 b)),D.s (sc (bool c))]=letI B:=kA (a,d)/\0<=b/\b<4611686018427387904;letI A:=(↑((2:Nat)^b.toNat):Int);aB c (aQ B (some [D.agg [sc (bool (isNeg (-(-wv (a,d)/A)))),ints u64 (M6.dg (-(-wv (a,d)/A)).natAbs)]])) (aQ B (some [D.agg [sc (bool (isNeg (wv (a,d)/A))),ints u64 (M6.dg (wv (a,d)/A).natAbs)]])):=eJ aU
def nN(up:Bool)(z:Int)(n:Nat):Int:=bif up then -(-z/((2^n:Nat):Int))else z/((2^n:Nat):Int)
theorem Yf(up:Bool)(z:Int)(n:Nat):(nN up z n).natAbs<=z.natAbs:=by
 unfold nN;cases up with
 |false=>exact Aw (bQA (by decide))
 |true =>
  rw[cond_true,bTV];have:=Aw (z:=-z) (bQA (n:=n) (show 0<2 by decide));rwa [bTV]at this
def sp(x:Bool×List Int)(n:Int)(up:Bool):Prop×List D:=(kA x/\(0<=n/\n<4611686018427387904),[wD (nN up (wv x) n.toNat)])
theorem spec:tL E f178 aE wB (pN .i64) pB sp:=by
 rintro x n up ⟨h1,h2⟩;refine(start x.1 x.2 n up).trans ?_;cases up with
 |true=>rw[bT,gP ⟨h1,h2⟩];rfl
 |false=>rw[bF,gP ⟨h1,h2⟩];rfl
def aH:dC:=orc3 wB (pN .i64) pB sp
theorem ok:OK 178 aH:=(eI E aE (aA lZ.ok (aA Iq.ok aD)) func178).Bp rfl spec
end iU
namespace bV
def E:=mE [(127,uG.aH),(63,iK.aH),(178,iU.aH)] 33 [20,30] [] []
def aE:=bd f166
theorem aU:Nk E aE:=nk
theorem start a e b c d:aF E f166 aE [D.agg [sc (bool a),ints u64 e],D.s (sc (int i64 b)),D.s (sc (int i64 c)),D.s (sc (bool d))]=letI H:=wv (a,e);letI C:=bif fN H b then aK H b else((0:Int),(0:Int));letI B:=(↑(bl (M6.val e)):Int);letI G:=iU.nN d H (i64.wrap (B-c)).toNat;letI F:=b+i64.wrap (B-c);letI I:=i64.wrap F;aQ (M6.cB e/\e.length<=1099511627776) (aB (decide (i64.wrap (B-c)<=0)) (aQ (kA (a,e)/\(-9223372036854775808:Int)<=b/\b<9223372036854775808) (aC (isNeg C.fst) fun f=>aC (M6.dg C.fst.natAbs) fun g=>aC C.snd fun h=>aC (bif fN H b then(0:Int)else(5:Int)) fun i=>some [D.agg [sc (bool f),ints u64 g,sc (int i64 h)],D.s (sc (int i64 i))])) (aQ (kA (a,e)/\0<=i64.wrap (B-c)/\i64.wrap (B-c)<4611686018427387904) (aC (isNeg G) fun j=>aC (M6.dg G.natAbs) fun k=>letI A:=bif fN (wv (j,k)) I then aK (wv (j,k)) I else((0:Int),(0:Int));aQ (kA (j,k)/\(-9223372036854775808:Int)<=i64.wrap F/\i64.wrap F<9223372036854775808) (aC (isNeg A.fst) fun l=>aC (M6.dg A.fst.natAbs) fun m=>aC A.snd fun n=>aC (bif fN (wv (j,k)) I then(0:Int)else(5:Int)) fun o=>some [D.agg [sc (bool l),ints u64 m,sc (int i64 n)],D.s (sc (int i64 o))])))):=eJ aU
def mA(up:Bool)(z e p:Int):Int×Int:=if(bl z.natAbs:Int)-p<=0 then(z,e)else(iU.nN up z ((bl z.natAbs:Int)-p).toNat,e+((bl z.natAbs:Int)-p))
def sp(x:Bool×List Int)(e p:Int)(up:Bool):Prop×List D:=(kA x/\(-4611686018427387904<=e/\e<4611686018427387904)/\1<=p/\p<=70000,dE (fN (mA up (wv x) e p).1 (mA up (wv x) e p).2) (aK (mA up (wv x) e p).1 (mA up (wv x) e p).2))
theorem spec:aHE E f166 aE wB (pN .i64) (pN .i64) pB sp:=by
 rintro x e p up ⟨hw,he,hp⟩;have hb:=hw.bl;have hl:=hw.len;have ha:=iZ x;refine(start x.1 x.2 e p up).trans ?_;unfold sp mA
 try dsimp only
 rw[gP ⟨hw.1.iX,by omega⟩,aL,ha,wrap_i64 (n:=(bl (M6.val x.2):Int)-p) (by omega) (by omega)];have hx:wv (x.1,x.2)=wv x:=rfl
 by_cases hn:(bl (M6.val x.2):Int)-p<=0
 ·rw[aO hn,if_pos hn,gP ⟨hw,by omega,by omega⟩];simp only[aL];rfl
 ·have Zz:=iU.Yf up (wv x) ((bl (M6.val x.2):Int)-p).toNat;have Qn:kA (isNeg (iU.nN up (wv x) ((bl (M6.val x.2):Int)-p).toNat),M6.dg (iU.nN up (wv x) ((bl (M6.val x.2):Int)-p).toNat).natAbs):=mR (bNX (gU Zz) (by rw[ha];exact hb));rw[aI hn,if_neg hn,gP ⟨hw,by omega,by omega⟩];simp only[aL];rw[wrap_i64 (n:=e+((bl (M6.val x.2):Int)-p)) (by omega) (by omega)];rw[gP ⟨Qn,by omega,by omega⟩,rT];rfl
def aH:dC:=orc4 wB (pN .i64) (pN .i64) pB sp
theorem ok:OK 166 aH:=(eI E aE (aA uG.ok (aA iK.ok (aA iU.ok aD))) func166).aSU rfl spec
end bV
end W
namespace M6
open Go M
def nY(n v:Nat):List Int:=dg v ++ bPE (n-(dg v).length) 0
theorem kI{n v:Nat}:val (nY n v)=v:=by
 unfold nY;rw[iB,iH,bJ];omega
theorem kJ{n v:Nat}:cB (nY n v):=oQ.2 ⟨iP _,iJ _⟩
theorem gG{n v:Nat}(h:v<18446744073709551616^n):(nY n v).length=n:=by
 have:=cR h;unfold nY;rw[bOE,bYN];omega
theorem nM {a : List Int} {n v : Nat} (h : cB a) (hl : a.length = n) (hv : val a = v) : a = nY n v := by
  subst hl; subst hv
  obtain ⟨k, hk⟩ := Cx h
  unfold nY
  have : a.length = (dg (val a)).length + k := by conv => lhs; rw [hk]
                                                  simp
  rw [this, Nat.add_sub_cancel_left]
  exact hk
theorem aFI{n:Nat}:nY n 0=bPE n 0:=by simp[nY,bN]
theorem aFJ{n v:Nat}:(nY n v).take (dg v).length=dg v:=by
 unfold nY;exact List.take_left
theorem oV{a:List Int}{j:Nat}(hj:j<a.length)(d:Int):val (a.set j d)+18446744073709551616^j*(a.getD j 0).toNat=val a+18446744073709551616^j*d.toNat:=by
 have h1:=gE (a.set j d) (n:=j) (by simp;omega);have h2:=gE a (n:=j) (by omega);rw[qO hj,bXX (bNB j)]at h1;rw[gF (a:=a) j]at h2;rw[h1,h2,bSB,bSB];omega
theorem oI{m n:Nat}(h:m<=n):18446744073709551616^m<=18446744073709551616^n:=bQB (by omega) h
theorem Qe{a:List Int}(h:cD a):∀k,cD (a.drop k)
 |0=>h
 |k+1=>by
  match a,h with
  | [],h=>simpa using h
  |d :: a,h=>exact Qe (Qd h) k
theorem qN{a:List Int}(h:cB a)(k:Nat):val (a.take k)=val a%18446744073709551616^k:=by
 by_cases hk:k<=a.length
 ·rw[gE a hk,bZA,bXQ (gQ h k)]
 ·rw[cE (by omega),bXQ];exact bOB (cK h) (oI (by omega))
theorem jH{a:List Int}(h:cB a)(k:Nat):val (a.drop k)=val a/18446744073709551616^k:=by
 by_cases hk:k<=a.length
 ·have h1:=gE a hk;have h2:=gQ h k;rw[h1,bTR _ _ (cI),bSZ h2,bND]
 ·rw[bYO (by omega),bSZ]
  ·rfl
  ·exact bOB (cK h) (oI (by omega))
theorem xT(v o n:Nat):v=v%18446744073709551616^o+18446744073709551616^o*(v/18446744073709551616^o%18446744073709551616^n)+18446744073709551616^(o+n)*(v/18446744073709551616^(o+n)):=by
 have h1:=bXS v (18446744073709551616^o);have h2:=bXS (v/18446744073709551616^o) (18446744073709551616^n);rw[bST,<-bSD]at h2
 conv=>lhs;rw[<-h1,<-h2]
 rw[bSB,<-bSF,<-bSD];omega
theorem Pj{v v' o n X c:Nat}(h1:v'%18446744073709551616^o=v%18446744073709551616^o)(h2:v'/18446744073709551616^(o+n)=v/18446744073709551616^(o+n))(h:v'+18446744073709551616^o*X=v+18446744073709551616^(o+n)*c) :
  v'/18446744073709551616^o%18446744073709551616^n+X=v/18446744073709551616^o%18446744073709551616^n+18446744073709551616^n*c:=by
 have e1:=xT v o n;have e2:=xT v' o n;rw[h1,h2]at e2;apply Nat.eq_of_mul_eq_mul_left (bQA (n:=o) (by omega:0<18446744073709551616));have e3:18446744073709551616^(o+n)*c=18446744073709551616^o*(18446744073709551616^n*c):=by rw[bSD,bSF]
 rw[e3]at h;rw[bSB,bSB];omega
theorem Ta(v o n:Nat):v/18446744073709551616^o%18446744073709551616^n<18446744073709551616^n:=bPJ _ (cI)
theorem Pk{z z':List Int}(hd:cB z)(Ea:cB z'){o n:Nat}(h1:z'.take o=z.take o)(h2:z'.drop (o+n)=z.drop (o+n)):val z'%18446744073709551616^o=val z%18446744073709551616^o/\val z'/18446744073709551616^(o+n)=val z/18446744073709551616^(o+n):=by
 rw[<-qN hd,<-qN Ea,h1,<-jH hd,<-jH Ea,h2];exact⟨rfl,rfl⟩
end M6
namespace W
open Go AI M
namespace lM
def E:=mE [] 8 [] [] []
def aE:=bd f198
theorem aU:Nk E aE:=nk
theorem start a:aF E f198 aE [D.s (ints u64 a)]=aB (decide (8192<(a.length:Int))) (some [D.s (sc (slice none 0 0)),D.s (sc (int i64 5))]) (some [D.s (ints u64 a),D.s (sc (int i64 0))]):=eJ aU
def can(a b:List Int):Prop:=Contract prog base.glob 199 [(pI .u64).put a,(pI .u64).put b] [.own fC .u64 (M6.dg (M6.val a*M6.val b))]
def less(n:Nat):Prop:=∀c d:List Int,M6.cD c->M6.cD d->c.length+d.length<n->can c d
def prec:dC:=orc2 (pI .u64) (pI .u64) fun a b=>(can a b,[.own fC .u64 (M6.dg (M6.val a*M6.val b))])
theorem Wy:lA prog base.glob 199 prec:=by
 intro ds g rs hd hg;unfold prec orc2 at hd;split at hd
 ·split at hd
  ·rename_i x y hx hy;have hd:=Option.some.inj hd;have e1:g=can x y:=(Prod.mk.inj hd).1.symm;have e2:=(Prod.mk.inj hd).2;subst e1;rw[<-e2];exact⟨Contract.aYV (show Contract _ _ _ _ _ from hg) ((pI .u64).le hx) ((pI .u64).le hy),uZ (c:=(f199.body).getD .skip) func199 rfl rfl⟩
  ·cases hd
 ·cases hd
def jW(a:List Int):Bool:=decide (a.length<=8192)
def sp(a:List Int):Prop×List D:=(True,[.s (.ints .u64 (bif jW a then a else [])),.s (.sc (.int .i64 (bif jW a then 0 else 5)))])
theorem spec:aHD E f198 aE (pI .u64) sp:=by
 intro a _;have e:=start a;unfold sp jW;simp only
 by_cases hc:a.length<=8192
 ·rw[aI]at e;rw[decide_eq_true hc];exact⟨_,e,fX.refl _⟩
 ·rw[aO]at e;rw[decide_eq_false hc];exact⟨_,e,.cons (vZ.nil _) (fX.refl _)⟩
def aH:dC:=orc1 (pI .u64) sp
theorem ok:OK 198 aH:=(eI E aE aD func198).aSD rfl spec
end lM
namespace Io
def E:=mE [] 51 [] [] []
def aE:=bd f252
theorem aU:Nk E aE:=nk
theorem start a b:aF E f252 aE [D.s (sc (int u64 a)),D.s (sc (int u64 b))]=letI A:=u64.wrap (a/4294967296*eY BinOp.and u64 b 4294967295)+u64.wrap (eY BinOp.and u64 a 4294967295*eY BinOp.and u64 b 4294967295)/4294967296;some [D.s (sc (int u64 (u64.wrap (u64.wrap (u64.wrap (a/4294967296*(b/4294967296))+u64.wrap A/4294967296)+u64.wrap (eY BinOp.and u64 (u64.wrap A) 4294967295+u64.wrap (eY BinOp.and u64 a 4294967295*(b/4294967296)))/4294967296)))),D.s (sc (int u64 (u64.wrap (a*b))))]:=eJ aU
def sp(a b:Int):Prop×List D:=(0<=a/\a<18446744073709551616/\0<=b/\b<18446744073709551616,[.s (.sc (.int .u64 (a*b/18446744073709551616))),.s (.sc (.int .u64 (a*b%18446744073709551616)))])
theorem spec:fO E f252 aE (pN .u64) (pN .u64) sp:=by
 rintro a b ⟨ha,aXU,hb,vT⟩;refine(start a b).trans ?_;simp only[sp];have m1:eY .and .u64 a 4294967295=a%4294967296:=oS ha aXU;have m2:eY .and .u64 b 4294967295=b%4294967296:=oS hb vT;rw[m1,m2];have bd:∀x y:Int,0<=x->x<=4294967295->0<=y->y<=4294967295->0<=x*y/\x*y<=18446744065119617025:=fun x y h1 h2 h3 h4 =>
  ⟨bZB h1 h3,by have:=Int.mul_le_mul h2 h4 h3 (by omega:(0:Int)<=4294967295);omega⟩
 have q11:=bd (a/4294967296) (b/4294967296) (by omega) (by omega) (by omega) (by omega);have aYN:=bd (a/4294967296) (b%4294967296) (by omega) (by omega) (by omega) (by omega);have q01:=bd (a%4294967296) (b/4294967296) (by omega) (by omega) (by omega) (by omega);have aSO:=bd (a%4294967296) (b%4294967296) (by omega) (by omega) (by omega) (by omega);have e:a*b=(a/4294967296)*(b/4294967296)*18446744073709551616+((a/4294967296)*(b%4294967296)+(a%4294967296)*(b/4294967296))*4294967296+(a%4294967296)*(b%4294967296):=by
  conv=>lhs;rw[<-bWE a 4294967296,<-bWE b 4294967296]
  generalize a/4294967296=x;generalize a%4294967296=y;generalize b/4294967296=z;generalize b%4294967296=t;grind
 have e0:u64.wrap (a*b)=a*b%18446744073709551616:=eG _;rw[e0];generalize a*b=ab at *;generalize (a/4294967296)*(b/4294967296)=aYP at *;generalize (a/4294967296)*(b%4294967296)=aOB at *;generalize (a%4294967296)*(b/4294967296)=aYQ at *;generalize (a%4294967296)*(b%4294967296)=aOC at *;rw[wrap_u64 (n:=aOC),wrap_u64 (n:=aYP),wrap_u64 (n:=aYQ),wrap_u64 (n:=aOB)];rw[wrap_u64 (n:=aOB+aOC/4294967296),oS (w:=aOB+aOC/4294967296) (by omega) (by omega)];rw[wrap_u64 (n:=(aOB+aOC/4294967296)%4294967296+aYQ),wrap_u64 (n:=aYP+(aOB+aOC/4294967296)/4294967296),wrap_u64];have:aYP+(aOB+aOC/4294967296)/4294967296+((aOB+aOC/4294967296)%4294967296+aYQ)/4294967296=ab/18446744073709551616:=by omega
 rw[this]
def aH:dC:=orc2 (pN .u64) (pN .u64) sp
theorem ok:OK 252 aH:=(eI E aE aD func252).lP rfl spec
end Io
namespace Eh
def E:Env:={ ({ base with C:=callsOf [(252,Io.aH)],n0:=1,io:=[0] })with nt:=71,own:=[],keep:=fun k=>(tlook [(5,[0,1,2,6,7,13,14,18,19]),(1,[0,1,2,13,14])] k).getD [],cut:=tlook [] }
def aE:=bd f248
theorem aU:Nk E aE:=nk
def L1(a:List Int)(b:Nat)(c:Nat) d f g h:=nU E f248 aE 1 [(A.any,some { e:=(22:Nat),cont:=rH.ints u64 a }),(A.v (V.one (L.view 0 b c)),none),gD d,gD f,bR g,bR h]
def L5(a:List Int)(b:Nat)(c:Nat) d f g h x7 i j k:=nU E f248 aE 5 [(A.any,some { e:=(22:Nat),cont:=rH.ints u64 a }),(A.v (V.one (L.view 0 b c)),none),gD d,gD f,bR g,cY h,bR x7,bR i,bR j,bR k]
theorem start al ao an b c:aF E f248 aE [D.io fC u64 al ao an,D.s (ints u64 b),D.s (ints u64 c)]=Eh.L1 al ao an b c (c.length:Int) 0:=eJ aU
theorem Lr a b c d e f g:L1 a b c d e f g=aB (decide (g<f)) (Eh.L5 a b c d e g 0 f g (d.length:Int) 0) (some [D.io 22 u64 a 0 0]):=lJ aU
theorem Ys a b c d e f g h i j k:L5 a b c d e f g h i j k=letI C:=(d.length:Int);letI B:=b+(i64.wrap (k+f)).toNat;letI A:=d.getD k.toNat 0*e.getD f.toNat 0%(18446744073709551616:Int)+g+0;letI F:=a.getD B 0+A%18446744073709551616+(0:Int);aB (decide (k<j)) (if 0<=k/\k<C then if 0<=f/\f<(e.length:Int)then aQ (0<=d.getD k.toNat 0/\d.getD k.toNat 0<(18446744073709551616:Int)/\0<=e.getD f.toNat 0/\e.getD f.toNat 0<(18446744073709551616:Int)) (aQ (0<=d.getD k.toNat 0*e.getD f.toNat 0%(18446744073709551616:Int)/\0<=g/\(0:Int)<=(0:Int)/\(0:Int)<=(1:Int)) (if 0<=i64.wrap (k+f)/\i64.wrap (k+f)<(c:Int)then aQ (0<=a.getD B 0/\0<=A%18446744073709551616/\(0:Int)<=(0:Int)/\(0:Int)<=(1:Int)) (if 0<=i64.wrap (k+f)/\i64.wrap (k+f)<(c:Int)then Eh.L5 (a.set B (F%18446744073709551616)) b c d e f (u64.wrap (u64.wrap (d.getD k.toNat 0*e.getD f.toNat 0/(18446744073709551616:Int)+A/18446744073709551616)+F/18446744073709551616)) h i j (i64.wrap (k+1))else none)else none))else none else none) (if 0<=i64.wrap (f+C)/\i64.wrap (f+C)<(c:Int)then Eh.L1 (a.set (b+(i64.wrap (f+C)).toNat) g) b c d e h (i64.wrap (i+1))else none):=lJ aU
def sp(x:List Int×Nat×Nat)(a b:List Int):Prop×List D:=(M6.cB x.1/\x.2.1=0/\x.2.2=x.1.length/\M6.cB a/\M6.cB b/\x.1.length=a.length+b.length/\x.1.length<=1099511627776/\M6.val x.1=0,
 [.io fC .u64 (M6.nY x.1.length (M6.val a*M6.val b)) 0 0])
theorem aTB{x c:Int}{p:Nat}(hp:p<=340282366920938463426481119284349108225)(h0:0<=x)(h1:x<18446744073709551616)(h2:0<=c)(h3:c<18446744073709551616) :
  (0<=(p:Int)/18446744073709551616+((p:Int)%18446744073709551616+c+0)/18446744073709551616/\(p:Int)/18446744073709551616+((p:Int)%18446744073709551616+c+0)/18446744073709551616<18446744073709551616) /\
  (0<=(p:Int)/18446744073709551616+((p:Int)%18446744073709551616+c+0)/18446744073709551616+(x+((p:Int)%18446744073709551616+c+0)%18446744073709551616+0)/18446744073709551616/\(p:Int)/18446744073709551616+((p:Int)%18446744073709551616+c+0)/18446744073709551616+(x+((p:Int)%18446744073709551616+c+0)%18446744073709551616+0)/18446744073709551616<18446744073709551616) /\
  ((x+((p:Int)%18446744073709551616+c+0)%18446744073709551616+0)%18446744073709551616).toNat+18446744073709551616*((p:Int)/18446744073709551616+((p:Int)%18446744073709551616+c+0)/18446744073709551616+(x+((p:Int)%18446744073709551616+c+0)%18446744073709551616+0)/18446744073709551616).toNat=x.toNat+p+c.toNat:=by
 omega
theorem aZA{i j u X Y:Nat}:18446744073709551616^j*((u+18446744073709551616^i*X)*Y)=18446744073709551616^j*(u*Y)+18446744073709551616^(i+j)*(X*Y):=by
 rw[bNV,bSB,bSD];congr 1;rw[bSF,<-bSF (18446744073709551616^j),bRZ (18446744073709551616^j)]
theorem bMY{a b:List Int}{N j V:Nat}(hN:N<=1099511627776)(ha:M6.cB a)(hb:M6.cB b)(hj:j<b.length)(bBY:a.length+b.length=N):∀(r i:Nat) (z:List Int) (c:Int),i+r=a.length->z.length=N->M6.cB z->0<=c->c<18446744073709551616->z.getD (a.length+j) 0=0 ->
  M6.val z+18446744073709551616^(i+j)*c.toNat=V+18446744073709551616^j*(M6.val (a.take i)*(b.getD j 0).toNat) ->
  ∃z',L5 z 0 N a b j c b.length j a.length i=L1 z' 0 N a b b.length ((j+1:Nat):Int)/\z'.length=N/\M6.cB z'/\M6.val z'=V+18446744073709551616^j*(M6.val a*(b.getD j 0).toNat):=by
 intro r
 induction r with
 |zero =>
  intro i z c hi hz hd h0 h1 aTH hv;have w1:i64.wrap ((j:Int)+(a.length:Int))=((a.length+j:Nat):Int):=by rw[wrap_i64];omega
  have w2:i64.wrap ((j:Int)+1)=((j+1:Nat):Int):=by rw[wrap_i64];omega
  have bAW:i=a.length:=by omega
  subst bAW;refine⟨z.set (a.length+j) c,?_,by simp[hz],M6.lV hd ⟨h0,h1⟩,?_⟩
  ·rw[Ys,aI,w1,aT,bQX,bND,w2]
  ·have hs:=M6.oV (a:=z) (j:=a.length+j) (by omega) c;rw[aTH]at hs;rw[bTW]at hv;simp at hs;rw[hs];exact hv
 |succ r ih =>
  intro i z c hi hz hd h0 h1 aTH hv;have g:=hd.get (i+j);have ga:=ha.get i;have gb:=hb.get j;have w1:i64.wrap ((i:Int)+(j:Int))=((i+j:Nat):Int):=by rw[wrap_i64];omega
  have w2:i64.wrap ((i:Int)+1)=((i+1:Nat):Int):=by rw[wrap_i64];omega
  obtain⟨X,hX⟩:=bSE ga.1;obtain⟨Y,hY⟩:=bSE gb.1;have bBW:X*Y<=340282366920938463426481119284349108225:=by
   have h2:X<=18446744073709551615:=by omega
   have h3:Y<=18446744073709551615:=by omega
   have:=bXP h2 h3;omega
  rw[Ys,aO,aT,aT,w1,w2];simp only[bQX,bND];have hs:=fun d=>M6.oV (a:=z) (j:=i+j) (by omega) d
  rw[show a.getD i 0*b.getD j 0=((X*Y:Nat):Int)from by rw[hX,hY];simp];obtain⟨k1,k2,k3⟩:=aTB bBW g.1 g.2 h0 h1;rw[gP ⟨ga.1,ga.2,gb.1,gb.2⟩,gP ⟨by omega,by omega,by omega,by omega⟩,aT,gP ⟨by omega,by omega,by omega,by omega⟩,aT];rw[wrap_u64 k1.1 k1.2,wrap_u64 k2.1 k2.2];refine ih (i+1) _ _ (by omega) (by simp[hz]) (M6.lV hd (by omega)) k2.1 k2.2 (by
   rw[bSG,List.getElem?_set_ne (by omega),<-bSG];exact aTH) ?_
  rw[M6.cA,aZA,show i+1+j=(i+j)+1 from by omega,bSA,bSF];have hs:=hs ((z.getD (i+j) 0+(((X*Y:Nat):Int)%18446744073709551616+c+0)%18446744073709551616+0)%18446744073709551616);rw[hX,hY,bQX,bQX];rw[hY,bQX]at hv;generalize ((z.getD (i+j) 0+(((X*Y:Nat):Int)%18446744073709551616+c+0)%18446744073709551616+0)%18446744073709551616)=d at *;generalize ((X*Y:Nat):Int)/18446744073709551616+(((X*Y:Nat):Int)%18446744073709551616+c+0)/18446744073709551616+(z.getD (i+j) 0+(((X*Y:Nat):Int)%18446744073709551616+c+0)%18446744073709551616+0)/18446744073709551616=c' at *;generalize X*Y=q at *;generalize 18446744073709551616^(i+j)=B at *;generalize M6.val (z.set (i+j) d)=W at *;generalize (z.getD (i+j) 0).toNat=x at *;generalize 18446744073709551616^j*(M6.val (a.take i)*Y)=U at *;have e2:B*d.toNat+B*(18446744073709551616*c'.toNat)=B*x+B*q+B*c.toNat:=by
   rw[<-bSB,k3,bSB,bSB]
  omega
theorem aIO{z:List Int}(hd:M6.cB z){k:Nat}(h:M6.val z<18446744073709551616^k):z.getD k 0=0:=by
 have h1:=M6.jH hd k;rw[bSZ h,M6.gF]at h1;have:=hd.get k;omega
theorem bDL{a b:List Int}{N:Nat}(hN:N<=1099511627776)(ha:M6.cB a)(hb:M6.cB b)(bBY:a.length+b.length=N):∀(r j:Nat) (z:List Int),j+r=b.length->z.length=N->M6.cB z->M6.val z=M6.val a*M6.val (b.take j) ->
  L1 z 0 N a b b.length j=some [.io fC .u64 (M6.nY N (M6.val a*M6.val b)) 0 0]:=by
 intro r
 induction r with
 |zero =>
  intro j z hj hz hd hv;rw[Lr,aI];rw[M6.cE (by omega)]at hv;rw[M6.nM hd hz hv]
 |succ r ih =>
  intro j z hj hz hd hv;rw[Lr,aO];have iN:M6.val z<18446744073709551616^(a.length+j):=by
   rw[hv,bSD];exact bVP (M6.cK ha) (M6.gQ hb j)
  obtain⟨z',h1,h2,h3,h4⟩:=bMY hN ha hb (show j<b.length by omega) bBY a.length 0 z 0 (by omega) hz hd (by omega) (by omega) (aIO hd iN) (V:=M6.val z) (by simp[M6.val]);have h1:L5 z 0 N a b j 0 b.length j a.length 0=L1 z' 0 N a b b.length ((j+1:Nat):Int):=h1;rw[h1];refine ih (j+1) z' (by omega) h2 h3 ?_;rw[h4,hv,M6.cA,bSB];congr 1;rw[<-bSF,<-bSF,bRZ (18446744073709551616^j)]
theorem spec(x:List Int×Nat×Nat)(a b:List Int)(h:(sp x a b).1):aF E f248 aE [(Ai fC .u64).put x,(pI .u64).put a,(pI .u64).put b]=some (sp x a b).2/\∃rs lC,(sp x a b).2=rs ++ [.io fC .u64 lC 0 0]/\lC.length=x.1.length:=by
 obtain⟨xl,xo,xn⟩:=x;obtain⟨hd,ho,hn,ha,hb,hl,hN,hv⟩:=h;simp only at hd ho hn hl hN hv;subst ho;subst hn;refine⟨(start xl 0 xl.length a b).trans ?_,[],_,rfl,M6.gG ?_⟩
 ·exact bDL hN ha hb hl.symm b.length 0 xl (by omega) rfl hd (by simp[hv,M6.val])
 ·show _<18446744073709551616^xl.length;rw[hl,bSD];exact bVP (M6.cK ha) (M6.cK hb)
def aH:dC:=orc3 (Ai fC .u64) (pI .u64) (pI .u64) sp
theorem fnok:kO prog E 248 f248 aE:=tJ pE mixed (kK _ rfl (aA Io.ok aD) (mI)) func248 rfl rfl rfl rfl rfl
theorem ok:oD prog base.glob 248 aH:=fnok.Bp rfl spec
end Eh
namespace xM
def E:=mE [] 22 [] [(2,[0,3])] []
def aE:=bd f226
theorem aU:Nk E aE:=nk
def L2 a b:=nU E f226 aE 2 [gD a,bR b]
theorem start a:aF E f226 aE [D.s (ints u64 a)]=xM.L2 a (a.length:Int):=eJ aU
theorem kC a b:L2 a b=letI B:=(a.length:Int);letI A:=ints u64 (bSY 0 (bSX b.toNat a));aB (decide (0<b)) (if 0<=i64.wrap (b-1)/\i64.wrap (b-1)<B then aB (a.getD (i64.wrap (b-1)).toNat 0==(0:Int)) (xM.L2 a (i64.wrap (b-1))) (if(0:Int)<=(0:Int)/\0<=b/\b<=b/\b<=B then some [D.s A]else none)else none) (if(0:Int)<=(0:Int)/\0<=b/\b<=b/\b<=B then some [D.s A]else none):=lJ aU
def sp(a:List Int):Prop×List D:=(M6.cB a/\a.length<=1099511627776,[.s (.ints .u64 (M6.dg (M6.val a)))])
theorem L{xs:List Int}(hd:M6.cB xs)(hl:xs.length<=4398046511104):∀n:Nat,n<=xs.length->L2 xs n=some [D.s (.ints .u64 (M6.dg (M6.val (xs.take n))))]
 |0,h=>by
  rw[kC,aI,aT];simp[M6.val,M6.bN]
 |n+1,h=>by
  rw[kC];have e:i64.wrap (((n+1:Nat):Int)-1)=(n:Int):=by rw[wrap_i64];omega
  rw[e,aO,aT,bQX]
  by_cases hz:xs.getD n 0=0
  ·rw[cF hz,L hd hl n (by omega),M6.jQ (by omega),hz];simp
  ·rw[bS hz,aT,bQX,bTJ];have:M6.cD (xs.take (n+1)):=M6.wS (hd.take _) fun d hg=>by
    rw[M6.getLast_take (by omega)]at hg;cases hg;exact hz
   rw[<-this]
theorem spec:gO E f226 aE (pI .u64) sp:=by
 rintro a ⟨hd,hl⟩;refine(start a).trans ?_;rw[L hd (by omega) a.length (bNB _),bTW];rfl
def aH:dC:=orc1 (pI .u64) sp
theorem ok:OK 226 aH:=(eI E aE aD func226).nD rfl spec
end xM
namespace nS
def E:Env:={ ({ base with n0:=1,io:=[0] })with nt:=55,own:=[],keep:=fun k=>(tlook [(7,[0,6,8]),(2,[0,1,2,6,10,11])] k).getD [],cut:=tlook [] }
def aE:=bd f265
theorem aU:Nk E aE:=nk
def L2(a:List Int)(b:Nat)(c:Nat) d f g h x7:=nU E f265 aE 2 [(A.any,some { e:=(22:Nat),cont:=rH.ints u64 a }),(A.v (V.one (L.view 0 b c)),none),gD d,bR f,cY g,bR h,bR x7]
def L7(a:List Int)(b:Nat)(c:Nat) d f:=nU E f265 aE 7 [(A.any,some { e:=(22:Nat),cont:=rH.ints u64 a }),(A.v (V.one (L.view 0 b c)),none),cY d,bR f]
theorem start al ao an b c:aF E f265 aE [D.io fC u64 al ao an,D.s (ints u64 b),D.s (sc (int i64 c))]=nS.L2 al ao an b c 0 (b.length:Int) 0:=eJ aU
theorem kC a b c d e f g h:L2 a b c d e f g h=letI A:=b+(i64.wrap (e+h)).toNat;letI B:=a.getD A 0+d.getD h.toNat 0+f;aB (decide (h<g)) (if 0<=i64.wrap (e+h)/\i64.wrap (e+h)<(c:Int)then if 0<=h/\h<(d.length:Int)then aQ (0<=a.getD A 0/\0<=d.getD h.toNat 0/\0<=f/\f<=1) (if 0<=i64.wrap (e+h)/\i64.wrap (e+h)<(c:Int)then nS.L2 (a.set A (B%18446744073709551616)) b c d e (B/18446744073709551616) g (i64.wrap (h+1))else none)else none else none) (nS.L7 a b c f (i64.wrap (e+(d.length:Int)))):=lJ aU
theorem uI a b c d e:L7 a b c d e=letI B:=b+e.toNat;letI A:=a.getD B 0+(0:Int)+d;aB (decide (0<d)) (if 0<=e/\e<(c:Int)then aQ (0<=a.getD B 0/\(0:Int)<=(0:Int)/\0<=d/\d<=1) (if 0<=e/\e<(c:Int)then nS.L7 (a.set B (A%18446744073709551616)) b c (A/18446744073709551616) (i64.wrap (e+1))else none)else none) (some [D.io 22 u64 a 0 0]):=lJ aU
def sp(x:List Int×Nat×Nat)(b:List Int)(k:Int):Prop×List D:=(M6.cB x.1/\x.2.1=0/\x.2.2=x.1.length/\M6.cB b/\0<=k/\k.toNat+b.length<=x.1.length/\x.1.length<=1099511627776/\M6.val x.1+M6.val b*18446744073709551616^k.toNat<18446744073709551616^x.1.length,
 [.io fC .u64 (M6.nY x.1.length (M6.val x.1+M6.val b*18446744073709551616^k.toNat)) 0 0])
theorem bDI{T N:Nat}(hN:N<=1099511627776)(hT:T<18446744073709551616^N):∀(r j:Nat) (z:List Int) (c:Int),j+r=N+1->z.length=N->M6.cB z->0<=c->c<=1->M6.val z+18446744073709551616^j*c.toNat=T ->
  L7 z 0 N c j=some [.io fC .u64 (M6.nY N T) 0 0]:=by
 intro r
 induction r with
 |zero =>
  intro j z c hj hz hd h0 h1 hv;have hc:c=0:=by
   have h2:=M6.oI (show N<=j by omega);rcases bYP 0 c with h3 |h3
   ·have:c=1:=by omega
    subst this;simp at hv;omega
   ·omega
  subst hc;rw[uI,aI];simp at hv;rw[M6.nM hd hz hv]
 |succ r ih =>
  intro j z c hj hz hd h0 h1 hv
  by_cases hc:c=0
  ·subst hc;rw[uI,aI];simp at hv;rw[M6.nM hd hz hv]
  ·have aRO:c=1:=by omega
   subst aRO;have bKF:j<N:=by
    rcases bNQ j N with h |h
    ·exact h
    ·have h2:=M6.oI h;simp at hv;omega
   have g:=hd.get j;have w2:i64.wrap ((j:Int)+1)=((j+1:Nat):Int):=by rw[wrap_i64];omega
   rw[uI,aO,aT,bND,bQX,gP ⟨g.1,by omega,by omega,by omega⟩,aT,w2];refine ih (j+1) _ _ (by omega) (by simp[hz]) (M6.lV hd (by omega)) (by omega) (by omega) ?_;have hs:=M6.oV (a:=z) (j:=j) (by omega) ((z.getD j 0+0+1)%18446744073709551616);rw[bSA,bSF];generalize z.getD j 0=x at *;generalize M6.val (z.set j _)=V at *;generalize 18446744073709551616^j=B at *;have e:((x+0+1)%18446744073709551616).toNat+18446744073709551616*((x+0+1)/18446744073709551616).toNat=x.toNat+1:=by omega
   have e2:B*((x+0+1)%18446744073709551616).toNat+B*(18446744073709551616*((x+0+1)/18446744073709551616).toNat)=B*x.toNat+B:=by
    rw[<-bSB,e,bSB,bNL]
   simp at hv;omega
theorem bDK{b:List Int}{V N k:Nat}(hN:N<=1099511627776)(hb:M6.cB b)(hk:k+b.length<=N)(hT:V+M6.val b*18446744073709551616^k<18446744073709551616^N):∀(r i:Nat) (z:List Int) (c:Int),i+r=b.length->z.length=N->M6.cB z->0<=c->c<=1 ->
  M6.val z+18446744073709551616^(k+i)*c.toNat=V+M6.val (b.take i)*18446744073709551616^k ->
  L2 z 0 N b k c b.length i=some [.io fC .u64 (M6.nY N (V+M6.val b*18446744073709551616^k)) 0 0]:=by
 intro r
 induction r with
 |zero =>
  intro i z c hi hz hd h0 h1 hv;have w1:i64.wrap ((k:Int)+(b.length:Int))=((k+b.length:Nat):Int):=by rw[wrap_i64];omega
  rw[kC,aI,w1];have aPA:i=b.length:=by omega
  subst aPA;rw[bTW]at hv;exact bDI hN hT (N+1-(k+b.length)) (k+b.length) z c (by omega) hz hd h0 h1 hv
 |succ r ih =>
  intro i z c hi hz hd h0 h1 hv;have g:=hd.get (k+i);have g2:=hb.get i;have w1:i64.wrap ((k:Int)+(i:Int))=((k+i:Nat):Int):=by rw[wrap_i64];omega
  have w2:i64.wrap ((i:Int)+1)=((i+1:Nat):Int):=by rw[wrap_i64];omega
  rw[kC,aO,w1,aT,aT,bND,bQX,bQX,gP ⟨g.1,g2.1,h0,h1⟩,aT,w2];refine ih (i+1) _ _ (by omega) (by simp[hz]) (M6.lV hd (by omega)) (by omega) (by omega) ?_;have hs:=M6.oV (a:=z) (j:=k+i) (by omega) ((z.getD (k+i) 0+b.getD i 0+c)%18446744073709551616);have e0:M6.val (b.take (i+1))*18446744073709551616^k=M6.val (b.take i)*18446744073709551616^k+18446744073709551616^(k+i)*(b.getD i 0).toNat:=by
   rw[M6.cA,bNV,bSD];congr 1;rw[bYB,bRZ (18446744073709551616^i)]
  rw[e0,show k+(i+1)=(k+i)+1 from by omega,bSA,bSF];generalize z.getD (k+i) 0=x at *;generalize b.getD i 0=y at *;generalize M6.val (z.set (k+i) _)=W at *;generalize 18446744073709551616^(k+i)=B at *;generalize M6.val (b.take i)*18446744073709551616^k=U at *;have e:((x+y+c)%18446744073709551616).toNat+18446744073709551616*((x+y+c)/18446744073709551616).toNat=x.toNat+y.toNat+c.toNat:=by omega
  have e2:B*((x+y+c)%18446744073709551616).toNat+B*(18446744073709551616*((x+y+c)/18446744073709551616).toNat)=B*x.toNat+B*y.toNat+B*c.toNat:=by
   rw[<-bSB,e,bSB,bSB]
  omega
theorem spec(x:List Int×Nat×Nat)(b:List Int)(k:Int)(h:(sp x b k).1):aF E f265 aE [(Ai fC .u64).put x,(pI .u64).put b,(pN .i64).put k]=some (sp x b k).2/\∃rs lC,(sp x b k).2=rs ++ [.io fC .u64 lC 0 0]/\lC.length=x.1.length:=by
 obtain⟨xl,xo,xn⟩:=x;obtain⟨hd,ho,hn,hb,hk,aBJ,hl,hT⟩:=h;simp only at hd ho hn hb hk aBJ hl hT;subst ho;subst hn;obtain⟨k,rfl⟩:=bSE hk;rw[bQX]at aBJ hT;refine⟨(start xl 0 xl.length b k).trans ?_,[],_,rfl,M6.gG hT⟩;have:=bDK hl hb aBJ hT b.length 0 xl 0 (by omega) rfl hd (by omega) (by omega) (by simp[M6.val]);exact this
def aH:dC:=orc3 (Ai fC .u64) (pI .u64) (pN .i64) sp
theorem fnok:kO prog E 265 f265 aE:=tJ pE mixed (kK _ rfl aD (mI)) func265 rfl rfl rfl rfl rfl
theorem ok:oD prog base.glob 265 aH:=fnok.Bp rfl spec
end nS
namespace Dm
def E:Env:={ ({ base with C:=pA [(265,nS.aH)] (callsOf [(226,xM.aH),(199,lM.prec)]),ioF:=Jl [(265,nS.aH)],n0:=1,io:=[0] })with nt:=34,own:=[],keep:=fun k=>(tlook [(1,[0,1,2,6])] k).getD [],cut:=tlook [] }
def aE:=bd f249
theorem aU:Nk E aE:=nk
def L1(a:List Int)(b:Nat)(c:Nat) d f g:=nU E f249 aE 1 [(A.any,some { e:=(22:Nat),cont:=rH.ints u64 a }),(A.v (V.one (L.view 0 b c)),none),gD d,gD f,bR g]
theorem start al ao an b c:aF E f249 aE [D.io fC u64 al ao an,D.s (ints u64 b),D.s (ints u64 c)]=Dm.L1 al ao an b c 0:=eJ aU
theorem Lr a b c d e f:L1 a b c d e f=letI C:=(d.length:Int);letI B:=f+(e.length:Int);letI A:=bSY f.toNat (bSX (if C<i64.wrap B then C else i64.wrap B).toNat d);aB (decide (f<C)) (if 0<=f/\(f<=if C<i64.wrap B then C else i64.wrap B)/\((if C<i64.wrap B then C else i64.wrap B)<=if C<i64.wrap B then C else i64.wrap B)/\(if C<i64.wrap B then C else i64.wrap B)<=C then aQ (M6.cB A/\A.length<=1099511627776) (aC (M6.dg (M6.val A)) fun g=>aQ (lM.can g e) (aC (M6.dg (M6.val g*M6.val e)) fun h=>aQ (M6.cB a/\b=0/\c=a.length/\M6.cB h/\0<=f/\f.toNat+h.length<=a.length/\a.length<=1099511627776/\M6.val a+M6.val h*(18446744073709551616:Nat)^f.toNat<(18446744073709551616:Nat)^a.length) (aC (M6.nY a.length (M6.val a+M6.val h*(18446744073709551616:Nat)^f.toNat)) fun i=>Dm.L1 i b c d e (i64.wrap B))))else none) (some [D.io 22 u64 a 0 0]):=lJ aU
def sp(x:List Int×Nat×Nat)(a b:List Int):Prop×List D:=(M6.cB x.1/\x.2.1=0/\x.2.2=x.1.length/\M6.cD a/\M6.cD b/\x.1.length=a.length+b.length/\x.1.length<=549755813888/\M6.val x.1=0/\0<b.length/\2*b.length<=a.length/\lM.less (a.length+b.length),
 [.io fC .u64 (M6.nY x.1.length (M6.val a*M6.val b)) 0 0])
theorem bDL{a b:List Int}{N:Nat}(hN:N<=549755813888)(ha:M6.cD a)(hb:M6.cD b)(bBY:N=a.length+b.length)(h0:0<b.length)(h2:2*b.length<=a.length)(hc:lM.less (a.length+b.length)):∀(r at_:Nat) (z:List Int),a.length<=at_+r->at_<=N->z.length=N->M6.cB z->M6.val z=M6.val (a.take at_)*M6.val b ->
  L1 z 0 N a b at_=some [.io fC .u64 (M6.nY N (M6.val a*M6.val b)) 0 0]:=by
 intro r
 induction r with
 |zero =>
  intro t z hr ht hz hd hv;rw[Lr,aI];rw[M6.cE (by omega)]at hv;rw[M6.nM hd hz hv]
 |succ r ih =>
  intro t z hr ht hz hd hv
  by_cases iN:t<a.length
  ·have w:i64.wrap ((t:Int)+(b.length:Int))=((t+b.length:Nat):Int):=by rw[wrap_i64];omega
   obtain⟨e,he⟩:∃e:Nat,e=min a.length (t+b.length):=⟨_,rfl⟩;have bKK:(if(a.length:Int)<((t+b.length:Nat):Int)then(a.length:Int)else((t+b.length:Nat):Int))=(e:Int):=by split <;> omega
   have Ss:((a.take e).drop t).length=e-t:=by rw[List.length_drop,bPR];omega
   have bFE:M6.cB ((a.take e).drop t):=(ha.iX.take _).drop _;have bAH:=M6.cK bFE;rw[Ss]at bAH;have Jb:M6.val (a.take e)=M6.val (a.take t)+18446744073709551616^t*M6.val ((a.take e).drop t):=by
    have:=M6.gE (a.take e) (n:=t) (by rw[bPR];omega);rw[List.take_take,show min t e=t from by omega]at this;exact this
   have bFS:=M6.cK hb.iX;have gV:=M6.gQ ha.iX e;have h1:M6.val ((a.take e).drop t)*M6.val b<18446744073709551616^(e-t+b.length):=by
    rw[bSD];exact bVP bAH bFS
   have h3:M6.val (a.take e)*M6.val b<18446744073709551616^N:=by
    have:M6.val (a.take e)*M6.val b<18446744073709551616^(e+b.length):=by
     rw[bSD];exact bVP gV bFS
    exact bOB this (M6.oI (by omega))
   have h4:M6.val z+M6.val ((a.take e).drop t)*M6.val b*18446744073709551616^t=M6.val (a.take e)*M6.val b:=by
    rw[hv,Jb,bNV];congr 1;rw[bRZ (18446744073709551616^t),bYB]
   rw[Lr,aO,w,bKK,if_pos ⟨by omega,by omega,by omega,by omega⟩];simp only[bQX];rw[gP ⟨bFE,by omega⟩,aL,gP (hc _ _ (M6.aW _) hb (by have:=M6.cR bAH;omega)),aL,M6.bJ,M6.bJ];have Dz:=M6.cR h1;rw[gP ⟨hd,by trivial,by omega,M6.iP _,by omega,by omega,by omega,by rw[h4,hz];exact h3⟩,aL,hz,h4];refine ih (t+b.length) _ (by omega) (by omega) (M6.gG h3) M6.kJ ?_;rw[M6.kI];congr 1
   by_cases aVJ:t+b.length<=a.length
   ·rw[he,Nat.min_eq_right aVJ]
   ·rw[he,bTI (by omega),bTW,M6.cE (by omega)]
  ·rw[Lr,aI];rw[M6.cE (by omega)]at hv;rw[M6.nM hd hz hv]
theorem spec(x:List Int×Nat×Nat)(a b:List Int)(h:(sp x a b).1):aF E f249 aE [(Ai fC .u64).put x,(pI .u64).put a,(pI .u64).put b]=some (sp x a b).2/\∃rs lC,(sp x a b).2=rs ++ [.io fC .u64 lC 0 0]/\lC.length=x.1.length:=by
 obtain⟨xl,xo,xn⟩:=x;obtain⟨hd,ho,hn,ha,hb,hl,hN,hv,h0,h2,hc⟩:=h;simp only at hd ho hn hl hN hv;subst ho;subst hn;refine⟨(start xl 0 xl.length a b).trans ?_,[],_,rfl,M6.gG ?_⟩
 ·exact bDL hN ha hb hl h0 h2 hc a.length 0 xl (by omega) (by omega) rfl hd (by simp[hv,M6.val])
 ·show _<18446744073709551616^xl.length;rw[hl,bSD];exact bVP (M6.cK ha.iX) (M6.cK hb.iX)
def aH:dC:=orc3 (Ai fC .u64) (pI .u64) (pI .u64) sp
theorem fnok:kO prog E 249 f249 aE:=tJ pE mixed (kM _ _ rfl rfl (kU nS.ok uY) (aA xM.ok (aA lM.Wy aD)) (mI)) func249 rfl rfl rfl rfl rfl
theorem ok:oD prog base.glob 249 aH:=fnok.Bp rfl spec
end Dm
namespace aQL
def E:=mE [(226,xM.aH)] 29 [16,21] [] []
def aE:=bd f266
theorem aU:Nk E aE:=nk
theorem start a b:aF E f266 aE [D.s (ints u64 a),D.s (sc (int i64 b))]=letI C:=bSY 0 (bSX b.toNat a);letI A:=(a.length:Int);letI F:=bSX A.toNat a;letI B:=bSY 0 F;aB (decide (A<=b)) (if(0:Int)<=(0:Int)/\0<=A/\A<=A/\A<=A then aQ (M6.cB B/\B.length<=1099511627776) (some [D.s (ints u64 (M6.dg (M6.val B))),D.s (sc (slice none 0 0))])else none) (if(0:Int)<=(0:Int)/\0<=b/\b<=b/\b<=A then aQ (M6.cB C/\C.length<=1099511627776) (if 0<=b/\b<=A/\A<=A/\A<=A then some [D.s (ints u64 (M6.dg (M6.val C))),D.s (ints u64 (bSY b.toNat F))]else none)else none):=eJ aU
def sp(a:List Int)(k:Int):Prop×List D:=(M6.cD a/\a.length<=1099511627776/\0<=k,[.s (.ints .u64 (M6.dg (M6.val a%18446744073709551616^k.toNat))),.s (.ints .u64 (M6.dg (M6.val a/18446744073709551616^k.toNat)))])
theorem spec:Eu E f266 aE (pI .u64) (pN .i64) sp:=by
 rintro a k ⟨ha,hl,h0⟩;obtain⟨k,rfl⟩:=bSE h0;simp only[sp,bQX];have Zr:=start a (k:Int)
 by_cases hk:a.length<=k
 ·rw[aO,aT,bQX,bTW,bTJ,gP ⟨ha.iX,hl⟩]at Zr;refine⟨_,Zr,?_⟩;have h1:M6.val a<18446744073709551616^k:=bOB (M6.cK ha.iX) (M6.oI hk);rw[bXQ h1,bSZ h1,M6.bN];exact .cons (.refl _) (.cons (.nil _) .nil)
 ·rw[aI,aT,bQX,bQX,bTJ,gP ⟨ha.iX.take _,by rw[bPR];omega⟩,aT,bTW,M6.qN ha.iX]at Zr;refine⟨_,Zr,?_⟩;have h2:a.drop k=M6.dg (M6.val a/18446744073709551616^k):=by
   rw[<-M6.jH ha.iX];exact M6.Qe ha k
  rw[h2];exact .refl _
def aH:dC:=orc2 (pI .u64) (pN .i64) sp
theorem ok:OK 266 aH:=(eI E aE (aA xM.ok aD) func266).aBB rfl spec
end aQL
namespace PSum
def E:Env:={ ({ base with C:=pA [(265,nS.aH)] (callsOf [(226,xM.aH)]),ioF:=Jl [(265,nS.aH)] })with nt:=25,own:=[24],keep:=fun k=>(tlook [] k).getD [],cut:=tlook [(3,[0,1])] }
def aE:=bd f267
theorem aU:Nk E aE:=nk
def J3 a b:=lD E f267 aE 3 [gD a,gD b]
theorem start a b:aF E f267 aE [D.s (ints u64 a),D.s (ints u64 b)]=aB (decide ((a.length:Int)<(b.length:Int))) (PSum.J3 b a) (PSum.J3 a b):=eJ aU
theorem gL a b:J3 a b=letI F:=(a.length:Int);letI G:=F+(1:Int);letI B:=i64.wrap G;letI A:=bSX B.toNat a ++ bSY (min a.length B.toNat) (bPE B.toNat (0:Int));letI C:=M6.nY A.length (M6.val A+M6.val b*1);if 0<=i64.wrap G/\i64.wrap G<=i64.wrap G/\i64.wrap G<=8796093022208 then aQ (M6.cB A/\(0:Nat)=(0:Nat)/\B.toNat=A.length/\M6.cB b/\(0:Int)<=(0:Int)/\(0:Nat)+b.length<=A.length/\A.length<=1099511627776/\M6.val A+M6.val b*1<(18446744073709551616:Nat)^A.length) (aQ (M6.cB C/\C.length<=1099511627776) (some [D.s (ints u64 (M6.dg (M6.val C)))]))else none:=cJ aU
def sp(a b:List Int):Prop×List D:=(M6.cD a/\M6.cD b/\a.length<=549755813888/\b.length<=549755813888,[.s (.ints .u64 (M6.dg (M6.val a+M6.val b)))])
theorem aKV{a:List Int}{n:Nat}:bSX (a.length+n) a ++ bSY (min a.length (a.length+n)) (bPE (a.length+n) (0:Int))=a ++ bPE n 0:=by
 rw[bUM (by omega),bYQ];congr 2;omega
theorem J{a b:List Int}(ha:M6.cD a)(hb:M6.cD b)(hl:a.length<=549755813888)(aMZ:b.length<=a.length):J3 a b=some [.s (.ints .u64 (M6.dg (M6.val a+M6.val b)))]:=by
 have w:i64.wrap ((a.length:Int)+1)=((a.length+1:Nat):Int):=by rw[wrap_i64];omega
 have h1:=M6.cK ha.iX;have h2:=M6.cK hb.iX;have h3:=M6.oI aMZ;have aJW:M6.val a+M6.val b<18446744073709551616^(a.length+1):=by rw[bSA];omega
 have hv:M6.val (a ++ bPE 1 0)=M6.val a:=by rw[M6.iB,M6.iH];omega
 rw[gL,w,bQX,aKV,aT,hv,bNL,bOE,bYN,
  gP ⟨M6.oQ.2 ⟨ha.iX,M6.iJ _⟩,rfl,rfl,hb.iX,by omega,by omega,by omega,aJW⟩,gP ⟨M6.kJ,by rw[M6.gG aJW];omega⟩,M6.kI]
theorem spec:fO E f267 aE (pI .u64) (pI .u64) sp:=by
 rintro a b ⟨ha,hb,h1,h2⟩;refine(start a b).trans ?_
 by_cases hl:a.length<b.length
 ·rw[aO,J hb ha h2 (by omega),bTD];rfl
 ·rw[aI,J ha hb h1 (by omega)];rfl
def aH:dC:=orc2 (pI .u64) (pI .u64) sp
theorem fnok:qI prog E 267 f267 aE:=aAE pE mixed (kM _ _ rfl rfl (kU nS.ok uY) (aA xM.ok aD) (mI)) func267 rfl rfl rfl
theorem ok:lA prog base.glob 267 aH:=fnok.lP rfl spec
end PSum
namespace Eg
def E:Env:={ ({ base with n0:=1,io:=[0] })with nt:=47,own:=[],keep:=fun k=>(tlook [(7,[0,4,6]),(2,[0,1,4,8,9])] k).getD [],cut:=tlook [] }
def aE:=bd f268
theorem aU:Nk E aE:=nk
def L2(a:List Int)(b:Nat)(c:Nat) d f g h:=nU E f268 aE 2 [(A.any,some { e:=(22:Nat),cont:=rH.ints u64 a }),(A.v (V.one (L.view 0 b c)),none),gD d,cY f,bR g,bR h]
def L7(a:List Int)(b:Nat)(c:Nat) d f:=nU E f268 aE 7 [(A.any,some { e:=(22:Nat),cont:=rH.ints u64 a }),(A.v (V.one (L.view 0 b c)),none),cY d,bR f]
theorem start al ao an b:aF E f268 aE [D.io fC u64 al ao an,D.s (ints u64 b)]=Eg.L2 al ao an b 0 (b.length:Int) 0:=eJ aU
theorem kC a b c d e f g:L2 a b c d e f g=letI A:=b+g.toNat;aB (decide (g<f)) (if 0<=g/\g<(c:Int)then if 0<=g/\g<(d.length:Int)then aQ (0<=a.getD A 0/\0<=d.getD g.toNat 0/\d.getD g.toNat 0<(18446744073709551616:Int)/\0<=e/\e<=1) (if 0<=g/\g<(c:Int)then Eg.L2 (a.set A ((a.getD A 0-d.getD g.toNat 0-e)%18446744073709551616)) b c d (if a.getD A 0<d.getD g.toNat 0+e then(1:Int)else(0:Int)) f (i64.wrap (g+1))else none)else none else none) (Eg.L7 a b c e (d.length:Int)):=lJ aU
theorem uI a b c d e:L7 a b c d e=letI A:=b+e.toNat;aB (decide (0<d)) (if 0<=e/\e<(c:Int)then aQ (0<=a.getD A 0/\(0:Int)<=(0:Int)/\(0:Int)<(18446744073709551616:Int)/\0<=d/\d<=1) (if 0<=e/\e<(c:Int)then Eg.L7 (a.set A ((a.getD A 0-(0:Int)-d)%18446744073709551616)) b c (if a.getD A 0<(0:Int)+d then(1:Int)else(0:Int)) (i64.wrap (e+1))else none)else none) (some [D.io 22 u64 a 0 0]):=lJ aU
def sp(x:List Int×Nat×Nat)(b:List Int):Prop×List D:=(M6.cB x.1/\x.2.1=0/\x.2.2=x.1.length/\M6.cB b/\b.length<=x.1.length/\x.1.length<=1099511627776/\M6.val b<=M6.val x.1,
 [.io fC .u64 (M6.nY x.1.length (M6.val x.1-M6.val b)) 0 0])
theorem bDI{V W N:Nat}(hN:N<=1099511627776)(hT:W<=V):∀(r j:Nat) (z:List Int) (c:Int),j+r=N+1->z.length=N->M6.cB z->0<=c->c<=1->M6.val z+W=V+18446744073709551616^j*c.toNat ->
  L7 z 0 N c j=some [.io fC .u64 (M6.nY N (V-W)) 0 0]:=by
 intro r
 induction r with
 |zero =>
  intro j z c hj hz hd h0 h1 hv;have hc:c=0:=by
   have h2:=M6.oI (show N<=j by omega);have h3:=M6.cK hd;rw[hz]at h3;rcases bYP 0 c with h4 |h4
   ·have:c=1:=by omega
    subst this;simp at hv;omega
   ·omega
  subst hc;rw[uI,aI];simp at hv;rw[M6.nM hd hz (v:=V-W) (by omega)]
 |succ r ih =>
  intro j z c hj hz hd h0 h1 hv
  by_cases hc:c=0
  ·subst hc;rw[uI,aI];simp at hv;rw[M6.nM hd hz (v:=V-W) (by omega)]
  ·have aRO:c=1:=by omega
   subst aRO;have bKF:j<N:=by
    rcases bNQ j N with h |h
    ·exact h
    ·have h2:=M6.oI h;have h3:=M6.cK hd;rw[hz]at h3;simp at hv;omega
   have g:=hd.get j;have w2:i64.wrap ((j:Int)+1)=((j+1:Nat):Int):=by rw[wrap_i64];omega
   rw[uI,aO,aT,bND,bQX,gP ⟨g.1,by omega,by omega,by omega,by omega⟩,aT,w2];refine ih (j+1) _ _ (by omega) (by simp[hz]) (M6.lV hd (by omega)) (by split <;> omega) (by split <;> omega) ?_;have hs:=M6.oV (a:=z) (j:=j) (by omega) ((z.getD j 0-0-1)%18446744073709551616);rw[bSA,bSF];generalize z.getD j 0=x at *;generalize M6.val (z.set j _)=U at *;generalize 18446744073709551616^j=B at *;have e:((x-0-1)%18446744073709551616).toNat+1=x.toNat+18446744073709551616*(if x<0+1 then(1:Int)else 0).toNat:=by split <;> omega
   have e2:B*((x-0-1)%18446744073709551616).toNat+B=B*x.toNat+B*(18446744073709551616*(if x<0+1 then(1:Int)else 0).toNat):=by
    rw[<-bSB,<-e,bSB,bNL]
   simp at hv;omega
theorem bDK{b:List Int}{V N:Nat}(hN:N<=1099511627776)(hb:M6.cB b)(hk:b.length<=N)(hT:M6.val b<=V):∀(r i:Nat) (z:List Int) (c:Int),i+r=b.length->z.length=N->M6.cB z->0<=c->c<=1 ->
  M6.val z+M6.val (b.take i)=V+18446744073709551616^i*c.toNat ->
  L2 z 0 N b c b.length i=some [.io fC .u64 (M6.nY N (V-M6.val b)) 0 0]:=by
 intro r
 induction r with
 |zero =>
  intro i z c hi hz hd h0 h1 hv;rw[kC,aI];have aPA:i=b.length:=by omega
  subst aPA;rw[bTW]at hv;exact bDI hN hT (N+1-b.length) b.length z c (by omega) hz hd h0 h1 hv
 |succ r ih =>
  intro i z c hi hz hd h0 h1 hv;have g:=hd.get i;have g2:=hb.get i;have w2:i64.wrap ((i:Int)+1)=((i+1:Nat):Int):=by rw[wrap_i64];omega
  rw[kC,aO,aT,aT,bND,bQX,gP ⟨g.1,g2.1,g2.2,h0,h1⟩,aT,w2];refine ih (i+1) _ _ (by omega) (by simp[hz]) (M6.lV hd (by omega)) (by split <;> omega) (by split <;> omega) ?_;have hs:=M6.oV (a:=z) (j:=i) (by omega) ((z.getD i 0-b.getD i 0-c)%18446744073709551616);rw[M6.cA,bSA,bSF];generalize z.getD i 0=x at *;generalize b.getD i 0=y at *;generalize M6.val (z.set i _)=W at *;generalize 18446744073709551616^i=B at *;generalize M6.val (b.take i)=U at *;have e:((x-y-c)%18446744073709551616).toNat+y.toNat+c.toNat=x.toNat+18446744073709551616*(if x<y+c then(1:Int)else 0).toNat:=by split <;> omega
  have e2:B*((x-y-c)%18446744073709551616).toNat+B*y.toNat+B*c.toNat=B*x.toNat+B*(18446744073709551616*(if x<y+c then(1:Int)else 0).toNat):=by
   rw[<-bSB,<-bSB,e,bSB]
  omega
theorem spec(x:List Int×Nat×Nat)(b:List Int)(h:(sp x b).1):aF E f268 aE [(Ai fC .u64).put x,(pI .u64).put b]=some (sp x b).2/\∃rs lC,(sp x b).2=rs ++ [.io fC .u64 lC 0 0]/\lC.length=x.1.length:=by
 obtain⟨xl,xo,xn⟩:=x;obtain⟨hd,ho,hn,hb,aBJ,hl,hT⟩:=h;simp only at hd ho hn hb aBJ hl hT;subst ho;subst hn;refine⟨(start xl 0 xl.length b).trans ?_,[],_,rfl,M6.gG (by have:=M6.cK hd;simp only;omega)⟩;have:=bDK hl hb aBJ hT b.length 0 xl 0 (by omega) rfl hd (by omega) (by omega) (by simp[M6.val]);exact this
def aH:dC:=orc2 (Ai fC .u64) (pI .u64) sp
theorem fnok:kO prog E 268 f268 aE:=tJ pE mixed (kK _ rfl aD (mI)) func268 rfl rfl rfl rfl rfl
theorem ok:oD prog base.glob 268 aH:=fnok.lP rfl spec
end Eg
namespace Ft
def E:Env:={ ({ base with C:=pA [(265,nS.aH),(268,Eg.aH)] (callsOf [(226,xM.aH),(266,aQL.aH),(267,PSum.aH),(199,lM.prec)]),ioF:=Jl [(265,nS.aH),(268,Eg.aH)],n0:=1,io:=[0] })with nt:=62,own:=[42],keep:=fun k=>(tlook [] k).getD [],cut:=tlook [] }
def aE:=bd f250
theorem aU:Nk E aE:=nk
theorem start al ao an b c:aF E f250 aE [D.io fC u64 al ao an,D.s (ints u64 b),D.s (ints u64 c)]=letI B:=i64.wrap ((b.length:Int)+(1:Int));letI H:=B.tdiv 2;letI F:=i64.wrap ((2:Int)*i64.wrap H);letI C:=i64.wrap H;aQ (M6.cD b/\b.length<=1099511627776/\0<=i64.wrap H) (aC (M6.dg (M6.val b%(18446744073709551616:Nat)^C.toNat)) fun a=>aC (M6.dg (M6.val b/(18446744073709551616:Nat)^C.toNat)) fun d=>aQ (M6.cD c/\c.length<=1099511627776/\0<=i64.wrap H) (aC (M6.dg (M6.val c%(18446744073709551616:Nat)^C.toNat)) fun e=>aC (M6.dg (M6.val c/(18446744073709551616:Nat)^C.toNat)) fun f=>aQ (lM.can a e) (aC (M6.dg (M6.val a*M6.val e)) fun g=>letI A:=bSX ao al ++ (bSX an g ++ bSY (ao+min g.length an) al);aQ (lM.can d f) (aC (M6.dg (M6.val d*M6.val f)) fun h=>aQ (M6.cD a/\M6.cD d/\a.length<=549755813888/\d.length<=549755813888) (aC (M6.dg (M6.val a+M6.val d)) fun i=>aQ (M6.cD e/\M6.cD f/\e.length<=549755813888/\f.length<=549755813888) (aC (M6.dg (M6.val e+M6.val f)) fun j=>aQ (lM.can i j) (aC (M6.dg (M6.val i*M6.val j)) fun k=>aQ (M6.cB k/\(0:Nat)=(0:Nat)/\k.length=k.length/\M6.cB g/\g.length<=k.length/\k.length<=1099511627776/\M6.val g<=M6.val k) (aC (M6.nY k.length (M6.val k-M6.val g)) fun l=>aQ (M6.cB l/\(0:Nat)=(0:Nat)/\k.length=l.length/\M6.cB h/\h.length<=l.length/\l.length<=1099511627776/\M6.val h<=M6.val l) (aC (M6.nY l.length (M6.val l-M6.val h)) fun m=>letI G:=M6.dg (M6.val m);if u64=u64/\ao+an<=al.length then aQ (M6.cB m/\m.length<=1099511627776) (aQ (M6.cB A/\ao=0/\an=A.length/\M6.cB G/\0<=i64.wrap H/\C.toNat+G.length<=A.length/\A.length<=1099511627776/\M6.val A+M6.val G*(18446744073709551616:Nat)^C.toNat<(18446744073709551616:Nat)^A.length) (aC (M6.nY A.length (M6.val A+M6.val G*(18446744073709551616:Nat)^C.toNat)) fun n=>aQ (M6.cB n/\ao=0/\an=n.length/\M6.cB h/\0<=i64.wrap ((2:Int)*i64.wrap H)/\F.toNat+h.length<=n.length/\n.length<=1099511627776/\M6.val n+M6.val h*(18446744073709551616:Nat)^F.toNat<(18446744073709551616:Nat)^n.length) (aC (M6.nY n.length (M6.val n+M6.val h*(18446744073709551616:Nat)^F.toNat)) fun o=>some [D.io 22 u64 o 0 0])))else none))))))))):=eJ aU
def sp(x:List Int×Nat×Nat)(a b:List Int):Prop×List D:=(M6.cB x.1/\x.2.1=0/\x.2.2=x.1.length/\M6.cD a/\M6.cD b/\x.1.length=a.length+b.length/\x.1.length<=274877906944/\M6.val x.1=0/\4<=b.length/\b.length<=a.length/\lM.less (a.length+b.length),
 [.io fC .u64 (M6.nY x.1.length (M6.val a*M6.val b)) 0 0])
theorem aZF(a0 a1 b0 b1 K:Nat):(a0+K*a1)*(b0+K*b1)=a0*b0+(a0*b1+a1*b0)*K+a1*b1*(K*K):=by grind
theorem aZE(a0 a1 b0 b1:Nat):(a0+a1)*(b0+b1)=a0*b0+a1*b1+(a0*b1+a1*b0):=by grind
theorem Bv{v n k:Nat}(h:v<18446744073709551616^n):v/18446744073709551616^k<18446744073709551616^(n-k):=by
 apply bSW;rw[<-bSD];exact bOB h (M6.oI (by omega))
theorem Xb{v k N:Nat}(hk:k<=N)(h:v*18446744073709551616^k<18446744073709551616^N):v<18446744073709551616^(N-k):=by
 have e:18446744073709551616^N=18446744073709551616^(N-k)*18446744073709551616^k:=by rw[<-bSD];congr 1;omega
 rw[e]at h;exact Nat.lt_of_mul_lt_mul_right h
theorem spec(x:List Int×Nat×Nat)(a b:List Int)(h:(sp x a b).1):aF E f250 aE [(Ai fC .u64).put x,(pI .u64).put a,(pI .u64).put b]=some (sp x a b).2/\∃rs lC,(sp x a b).2=rs ++ [.io fC .u64 lC 0 0]/\lC.length=x.1.length:=by
 obtain⟨xl,xo,xn⟩:=x;obtain⟨hd,ho,hn,ha,hb,hl,hN,hv,h4,aMZ,hc⟩:=h;simp only at hd ho hn hl hN hv;subst ho;subst hn;have aFC:=M6.cK ha.iX;have aXZ:=M6.cK hb.iX;have aVT:M6.val a*M6.val b<18446744073709551616^xl.length:=by rw[hl,bSD];exact bVP aFC aXZ
 refine⟨(start xl 0 xl.length a b).trans ?_,[],_,rfl,M6.gG aVT⟩;obtain⟨k,hk⟩:∃k:Nat,k=(a.length+1)/2:=⟨_,rfl⟩;have w:i64.wrap ((i64.wrap ((a.length:Int)+1)).tdiv 2)=(k:Int):=by
  rw[wrap_i64 (n:=(a.length:Int)+1),bUQ (by omega),wrap_i64];omega
 have w2:i64.wrap (2*(k:Int))=((2*k:Nat):Int):=by rw[wrap_i64];omega
 have Sp:xl=bPE xl.length 0:=by
  have:=M6.nM hd rfl hv;rw[M6.aFI]at this;exact this
 rw[w,w2,gP ⟨ha,by omega,by omega⟩];simp only[aL,bQX];have a0l:=M6.cR (bPJ (M6.val a) (bQA (n:=k) (by omega:0<18446744073709551616)));have b0l:=M6.cR (bPJ (M6.val b) (bQA (n:=k) (by omega:0<18446744073709551616)));have a1l:=M6.cR (Bv (k:=k) aFC);have b1l:=M6.cR (Bv (k:=k) aXZ);have hA:=bXS (M6.val a) (18446744073709551616^k);have hB:=bXS (M6.val b) (18446744073709551616^k);have ea0:M6.val a%18446744073709551616^k<18446744073709551616^k:=bPJ _ (cI);have eb0:M6.val b%18446744073709551616^k<18446744073709551616^k:=bPJ _ (cI);have ea1:M6.val a/18446744073709551616^k<18446744073709551616^k:=bOB (Bv aFC) (M6.oI (by omega));have eb1:M6.val b/18446744073709551616^k<18446744073709551616^k:=bOB (Bv aXZ) (M6.oI (by omega));generalize M6.val a%18446744073709551616^k=a0 at *;generalize M6.val a/18446744073709551616^k=a1 at *;generalize M6.val b%18446744073709551616^k=b0 at *;generalize M6.val b/18446744073709551616^k=b1 at *;have s6:a0+a1<18446744073709551616^(k+1):=by rw[bSA];omega
 have s7:b0+b1<18446744073709551616^(k+1):=by rw[bSA];omega
 have s6l:=M6.cR s6;have s7l:=M6.cR s7;have Xn:=aZF a0 a1 b0 b1 (18446744073709551616^k);rw[hA,hB]at Xn;have hmid:=aZE a0 a1 b0 b1;have s8:(a0+a1)*(b0+b1)<18446744073709551616^(2*(k+1)):=by
  rw[Nat.two_mul,bSD];exact bVP s6 s7
 have s8l:=M6.cR s8;have bLW:18446744073709551616^k*18446744073709551616^k=18446744073709551616^(2*k):=by rw[<-bSD,Nat.two_mul]
 rw[bLW]at Xn;have low:a0*b0<=(a0+a1)*(b0+b1):=by omega
 have bAM:=M6.sW low;have aZB:a1*b1<=(a0+a1)*(b0+b1):=by omega
 have bAL:=M6.sW aZB;rw[gP ⟨hb,by omega,by omega⟩,gP (hc _ _ (M6.aW _) (M6.aW _) (by omega)),gP (hc _ _ (M6.aW _) (M6.aW _) (by omega)),gP ⟨M6.aW _,M6.aW _,by omega,by omega⟩,gP ⟨M6.aW _,M6.aW _,by omega,by omega⟩];simp only[M6.bJ];have f9:(a0+a1)*(b0+b1)-a0*b0<18446744073709551616^(M6.dg ((a0+a1)*(b0+b1))).length:=by
  have:=M6.tT (n:=(a0+a1)*(b0+b1));omega
 have bMH:=M6.gG f9;rw[gP (hc _ _ (M6.aW _) (M6.aW _) (by omega)),gP ⟨M6.iP _,by trivial,by trivial,M6.iP _,bAM,by omega,low⟩,bMH,M6.kI,
  gP ⟨M6.kJ,by trivial,by trivial,M6.iP _,bAL,by omega,by omega⟩]
 have bMP:(a0+a1)*(b0+b1)-a0*b0-a1*b1=a0*b1+a1*b0:=by omega
 rw[bMP];have f10:a0*b1+a1*b0<18446744073709551616^(M6.dg ((a0+a1)*(b0+b1))).length:=by
  have:=M6.tT (n:=(a0+a1)*(b0+b1));omega
 have Ug:a0*b0<18446744073709551616^xl.length:=by omega
 have bFI:=M6.cR Ug;have aVI:bSX 0 xl ++ (bSX xl.length (M6.dg (a0*b0)) ++ bSY (0+min (M6.dg (a0*b0)).length xl.length) xl)=M6.nY xl.length (a0*b0):=by
  rw[bRC,bRD,bUM bFI,bND,bTI bFI]
  conv=>lhs;rw[Sp,bYQ]
  rfl
 rw[aVI,if_pos ⟨by trivial,by omega⟩,gP ⟨M6.kJ,by rw[M6.gG f10];omega⟩,M6.kI,M6.kI,M6.gG Ug];have bJS:(a0*b1+a1*b0)*18446744073709551616^k<18446744073709551616^xl.length:=by omega
 have aUM:=M6.cR (Xb (by omega) bJS);have aTW:a0*b0+(a0*b1+a1*b0)*18446744073709551616^k<18446744073709551616^xl.length:=by omega
 rw[gP ⟨M6.kJ,by trivial,by trivial,M6.iP _,by omega,by omega,by omega,aTW⟩,M6.gG aTW,M6.kI];have bKL:a1*b1*18446744073709551616^(2*k)<18446744073709551616^xl.length:=by omega
 have hhl:=M6.cR (Xb (by omega) bKL);rw[gP ⟨M6.kJ,by trivial,by trivial,M6.iP _,by omega,by omega,by omega,by rw[<-Xn];exact aVT⟩,<-Xn];rfl
def aH:dC:=orc3 (Ai fC .u64) (pI .u64) (pI .u64) sp
theorem fnok:kO prog E 250 f250 aE:=tJ pE mixed (kM _ _ rfl rfl (kU nS.ok (kU Eg.ok uY)) (aA xM.ok (aA aQL.ok (aA PSum.ok (aA lM.Wy aD)))) (mI)) func250 rfl rfl rfl rfl rfl
theorem ok:oD prog base.glob 250 aH:=fnok.Bp rfl spec
end Ft
namespace Lo
def E:Env:={ ({ base with C:=pA [(248,Eh.aH),(249,Dm.aH),(250,Ft.aH)] (callsOf []),ioF:=Jl [(248,Eh.aH),(249,Dm.aH),(250,Ft.aH)],n0:=1,io:=[0] })with nt:=36,own:=[],keep:=fun k=>(tlook [] k).getD [],cut:=tlook [(3,[0,1,2])] }
def aE:=bd f225
theorem aU:Nk E aE:=nk
def J3(a:List Int)(b:Nat)(c:Nat) d f:=lD E f225 aE 3 [(A.any,some { e:=(22:Nat),cont:=rH.ints u64 a }),(A.v (V.one (L.view 0 b c)),none),gD d,gD f]
theorem start al ao an b c:aF E f225 aE [D.io fC u64 al ao an,D.s (ints u64 b),D.s (ints u64 c)]=aB (decide ((b.length:Int)<(c.length:Int))) (Lo.J3 al ao an c b) (Lo.J3 al ao an b c):=eJ aU
theorem gL a b c d e:J3 a b c d e=letI B:=d.length+e.length;letI A:=some [D.io 22 u64 (M6.nY a.length (M6.val d*M6.val e)) 0 0];aB (decide ((e.length:Int)<(40:Int))) (aQ (M6.cB a/\b=0/\c=a.length/\M6.cB d/\M6.cB e/\a.length=d.length+e.length/\a.length<=1099511627776/\M6.val a=0) A) (aB (decide (i64.wrap ((2:Int)*(e.length:Int))<=(d.length:Int))) (aQ (M6.cB a/\b=0/\c=a.length/\M6.cD d/\M6.cD e/\a.length=d.length+e.length/\a.length<=549755813888/\M6.val a=0/\0<e.length/\(2:Nat)*e.length<=d.length/\lM.less B) A) (aQ (M6.cB a/\b=0/\c=a.length/\M6.cD d/\M6.cD e/\a.length=d.length+e.length/\a.length<=274877906944/\M6.val a=0/\4<=e.length/\e.length<=d.length/\lM.less B) A)):=cJ aU
def sp(x:List Int×Nat×Nat)(a b:List Int):Prop×List D:=(M6.cB x.1/\x.2.1=0/\x.2.2=x.1.length/\M6.cD a/\M6.cD b/\x.1.length=a.length+b.length/\x.1.length<=274877906944/\M6.val x.1=0/\lM.less (a.length+b.length),
 [.io fC .u64 (M6.nY x.1.length (M6.val a*M6.val b)) 0 0])
theorem J{z a b:List Int}(hd:M6.cB z)(ha:M6.cD a)(hb:M6.cD b)(hl:z.length=a.length+b.length)(hN:z.length<=274877906944)(hv:M6.val z=0)(hc:lM.less (a.length+b.length))(aMZ:b.length<=a.length) :
  J3 z 0 z.length a b=some [.io fC .u64 (M6.nY z.length (M6.val a*M6.val b)) 0 0]:=by
 have w:i64.wrap (2*(b.length:Int))=((2*b.length:Nat):Int):=by rw[wrap_i64];omega
 rw[gL,w]
 by_cases h1:b.length<40
 ·rw[aO,gP ⟨hd,rfl,rfl,ha.iX,hb.iX,hl,by omega,hv⟩]
 ·rw[aI]
  by_cases h2:2*b.length<=a.length
  ·rw[aO,gP ⟨hd,rfl,rfl,ha,hb,hl,by omega,hv,by omega,h2,hc⟩]
  ·rw[aI,gP ⟨hd,rfl,rfl,ha,hb,hl,by omega,hv,by omega,aMZ,hc⟩]
theorem spec(x:List Int×Nat×Nat)(a b:List Int)(h:(sp x a b).1):aF E f225 aE [(Ai fC .u64).put x,(pI .u64).put a,(pI .u64).put b]=some (sp x a b).2/\∃rs lC,(sp x a b).2=rs ++ [.io fC .u64 lC 0 0]/\lC.length=x.1.length:=by
 obtain⟨xl,xo,xn⟩:=x;obtain⟨hd,ho,hn,ha,hb,hl,hN,hv,hc⟩:=h;simp only at hd ho hn hl hN hv;subst ho;subst hn;refine⟨(start xl 0 xl.length a b).trans ?_,[],_,rfl,M6.gG ?_⟩
 ·by_cases iN:a.length<b.length
  ·rw[aO,J hd hb ha (by omega) hN hv (by rw[bTD];exact hc) (by omega),bRZ];rfl
  ·rw[aI,J hd ha hb hl hN hv hc (by omega)];rfl
 ·show _<18446744073709551616^xl.length;rw[hl,bSD];exact bVP (M6.cK ha.iX) (M6.cK hb.iX)
def aH:dC:=orc3 (Ai fC .u64) (pI .u64) (pI .u64) sp
theorem fnok:kO prog E 225 f225 aE:=tJ pE mixed (kM _ _ rfl rfl (kU Eh.ok (kU Dm.ok (kU Ft.ok uY))) aD (mI)) func225 rfl rfl rfl rfl rfl
theorem ok:oD prog base.glob 225 aH:=fnok.Bp rfl spec
end Lo
namespace Dl
def E:Env:={ ({ base with n0:=1,io:=[0] })with nt:=22,own:=[],keep:=fun k=>(tlook [(2,[0,3])] k).getD [],cut:=tlook [] }
def aE:=bd f226
theorem aU:Nk E aE:=nk
def L2(a:List Int)(b:Nat)(c:Nat) d:=nU E f226 aE 2 [(A.any,some { e:=(22:Nat),cont:=rH.ints u64 a }),(A.v (V.one (L.view 0 b c)),none),bR d]
theorem start al ao an:aF E f226 aE [D.io fC u64 al ao an]=Dl.L2 al ao an (an:Int):=eJ aU
theorem kC a b c d:L2 a b c d=aB (decide (0<d)) (if 0<=i64.wrap (d-1)/\i64.wrap (d-1)<(c:Int)then aB (a.getD (b+(i64.wrap (d-1)).toNat) 0==(0:Int)) (Dl.L2 a b c (i64.wrap (d-1))) (if(0:Int)<=(0:Int)/\0<=d/\d<=d/\d<=(c:Int)then some [D.back 0 (b+0) (d.toNat-0),D.io 22 u64 a 0 0]else none)else none) (if(0:Int)<=(0:Int)/\0<=d/\d<=d/\d<=(c:Int)then some [D.back 0 (b+0) (d.toNat-0),D.io 22 u64 a 0 0]else none):=lJ aU
def sp(x:List Int×Nat×Nat):Prop×List D:=(M6.cB x.1/\x.2.1=0/\x.2.2=x.1.length/\x.1.length<=1099511627776,[.back 0 0 (M6.dg (M6.val x.1)).length,.io fC .u64 x.1 0 0])
theorem L{xs:List Int}(hd:M6.cB xs)(hl:xs.length<=4398046511104):∀n:Nat,n<=xs.length->L2 xs 0 xs.length n=some [.back 0 0 (M6.dg (M6.val (xs.take n))).length,.io fC .u64 xs 0 0]
 |0,h=>by
  rw[kC,aI,aT];simp[M6.val,M6.bN]
 |n+1,h=>by
  rw[kC];have e:i64.wrap (((n+1:Nat):Int)-1)=(n:Int):=by rw[wrap_i64];omega
  rw[e,aO,aT,bQX,bND]
  by_cases hz:xs.getD n 0=0
  ·rw[cF hz,L hd hl n (by omega),M6.jQ (by omega),hz];simp
  ·rw[bS hz,aT,bQX];have:M6.cD (xs.take (n+1)):=M6.wS (hd.take _) fun d hg=>by
    rw[M6.getLast_take (by omega)]at hg;cases hg;exact hz
   have hlen:(xs.take (n+1)).length=n+1:=by rw[bPR];omega
   rw[<-this,hlen];rfl
theorem spec(x:List Int×Nat×Nat)(h:(sp x).1):aF E f226 aE [(Ai fC .u64).put x]=some (sp x).2/\∃rs lC,(sp x).2=rs ++ [.io fC .u64 lC 0 0]/\lC.length=x.1.length:=by
 obtain⟨xl,xo,xn⟩:=x;obtain⟨hd,ho,hn,hl⟩:=h;simp only at hd ho hn hl;subst ho;subst hn;refine⟨(start xl 0 xl.length).trans ?_,[_],xl,rfl,rfl⟩;rw[L hd (by omega) xl.length (bNB _),bTW];rfl
def aH:dC:=orc1 (Ai fC .u64) sp
theorem fnok:kO prog E 226 f226 aE:=tJ pE mixed (kK _ rfl aD (mI)) func226 rfl rfl rfl rfl rfl
theorem ok:oD prog base.glob 226 aH:=fnok.nD rfl spec
end Dl
namespace Il
def E:Env:={ ({ base with C:=pA [(225,Lo.aH),(226,Dl.aH)] (callsOf []),ioF:=Jl [(225,Lo.aH),(226,Dl.aH)] })with nt:=18,own:=[17],keep:=fun k=>(tlook [] k).getD [],cut:=tlook [] }
def aE:=bd f199
theorem aU:Nk E aE:=nk
theorem start a b:aF E f199 aE [D.s (ints u64 a),D.s (ints u64 b)]=letI F:=(a.length:Int);letI G:=F+(b.length:Int);letI C:=i64.wrap G;letI A:=bPE C.toNat (0:Int);letI B:=M6.nY A.length (M6.val a*M6.val b);if 0<=i64.wrap G/\i64.wrap G<=i64.wrap G/\i64.wrap G<=8796093022208 then aQ (M6.cB A/\(0:Nat)=(0:Nat)/\C.toNat=A.length/\M6.cD a/\M6.cD b/\A.length=a.length+b.length/\A.length<=274877906944/\M6.val A=0/\lM.less (a.length+b.length)) (aQ (M6.cB B/\(0:Nat)=(0:Nat)/\C.toNat=B.length/\B.length<=1099511627776) (some [D.own 22 u64 (bSX (M6.dg (M6.val B)).length B)]))else none:=eJ aU
theorem eval{a b:List Int}(ha:M6.cD a)(hb:M6.cD b)(hN:a.length+b.length<=274877906944)(hc:lM.less (a.length+b.length)):aF E f199 aE [(pI .u64).put a,(pI .u64).put b]=some [.own fC .u64 (M6.dg (M6.val a*M6.val b))]:=by
 refine(start a b).trans ?_;have w:i64.wrap ((a.length:Int)+(b.length:Int))=((a.length+b.length:Nat):Int):=by rw[wrap_i64];omega
 have aVT:M6.val a*M6.val b<18446744073709551616^(a.length+b.length):=by rw[bSD];exact bVP (M6.cK ha.iX) (M6.cK hb.iX)
 rw[w,aT];simp only[bQX,bYN];rw[gP ⟨M6.iJ _,by trivial,by trivial,ha,hb,by trivial,hN,M6.iH _,hc⟩,gP ⟨M6.kJ,by trivial,(M6.gG aVT).symm,by rw[M6.gG aVT];omega⟩,M6.kI,M6.aFJ]
theorem fnok:qI prog E 199 f199 aE:=aAE pE mixed (kM _ _ rfl rfl (kU Lo.ok (kU Dl.ok uY)) aD (mI)) func199 rfl rfl rfl
theorem all(n:Nat)(hn:n<=274877906944):lM.less (n+1):=by
 induction n with
 |zero =>
  intro a b ha hb hl;refine fn_contract fnok.ty fnok.calls fnok.mix fnok.fnc fnok.body fnok.nt fnok.io (by exact bOZ rfl) (eval ha hb (by omega) fun c d _ _ h=>by omega)
 |succ n ih =>
  intro a b ha hb hl;have ih:=ih (by omega);refine fn_contract fnok.ty fnok.calls fnok.mix fnok.fnc fnok.body fnok.nt fnok.io (by exact bOZ rfl) (eval ha hb (by omega) fun c d hc hd h=>ih c d hc hd (by omega))
def sp(a b:List Int):Prop×List D:=(M6.cD a/\M6.cD b/\a.length+b.length<=274877906944,[.own fC .u64 (M6.dg (M6.val a*M6.val b))])
theorem spec:fO E f199 aE (pI .u64) (pI .u64) sp:=by
 rintro a b ⟨ha,hb,hN⟩;exact eval ha hb hN fun c d hc hd h=>all (a.length+b.length) hN c d hc hd (by omega)
def aH:dC:=orc2 (pI .u64) (pI .u64) sp
theorem ok:lA prog base.glob 199 aH:=fnok.lP rfl spec
end Il
namespace aHJ
def E:=mE [(167,fI.aH),(199,Il.aH),(198,lM.aH)] 20 [17] [] []
def aE:=bd f154
theorem aU:Nk E aE:=nk
theorem start a b:aF E f154 aE [D.s (ints u64 a),D.s (ints u64 b)]=letI A:=some [D.s (sc (slice none 0 0)),D.s (sc (int i64 2))];aQ (a.length<=1099511627776) (aB (!fI.mY a) A (aQ (b.length<=1099511627776) (aB (!fI.mY b) A (aQ (M6.cD a/\M6.cD b/\a.length+b.length<=274877906944) (aC (M6.dg (M6.val a*M6.val b)) fun c=>aQ True (aC (bif lM.jW c then c else []) fun d=>aC (bif lM.jW c then(0:Int)else(5:Int)) fun e=>some [D.s (ints u64 d),D.s (sc (int i64 e))])))))):=eJ aU
def sp(a b:List Int):Prop×List D:=(M6.cD a/\M6.cD b/\a.length<=8192/\b.length<=8192,[.s (.ints .u64 (bif bZ.kX (M6.val a*M6.val b)then M6.dg (M6.val a*M6.val b)else [])),.s (.sc (.int .i64 (bif bZ.kX (M6.val a*M6.val b)then 0 else 5)))])
theorem spec:fO E f154 aE (pI .u64) (pI .u64) sp:=by
 rintro a b ⟨ha,hb,h1,h2⟩;refine(start a b).trans ?_;simp only[aL];rw[gP,gP,fI.lU ha h1,fI.lU hb h2,bPB,bF,bF,gP ⟨ha,hb,by omega⟩,gP trivial];rfl
def aH:dC:=orc2 (pI .u64) (pI .u64) sp
theorem ok:OK 154 aH:=(eI E aE (aA fI.ok (aA Il.ok (aA lM.ok aD))) func154).lP rfl spec
end aHJ
namespace aLJ
def E:=mE [(112,gJ.aH),(154,aHJ.aH),(123,xP.aH)] 35 [32] [(3,[2,3,4])] [3]
def aE:=bd f99
theorem aU:Nk E aE:=nk
def J3 a b c d e:=lD E f99 aE 3 [dG 0 27 [cG a,eM b],dG 1 27 [cG c,eM d],dG 2 27 [cG e,sc (slice none 0 0)]]
theorem start a b c d:aF E f99 aE [D.agg [sc (bool a),ints u64 b],D.agg [sc (bool c),ints u64 d]]=letI A:=some [D.agg [sc (bool false),sc (slice none 0 0)],D.s (sc (int i64 2))];aQ (b.length<=1099511627776) (aB (!gJ.qL (a,b)) A (aQ (d.length<=1099511627776) (aB (!gJ.qL (c,d)) A (aLJ.J3 a b c d false)))):=eJ aU
theorem gL a b c d e:J3 a b c d e=letI F:=M6.val b*M6.val d;letI B:=bif bZ.kX F then(0:Int)else(5:Int);letI A:=bif bZ.kX F then M6.dg F else [];letI C:=bif B==0 then zs (a !=c) (M6.val A)else(0:Int);aQ (M6.cD b/\M6.cD d/\b.length<=8192/\d.length<=8192) (aQ (M6.cD A/\A.length<=1099511627776) (some [D.agg [sc (bool (isNeg C)),ints u64 (M6.dg C.natAbs)],D.s (sc (int i64 B))])):=cJ aU
def sp(x y:Bool×List Int):Prop×List D:=(kA x/\kA y,wE (fit (wv x*wv y).natAbs) (wv x*wv y))
theorem spec:fO E f99 aE wB wB sp:=by
 rintro x y ⟨hx,hy⟩;refine(start x.1 x.2 y.1 y.2).trans ?_;have l1:=hx.len;have l2:=hy.len;have f1:=gJ.nL hx;have f2:=gJ.nL hy;have hs:wv x*wv y=zs (x.1 !=y.1) (M6.val x.2*M6.val y.2):=by
  unfold wv zs;cases x.1 <;> cases y.1 <;> simp[Int.neg_mul,bWB]
 rw[gP,f1,bPB,bF,gP,f2,bPB,bF,gL,gP ⟨hx.1,hy.1,l1,l2⟩,gP (Fm (fun h=>by rw[show bZ.kX _=_ from yB]at h;exact xD h)),Ez,show bZ.kX _=_ from yB];unfold sp
 try dsimp only
 rw[hs,kD]
def aH:dC:=orc2 wB wB sp
theorem ok:OK 99 aH:=(eI E aE (aA gJ.ok (aA aHJ.ok (aA xP.ok aD))) func99).lP rfl spec
end aLJ
namespace dP
def E:=mE [(61,lB.aH),(99,aLJ.aH),(63,iK.aH)] 38 [22,35] [(3,[2,3,4])] [3]
def aE:=bd f41
theorem aU:Nk E aE:=nk
def J3 a b c d e f g h:=lD E f41 aE 3 [dG 0 29 [cG a,eM b,cP c],dG 1 29 [cG d,eM e,cP f],dG 2 29 [cG g,sc (slice none 0 0),cP h]]
theorem start a b c d e f:aF E f41 aE [D.agg [sc (bool a),ints u64 b,sc (int i64 c)],D.agg [sc (bool d),ints u64 e,sc (int i64 f)]]=aQ (aJ (a,b,c)) (aQ (aJ (d,e,f)) (dP.J3 a b c d e f false 0)):=eJ aU
theorem gL a b c d e f g h:J3 a b c d e f g h=letI F:=wv (a,b)*wv (d,e);letI C:=i64.wrap (c+f);letI B:=bif fit F.natAbs then wv (a,b)*wv (d,e)else(0:Int);aQ (kA (a,b)/\kA (d,e)) (aC (isNeg B) fun i=>aC (M6.dg B.natAbs) fun j=>letI A:=bif fN (wv (i,j)) C then aK (wv (i,j)) C else((0:Int),(0:Int));aC (bif fit F.natAbs then(0:Int)else(5:Int)) fun k=>aB (k !=0) (some [D.agg [sc (bool false),sc (slice none 0 0),sc (int i64 0)],D.s (sc (int i64 k))]) (aQ (kA (i,j)/\(-9223372036854775808:Int)<=i64.wrap (c+f)/\i64.wrap (c+f)<9223372036854775808) (aC (isNeg A.fst) fun l=>aC (M6.dg A.fst.natAbs) fun m=>aC A.snd fun n=>aC (bif fN (wv (i,j)) C then(0:Int)else(5:Int)) fun o=>some [D.agg [sc (bool l),ints u64 m,sc (int i64 n)],D.s (sc (int i64 o))]))):=cJ aU
def kB(p q:Int×Int):Bool:=fit (p.1*q.1).natAbs&&fN (p.1*q.1) (p.2+q.2)
def fD(p q:Int×Int):Int×Int:=aK (p.1*q.1) (p.2+q.2)
def sp(x y:dU):Prop×List D:=(aJ x/\aJ y,dE (kB (dv x) (dv y)) (fD (dv x) (dv y)))
theorem spec:Eu E f41 aE hZ hZ sp:=by
 rintro x y ⟨hx,hy⟩;have ex:=hx.2.1;have ey:=hy.2.1;have s:=start x.1 x.2.1 x.2.2 y.1 y.2.1 y.2.2;have w:i64.wrap (x.2.2+y.2.2)=x.2.2+y.2.2:=wrap_i64;rw[gP hx,gP hy,gL]at s;simp only[aL]at s;have hz:wv (x.1,x.2.1)*wv (y.1,y.2.1)=(dv x).1*(dv y).1:=rfl;rw[gP ⟨hx.Dr,hy.Dr⟩,hz]at s;have h2:x.2.2+y.2.2=(dv x).2+(dv y).2:=rfl;unfold sp kB fD
 try dsimp only
 cases hf:fit ((dv x).1*(dv y).1).natAbs with
 |false =>
  rw[hf]at s;rw[bSL];refine⟨_,s,iK.kF _⟩
 |true =>
  rw[hf,cond_true,cond_true,gT rfl,w,gP ⟨mR (xD hf),by omega,by omega⟩,rT,h2]at s;rw[bQC];exact⟨_,s,fX.refl _⟩
def aH:dC:=orc2 hZ hZ sp
theorem ok:OK 41 aH:=(eI E aE (aA lB.ok (aA aLJ.ok (aA iK.ok aD))) func41).aBB rfl spec
end dP
namespace xS
def E:=mE [] 9 [] [] []
def aE:=bd f164
theorem aU:Nk E aE:=nk
theorem start a:aF E f164 aE [D.s (sc (int i64 a))]=aB (decide (1<=a)) (some [D.s (sc (bool (decide (a<=70000))))]) (some [D.s (sc (bool false))]):=eJ aU
def sp(p:Int):Prop×List D:=(True,[.s (.sc (.bool (decide (1<=p)&&decide (p<=70000))))])
theorem spec:gO E f164 aE (pN .i64) sp:=by
 intro p h;refine(start p).trans ?_;unfold sp aB;cases (decide ((1:Int)<=p)) <;> cases (decide (p<=(70000:Int))) <;> rfl
def aH:dC:=orc1 (pN .i64) sp
theorem ok:OK 164 aH:=(eI E aE aD func164).nD rfl spec
end xS
namespace aHK
def E:=mE [(174,xN.aH)] 18 [] [] []
def aE:=bd f205
theorem aU:Nk E aE:=nk
theorem start a:aF E f205 aE [D.s (ints u64 a)]=letI B:=M6.dg (M6.val a);letI A:=(B.length:Int);aQ (M6.cB a/\a.length<=1099511627776) (aB (decide (8192<A)) (some [D.s (sc (slice none 0 0)),D.s (sc (int i64 5))]) (if 0<=A/\A<=A/\A<=(8796093022208:Int)then some [D.own 22 u64 (bSX A.toNat B ++ bSY (min B.length A.toNat) (bPE A.toNat (0:Int))),D.s (sc (int i64 0))]else none)):=eJ aU
def sp(a:List Int):Prop×List D:=(M6.cB a/\a.length<=1099511627776,[.s (.ints .u64 (bif bZ.kX (M6.val a)then M6.dg (M6.val a)else [])),.s (.sc (.int .i64 (bif bZ.kX (M6.val a)then 0 else 5)))])
theorem spec:aHD E f205 aE (pI .u64) sp:=by
 intro a h;have hl:=M6.oX h.1;have h2:=h.2;have e:=(start a).trans (gP h);unfold sp bZ.kX;simp only;generalize M6.dg (M6.val a)=d at *
 by_cases hc:d.length<=8192
 ·rw[aI,if_pos ⟨by omega,by omega,by omega⟩]at e;rw[decide_eq_true hc];refine⟨_,e,.cons ?_ (fX.refl _)⟩;simp only[bQX,bTW,Nat.min_self,cond_true];have:bSY d.length (bPE d.length (0:Int))=[]:=List.drop_eq_nil_of_le (by simp);rw[this,bTC];exact vZ.own _ _ _
 ·rw[aO]at e;rw[decide_eq_false hc];exact⟨_,e,.cons (vZ.nil _) (fX.refl _)⟩
def aH:dC:=orc1 (pI .u64) sp
theorem ok:OK 205 aH:=(eI E aE (aA xN.ok aD) func205).aSD rfl spec
end aHK
namespace aHO
def E:=mE [(176,xQ.aH)] 6 [] [] []
def aE:=bd f207
theorem aU:Nk E aE:=nk
theorem start a:aF E f207 aE [D.s (sc (int u64 a))]=aQ (0<=a/\a<18446744073709551616) (some [D.s (sc (int i64 (i64.wrap ((64:Int)-(↑(bl a.toNat):Int)))))]):=eJ aU
def sp(a:Int):Prop×List D:=(0<=a/\a<18446744073709551616,[.s (.sc (.int .i64 (64-(bl a.toNat:Int))))])
theorem spec:gO E f207 aE (pN .u64) sp:=by
 intro a h;refine(start a).trans ((gP h).trans ?_);obtain⟨h1,h2⟩:=h;have:bl a.toNat<=64:=dV.2 (by omega);rw[wrap_i64];rfl
def aH:dC:=orc1 (pN .u64) sp
theorem ok:OK 207 aH:=(eI E aE (aA xQ.ok aD) func207).nD rfl spec
end aHO
namespace pQ
def E:=mE [(207,aHO.aH)] 135 [] [(24,[2,8,9,10,14,15,16,17,18]),(17,[2,8,9,10,11,13,14,15,16]),(3,[0,1,2]),(5,[0,1,2]),(18,[2,8,9,10,11,13,14,15,16]),(21,[2,8,9,10,11,13,14,15]),(25,[2,8,9,10,14,15,16,17,18]),(28,[2,8,14,15,17,18])] [3,5,18,21,25,28]
def aE:=bd f232
theorem aU:Nk E aE:=nk
def J3 a b c:=lD E f232 aE 3 [cY a,cY b,cY c]
def J5 a b c:=lD E f232 aE 5 [cY a,cY b,cY c]
def aRX a b c d e f g h i:=nU E f232 aE 17 [cY a,cY b,cY c,cY d,cY e,cY f,cY g,cY h,cY i]
def bDO a b c d e f g h i:=lD E f232 aE 18 [cY a,cY b,cY c,cY d,cY e,cY f,cY g,cY h,cY i]
def aWT a b c d e f g h:=lD E f232 aE 21 [cY a,cY b,cY c,cY d,cY e,cY f,cY g,cY h]
def aWQ a b c d e f g h i:=nU E f232 aE 24 [cY a,cY b,cY c,cY d,cY e,cY f,cY g,cY h,cY i]
def bDN a b c d e f g h i:=lD E f232 aE 25 [cY a,cY b,cY c,cY d,cY e,cY f,cY g,cY h,cY i]
def aWS a b c d e f:=lD E f232 aE 28 [cY a,cY b,cY c,cY d,cY e,cY f]
theorem start a b c:aF E f232 aE [D.s (sc (int u64 a)),D.s (sc (int u64 b)),D.s (sc (int u64 c))]=aB (c==0) none (pQ.J3 a b c):=eJ aU
theorem gL a b c:J3 a b c=aB (decide (c<=a)) none (pQ.J5 a b c):=cJ aU
theorem It a b c:J5 a b c=letI C:=(↑(bl c.toNat):Int);letI H:=u64.wrap ((64:Int)-C);letI B:=b/(↑((2:Nat)^min (u64.wrap ((64:Int)-u64.wrap ((64:Int)-C))).toNat 64):Int);letI A:=(↑((2:Nat)^min H.toNat 64):Int);letI G:=eY BinOp.or u64 (u64.wrap (a*A)) B;letI F:=u64.wrap (c*A)/4294967296;aB (a==0) (if c=0 then none else if c=0 then none else some [D.s (sc (int u64 (u64.wrap (b.tdiv c)))),D.s (sc (int u64 (b.tmod c)))]) (aQ (0<=c/\c<18446744073709551616) (if u64.wrap ((64:Int)-C)<0 then none else if u64.wrap ((64:Int)-C)<0 then none else if u64.wrap ((64:Int)-u64.wrap ((64:Int)-C))<0 then none else if u64.wrap ((64:Int)-C)<0 then none else if u64.wrap (c*A)/4294967296=(0:Int)then none else pQ.aRX (u64.wrap (c*A)) H F (eY BinOp.and u64 (u64.wrap (c*A)) 4294967295) G (u64.wrap (b*A)/4294967296) (eY BinOp.and u64 (u64.wrap (b*A)) 4294967295) (u64.wrap (G.tdiv F)) (u64.wrap (eY BinOp.or u64 (u64.wrap (a*A)) B-u64.wrap (u64.wrap (G.tdiv F)*F))))):=cJ aU
theorem aQO a b c d e f g h i:aRX a b c d e f g h i=letI A:=pQ.bDO a b c d e f g h i;aB (decide (4294967296<=h)) A (aB (decide (u64.wrap (u64.wrap ((4294967296:Int)*i)+f)<u64.wrap (h*d))) A (pQ.aWT a b c d e f g h)):=lJ aU
theorem aQT a b c d e f g h i:bDO a b c d e f g h i=aB (decide (4294967296<=u64.wrap (i+c))) (pQ.aWT a b c d e f g (u64.wrap (h-1))) (pQ.aRX a b c d e f g (u64.wrap (h-1)) (u64.wrap (i+c))):=cJ aU
theorem aQS a b c d e f g h:aWT a b c d e f g h=letI A:=u64.wrap (u64.wrap (e*4294967296)+f)-u64.wrap (h*a);letI B:=u64.wrap A;if c=0 then none else pQ.aWQ a b c d g h (u64.wrap (u64.wrap A-u64.wrap (u64.wrap (B.tdiv c)*c))) B (u64.wrap (B.tdiv c)):=cJ aU
theorem aQN a b c d e f g h i:aWQ a b c d e f g h i=letI A:=pQ.bDN a b c d e f g h i;aB (decide (4294967296<=i)) A (aB (decide (u64.wrap (u64.wrap ((4294967296:Int)*g)+e)<u64.wrap (i*d))) A (pQ.aWS a b e f h i)):=lJ aU
theorem aQR a b c d e f g h i:bDN a b c d e f g h i=aB (decide (4294967296<=u64.wrap (g+c))) (pQ.aWS a b e f h (u64.wrap (i-1))) (pQ.aWQ a b c d e f (u64.wrap (g+c)) h (u64.wrap (i-1))):=cJ aU
theorem aQQ a b c d e f:aWS a b c d e f=if b<0 then none else some [D.s (sc (int u64 (u64.wrap (u64.wrap (d*4294967296)+f)))),D.s (sc (int u64 (u64.wrap (u64.wrap (u64.wrap (e*4294967296)+c)-u64.wrap (f*a))/(↑((2:Nat)^min b.toNat 64):Int))))]:=cJ aU
theorem aBP{n:Nat}(h:n<18446744073709551616):u64.wrap (n:Int)=(n:Int):=wrap_u64 (bWU _) (Int.ofNat_lt.2 h)
theorem loop{y1 y0 u u1:Nat}(aEC:2147483648<=y1)(aOM:y1<4294967296)(aMK:y0<4294967296)(hu:u<y1*4294967296+y0)(aEE:u1<4294967296)
  (Lf Jf:Int->Int->Option (List D)) (Kf:Int->Option (List D))
  (hL:∀q r,Lf q r=aB (decide (4294967296<=q)) (Jf q r) (aB (decide (u64.wrap (u64.wrap (4294967296*r)+(u1:Int))<u64.wrap (q*(y0:Int)))) (Jf q r) (Kf q)))
  (hJ:∀q r,Jf q r=aB (decide (4294967296<=u64.wrap (r+(y1:Int)))) (Kf (u64.wrap (q-1))) (Lf (u64.wrap (q-1)) (u64.wrap (r+(y1:Int))))) :
  ∀(q r:Nat),u=q*y1+r->r<4294967296->u*4294967296+u1<(q+1)*(y1*4294967296+y0) ->
   Lf (q:Int) (r:Int)=Kf (((u*4294967296+u1)/(y1*4294967296+y0):Nat):Int):=by
 have hy:0<y1*4294967296+y0:=by omega
 intro q
 induction q with
 |zero =>
  intro r h1 h2 h3;have h0:(u*4294967296+u1)/(y1*4294967296+y0)=0:=bSZ (by omega);rw[hL,aI,h0,show(((0:Nat):Int)*(y0:Int))=0 from by omega,wrap_u64 (n:=0),aI ?_];rw[wrap_u64 (n:=4294967296*(r:Int)),wrap_u64];omega
 |succ q ih =>
  intro r h1 h2 h3;have hq:q<=4294967296:=by
   refine bRY fun hc=>?_
   have:4294967297*y1<=q*y1:=bOO _ hc;rw[bNV]at h1;omega
  have w1:u64.wrap (((q+1:Nat):Int)-1)=(q:Int):=by rw[wrap_u64];omega
  have w2:u64.wrap ((r:Int)+(y1:Int))=((r+y1:Nat):Int):=by rw[wrap_u64];omega
  have hle:(q+1)*y0<=4294967297*4294967295:=bXP (by omega) (by omega);have w3:u64.wrap (((q+1:Nat):Int)*(y0:Int))=(((q+1)*y0:Nat):Int):=by
   rw[<-bTA];exact wrap_u64
  have w4:u64.wrap (u64.wrap (4294967296*(r:Int))+(u1:Int))=((4294967296*r+u1:Nat):Int):=by
   rw[wrap_u64 (n:=4294967296*(r:Int)),wrap_u64];omega
  have ex:(q+1)*(y1*4294967296+y0)=(q*y1+y1)*4294967296+(q+1)*y0:=by
   rw[bSB,<-bSF,bNV q 1 y1,bRE]
  have bMK:q*(y1*4294967296+y0)=(q*y1)*4294967296+q*y0:=by
   rw[bSB,<-bSF]
  have aAB:u=q*y1+(r+y1):=by rw[bNV]at h1;omega
  have Zz:u*4294967296+u1<(q+1)*(y1*4294967296+y0)->Jf ((q+1:Nat):Int) r=Kf (((u*4294967296+u1)/(y1*4294967296+y0):Nat):Int):=by
   intro hT;rw[hJ,w1,w2]
   by_cases hc:4294967296<=r+y1
   ·have aIH:q*y0<=4294967296*4294967295:=bXP hq (by omega);have:(u*4294967296+u1)/(y1*4294967296+y0)=q:=by
     refine bXV ?_ hT;rw[bMK,aAB];omega
    rw[aO,this]
   ·rw[aI];exact ih (r+y1) aAB (by omega) hT
  rw[hL,w3,w4]
  by_cases hb:4294967296<=q+1
  ·rw[aO];apply Zz;have:4294967296*(y1*4294967296+y0)<=(q+1)*(y1*4294967296+y0):=bOO _ hb;omega
  ·rw[aI]
   by_cases hc:4294967296*r+u1<(q+1)*y0
   ·rw[aO];apply Zz;rw[ex];omega
   ·have:(u*4294967296+u1)/(y1*4294967296+y0)=q+1:=by
     refine bXV ?_ h3;rw[ex,aAB];rw[bNV (q*y1)];omega
    rw[aI,this]
theorem aSC(P b Q:Int):u64.wrap (u64.wrap (u64.wrap P+b)-u64.wrap Q)=u64.wrap (P+b-Q):=by
 rw[eG,eG,eG,eG,eG];omega
theorem aTC{u u1 y:Nat}(hy:0<y)(aZL:y<=18446744073709551616):u64.wrap ((u:Int)*4294967296+(u1:Int)-(((u*4294967296+u1)/y:Nat):Int)*(y:Int))=(((u*4294967296+u1)%y:Nat):Int):=by
 have h:=bSI (u*4294967296+u1) y;have hm:=bPJ (u*4294967296+u1) hy;rw[<-bTA,bRZ _ y];generalize y*((u*4294967296+u1)/y)=z at *;generalize (u*4294967296+u1)%y=m at *;rw[wrap_u64];omega
theorem aTE{y1 y0 u u1 u0 s:Nat}(aEC:2147483648<=y1)(aOM:y1<4294967296)(aMK:y0<4294967296)(hu:u<y1*4294967296+y0)(aEE:u1<4294967296)(aTS:u0<4294967296)(hs:s<=63) :
  aRX ((y1*4294967296+y0:Nat):Int) s y1 y0 u u1 u0 ((u/y1:Nat):Int) ((u%y1:Nat):Int) =
   some [D.s (.sc (.int .u64 (((u*18446744073709551616+(u1*4294967296+u0))/(y1*4294967296+y0):Nat):Int))),D.s (.sc (.int .u64 (((u*18446744073709551616+(u1*4294967296+u0))%(y1*4294967296+y0)/2^s:Nat):Int)))]:=by
 have hy:0<y1*4294967296+y0:=by omega
 have aCM:∀v:Nat,∀w:Nat,w<4294967296->v*4294967296+w<(v/y1+1)*(y1*4294967296+y0):=by
  intro v w hw;have h:=bSI v y1;have hm:=bPJ v (show 0<y1 by omega);have:(v/y1+1)*(y1*4294967296+y0)=(y1*(v/y1)+y1)*4294967296+(v/y1+1)*y0:=by
   rw[bSB,<-bSF,bNV,bRE,bRZ y1]
  rw[this];omega
 have dm:∀v:Nat,v=v/y1*y1+v%y1:=by
  intro v;rw[bRZ];exact(bSI v y1).symm
 obtain⟨Y,hY⟩:∃Y:Int,Y=((y1*4294967296+y0:Nat):Int):=⟨_,rfl⟩;rw[<-hY];have l1:aRX Y s y1 y0 u u1 u0 ((u/y1:Nat):Int) ((u%y1:Nat):Int)=aWT Y s y1 y0 u u1 u0 (((u*4294967296+u1)/(y1*4294967296+y0):Nat):Int) :=
  loop aEC aOM aMK hu aEE (aRX Y s y1 y0 u u1 u0) (bDO Y s y1 y0 u u1 u0) (aWT Y s y1 y0 u u1 u0) (fun q r=>aQO ..) (fun q r=>aQT ..) (u/y1) (u%y1) (dm u) (by have:=bPJ u (show 0<y1 by omega);omega) (aCM u u1 aEE)
 refine l1.trans ?_;rw[aQS,aX,aSC];have m1:=aTC (u:=u) (u1:=u1) hy (by omega);rw[<-hY]at m1;rw[m1];obtain⟨q1,Mz⟩:∃q1,(u*4294967296+u1)/(y1*4294967296+y0)=q1:=⟨_,rfl⟩;rw[Mz];have hv:=bPJ (u*4294967296+u1) hy;have hT:=bSI (u*4294967296+u1) (y1*4294967296+y0);rw[Mz]at hT;obtain⟨v,bIU⟩:∃v,(u*4294967296+u1)%(y1*4294967296+y0)=v:=⟨_,rfl⟩;rw[bIU]at hv hT ⊢;have hd:v/y1<=v:=bVO _ _;have w5:u64.wrap ((v:Int).tdiv (y1:Int))=((v/y1:Nat):Int):=by
  rw[bUQ (by omega),<-bSS];exact aBP (by omega)
 have w6:u64.wrap ((v:Int)-u64.wrap (((v/y1:Nat):Int)*(y1:Int)))=((v%y1:Nat):Int):=by
  have:=dm v;have hm:=bPJ v (show 0<y1 by omega);rw[<-bTA];generalize v/y1*y1=z at *;generalize v%y1=m at *;rw[wrap_u64 (n:=(z:Int)),wrap_u64];omega
 have l2:aWQ Y s y1 y0 u0 q1 ((v%y1:Nat):Int) v ((v/y1:Nat):Int)=aWS Y s u0 q1 v (((v*4294967296+u0)/(y1*4294967296+y0):Nat):Int) :=
  loop aEC aOM aMK hv aTS (fun q r=>aWQ Y s y1 y0 u0 q1 r v q) (fun q r=>bDN Y s y1 y0 u0 q1 r v q) (aWS Y s u0 q1 v) (fun q r=>aQN ..) (fun q r=>aQR ..) (v/y1) (v%y1) (dm v) (by have:=bPJ v (show 0<y1 by omega);omega) (aCM v u0 aTS)
 rw[w5,w6,l2];rw[aQQ,aX,aSC];have m2:=aTC (u:=v) (u1:=u0) hy (by omega);rw[<-hY]at m2;rw[m2];have hw:=bPJ (v*4294967296+u0) hy;have hT0:=bSI (v*4294967296+u0) (y1*4294967296+y0);have aIH:(v*4294967296+u0)/(y1*4294967296+y0)<4294967296:=bSW (by omega);have hq1':q1<4294967296:=by rw[<-Mz];exact bSW (by omega)
 obtain⟨q0,bJI⟩:∃q0,(v*4294967296+u0)/(y1*4294967296+y0)=q0:=⟨_,rfl⟩;obtain⟨w,bIS⟩:∃w,(v*4294967296+u0)%(y1*4294967296+y0)=w:=⟨_,rfl⟩;rw[bJI]at hT0 aIH ⊢;rw[bIS]at hT0 hw ⊢;have key:u*18446744073709551616+(u1*4294967296+u0)=(y1*4294967296+y0)*(q1*4294967296+q0)+w:=by
  rw[bSB,<-bSF];generalize (y1*4294967296+y0)*q1=A at *;generalize (y1*4294967296+y0)*q0=C at *;omega
 rw[key,bWT hy,bSZ hw,bZD,bXQ hw,bOC,bQX,show min s 64=s from by omega];have w7:u64.wrap (u64.wrap ((q1:Int)*4294967296)+(q0:Int))=((q1*4294967296+q0:Nat):Int):=by
  rw[wrap_u64 (n:=(q1:Int)*4294967296),wrap_u64];omega
 rw[w7,<-bSS]
def sp(a b c:Int):Prop×List D:=((0<=a/\a<c)/\(0<=b/\b<18446744073709551616)/\c<18446744073709551616,[.s (.sc (.int .u64 (((a.toNat*18446744073709551616+b.toNat)/c.toNat:Nat):Int))),.s (.sc (.int .u64 (((a.toNat*18446744073709551616+b.toNat)%c.toNat:Nat):Int)))])
theorem spec:tL E f232 aE (pN .u64) (pN .u64) (pN .u64) sp:=by
 rintro a b c ⟨⟨h1,h2⟩,⟨h3,h4⟩,h5⟩;refine(start a b c).trans ?_;obtain⟨x,rfl⟩:=bSE h1;obtain⟨l,rfl⟩:=bSE h3;obtain⟨y,rfl⟩:=bSE (show 0<=c by omega);show _=some [D.s (.sc (.int .u64 ((((x:Int).toNat*18446744073709551616+(l:Int).toNat)/(y:Int).toNat:Nat):Int))),D.s (.sc (.int .u64 ((((x:Int).toNat*18446744073709551616+(l:Int).toNat)%(y:Int).toNat:Nat):Int)))];rw[bQX,bQX,bQX,bS,gL,aI,It]
 by_cases hx:x=0
 ·subst hx;have hd:l/y<=l:=bVO _ _;rw[cF (a:=((0:Nat):Int)) (b:=0) rfl,aX,aX,bUQ (by omega),bUR (by omega),<-bSS,<-bTS,aBP (by omega),Nat.zero_mul,bND]
 ·have aMK:y≠0:=by omega
  have bFU:=sE aMK;have hb64:bl y<=64:=dV.2 (by omega);have yS:=Yp aMK;have iN:=vP y;obtain⟨s,hs⟩:∃s,s=64-bl y:=⟨_,rfl⟩;have bAD:s<=63:=by omega
  have w1:u64.wrap (64-(bl y:Int))=(s:Int):=by rw[wrap_u64];omega
  have w2:u64.wrap (64-(s:Int))=((64-s:Nat):Int):=by rw[wrap_u64];omega
  have aGA:2^(64-s)*2^s=18446744073709551616:=by rw[<-bSD,show 64-s+s=64 from by omega]
  have bMM:2^(bl y-1)*2^s=9223372036854775808:=by rw[<-bSD,show bl y-1+s=63 from by omega]
  have Ql:0<2^s:=cI;have hyp:y+1<=2^(64-s):=by rw[show 64-s=bl y from by omega];omega
  have aZK:(y+1)*2^s<=18446744073709551616:=by rw[<-aGA];exact bOO _ hyp
  have hyp2:9223372036854775808<=y*2^s:=by rw[<-bMM];exact bOO _ yS
  have aRE:(x+1)*2^s<=y*2^s:=bOO _ (by omega);rw[bNV,bRE]at aZK aRE;have wy:u64.wrap ((y:Int)*((2^s:Nat):Int))=((y*2^s:Nat):Int):=by rw[<-bTA];exact wrap_u64
  have wx:u64.wrap ((x:Int)*((2^s:Nat):Int))=((x*2^s:Nat):Int):=by rw[<-bTA];exact wrap_u64
  have wl:u64.wrap ((l:Int)*((2^s:Nat):Int))=((l*2^s%18446744073709551616:Nat):Int):=by rw[<-bTA,eG];omega
  have Uh:l/2^(64-s)<2^s:=by
   apply bSW;rw[aGA];omega
  have aOQ:=Cb l s (by omega);have bDP:eY .or .u64 ((x*2^s:Nat):Int) (((l/2^(64-s):Nat)):Int)=((x*2^s+l/2^(64-s):Nat):Int):=by
   have:=Cm (n:=x) Uh;rw[Zg (by omega) (by omega) (by omega) (by omega),bQX,bQX,Nat.or_comm,bRZ x,this,bTD]
  have aSE:∀z:Nat,z<18446744073709551616->eY .and .u64 (z:Int) 4294967295=((z%4294967296:Nat):Int):=by
   intro z hz;rw[oS (by omega) (by omega)];omega
  rw[bS,gP ⟨by omega,by omega⟩,bQX,w1,w2,aX,aX,aX,aX,
   bQX,bQX,show min s 64=s from by omega,show min (64-s) 64=64-s from by omega,wy,wx,wl,<-bSS l,bDP]
  have hu:x*2^s+l/2^(64-s)<y*2^s:=by omega
  have hU:(x*18446744073709551616+l)*2^s=(x*2^s+l/2^(64-s))*18446744073709551616+l*2^s%18446744073709551616:=by
   rw[bNV,aOQ,bYB];omega
  have bJV:l*2^s%18446744073709551616<18446744073709551616:=bPJ _ (by omega);have hdiv:(x*18446744073709551616+l)/y=((x*2^s+l/2^(64-s))*18446744073709551616+l*2^s%18446744073709551616)/(y*2^s):=by
   rw[<-hU,bVZ _ _ Ql]
  have aUL:(x*18446744073709551616+l)%y=((x*2^s+l/2^(64-s))*18446744073709551616+l*2^s%18446744073709551616)%(y*2^s)/2^s:=by
   rw[<-hU,bWA,bXE _ Ql]
  rw[hdiv,aUL];clear hdiv aUL hU bDP wl wx wy aOQ Uh aRE;generalize x*2^s+l/2^(64-s)=U at *;generalize y*2^s=Y at *;generalize l*2^s%18446744073709551616=V at *;have k:=aTE (y1:=Y/4294967296) (y0:=Y%4294967296) (u:=U) (u1:=V/4294967296) (u0:=V%4294967296) (s:=s) (by omega) (by omega) (by omega) (by omega) (by omega) (by omega) bAD;rw[show Y/4294967296*4294967296+Y%4294967296=Y from by omega,show V/4294967296*4294967296+V%4294967296=V from by omega]at k;have bLI:(Y:Int)/4294967296=((Y/4294967296:Nat):Int):=by omega
  have bFW:(V:Int)/4294967296=((V/4294967296:Nat):Int):=by omega
  have hd:U/(Y/4294967296)<=U:=bVO _ _;have aKB:=bSI U (Y/4294967296);have q1:u64.wrap ((U:Int).tdiv ((Y/4294967296:Nat):Int))=((U/(Y/4294967296):Nat):Int):=by
   rw[bUQ (by omega),<-bSS];exact aBP (by omega)
  have r1:u64.wrap ((U:Int)-u64.wrap (((U/(Y/4294967296):Nat):Int)*((Y/4294967296:Nat):Int)))=((U%(Y/4294967296):Nat):Int):=by
   rw[<-bTA,bRZ];generalize Y/4294967296*(U/(Y/4294967296))=z at *;generalize U%(Y/4294967296)=m at *;rw[wrap_u64 (n:=(z:Int)),wrap_u64];omega
  rw[bLI,bFW,aX,aSE _ (by omega),aSE _ bJV,q1,r1];exact k
def aH:dC:=orc3 (pN .u64) (pN .u64) (pN .u64) sp
theorem ok:OK 232 aH:=(eI E aE (aA aHO.ok aD) func232).Bp rfl spec
end pQ
namespace lN
def E:=mE [(167,fI.aH),(171,bZ.aH),(232,pQ.aH)] 45 [34,40] [(8,[0,1,7,8,9])] []
def aE:=bd f206
theorem aU:Nk E aE:=nk
def L8 a b (c:Nat) (d:List Int) e f:=nU E f206 aE 8 [gD a,cY b,yL 2 c 22 d,cY e,bR f]
theorem start a b:aF E f206 aE [D.s (ints u64 a),D.s (sc (int u64 b))]=letI B:=sc (slice none 0 0);letI A:=(a.length:Int);aQ (a.length<=1099511627776) (aB (!fI.mY a) (some [D.s B,D.s (sc (int u64 0)),D.s (sc (int i64 2))]) (aB (b==0) (some [D.s B,D.s (sc (int u64 0)),D.s (sc (int i64 4))]) (if 0<=A/\A<=A/\A<=(8796093022208:Int)then lN.L8 a b A.toNat (bPE A.toNat (0:Int)) 0 (i64.wrap (A-(1:Int)))else none))):=eJ aU
theorem Ei a b c d e f:L8 a b c d e f=letI A:=e.toNat*18446744073709551616+(a.getD f.toNat 0).toNat;aB (decide (0<=f)) (if 0<=f/\f<(a.length:Int)then aQ ((0<=e/\e<b)/\(0<=a.getD f.toNat 0/\a.getD f.toNat 0<(18446744073709551616:Int))/\b<18446744073709551616) (if 0<=f/\f<(c:Int)then lN.L8 a b c (d.set f.toNat (↑(A/b.toNat):Int)) (↑(A%b.toNat):Int) (i64.wrap (f-1))else none)else none) (aQ (M6.cB d/\d.length<=1099511627776) (some [D.s (ints u64 (bif bZ.kX (M6.val d)then M6.dg (M6.val d)else [])),D.s (sc (int u64 e)),D.s (sc (int i64 0))])):=lJ aU
theorem L{a:List Int}{b:Nat}(ha:M6.cD a)(hl:a.length<=8192)(hb0:0<b)(hb:b<18446744073709551616):∀(i:Nat) (Q:List Int),i+Q.length=a.length->M6.cB Q->M6.val Q=M6.val (a.drop i)/b ->
  L8 a b a.length (bPE i 0 ++ Q) ((M6.val (a.drop i)%b:Nat):Int) ((i:Int)-1)=some [D.s (.ints .u64 (M6.dg (M6.val a/b))),D.s (.sc (.int .u64 ((M6.val a%b:Nat):Int))),D.s (.sc (.int .i64 0))]:=by
 intro i
 induction i with
 |zero =>
  intro Q hi hd hv;have Qn:bZ.kX (M6.val a/b)=true:=by
   refine decide_eq_true ?_;rw[bTJ]at hv;rw[<-hv];have:=M6.oX hd;omega
  rw[bTJ]at hv ⊢;rw[List.replicate_zero,bRD,Ei,aI,gP ⟨hd,by omega⟩,hv,Qn];rfl
 |succ i ih =>
  intro Q hi hd hv;have g:=ha.iX.get i;have hm:=bPJ (M6.val (a.drop (i+1))) hb0;have aKB:=bSI (M6.val (a.drop (i+1))) b;have w:i64.wrap ((i:Int)-1)=(i:Int)-1:=by rw[wrap_i64]
  have hs:(bPE i (0:Int) ++ 0 :: Q).set i ((((M6.val (a.drop (i+1))%b)*18446744073709551616+(a.getD i 0).toNat)/b:Nat):Int)=bPE i 0 ++ (((((M6.val (a.drop (i+1))%b)*18446744073709551616+(a.getD i 0).toNat)/b:Nat):Int) :: Q):=Ce (by simp) _ _ _;have hN:M6.val (a.drop i)=b*(18446744073709551616*(M6.val (a.drop (i+1))/b))+((M6.val (a.drop (i+1))%b)*18446744073709551616+(a.getD i 0).toNat):=by
   rw[M6.gF,bUY];generalize b*(M6.val (a.drop (i+1))/b)=z at *;omega
  have hq:((M6.val (a.drop (i+1))%b)*18446744073709551616+(a.getD i 0).toNat)/b<18446744073709551616:=by
   apply bSW;have:(M6.val (a.drop (i+1))%b+1)*18446744073709551616<=b*18446744073709551616:=bOO _ hm;omega
  have aMV:(0:Int)<=((M6.val (a.drop (i+1))%b:Nat):Int)/\((M6.val (a.drop (i+1))%b:Nat):Int)<(b:Int):=⟨bWU _,Int.ofNat_lt.2 hm⟩;have aMQ:=ih (((((M6.val (a.drop (i+1))%b)*18446744073709551616+(a.getD i 0).toNat)/b:Nat):Int) :: Q) (by rw[List.length_cons];omega) (M6.jO.2 ⟨⟨bWU _,Int.ofNat_lt.2 hq⟩,hd⟩) (by
    show(((((M6.val (a.drop (i+1))%b)*18446744073709551616+(a.getD i 0).toNat)/b:Nat):Int)).toNat+18446744073709551616*M6.val Q=_;rw[bQX,hN,bWT hb0,hv,bTD])
  rw[Ei,show(((i+1:Nat):Int)-1)=(i:Int)from by omega,aO,if_pos ⟨by omega,by omega⟩,bQX,gP ⟨aMV,g,by omega⟩,if_pos ⟨by omega,by omega⟩,bQX,bQX,w,List.replicate_succ',bOW,bTX,hs];rw[hN,bZD]at aMQ;exact aMQ
def sp(a:List Int)(n:Int):Prop×List D:=(M6.cD a/\a.length<=8192/\0<n/\n<18446744073709551616,[.s (.ints .u64 (M6.dg (M6.val a/n.toNat))),.s (.sc (.int .u64 ((M6.val a%n.toNat:Nat):Int))),.s (.sc (.int .i64 0))])
theorem spec:fO E f206 aE (pI .u64) (pN .u64) sp:=by
 rintro a n ⟨ha,hl,h0,h1⟩;obtain⟨b,rfl⟩:=bSE (show 0<=n by omega);refine(start a b).trans ?_;show _=some [D.s (.ints .u64 (M6.dg (M6.val a/(b:Int).toNat))),D.s (.sc (.int .u64 ((M6.val a%(b:Int).toNat:Nat):Int))),D.s (.sc (.int .i64 0))];have w:i64.wrap ((a.length:Int)-1)=(a.length:Int)-1:=by rw[wrap_i64]
 rw[bQX,bQX,gP,fI.lU ha hl,bPB,bF,bS,if_pos ⟨by omega,by omega,by omega⟩,w];have:=L (b:=b) ha hl (by omega) (by omega) a.length [] (by simp) M6.lW (by simp[M6.val]);rw[bTC,List.drop_length]at this;simp only[M6.val,bUX]at this;exact this
def aH:dC:=orc2 (pI .u64) (pN .u64) sp
theorem ok:OK 206 aH:=(eI E aE (aA fI.ok (aA bZ.ok (aA pQ.ok aD))) func206).lP rfl spec
end lN
namespace xH
def E:=mE [] 43 [] [(7,[1,7,8,19,20])] []
def aE:=bd f208
theorem aU:Nk E aE:=nk
def L7 a (b:Nat) (c:List Int) d e f:=nU E f208 aE 7 [bR a,yL 1 b 22 c,cY d,bR e,bR f]
theorem start a b c:aF E f208 aE [D.s (ints u64 a),D.s (sc (int i64 b)),D.s (sc (int i64 c))]=letI A:=bSX c.toNat a ++ bSY (min a.length c.toNat) (bPE c.toNat (0:Int));if 0<=c/\c<=c/\c<=8796093022208 then aB (b==0) (some [D.own 22 u64 A]) (xH.L7 b c.toNat A 0 (c.toNat:Int) 0)else none:=eJ aU
theorem uI a b c d e f:L7 a b c d e f=aB (decide (f<e)) (if 0<=f/\f<(b:Int)then if a<0 then none else if 0<=f/\f<(b:Int)then if i64.wrap ((64:Int)-a)<0 then none else if 0<=f/\f<(b:Int)then xH.L7 a b (c.set f.toNat (eY BinOp.or u64 (u64.wrap (c.getD f.toNat 0*(↑((2:Nat)^min a.toNat 64):Int))) d)) (c.getD f.toNat 0/(↑((2:Nat)^min (i64.wrap ((64:Int)-a)).toNat 64):Int)) e (i64.wrap (f+1))else none else none else none) (some [D.own 22 u64 c]):=lJ aU
def sp(a:List Int)(s n:Int):Prop×List D:=(M6.cB a/\0<=s/\s<64/\0<=n/\a.length<=n.toNat/\n<=549755813888/\M6.val a*2^s.toNat<18446744073709551616^n.toNat,[.own fC .u64 (M6.nY n.toNat (M6.val a*2^s.toNat))])
theorem L{A:List Int}{s n:Nat}(hA:M6.cB A)(bCG:A.length=n)(hn:n<=549755813888)(Jd:0<s)(hs:s<64)(hT:M6.val A*2^s<18446744073709551616^n):∀(r i:Nat) (P:List Int) (c:Int),i+r=n->P.length=i->M6.cB P->0<=c->c<((2^s:Nat):Int) ->
  M6.val P+18446744073709551616^i*c.toNat=M6.val (A.take i)*2^s ->
  L7 s n (P ++ A.drop i) c n i=some [.own fC .u64 (M6.nY n (M6.val A*2^s))]:=by
 have Ql:2^s<2^64:=bTU (by omega) hs;intro r
 induction r with
 |zero =>
  intro i P c hi hP hd h0 h1 hv;have Je:i=n:=by omega
  subst Je;rw[M6.cE (by omega)]at hv;have hc:c=0:=by
   rcases bYP 0 c with h |h
   ·have h2:18446744073709551616^i*1<=18446744073709551616^i*c.toNat:=bPP _ (by omega);omega
   ·omega
  subst hc;simp at hv;rw[uI,aI,bYO (by omega),bTC,M6.nM hd hP hv]
 |succ r ih =>
  intro i P c hi hP hd h0 h1 hv;have g:=hA.get i;have w1:i64.wrap ((i:Int)+1)=((i+1:Nat):Int):=by rw[wrap_i64];omega
  have w3:i64.wrap (64-(s:Int))=((64-s:Nat):Int):=by rw[wrap_i64];omega
  have m1:min s 64=s:=by omega
  have m2:min (64-s) 64=64-s:=by omega
  have aES:A.drop i=A.getD i 0 :: A.drop (i+1):=by
   rw[List.drop_eq_getElem_cons (by omega)];simp[bSG,List.getElem?_eq_getElem (show i<A.length by omega)]
  obtain⟨x,hx⟩:=bSE g.1;have iN:x*2^s%18446744073709551616<18446744073709551616:=bPJ _ (by omega);have Uh:u64.wrap ((x:Int)*((2^s:Nat):Int))=((x*2^s%18446744073709551616:Nat):Int):=by
   rw[eG,<-bTA,bTS];rfl
  have aJW:c.toNat+x*2^s%18446744073709551616<18446744073709551616:=by
   rw[Fc x s hs];have hm:x%2^(64-s)<2^(64-s):=bPJ _ (cI);have e:(18446744073709551616:Nat)=2^s*2^(64-s):=by rw[<-bSD,show s+(64-s)=64 from by omega]
   have h3:2^s*(x%2^(64-s)+1)<=2^s*2^(64-s):=bPP _ hm;rw[<-e,bSB]at h3;omega
  have aUD:eY .or .u64 ((x*2^s%18446744073709551616:Nat):Int) c=c+((x*2^s%18446744073709551616:Nat):Int):=by
   rw[Zg (by omega) (by omega) h0 (by omega),bQX,Nat.or_comm,Fc x s hs,Cm (by omega)];omega
  have Sv:x/2^(64-s)<2^s:=by
   apply bSW;rw[<-bSD,show 64-s+s=64 from by omega];omega
  rw[aES,uI,aO,aT,aX,aT,w3,aX,aT,w1,bQX,bQX,bQX,m1,m2,Cv hP,Ce hP,hx,Uh,aUD];have aOQ:=Cb x s hs;have:=ih (i+1) (P ++ [c+((x*2^s%18446744073709551616:Nat):Int)]) ((x/2^(64-s):Nat):Int) (by omega) (by simp[hP]) (M6.lF hd ⟨by omega,by omega⟩) (by omega) (by omega) (by
   rw[M6.lE,hP,M6.cA,hx,bQX,bQX,bSA,bSF,bNV];have e1:(c+(((x*2^s%18446744073709551616:Nat)):Int)).toNat=c.toNat+x*2^s%18446744073709551616:=by omega
   rw[e1];have e2:18446744073709551616^i*(c.toNat+x*2^s%18446744073709551616)+18446744073709551616^i*(18446744073709551616*(x/2^(64-s)))=18446744073709551616^i*c.toNat+18446744073709551616^i*x*2^s:=by
    rw[bSF,<-bSB,<-bSB];congr 1;omega
   omega)
  rw[bOW,bTX,bSS]at this;exact this
theorem spec:tL E f208 aE (pI .u64) (pN .i64) (pN .i64) sp:=by
 rintro a s n ⟨hd,Jd,hs,Eo,hl,hn,hT⟩;obtain⟨s,rfl⟩:=bSE Jd;obtain⟨n,rfl⟩:=bSE Eo;simp only[sp,bQX]at hl hT ⊢;refine(start a s n).trans ?_;have hA:bSX n a ++ bSY (min a.length n) (bPE n (0:Int))=a ++ bPE (n-a.length) 0:=by
  rw[bUM hl,bYQ,bTI hl]
 have aFC:M6.val (a ++ bPE (n-a.length) 0)=M6.val a:=by rw[M6.iB,M6.iH];omega
 have bGB:M6.cB (a ++ bPE (n-a.length) 0):=M6.oQ.2 ⟨hd,M6.iJ _⟩;have bCG:(a ++ bPE (n-a.length) 0).length=n:=by simp;omega
 rw[aT,bQX,hA]
 by_cases hz:s=0
 ·subst hz;rw[cF (by rfl),bXC,bNL,M6.nM bGB bCG aFC]
 ·rw[bS];have hp:0<((2^s:Nat):Int):=by
   have:0<2^s:=cI;omega
  have:=L (s:=s) bGB bCG (by omega) (by omega) (by omega) (by rw[aFC];exact hT) n 0 [] 0 (by omega) rfl M6.lW (by omega) hp (by simp[M6.val]);rw[bRD,bTJ,aFC]at this;exact this
def aH:dC:=orc3 (pI .u64) (pN .i64) (pN .i64) sp
theorem ok:OK 208 aH:=(eI E aE aD func208).Bp rfl spec
end xH
namespace Vi
def E:=mE [(232,pQ.aH)] 20 [16] [] []
def aE:=bd f233
theorem aU:Nk E aE:=nk
theorem start a b c:aF E f233 aE [D.s (sc (int u64 a)),D.s (sc (int u64 b)),D.s (sc (int u64 c))]=aB (decide (c<=a)) (some [D.s (sc (int u64 18446744073709551615))]) (aQ ((0<=a/\a<c)/\(0<=b/\b<18446744073709551616)/\c<18446744073709551616) (some [D.s (sc (int u64 (↑((a.toNat*18446744073709551616+b.toNat)/c.toNat):Int)))])):=eJ aU
def sp(a b c:Int):Prop×List D:=(0<=a/\0<=b/\b<18446744073709551616/\c<18446744073709551616,[.s (.sc (.int .u64 (if c<=a then 18446744073709551615 else(((a.toNat*18446744073709551616+b.toNat)/c.toNat:Nat):Int))))])
theorem spec:tL E f233 aE (pN .u64) (pN .u64) (pN .u64) sp:=by
 rintro a b c ⟨h1,h2,h3,h4⟩;refine(start a b c).trans ?_;simp only[sp]
 by_cases hc:c<=a
 ·rw[aO hc,if_pos hc]
 ·rw[aI hc,if_neg hc,gP ⟨⟨h1,by omega⟩,⟨h2,h3⟩,h4⟩]
def aH:dC:=orc3 (pN .u64) (pN .u64) (pN .u64) sp
theorem ok:OK 233 aH:=(eI E aE (aA pQ.ok aD) func233).Bp rfl spec
end Vi
namespace qM
def E:Env:={ ({ base with C:=callsOf [(252,Io.aH)],n0:=1,io:=[0] })with nt:=66,own:=[45,61],keep:=fun k=>(tlook [(3,[0,1,2,7,8,14,15])] k).getD [],cut:=tlook [] }
def aE:=bd f234
theorem aU:Nk E aE:=nk
def L3(a:List Int)(b:Nat)(c:Nat) d f g h x7 i:=nU E f234 aE 3 [(A.any,some { e:=(22:Nat),cont:=rH.ints u64 a }),(A.v (V.one (L.view 0 b c)),none),gD d,cY f,cY g,cY h,bR x7,bR i]
theorem start al ao an b c:aF E f234 aE [D.io fC u64 al ao an,D.s (ints u64 b),D.s (sc (int u64 c))]=qM.L3 al ao an b c 0 0 (b.length:Int) 0:=eJ aU
theorem pP a b c d e f g h i:L3 a b c d e f g h i=letI C:=b+i.toNat;letI B:=(d.length:Int);letI F:=b+B.toNat;letI A:=d.getD i.toNat 0*e%18446744073709551616+f+0;aB (decide (i<h)) (if 0<=i/\i<B then aQ (0<=d.getD i.toNat 0/\d.getD i.toNat 0<(18446744073709551616:Int)/\0<=e/\e<18446744073709551616) (aQ (0<=d.getD i.toNat 0*e%18446744073709551616/\0<=f/\(0:Int)<=(0:Int)/\(0:Int)<=(1:Int)) (if 0<=i/\i<(c:Int)then aQ (0<=a.getD C 0/\0<=A%18446744073709551616/\A%18446744073709551616<(18446744073709551616:Int)/\0<=g/\g<=1) (if 0<=i/\i<(c:Int)then qM.L3 (a.set C ((a.getD C 0-A%18446744073709551616-g)%18446744073709551616)) b c d e (u64.wrap (d.getD i.toNat 0*e/18446744073709551616+A/18446744073709551616)) (if a.getD C 0<A%18446744073709551616+g then(1:Int)else(0:Int)) h (i64.wrap (i+1))else none)else none))else none) (if 0<=B/\B<(c:Int)then aQ (0<=a.getD F 0/\0<=f/\f<18446744073709551616/\0<=g/\g<=1) (if 0<=B/\B<(c:Int)then some [D.s (sc (int u64 (if a.getD F 0<f+g then(1:Int)else(0:Int)))),D.io 22 u64 (a.set F ((a.getD F 0-f-g)%18446744073709551616)) 0 0]else none)else none):=lJ aU
def Pf(v o n X:Nat):Nat:=if v/18446744073709551616^o%18446744073709551616^n<X then 1 else 0
def sp(x:List Int×Nat×Nat)(b:List Int)(w:Int):Prop×List D:=(M6.cB x.1/\x.2.2=b.length+1/\x.2.1+x.2.2<=x.1.length/\M6.cB b/\x.1.length<=1099511627776/\0<=w/\w<18446744073709551616,
 [.s (.sc (.int .u64 (Pf (M6.val x.1) x.2.1 x.2.2 (M6.val b*w.toNat)))),.io fC .u64 (M6.nY x.1.length (M6.val x.1+18446744073709551616^(x.2.1+x.2.2)*Pf (M6.val x.1) x.2.1 x.2.2 (M6.val b*w.toNat)-18446744073709551616^x.2.1*(M6.val b*w.toNat))) 0 0])
theorem fin{a z':List Int}{o n X c N:Nat}(aRO:c<=1)(hd:M6.cB a)(Ea:M6.cB z')(hl:z'.length=N)(h1:z'.take o=a.take o)(h2:z'.drop (o+n)=a.drop (o+n))(h:M6.val z'+18446744073709551616^o*X=M6.val a+18446744073709551616^(o+n)*c) :
  c=Pf (M6.val a) o n X/\z'=M6.nY N (M6.val a+18446744073709551616^(o+n)*Pf (M6.val a) o n X-18446744073709551616^o*X):=by
 obtain⟨k1,k2⟩:=M6.Pk hd Ea h1 h2;have e:=M6.Pj k1 k2 h;have iN:=M6.Ta (M6.val z') o n;have hc:c=Pf (M6.val a) o n X:=by
  unfold Pf;have:c=0\/c=1:=by omega
  rcases this with rfl |rfl
  ·rw[aX]
  ·rw[aT]
 subst hc;exact⟨rfl,M6.nM Ea hl (by omega)⟩
theorem aSI{x C s:Int}{p:Nat}(hp:p<=340282366920938463426481119284349108225)(h0:0<=x)(h1:x<18446744073709551616)(h2:0<=C)(h3:C<18446744073709551616)(h4:0<=s)(h5:s<=1) :
  (0<=(p:Int)/18446744073709551616+((p:Int)%18446744073709551616+C+0)/18446744073709551616/\(p:Int)/18446744073709551616+((p:Int)%18446744073709551616+C+0)/18446744073709551616<18446744073709551616) /\
  ((x-((p:Int)%18446744073709551616+C+0)%18446744073709551616-s)%18446744073709551616).toNat+p+C.toNat+s.toNat=x.toNat+18446744073709551616*(((p:Int)/18446744073709551616+((p:Int)%18446744073709551616+C+0)/18446744073709551616).toNat+(if x<((p:Int)%18446744073709551616+C+0)%18446744073709551616+s then(1:Int)else 0).toNat):=by
 split <;> omega
theorem L{a b:List Int}{o:Nat}{w:Int}(hN:a.length<=1099511627776)(ha:M6.cB a)(hb:M6.cB b)(ho:o+(b.length+1)<=a.length)(Zp:0<=w)(aZN:w<18446744073709551616):∀(r i:Nat) (z:List Int) (C s:Int),i+r=b.length->z.length=a.length->M6.cB z->0<=C->C<18446744073709551616->0<=s->s<=1->z.take o=a.take o->z.drop (o+(b.length+1))=a.drop (o+(b.length+1)) ->
  M6.val z+18446744073709551616^o*(M6.val (b.take i)*w.toNat)=M6.val a+18446744073709551616^(o+i)*(C.toNat+s.toNat) ->
  L3 z o (b.length+1) b w C s b.length i=some [.s (.sc (.int .u64 (Pf (M6.val a) o (b.length+1) (M6.val b*w.toNat)))),.io fC .u64 (M6.nY a.length (M6.val a+18446744073709551616^(o+(b.length+1))*Pf (M6.val a) o (b.length+1) (M6.val b*w.toNat)-18446744073709551616^o*(M6.val b*w.toNat))) 0 0]:=by
 intro r
 induction r with
 |zero =>
  intro i z C s hi hz hd h0 h1 h2 h3 ht Zy hv;have aPA:i=b.length:=by omega
  subst aPA;rw[bTW]at hv;have g:=hd.get (o+b.length);rw[pP,aI,aT,bQX,gP ⟨g.1,h0,h1,h2,h3⟩,aT];have hs:=M6.oV (a:=z) (j:=o+b.length) (by omega) ((z.getD (o+b.length) 0-C-s)%18446744073709551616);have hf:=fin (a:=a) (z':=z.set (o+b.length) ((z.getD (o+b.length) 0-C-s)%18446744073709551616)) (o:=o) (n:=b.length+1) (X:=M6.val b*w.toNat) (c:=(if z.getD (o+b.length) 0<C+s then(1:Int)else 0).toNat) (N:=a.length) (by split <;> omega) ha (M6.lV hd (by omega)) (by simp[hz]) (by rw[bXX (by omega)];exact ht) (by rw[bYD (by omega)];exact Zy) (by
   rw[<-bQR o,bSA,bSF];generalize z.getD (o+b.length) 0=x at *;generalize M6.val (z.set (o+b.length) _)=W at *;generalize 18446744073709551616^(o+b.length)=P at *;have e:((x-C-s)%18446744073709551616).toNat+(C.toNat+s.toNat)=x.toNat+18446744073709551616*(if x<C+s then(1:Int)else 0).toNat:=by split <;> omega
   have e2:P*((x-C-s)%18446744073709551616).toNat+P*(C.toNat+s.toNat)=P*x.toNat+P*(18446744073709551616*(if x<C+s then(1:Int)else 0).toNat):=by
    rw[<-bSB,e,bSB]
   omega)
  rw[<-hf.2,<-hf.1,bZE (by split <;> omega)]
 |succ r ih =>
  intro i z C s hi hz hd h0 h1 h2 h3 ht Zy hv;have g:=hd.get (o+i);have g2:=hb.get i;have w2:i64.wrap ((i:Int)+1)=((i+1:Nat):Int):=by rw[wrap_i64];omega
  obtain⟨X,hX⟩:=bSE g2.1;obtain⟨Y,hY⟩:=bSE Zp;have bBW:X*Y<=340282366920938463426481119284349108225:=by
   have h2:X<=18446744073709551615:=by omega
   have h3:Y<=18446744073709551615:=by omega
   have:=bXP h2 h3;omega
  obtain⟨k1,k2⟩:=aSI bBW g.1 g.2 h0 h1 h2 h3;rw[pP,aO,aT,w2];simp only[bQX];have hq:b.getD i 0*w=((X*Y:Nat):Int):=by rw[hX,hY];simp
  rw[gP ⟨g2.1,g2.2,Zp,aZN⟩];simp only[hq];rw[gP ⟨by omega,by omega,by omega,by omega⟩,aT,gP ⟨g.1,by omega,by omega,h2,h3⟩,aT,wrap_u64 k1.1 k1.2];refine ih (i+1) _ _ (if z.getD (o+i) 0<(((X*Y:Nat):Int)%18446744073709551616+C+0)%18446744073709551616+s then(1:Int)else 0) (by omega) (by simp[hz]) (M6.lV hd (by omega)) k1.1 k1.2 (by split <;> omega) (by split <;> omega) (by rw[bXX (by omega)];exact ht) (by rw[bYD (by omega)];exact Zy) ?_;have hs:=M6.oV (a:=z) (j:=o+i) (by omega) ((z.getD (o+i) 0-(((X*Y:Nat):Int)%18446744073709551616+C+0)%18446744073709551616-s)%18446744073709551616);have e0:18446744073709551616^o*(M6.val (b.take (i+1))*w.toNat)=18446744073709551616^o*(M6.val (b.take i)*w.toNat)+18446744073709551616^(o+i)*(X*Y):=by
   rw[M6.cA,hX,hY,bQX,bQX,bNV,bSB,bSD,bSF,bSF]
  rw[e0,show o+(i+1)=(o+i)+1 from by omega,bSA,bSF];generalize ((z.getD (o+i) 0-(((X*Y:Nat):Int)%18446744073709551616+C+0)%18446744073709551616-s)%18446744073709551616)=d at *;generalize (((X*Y:Nat):Int)/18446744073709551616+(((X*Y:Nat):Int)%18446744073709551616+C+0)/18446744073709551616).toNat=C' at *;generalize (if z.getD (o+i) 0<(((X*Y:Nat):Int)%18446744073709551616+C+0)%18446744073709551616+s then(1:Int)else 0).toNat=s' at *;generalize X*Y=q at *;generalize 18446744073709551616^(o+i)=P at *;generalize M6.val (z.set (o+i) d)=W at *;generalize (z.getD (o+i) 0).toNat=x at *;generalize 18446744073709551616^o*(M6.val (b.take i)*w.toNat)=U at *;have e2:P*d.toNat+P*q+P*(C.toNat+s.toNat)=P*x+P*(18446744073709551616*(C'+s')):=by
   rw[<-bSB,<-bSB,<-bSB];congr 1;omega
  omega
theorem bound{v o n N X:Nat}(hv:v<18446744073709551616^N)(bJO:o+n<=N)(hX:X<18446744073709551616^n):v+18446744073709551616^(o+n)*Pf v o n X-18446744073709551616^o*X<18446744073709551616^N:=by
 have e1:=M6.xT v o n;have hW:=M6.Ta v o n;have hT:v/18446744073709551616^(o+n)<18446744073709551616^(N-(o+n)):=by
  apply bSW;rw[<-bSD,show o+n+(N-(o+n))=N from by omega];exact hv
 have hL:v%18446744073709551616^o<18446744073709551616^o:=bPJ _ (cI);have s2:18446744073709551616^(o+n)*(v/18446744073709551616^(o+n)+1)<=18446744073709551616^N:=by
  have:=bPP (18446744073709551616^(o+n)) hT;rw[<-bSD,show o+n+(N-(o+n))=N from by omega]at this;exact this
 rw[bSB]at s2;unfold Pf;generalize v/18446744073709551616^o%18446744073709551616^n=W at *;generalize v%18446744073709551616^o=L at *;generalize v/18446744073709551616^(o+n)=T at *;split
 ·rename_i iN;have:18446744073709551616^o*(W+1)<=18446744073709551616^o*X:=bPP _ iN;rw[bSB]at this;omega
 ·omega
theorem spec(x:List Int×Nat×Nat)(b:List Int)(w:Int)(h:(sp x b w).1):aF E f234 aE [(Ai fC .u64).put x,(pI .u64).put b,(pN .u64).put w]=some (sp x b w).2/\∃rs lC,(sp x b w).2=rs ++ [.io fC .u64 lC 0 0]/\lC.length=x.1.length:=by
 obtain⟨xl,o,n⟩:=x;obtain⟨hd,hn,ho,hb,hN,Zp,aZN⟩:=h;simp only at hd hn ho hN;subst hn;refine⟨(start xl o (b.length+1) b w).trans ?_,[_],_,rfl,M6.gG (bound (M6.cK hd) ho ?_)⟩
 ·exact L hN hd hb ho Zp aZN b.length 0 xl 0 0 (by omega) rfl hd (by omega) (by omega) (by omega) (by omega) rfl rfl (by simp[M6.val])
 ·rw[bSA];exact bVP (M6.cK hb) (by omega)
def aH:dC:=orc3 (Ai fC .u64) (pI .u64) (pN .u64) sp
theorem fnok:kO prog E 234 f234 aE:=tJ pE mixed (kK _ rfl (aA Io.ok aD) (mI)) func234 rfl rfl rfl rfl rfl
theorem ok:oD prog base.glob 234 aH:=fnok.Bp rfl spec
end qM
namespace vU
def E:Env:={ ({ base with n0:=1,io:=[0] })with nt:=44,own:=[24,39],keep:=fun k=>(tlook [(3,[0,1,5,8,9])] k).getD [],cut:=tlook [] }
def aE:=bd f235
theorem aU:Nk E aE:=nk
def L3(a:List Int)(b:Nat)(c:Nat) d f g h:=nU E f235 aE 3 [(A.any,some { e:=(22:Nat),cont:=rH.ints u64 a }),(A.v (V.one (L.view 0 b c)),none),gD d,cY f,bR g,bR h]
theorem start al ao an b:aF E f235 aE [D.io fC u64 al ao an,D.s (ints u64 b)]=vU.L3 al ao an b 0 (b.length:Int) 0:=eJ aU
theorem pP a b c d e f g:L3 a b c d e f g=letI G:=b+g.toNat;letI B:=a.getD G 0+d.getD g.toNat 0+e;letI A:=(d.length:Int);letI F:=b+A.toNat;letI C:=a.getD F 0+(0:Int)+e;aB (decide (g<f)) (if 0<=g/\g<(c:Int)then if 0<=g/\g<A then aQ (0<=a.getD G 0/\0<=d.getD g.toNat 0/\0<=e/\e<=1) (if 0<=g/\g<(c:Int)then vU.L3 (a.set G (B%18446744073709551616)) b c d (B/18446744073709551616) f (i64.wrap (g+1))else none)else none else none) (if 0<=A/\A<(c:Int)then aQ (0<=a.getD F 0/\(0:Int)<=(0:Int)/\0<=e/\e<=1) (if 0<=A/\A<(c:Int)then some [D.s (sc (int u64 (C/18446744073709551616))),D.io 22 u64 (a.set F (C%18446744073709551616)) 0 0]else none)else none):=lJ aU
def Sw(v o n X:Nat):Nat:=(v/18446744073709551616^o%18446744073709551616^n+X)/18446744073709551616^n
def sp(x:List Int×Nat×Nat)(b:List Int):Prop×List D:=(M6.cB x.1/\x.2.2=b.length+1/\x.2.1+x.2.2<=x.1.length/\M6.cB b/\x.1.length<=1099511627776,
 [.s (.sc (.int .u64 (Sw (M6.val x.1) x.2.1 x.2.2 (M6.val b)))),.io fC .u64 (M6.nY x.1.length (M6.val x.1+18446744073709551616^x.2.1*M6.val b-18446744073709551616^(x.2.1+x.2.2)*Sw (M6.val x.1) x.2.1 x.2.2 (M6.val b))) 0 0])
theorem fin{a z':List Int}{o n X c N:Nat}(hd:M6.cB a)(Ea:M6.cB z')(hl:z'.length=N)(h1:z'.take o=a.take o)(h2:z'.drop (o+n)=a.drop (o+n))(h:M6.val z'+18446744073709551616^(o+n)*c=M6.val a+18446744073709551616^o*X) :
  c=Sw (M6.val a) o n X/\z'=M6.nY N (M6.val a+18446744073709551616^o*X-18446744073709551616^(o+n)*Sw (M6.val a) o n X):=by
 obtain⟨k1,k2⟩:=M6.Pk hd Ea h1 h2;have e:=M6.Pj k1.symm k2.symm h.symm;have iN:=M6.Ta (M6.val z') o n;have hc:c=Sw (M6.val a) o n X:=by
  unfold Sw;rw[e];rw[bTR _ _ (cI),bSZ iN,bND]
 subst hc;exact⟨rfl,M6.nM Ea hl (by omega)⟩
theorem L{a b:List Int}{o:Nat}(hN:a.length<=1099511627776)(ha:M6.cB a)(hb:M6.cB b)(ho:o+(b.length+1)<=a.length):∀(r i:Nat) (z:List Int) (c:Int),i+r=b.length->z.length=a.length->M6.cB z->0<=c->c<=1->z.take o=a.take o->z.drop (o+(b.length+1))=a.drop (o+(b.length+1)) ->
  M6.val z+18446744073709551616^(o+i)*c.toNat=M6.val a+18446744073709551616^o*M6.val (b.take i) ->
  L3 z o (b.length+1) b c b.length i=some [.s (.sc (.int .u64 (Sw (M6.val a) o (b.length+1) (M6.val b)))),.io fC .u64 (M6.nY a.length (M6.val a+18446744073709551616^o*M6.val b-18446744073709551616^(o+(b.length+1))*Sw (M6.val a) o (b.length+1) (M6.val b))) 0 0]:=by
 intro r
 induction r with
 |zero =>
  intro i z c hi hz hd h0 h1 ht Zy hv;have aPA:i=b.length:=by omega
  subst aPA;rw[bTW]at hv;have g:=hd.get (o+b.length);rw[pP,aI,aT,bQX,gP ⟨g.1,by omega,h0,h1⟩,aT];have hs:=M6.oV (a:=z) (j:=o+b.length) (by omega) ((z.getD (o+b.length) 0+0+c)%18446744073709551616);have hf:=fin (a:=a) (z':=z.set (o+b.length) ((z.getD (o+b.length) 0+0+c)%18446744073709551616)) (o:=o) (n:=b.length+1) (X:=M6.val b) (c:=((z.getD (o+b.length) 0+0+c)/18446744073709551616).toNat) (N:=a.length) ha (M6.lV hd (by omega)) (by simp[hz]) (by rw[bXX (by omega)];exact ht) (by rw[bYD (by omega)];exact Zy) (by
   rw[<-bQR o,bSA,bSF];generalize z.getD (o+b.length) 0=x at *;generalize M6.val (z.set (o+b.length) _)=W at *;generalize 18446744073709551616^(o+b.length)=P at *;have e:((x+0+c)%18446744073709551616).toNat+18446744073709551616*((x+0+c)/18446744073709551616).toNat=x.toNat+c.toNat:=by omega
   have e2:P*((x+0+c)%18446744073709551616).toNat+P*(18446744073709551616*((x+0+c)/18446744073709551616).toNat)=P*x.toNat+P*c.toNat:=by
    rw[<-bSB,e,bSB]
   omega)
  rw[<-hf.2,<-hf.1,bZE (by omega)]
 |succ r ih =>
  intro i z c hi hz hd h0 h1 ht Zy hv;have g:=hd.get (o+i);have g2:=hb.get i;have w2:i64.wrap ((i:Int)+1)=((i+1:Nat):Int):=by rw[wrap_i64];omega
  rw[pP,aO,aT,aT,bQX,gP ⟨g.1,g2.1,h0,h1⟩,aT,w2];refine ih (i+1) _ _ (by omega) (by simp[hz]) (M6.lV hd (by omega)) (by omega) (by omega) (by rw[bXX (by omega)];exact ht) (by rw[bYD (by omega)];exact Zy) ?_;have hs:=M6.oV (a:=z) (j:=o+i) (by omega) ((z.getD (o+i) 0+b.getD i 0+c)%18446744073709551616);rw[M6.cA,bSB,<-bSF,<-bSD,show o+(i+1)=(o+i)+1 from by omega,bSA,bSF];generalize z.getD (o+i) 0=x at *;generalize b.getD i 0=y at *;generalize M6.val (z.set (o+i) _)=W at *;generalize 18446744073709551616^(o+i)=P at *;generalize 18446744073709551616^o*M6.val (b.take i)=U at *;have e:((x+y+c)%18446744073709551616).toNat+18446744073709551616*((x+y+c)/18446744073709551616).toNat=x.toNat+y.toNat+c.toNat:=by omega
  have e2:P*((x+y+c)%18446744073709551616).toNat+P*(18446744073709551616*((x+y+c)/18446744073709551616).toNat)=P*x.toNat+P*y.toNat+P*c.toNat:=by
   rw[<-bSB,e,bSB,bSB]
  omega
theorem bound{v o n N X:Nat}(hv:v<18446744073709551616^N)(bJO:o+n<=N):v+18446744073709551616^o*X-18446744073709551616^(o+n)*Sw v o n X<18446744073709551616^N:=by
 have e1:=M6.xT v o n;unfold Sw;generalize hW:v/18446744073709551616^o%18446744073709551616^n=W at *;have h2:=bXS (W+X) (18446744073709551616^n);have h3:(W+X)%18446744073709551616^n<18446744073709551616^n:=bPJ _ (cI);generalize (W+X)/18446744073709551616^n=c at *;generalize (W+X)%18446744073709551616^n=M at *;have hL:v%18446744073709551616^o<18446744073709551616^o:=bPJ _ (cI);have hT:v/18446744073709551616^(o+n)<18446744073709551616^(N-(o+n)):=by
  apply bSW;rw[<-bSD,show o+n+(N-(o+n))=N from by omega];exact hv
 generalize v%18446744073709551616^o=L at *;generalize v/18446744073709551616^(o+n)=T at *;have e3:18446744073709551616^(o+n)*c=18446744073709551616^o*(18446744073709551616^n*c):=by rw[bSD,bSF]
 have e4:18446744073709551616^o*(W+X)=18446744073709551616^o*M+18446744073709551616^o*(18446744073709551616^n*c):=by rw[<-h2,bSB]
 rw[bSB]at e4;have e5:v+18446744073709551616^o*X-18446744073709551616^(o+n)*c=L+18446744073709551616^o*M+18446744073709551616^(o+n)*T:=by omega
 rw[e5];have s1:L+18446744073709551616^o*M<18446744073709551616^(o+n):=by
  have:18446744073709551616^o*(M+1)<=18446744073709551616^o*18446744073709551616^n:=bPP _ h3;rw[<-bSD,bSB]at this;omega
 have s2:18446744073709551616^(o+n)*(T+1)<=18446744073709551616^N:=by
  have:=bPP (18446744073709551616^(o+n)) hT;rw[<-bSD,show o+n+(N-(o+n))=N from by omega]at this;exact this
 rw[bSB]at s2;omega
theorem spec(x:List Int×Nat×Nat)(b:List Int)(h:(sp x b).1):aF E f235 aE [(Ai fC .u64).put x,(pI .u64).put b]=some (sp x b).2/\∃rs lC,(sp x b).2=rs ++ [.io fC .u64 lC 0 0]/\lC.length=x.1.length:=by
 obtain⟨xl,o,n⟩:=x;obtain⟨hd,hn,ho,hb,hN⟩:=h;simp only at hd hn ho hN;subst hn;refine⟨(start xl o (b.length+1) b).trans ?_,[_],_,rfl,M6.gG (bound (M6.cK hd) ho)⟩;exact L hN hd hb ho b.length 0 xl 0 (by omega) rfl hd (by omega) (by omega) rfl rfl (by simp[M6.val])
def aH:dC:=orc2 (Ai fC .u64) (pI .u64) sp
theorem fnok:kO prog E 235 f235 aE:=tJ pE mixed (kK _ rfl aD (mI)) func235 rfl rfl rfl rfl rfl
theorem ok:oD prog base.glob 235 aH:=fnok.lP rfl spec
end vU
namespace Bf
def E:Env:={ ({ base with C:=pA [(234,qM.aH),(235,vU.aH)] (callsOf [(233,Vi.aH)]),ioF:=Jl [(234,qM.aH),(235,vU.aH)],n0:=1,io:=[0] })with nt:=72,own:=[],keep:=fun k=>(tlook [(10,[0,1,5,6,7,8,9]),(4,[0,1,5,6,7])] k).getD [],cut:=tlook [] }
def aE:=bd f209
theorem aU:Nk E aE:=nk
def L4(a:List Int)(b:Nat)(c:Nat) d f (g:Nat) (h:List Int) x7:=nU E f209 aE 4 [(A.any,some { e:=(22:Nat),cont:=rH.ints u64 a }),(A.v (V.one (L.view 0 b c)),none),gD d,bR f,yL 4 g 22 h,bR x7]
def Ir(a:List Int)(b:Nat)(c:Nat) d f (g:Nat) (h:List Int) x7 i (j:Nat) (k:Nat):=nU E f209 aE 10 [(A.any,some { e:=(22:Nat),cont:=rH.ints u64 a }),(A.v (V.one (L.view 0 b c)),none),gD d,bR f,yL 4 g 22 h,bR x7,cY i,(A.v (V.one (L.view 0 j k)),none)]
theorem start al ao an b:aF E f209 aE [D.io fC u64 al ao an,D.s (ints u64 b)]=letI B:=(an:Int);letI A:=(b.length:Int);if 0<=i64.wrap (B-A)/\i64.wrap (B-A)<=i64.wrap (B-A)/\i64.wrap (B-A)<=8796093022208 then Bf.L4 al ao an b A (i64.wrap (B-A)).toNat (bPE (i64.wrap (B-A)).toNat (0:Int)) (i64.wrap (i64.wrap (B-A)-1))else none:=eJ aU
theorem kV a b c d e f g h:L4 a b c d e f g h=letI N:=b+h.toNat;letI K:=i64.wrap (e-1);letI H:=i64.wrap (h+e)+1;letI G:=i64.wrap (h+e)-1;letI F:=b+(i64.wrap (h+e)).toNat;letI B:=b+(i64.wrap G).toNat;letI A:=i64.wrap H;letI C:=A.toNat-h.toNat;aB (decide (0<=h)) (if 0<=i64.wrap (h+e)/\i64.wrap (h+e)<(c:Int)then if 0<=i64.wrap G/\i64.wrap G<(c:Int)then if 0<=i64.wrap (e-1)/\i64.wrap (e-1)<(d.length:Int)then aQ (0<=a.getD F 0/\0<=a.getD B 0/\a.getD B 0<(18446744073709551616:Int)/\d.getD K.toNat 0<(18446744073709551616:Int)) (aC (if d.getD K.toNat 0<=a.getD F 0 then(18446744073709551615:Int)else(↑(((a.getD F 0).toNat*18446744073709551616+(a.getD B 0).toNat)/(d.getD K.toNat 0).toNat):Int)) fun i=>letI I:=M6.val d*i.toNat;if 0<=h/\h<=i64.wrap H/\i64.wrap H<=(c:Int)then aQ (M6.cB a/\A.toNat-h.toNat=d.length+1/\b+h.toNat+C<=a.length/\M6.cB d/\a.length<=1099511627776/\0<=i/\i<18446744073709551616) (aC (↑(qM.Pf (M6.val a) N C I):Int) fun j=>aC (M6.nY a.length (M6.val a+(18446744073709551616:Nat)^(b+h.toNat+C)*qM.Pf (M6.val a) N C I-(18446744073709551616:Nat)^N*I)) fun k=>aB (j==0) (if 0<=h/\h<(f:Int)then Bf.L4 k b c d e f (g.set h.toNat i) (i64.wrap (h-1))else none) (Bf.Ir k b c d e f g h i N C))else none)else none else none else none) (some [D.own 22 u64 g,D.io 22 u64 a 0 0]):=lJ aU
theorem sL a b c d e f g h i j k:Ir a b c d e f g h i j k=aQ (M6.cB a/\k=d.length+1/\j+k<=a.length/\M6.cB d/\a.length<=1099511627776) (aC (↑(vU.Sw (M6.val a) j k (M6.val d)):Int) fun l=>aC (M6.nY a.length (M6.val a+(18446744073709551616:Nat)^j*M6.val d-(18446744073709551616:Nat)^(j+k)*vU.Sw (M6.val a) j k (M6.val d))) fun m=>aB (l==1) (if 0<=h/\h<(f:Int)then Bf.L4 m b c d e f (g.set h.toNat (u64.wrap (i-1))) (i64.wrap (h-1))else none) (Bf.Ir m b c d e f g h (u64.wrap (i-1)) j k)):=lJ aU
def sp(x:List Int×Nat×Nat)(b:List Int):Prop×List D:=(M6.cB x.1/\x.2.1=0/\x.2.2=x.1.length/\M6.cB b/\0<b.length/\b.length<=x.1.length/\x.1.length<=549755813888/\M6.val x.1/18446744073709551616^(x.1.length-b.length)<M6.val b,
 [.own fC .u64 (M6.nY (x.1.length-b.length) (M6.val x.1/M6.val b)),.io fC .u64 (M6.nY x.1.length (M6.val x.1%M6.val b)) 0 0])
theorem digit{z:List Int}(hd:M6.cB z)(k:Nat):(z.getD k 0).toNat=M6.val z/18446744073709551616^k%18446744073709551616:=by
 rw[<-M6.jH hd,M6.gF];have:=hd.get k;omega
theorem Ey{v j n:Nat}(h:v/18446744073709551616^j<18446744073709551616^n):v/18446744073709551616^j%18446744073709551616^n=v/18446744073709551616^j:=bXQ h
theorem minus{v j R X:Nat}(hR:R=v/18446744073709551616^j)(hX:X<=R):(v-18446744073709551616^j*X)/18446744073709551616^j=R-X/\18446744073709551616^j*X<=v:=by
 have h1:=bXS v (18446744073709551616^j);have h2:v%18446744073709551616^j<18446744073709551616^j:=bPJ _ (cI);rw[<-hR]at h1;obtain⟨D,rfl⟩:=bOG hX;rw[bSB]at h1;have h3:v-18446744073709551616^j*X=v%18446744073709551616^j+18446744073709551616^j*D:=by omega
 rw[h3,bTR _ _ (cI),bSZ h2];omega
theorem plus{v j n R X:Nat}(hR:R=v/18446744073709551616^j)(hX:R<X)(aRP:X<=18446744073709551616^n):(v+18446744073709551616^(j+n)-18446744073709551616^j*X)/18446744073709551616^j%18446744073709551616^n=R+18446744073709551616^n-X:=by
 have h1:=bXS v (18446744073709551616^j);have h2:v%18446744073709551616^j<18446744073709551616^j:=bPJ _ (cI);rw[<-hR]at h1;have h4:18446744073709551616^j*(R+18446744073709551616^n)=18446744073709551616^j*R+18446744073709551616^(j+n):=by rw[bSB,bSD]
 obtain⟨D,hD⟩:∃D,R+18446744073709551616^n=X+D:=bOG (by omega);rw[hD,bSB]at h4;have h3:v+18446744073709551616^(j+n)-18446744073709551616^j*X=v%18446744073709551616^j+18446744073709551616^j*D:=by omega
 rw[h3,bTR _ _ (cI),bSZ h2,bND,bXQ (by omega)];omega
theorem aBU{R V n:Nat}{hi lo d:Int}(hn:0<n)(hV:V<18446744073709551616^n)(aXW:R<18446744073709551616*V)(Sv:hi.toNat=R/18446744073709551616^n)(Uh:lo.toNat=R/18446744073709551616^(n-1)%18446744073709551616)(hd:d.toNat=V/18446744073709551616^(n-1))(h0:0<=hi) :
  R/V<=(if d<=hi then(18446744073709551615:Int)else(((hi.toNat*18446744073709551616+lo.toNat)/d.toNat:Nat):Int)).toNat/\(0<=if d<=hi then(18446744073709551615:Int)else(((hi.toNat*18446744073709551616+lo.toNat)/d.toNat:Nat):Int))/\(if d<=hi then(18446744073709551615:Int)else(((hi.toNat*18446744073709551616+lo.toNat)/d.toNat:Nat):Int))<18446744073709551616:=by
 by_cases hc:d<=hi
 ·rw[if_pos hc];refine⟨?_,by omega,by omega⟩;have:R/V<18446744073709551616:=by
   apply bSW;rw[bRZ];exact aXW
  show R/V<=18446744073709551615;omega
 ·rw[if_neg hc];obtain⟨k,rfl⟩:∃k,n=k+1:=⟨n-1,by omega⟩;rw[Nat.add_sub_cancel]at Uh hd;have e1:hi.toNat*18446744073709551616+lo.toNat=R/18446744073709551616^k:=by
   rw[Sv,Uh,bSA,<-bST];omega
  have bKY:0<d.toNat:=by omega
  have iN:hi.toNat<d.toNat:=by omega
  refine⟨?_,bWU _,?_⟩
  ·rw[bQX,e1,bST];apply bXY
   ·rw[hd];exact bYA _ _
   ·exact Nat.mul_pos (cI) bKY
  ·have hlo2:lo.toNat<18446744073709551616:=by rw[Uh];exact bPJ _ (by omega)
   have:(hi.toNat*18446744073709551616+lo.toNat)/d.toNat<18446744073709551616:=by
    apply bSW;have:(hi.toNat+1)*18446744073709551616<=d.toNat*18446744073709551616:=bOO _ iN;omega
   exact Int.ofNat_lt.2 this
theorem bDM{u b qs:List Int}{L j R q:Nat}(hL:L<=549755813888)(hu:u.length=L)(hd:M6.cB u)(hb:M6.cB b)(hj:j+(b.length+1)<=L)(hR:R=M6.val u/18446744073709551616^j)(aNC:R<18446744073709551616^(b.length+1))(hV:0<M6.val b)(hq:q=R/M6.val b)(hqs:qs.length=L-b.length):∀(k w:Nat),w=q+(k+1)->w<18446744073709551616 ->
  Ir (M6.nY L (M6.val u+18446744073709551616^(j+(b.length+1))-18446744073709551616^j*(M6.val b*w))) 0 L b b.length (L-b.length) qs j w j (b.length+1)=L4 (M6.nY L (M6.val u-18446744073709551616^j*(M6.val b*q))) 0 L b b.length (L-b.length) (qs.set j (q:Int)) ((j:Int)-1):=by
 have aVR:=M6.cK hb;have aXI:M6.val b*q<=R:=by rw[hq];exact bYA _ _
 have aOT:R<M6.val b*(q+1):=by rw[hq];exact bYJ _ hV
 have aTP:=M6.cK hd;rw[hu]at aTP;intro k
 induction k with
 |zero =>
  intro w hw bIT;subst hw;have aRP:M6.val b*(q+(0+1))<=18446744073709551616^(b.length+1):=by
   rw[bSA];exact bXP (by omega) (by omega)
  have Ss:=plus (n:=b.length+1) hR (X:=M6.val b*(q+(0+1))) aOT aRP;have aVN:M6.val u+18446744073709551616^(j+(b.length+1))-18446744073709551616^j*(M6.val b*(q+(0+1)))<18446744073709551616^L:=by
   have:=qM.bound aTP hj (X:=M6.val b*(q+(0+1))) (by rw[bSA];exact bVP aVR (by omega));unfold qM.Pf at this;rw[Ey (by rw[<-hR];exact aNC),<-hR,if_pos aOT,bNL]at this;exact this
  have aPJ:vU.Sw (M6.val u+18446744073709551616^(j+(b.length+1))-18446744073709551616^j*(M6.val b*(q+(0+1)))) j (b.length+1) (M6.val b)=1:=by
   unfold vU.Sw;rw[Ss];have e:R+18446744073709551616^(b.length+1)-M6.val b*(q+(0+1))+M6.val b=18446744073709551616^(b.length+1)*1+(R-M6.val b*q):=by
    rw[bSB]at aRP ⊢;omega
   have iN:R-M6.val b*q<18446744073709551616^(b.length+1):=by omega
   rw[e,bWT (cI),bSZ iN]
  have w1:u64.wrap (((q+(0+1):Nat):Int)-1)=(q:Int):=by rw[wrap_u64];omega
  have w2:i64.wrap ((j:Int)-1)=(j:Int)-1:=by rw[wrap_i64]
  rw[sL,aL,aL,M6.gG aVN,M6.kI,aPJ,gP ⟨M6.kJ,by trivial,hj,hb,by omega⟩,cF (by rfl),aT,w1,w2,bQX];congr 1;congr 1;have e1:18446744073709551616^j*(M6.val b*(q+(0+1)))=18446744073709551616^j*(M6.val b*q)+18446744073709551616^j*M6.val b:=by rw[bSB,bSB];simp
  have e2:=(minus hR aXI).2;have e3:18446744073709551616^j*M6.val b<=18446744073709551616^(j+(b.length+1)):=by
   rw[bSD,bSA];exact bPP _ (by omega)
  omega
 |succ k ih =>
  intro w hw bIT;subst hw;have aUQ:R<M6.val b*(q+(k+1)):=bOB aOT (bPP _ (by omega));have aEF:M6.val b*(q+(k+1+1))=M6.val b*(q+(k+1))+M6.val b:=by rw[<-bQR q,Nat.mul_succ]
  have aRP:M6.val b*(q+(k+1+1))<=18446744073709551616^(b.length+1):=by
   rw[bSA];exact bXP (by omega) (by omega)
  have Ss:=plus (n:=b.length+1) hR (X:=M6.val b*(q+(k+1+1))) (by omega) aRP;have aVN:M6.val u+18446744073709551616^(j+(b.length+1))-18446744073709551616^j*(M6.val b*(q+(k+1+1)))<18446744073709551616^L:=by
   have:=qM.bound aTP hj (X:=M6.val b*(q+(k+1+1))) (by rw[bSA];exact bVP aVR (by omega));unfold qM.Pf at this;rw[Ey (by rw[<-hR];exact aNC),<-hR,aT,bNL]at this;exact this
  have aPJ:vU.Sw (M6.val u+18446744073709551616^(j+(b.length+1))-18446744073709551616^j*(M6.val b*(q+(k+1+1)))) j (b.length+1) (M6.val b)=0:=by
   unfold vU.Sw;rw[Ss];exact bSZ (by omega)
  have w1:u64.wrap (((q+(k+1+1):Nat):Int)-1)=((q+(k+1):Nat):Int):=by rw[wrap_u64];omega
  rw[sL,aL,aL,M6.gG aVN,M6.kI,aPJ,gP ⟨M6.kJ,by trivial,hj,hb,by omega⟩,bS (by decide),w1];have e4:M6.val u+18446744073709551616^(j+(b.length+1))-18446744073709551616^j*(M6.val b*(q+(k+1+1)))+18446744073709551616^j*M6.val b-18446744073709551616^(j+(b.length+1))*0=M6.val u+18446744073709551616^(j+(b.length+1))-18446744073709551616^j*(M6.val b*(q+(k+1))):=by
   have e1:18446744073709551616^j*(M6.val b*(q+(k+1+1)))=18446744073709551616^j*(M6.val b*(q+(k+1)))+18446744073709551616^j*M6.val b:=by rw[aEF,bSB]
   have e3:18446744073709551616^j*(M6.val b*(q+(k+1+1)))<=18446744073709551616^(j+(b.length+1)):=by
    rw[bSD];exact bPP _ aRP
   omega
  rw[e4];exact ih _ rfl (by omega)
theorem aIQ{α R:Type}{x:α}{k:α->Option R}{r:Option R}(Q:α->Prop)(hx:Q x)(hk:∀w,Q w->k w=r):aC x k=r:=hk x hx
theorem bMZ{b:List Int}{L U0:Nat}(hL:L<=549755813888)(hb:M6.cB b)(hn:0<b.length)(hbL:b.length<=L):∀(t:Nat) (u qs:List Int),t<=L-b.length->u.length=L->M6.cB u->qs.length=L-b.length->M6.cB qs->M6.val u/18446744073709551616^t<M6.val b->U0=M6.val u+M6.val b*(18446744073709551616^t*M6.val (qs.drop t)) ->
  L4 u 0 L b b.length (L-b.length) qs ((t:Int)-1)=some [.own fC .u64 (M6.nY (L-b.length) (U0/M6.val b)),.io fC .u64 (M6.nY L (U0%M6.val b)) 0 0]:=by
 have aVR:=M6.cK hb;intro t
 induction t with
 |zero =>
  intro u qs _ hu hd hq bBE iN hU;rw[bXC,bYM]at iN;rw[bXC,bRE,bTJ]at hU;rw[kV,aI];have e1:U0/M6.val b=M6.val qs:=by rw[hU,bTR _ _ (by omega),bSZ iN,bND]
  have e2:U0%M6.val b=M6.val u:=by rw[hU,bZA,bXQ iN]
  rw[M6.nM hd hu e2.symm,M6.nM bBE hq e1.symm]
 |succ j ih =>
  intro u qs hj hu hd hq bBE iN hU;obtain⟨R,hR⟩:∃R,R=M6.val u/18446744073709551616^j:=⟨_,rfl⟩;have hV:0<M6.val b:=bTQ (bTF _) iN;have aXW:R<18446744073709551616*M6.val b:=by
   rw[bSA,<-bST,<-hR]at iN;rw[bRZ];exact(bYK (by omega)).1 iN
  have aNC:R<18446744073709551616^(b.length+1):=by rw[bSA];omega
  obtain⟨q,aXH⟩:∃q,q=R/M6.val b:=⟨_,rfl⟩;have aXI:M6.val b*q<=R:=by rw[aXH];exact bYA _ _
  have hqB:q<18446744073709551616:=by
   rw[aXH];apply bSW;rw[bRZ];exact aXW
  have aTP:=M6.cK hd;rw[hu]at aTP;have bEE:L4 (M6.nY L (M6.val u-18446744073709551616^j*(M6.val b*q))) 0 L b b.length (L-b.length) (qs.set j (q:Int)) ((j:Int)-1)=some [.own fC .u64 (M6.nY (L-b.length) (U0/M6.val b)),.io fC .u64 (M6.nY L (U0%M6.val b)) 0 0]:=by
   obtain⟨m1,m2⟩:=minus hR aXI;refine ih _ _ (by omega) (M6.gG (by omega)) M6.kJ (by simp[hq]) (M6.lV bBE ⟨by omega,by omega⟩) ?_ ?_
   ·rw[M6.kI,m1];have h1:=bXS R (M6.val b);have h2:=bPJ R hV;rw[<-aXH]at h1;omega
   ·rw[M6.kI,M6.qO (by omega),bQX,hU,bSA];have e1:M6.val b*(18446744073709551616^j*(q+18446744073709551616*M6.val (qs.drop (j+1))))=18446744073709551616^j*(M6.val b*q)+M6.val b*(18446744073709551616^j*18446744073709551616*M6.val (qs.drop (j+1))):=by
     rw[bSB,bSB,bUY,bSF (18446744073709551616^j)]
    rw[e1];omega
  have hx:((j+1:Nat):Int)-1=(j:Int):=by omega
  have w1:i64.wrap ((j:Int)+(b.length:Int))=((j+b.length:Nat):Int):=by rw[wrap_i64];omega
  have w2:i64.wrap (((j+b.length:Nat):Int)-1)=((j+b.length-1:Nat):Int):=by rw[wrap_i64];omega
  have w3:i64.wrap ((b.length:Int)-1)=((b.length-1:Nat):Int):=by rw[wrap_i64];omega
  have w4:i64.wrap (((j+b.length:Nat):Int)+1)=((j+b.length+1:Nat):Int):=by rw[wrap_i64];omega
  have w5:i64.wrap ((j:Int)-1)=(j:Int)-1:=by rw[wrap_i64]
  have e5:j+b.length+1-j=b.length+1:=by omega
  have g1:=hd.get (j+b.length);have g2:=hd.get (j+b.length-1);have g3:=hb.get (b.length-1);have Sv:(u.getD (j+b.length) 0).toNat=R/18446744073709551616^b.length:=by
   rw[digit hd,bSD,<-bST,<-hR,bXQ];apply bSW;rw[bSA]at aNC;exact aNC
  have Uh:(u.getD (j+b.length-1) 0).toNat=R/18446744073709551616^(b.length-1)%18446744073709551616:=by
   rw[digit hd,show j+b.length-1=j+(b.length-1)from by omega,bSD,<-bST,<-hR]
  have aMU:(b.getD (b.length-1) 0).toNat=M6.val b/18446744073709551616^(b.length-1):=by
   rw[digit hb,bXQ];apply bSW;rw[<-bSA,show(b.length-1).succ=b.length from by omega];exact aVR
  have ht:=aBU hn aVR aXW Sv Uh aMU g1.1;rw[hx,kV,aO,w1,w2,w3,w4,aT,aT,aT,bQX,bQX,bQX,bND,bND,gP ⟨g1.1,g2.1,g2.2,g3.2⟩];refine aIQ (fun w:Int=>R/M6.val b<=w.toNat/\0<=w/\w<18446744073709551616) ht ?_;rintro w ⟨yS,h0,h1⟩;obtain⟨w,rfl⟩:=bSE h0;rw[bQX]at yS;rw[aT];simp only[bQX,bND,e5];rw[hu,gP ⟨hd,by trivial,by omega,hb,by omega,h0,h1⟩,aL,aL]
  by_cases hc:M6.val b*w<=R
  ·have ho:qM.Pf (M6.val u) j (b.length+1) (M6.val b*w)=0:=by
    unfold qM.Pf;rw[Ey (by rw[<-hR];exact aNC),<-hR,aX]
   have bEO:w=q:=by
    have:w<=R/M6.val b:=by rw[bYX hV,bRZ];exact hc
    omega
   subst bEO;rw[ho,cF (by rfl),aT,Nat.mul_zero,bOC,w5];exact bEE
  ·have ho:qM.Pf (M6.val u) j (b.length+1) (M6.val b*w)=1:=by
    unfold qM.Pf;rw[Ey (by rw[<-hR];exact aNC),<-hR,aT]
   have bEO:q<w:=by
    rcases bNQ q w with h |h
    ·exact h
    ·exact absurd (bNX (bPP _ h) aXI) hc
   rw[ho,bS (by decide),bNL];rw[bDM hL hu hd hb (by omega) hR aNC hV aXH hq (w-q-1) w (by omega) (by omega)];exact bEE
theorem spec(x:List Int×Nat×Nat)(b:List Int)(h:(sp x b).1):aF E f209 aE [(Ai fC .u64).put x,(pI .u64).put b]=some (sp x b).2/\∃rs lC,(sp x b).2=rs ++ [.io fC .u64 lC 0 0]/\lC.length=x.1.length:=by
 obtain⟨xl,xo,xn⟩:=x;obtain⟨hd,ho,hn,hb,h0,aMY,hL,iN⟩:=h;simp only at hd ho hn aMY hL iN;subst ho;subst hn;refine⟨(start xl 0 xl.length b).trans ?_,[_],_,rfl,M6.gG ?_⟩
 ·have w1:i64.wrap ((xl.length:Int)-(b.length:Int))=((xl.length-b.length:Nat):Int):=by rw[wrap_i64];omega
  have w2:i64.wrap (((xl.length-b.length:Nat):Int)-1)=((xl.length-b.length:Nat):Int)-1:=by rw[wrap_i64]
  rw[w1,w2,aT,bQX];refine bMZ hL hb h0 aMY (xl.length-b.length) xl _ (bNB _) rfl hd (by simp) (M6.iJ _) iN ?_;rw[bYO (by simp)];simp[M6.val]
 ·show _<18446744073709551616^xl.length;exact bTQ (Nat.mod_le _ _) (M6.cK hd)
def aH:dC:=orc2 (Ai fC .u64) (pI .u64) sp
theorem fnok:kO prog E 209 f209 aE:=tJ pE mixed (kM _ _ rfl rfl (kU qM.ok (kU vU.ok uY)) (aA Vi.ok aD) (mI)) func209 rfl rfl rfl rfl rfl
theorem ok:oD prog base.glob 209 aH:=fnok.lP rfl spec
end Bf
namespace Dk
def E:Env:={ ({ base with C:=pA [(209,Bf.aH)] (callsOf [(167,fI.aH),(125,Dn.aH),(205,aHK.aH),(206,lN.aH),(117,mP.aH),(207,aHO.aH),(208,xH.aH),(115,Bm.aH)]),ioF:=Jl [(209,Bf.aH)] })with nt:=98,own:=[37,49,55,68,76,88,93],keep:=fun k=>(tlook [] k).getD [],cut:=tlook [(3,[0,1])] }
def aE:=bd f165
theorem aU:Nk E aE:=nk
def J3 a b:=lD E f165 aE 3 [gD a,gD b]
theorem start a b:aF E f165 aE [D.s (ints u64 a),D.s (ints u64 b)]=letI B:=sc (slice none 0 0);letI A:=some [D.s B,D.s B,D.s (sc (int i64 2))];aQ (a.length<=1099511627776) (aB (!fI.mY a) A (aQ (b.length<=1099511627776) (aB (!fI.mY b) A (Dk.J3 a b)))):=eJ aU
theorem gL a b:J3 a b=letI K:=sc (int i64 0);letI H:=(a.length:Int);letI O:=H+(1:Int);letI G:=sc (slice none 0 0);letI C:=i64.wrap O;letI A:=(b.length:Int);letI N:=A-(1:Int);letI F:=i64.wrap N;aB (A==(0:Int)) (some [D.s G,D.s G,D.s (sc (int i64 4))]) (aQ (M6.cB a/\M6.cB b/\a.length<=1099511627776/\b.length<=1099511627776) (aB (decide (nB (M6.val a) (M6.val b)<0)) (aQ (M6.cB a/\a.length<=1099511627776) (aC (bif bZ.kX (M6.val a)then M6.dg (M6.val a)else []) fun c=>some [D.s G,D.s (ints u64 c),D.s K])) (aB (A==(1:Int)) (if(0:Int)<=(0:Int)/\0<A then aQ (M6.cD a/\a.length<=8192/\0<b.getD 0 0/\b.getD 0 0<(18446744073709551616:Int)) (aC (M6.dg (M6.val a/(b.getD 0 0).toNat)) fun d=>aC (↑(M6.val a%(b.getD 0 0).toNat):Int) fun e=>aQ (0<=e/\e<18446744073709551616) (some [D.s (ints u64 d),D.s (ints u64 (M6.dg e.toNat)),D.s K]))else none) (if 0<=i64.wrap N/\i64.wrap N<A then aQ (0<=b.getD F.toNat 0/\b.getD F.toNat 0<(18446744073709551616:Int)) (aC ((64:Int)-(↑(bl (b.getD F.toNat 0).toNat):Int)) fun f=>aQ (M6.cB a/\0<=f/\f<64/\0<=i64.wrap O/\a.length<=C.toNat/\i64.wrap O<=549755813888/\M6.val a*(2:Nat)^f.toNat<(18446744073709551616:Nat)^C.toNat) (aC (M6.nY C.toNat (M6.val a*(2:Nat)^f.toNat)) fun g=>aQ (M6.cB b/\0<=f/\f<64/\0<=A/\b.length<=A.toNat/\A<=(549755813888:Int)/\M6.val b*(2:Nat)^f.toNat<(18446744073709551616:Nat)^A.toNat) (aC (M6.nY A.toNat (M6.val b*(2:Nat)^f.toNat)) fun h=>letI P:=g.length-h.length;letI I:=(h.length:Int);aQ (M6.cB g/\(0:Nat)=(0:Nat)/\g.length=g.length/\M6.cB h/\0<h.length/\h.length<=g.length/\g.length<=549755813888/\M6.val g/(18446744073709551616:Nat)^P<M6.val h) (aC (M6.nY P (M6.val g/M6.val h)) fun i=>aC (M6.nY g.length (M6.val g%M6.val h)) fun j=>letI B:=bSX (I.toNat-0) (bSY 0 j);if(0:Int)<=(0:Int)/\0<=I/\I<=(g.length:Int)then aQ (M6.cB B/\B.length<=1099511627776) (aC (bif bZ.kX (M6.val B)then M6.dg (M6.val B)else []) fun k=>aQ (M6.cD k/\k.length<=8192/\0<=f/\f<4611686018427387904) (aC (M6.dg (M6.val k/(2:Nat)^f.toNat)) fun l=>aQ (M6.cB i/\i.length<=1099511627776) (aC (bif bZ.kX (M6.val i)then M6.dg (M6.val i)else []) fun m=>some [D.s (ints u64 m),D.s (ints u64 l),D.s K])))else none))))else none)))):=cJ aU
def sp(a b:List Int):Prop×List D:=(M6.cD a/\a.length<=8192/\M6.cD b/\1<=b.length/\b.length<=8192,[.s (.ints .u64 (M6.dg (M6.val a/M6.val b))),.s (.ints .u64 (M6.dg (M6.val a%M6.val b))),.s (.sc (.int .i64 0))])
theorem Ts{n k:Nat}(h:n<18446744073709551616^k)(hk:k<=8192):bZ.kX n=true:=decide_eq_true (by have:=M6.cR h;omega)
theorem spec:Eu E f165 aE (pI .u64) (pI .u64) sp:=by
 rintro a b ⟨ha,hl,hb,h1,aMY⟩;have e:=start a b;have g:=hb.iX.get 0;have hz:M6.val b≠0:=fun h=>by have:=(M6.cS hb).2 h;omega
 rw[gP,fI.lU ha hl,bPB,bF,gP,fI.lU hb (by omega),bPB,bF,gL,bS,gP ⟨ha.iX,hb.iX,by omega,by omega⟩]at e;unfold sp;simp only
 by_cases hc:M6.val a<M6.val b
 ·have Qn:bZ.kX (M6.val a)=true:=Ts (M6.cK ha.iX) hl;rw[aO (by unfold nB;rw[if_pos hc];omega),gP ⟨ha.iX,by omega⟩,aL,Qn]at e;rw[bSZ hc,bXQ hc,M6.bN];exact⟨_,e,.cons (vZ.nil _) (fX.refl _)⟩
 have hm:=bPJ (M6.val a) (show 0<M6.val b by omega);rw[aI (by unfold nB;rw[if_neg hc];split <;> omega)]at e
 by_cases Na:b.length=1
 ·have hv:M6.val b=(b.getD 0 0).toNat:=by
   have:=M6.cA (a:=b) 0;rw[M6.cE (by omega)]at this;simpa [M6.val] using this
  rw[cF,if_pos ⟨by omega,by omega⟩,gP ⟨ha,by omega,by omega,by omega⟩,<-hv,aL,aL,gP ⟨bWU _,by generalize M6.val a%M6.val b=m at *;omega⟩,bQX]at e;exact⟨_,e,fX.refl _⟩
 ·have w1:i64.wrap ((b.length:Int)-1)=((b.length-1:Nat):Int):=by rw[wrap_i64];omega
  have w2:i64.wrap ((a.length:Int)+1)=((a.length+1:Nat):Int):=by rw[wrap_i64];omega
  have gt:=hb.iX.get (b.length-1);have htop:b.getD (b.length-1) 0≠0:=by
   have:=M6.getLast_take (a:=b) (n:=b.length-1) (by omega);rw[show b.length-1+1=b.length from by omega,bTW]at this;exact hb.top this
  have aZQ:=M6.cA (a:=b) (b.length-1);rw[show b.length-1+1=b.length from by omega,bTW]at aZQ;have bES:=M6.gQ hb.iX (b.length-1);obtain⟨x,hx⟩:=bSE gt.1;have Pg:x≠0:=by omega
  have hbx:bl x<=64:=dV.2 (by omega);have bFU:=sE Pg;have bEN:=vP x;obtain⟨s,hs⟩:∃s:Nat,s=64-bl x:=⟨_,rfl⟩;have ws:(64-(bl x:Int))=(s:Int):=by omega
  have aFC:=M6.cK ha.iX;have aXZ:=M6.cK hb.iX;have Ql:2^s<18446744073709551616:=by
   have:2^s<2^64:=bTU (by omega) (by omega);omega
  have Xo:0<2^s:=cI;have bGC:M6.val a*2^s<18446744073709551616^(a.length+1):=by rw[bSA];exact bVP aFC Ql
  have bCF:M6.val b*2^s<18446744073709551616^b.length:=by
   have h2:(x+1)*2^s<=2^bl x*2^s:=bOO _ bEN;rw[<-bSD,show bl x+s=64 from by omega]at h2;have h3:M6.val b+1<=18446744073709551616^(b.length-1)*(x+1):=by
    rw[aZQ,hx,bQX,bSB];omega
   have h4:(M6.val b+1)*2^s<=18446744073709551616^(b.length-1)*(x+1)*2^s:=bOO _ h3;have h5:18446744073709551616^(b.length-1)*((x+1)*2^s)<=18446744073709551616^(b.length-1)*2^64:=bPP _ h2;have h6:18446744073709551616^(b.length-1)*2^64=18446744073709551616^b.length:=by
    conv=>rhs;rw[show b.length=(b.length-1)+1 from by omega,bSA]
   rw[h6]at h5;rw[bSF]at h4;rw[bNV]at h4;omega
  have hlab:b.length<=a.length:=by
   rcases bNQ a.length b.length with h |h
   ·exact absurd (M6.rW ha.iX hb h) hc
   ·exact h
  have yS:18446744073709551616^(b.length-1)<=M6.val b:=by
   rw[aZQ,hx,bQX];have:18446744073709551616^(b.length-1)*1<=18446744073709551616^(b.length-1)*x:=bPP _ (by omega);omega
  have Xq:M6.val a*2^s/18446744073709551616^(a.length+1-b.length)<M6.val b*2^s:=by
   apply bSW;have h1:18446744073709551616^(a.length+1-b.length)*18446744073709551616^(b.length-1)<=18446744073709551616^(a.length+1-b.length)*M6.val b:=bPP _ yS;rw[<-bSD,show a.length+1-b.length+(b.length-1)=a.length from by omega]at h1;rw[<-bSF];exact bZF (bOB aFC h1) Xo
  have hQ:M6.val a*2^s/(M6.val b*2^s)=M6.val a/M6.val b:=bVZ _ _ Xo;have hR:M6.val a*2^s%(M6.val b*2^s)=M6.val a%M6.val b*2^s:=bWA _ _ _;have aXV:M6.val a%M6.val b*2^s<18446744073709551616^b.length:=Nat.lt_trans (bZF hm Xo) bCF;have hRl2:M6.val a%M6.val b*2^s<18446744073709551616^(a.length+1):=bOB aXV (M6.oI (by omega));have bLT:M6.val a/M6.val b<18446744073709551616^a.length:=bTQ (bVO _ _) aFC;have bBX:M6.val a/M6.val b<18446744073709551616^(a.length+1-b.length):=by
   apply bSW;have h1:18446744073709551616^(b.length-1)*18446744073709551616^(a.length+1-b.length)<=M6.val b*18446744073709551616^(a.length+1-b.length):=bOO _ yS;rw[<-bSD,show b.length-1+(a.length+1-b.length)=a.length from by omega]at h1;omega
  have aTU:M6.val ((M6.nY (a.length+1) (M6.val a%M6.val b*2^s)).take b.length)=M6.val a%M6.val b*2^s:=by
   rw[M6.qN M6.kJ,M6.kI,bXQ aXV]
  rw[bS,w1,w2,aT,bQX,bQX,bQX,gP gt,hx,bQX,ws,aL,bQX,
   gP ⟨ha.iX,by omega,by omega,by omega,by omega,by omega,bGC⟩,aL,gP ⟨hb.iX,by omega,by omega,by omega,bNB _,by omega,bCF⟩,aL,
   M6.gG bGC,M6.gG bCF,M6.kI,M6.kI,bQX,gP ⟨M6.kJ,rfl,rfl,M6.kJ,by omega,by omega,by omega,Xq⟩,aL,aL,hQ,hR,
   aT,bTJ,Nat.sub_zero,aTU,gP ⟨M6.kJ.take _,by rw[bPR];omega⟩,Ts aXV aMY,cond_true,aL,
   gP ⟨M6.aW _,by have:=M6.cR aXV;omega,by omega,by omega⟩,M6.bJ,bXE _ Xo,aL,gP ⟨M6.kJ,by rw[M6.gG bBX];omega⟩,M6.kI,Ts bLT hl,cond_true,aL]at e
  exact⟨_,e,fX.refl _⟩
def aH:dC:=orc2 (pI .u64) (pI .u64) sp
theorem fnok:qI prog E 165 f165 aE:=aAE pE mixed (kM _ _ rfl rfl (kU Bf.ok uY) (aA fI.ok (aA Dn.ok (aA aHK.ok (aA lN.ok (aA mP.ok (aA aHO.ok (aA xH.ok (aA Bm.ok aD)))))))) (mI)) func165 rfl rfl rfl
theorem ok:lA prog base.glob 165 aH:=fnok.aBB rfl spec
end Dk
namespace bI
def E:=mE [(164,xS.aH),(61,lB.aH),(68,kQ.aH),(127,uG.aH),(122,jA.aH),(165,Dk.aH),(117,mP.aH),(124,rE.aH),(166,bV.aH)] 122 [119] [(9,[2,3,4,5,8]),(15,[2,3,4,5,8,10,13]),(16,[2,3,4,5,8,10,16])] [9,15,16]
def aE:=bd f111
theorem aU:Nk E aE:=nk
def J9 a b c d e f g h i j:=lD E f111 aE 9 [bR a,Lv b,dG 2 29 [cG c,eM d,cP e],dG 3 29 [cG f,eM g,cP h],dG 4 29 [cG i,sc (slice none 0 0),cP j]]
def aQU a b c d e f g h i j k l:=lD E f111 aE 15 [bR a,Lv b,dG 2 29 [cG c,eM d,cP e],dG 3 29 [cG f,eM g,cP h],dG 4 29 [cG i,sc (slice none 0 0),cP j],bR k,gD l]
def aLL a b c d e f g h i j k l m:=lD E f111 aE 16 [bR a,Lv b,dG 2 29 [cG c,eM d,cP e],dG 3 29 [cG f,eM g,cP h],dG 4 29 [cG i,sc (slice none 0 0),cP j],bR k,dG 6 27 [cG l,eM m]]
theorem start a b e f g h c d:aF E f111 aE [D.agg [sc (bool a),ints u64 b,sc (int i64 e)],D.agg [sc (bool f),ints u64 g,sc (int i64 h)],D.s (sc (int i64 c)),D.s (sc (bool d))]=letI F:=int i64 0;letI C:=bool false;letI B:=slice none 0 0;letI A:=some [D.agg [sc C,sc B,sc F],D.s (sc (int i64 5))];aQ True (aC (decide (1<=c)&&decide (c<=70000)) fun i=>aB (!i) (some [D.agg [sc C,sc B,sc F],D.s (sc (int i64 1))]) (aQ (aJ (a,b,e)) (aQ (aJ (f,g,h)) (aQ True (aC ((g.length:Int)==(0:Int)) fun j=>aB j (some [D.agg [sc C,sc B,sc F],D.s (sc (int i64 4))]) (aB (decide (4096<(b.length:Int))) A (aB (decide (4096<(g.length:Int))) A (bI.J9 c d a b e f g h false 0)))))))):=eJ aU
theorem Si a b c d e f g h i j:J9 a b c d e f g h i j=letI A:=i64.wrap (i64.wrap (a+2)+(↑(bl (M6.val g)):Int))-(↑(bl (M6.val d)):Int);aQ (M6.cB g/\g.length<=1099511627776) (aQ (M6.cB d/\d.length<=1099511627776) (aQ (M6.cD d/\d.length<=8192/\(0<=if i64.wrap A>(0:Int)then i64.wrap A else(0:Int))/\(if i64.wrap A>(0:Int)then i64.wrap A else(0:Int))<4611686018427387904) (aC (bif jA.iC (M6.val d) (if i64.wrap A>(0:Int)then i64.wrap A else(0:Int)).toNat then M6.dg (M6.val d*(2:Nat)^(if i64.wrap A>(0:Int)then i64.wrap A else(0:Int)).toNat)else []) fun k=>aQ (M6.cD k/\k.length<=8192/\M6.cD g/\1<=g.length/\g.length<=8192) (aC (M6.dg (M6.val k/M6.val g)) fun l=>aC (M6.dg (M6.val k%M6.val g)) fun m=>aQ (M6.cD l/\l.length<=8192/\(0:Int)<=(1:Int)/\(1:Int)<(4611686018427387904:Int)) (aC (bif jA.iC (M6.val l) 1 then M6.dg (M6.val l*2)else []) fun n=>letI B:=M6.val n+M6.val (M6.dg 1);aB (decide (0<(m.length:Int))) (aQ ((0:Int)<=(1:Int)/\(1:Int)<(18446744073709551616:Int)) (aQ (M6.cD n/\M6.cD (M6.dg 1)/\n.length<=8192/\(M6.dg 1).length<=8192) (aC (bif bZ.kX B then M6.dg B else []) fun o=>bI.aQU a b c d e f g h i j (if i64.wrap A>(0:Int)then i64.wrap A else(0:Int)) o))) (bI.aQU a b c d e f g h i j (if i64.wrap A>(0:Int)then i64.wrap A else(0:Int)) n)))))):=cJ aU
theorem Vp a b c d e f g h i j k l:aQU a b c d e f g h i j k l=aB (c !=f) (bI.aLL a b c d e f g h i j k (decide (0<(l.length:Int))) l) (bI.aLL a b c d e f g h i j k false l):=cJ aU
theorem Vo a b c d e f g h i j k l m:aLL a b c d e f g h i j k l m=letI C:=i64.wrap (i64.wrap (e-h)-k)-1;letI A:=bV.mA b (wv (l,m)) (i64.wrap C) a;letI B:=bif fN A.fst A.snd then aK A.fst A.snd else((0:Int),(0:Int));aQ (kA (l,m)/\((-4611686018427387904:Int)<=i64.wrap C/\i64.wrap C<4611686018427387904)/\1<=a/\a<=70000) (aC (isNeg B.fst) fun n=>aC (M6.dg B.fst.natAbs) fun o=>aC B.snd fun p=>aC (bif fN A.fst A.snd then(0:Int)else(5:Int)) fun q=>some [D.agg [sc (bool n),ints u64 o,sc (int i64 p)],D.s (sc (int i64 q))]):=cJ aU
def yR(p:Int)(a b:Nat):Nat:=(p+2+(bl b:Nat)-(bl a:Nat)).toNat
def Pw(a b s:Nat):Nat:=a*2^s/b*2+if a*2^s%b=0 then 0 else 1
def aSN(p:Int)(x y:Int×Int):Int×Int:=(zs (isNeg x.1 !=isNeg y.1) (Pw x.1.natAbs y.1.natAbs (yR p x.1.natAbs y.1.natAbs)),x.2-y.2-(yR p x.1.natAbs y.1.natAbs:Nat)-1)
def nW(up:Bool)(p:Int)(x y:Int×Int):Int×Int:=bV.mA up (aSN p x y).1 (aSN p x y).2 p
def sp(x y:dU)(p:Int)(up:Bool):Prop×List D:=(aJ x/\aJ y/\(dv y).1≠0/\x.2.1.length<=4096/\y.2.1.length<=4096/\1<=p/\p<=70000,dE (fN (nW up p (dv x) (dv y)).1 (nW up p (dv x) (dv y)).2) (aK (nW up p (dv x) (dv y)).1 (nW up p (dv x) (dv y)).2))
theorem aIP(n:Bool)(q:Nat):wv (n&&decide (0<((M6.dg q).length:Int)),M6.dg q)=zs n q/\(bl q<=524288->kA (n&&decide (0<((M6.dg q).length:Int)),M6.dg q)):=by
 have hz:=M6.fZ (n:=q)
 by_cases h:q=0
 ·rw[decide_eq_false (by have:=hz.2 h;omega),bSO,h];refine⟨?_,fun _=>⟨M6.aW _,fun hf=>absurd hf (by simp),by rw[M6.bN];simp⟩⟩;unfold wv zs;rw[M6.bJ];cases n <;> rfl
 ·rw[decide_eq_true (by have:=fun hl=>h (hz.1 hl);omega),Bool.and_true];refine⟨?_,fun hb=>⟨M6.aW _,fun _=>by rw[M6.bJ];exact h,eZ (k:=8192) (by omega)⟩⟩;unfold wv;rw[M6.bJ]
theorem sA{a s n:Nat}(h:a≠0->bl a+s<=n):bl (a*2^s)<=n:=by
 by_cases h0:a=0
 ·subst h0;rw[Nat.zero_mul];exact bNX (by decide) (bTF n)
 ·rw[bRZ,Dc h0];have:=h h0;omega
theorem spec:aHE E f111 aE hZ hZ (pN .i64) pB sp:=by
 rintro x y p up ⟨hx,hy,h0,bJU,bAO,zR,tM⟩;have ex:=hx.2.1;have ey:=hy.2.1;refine(start x.1 x.2.1 x.2.2 y.1 y.2.1 y.2.2 p up).trans ?_;have hv0:M6.val y.2.1≠0:=fun h=>h0 (aIN.2 h)
 have aUS:y.2.1.length≠0:=fun h=>hv0 ((M6.cS hy.Iz).1 h)
 have bx:=yJ hx.Iz.iX bJU;have bMT:=yJ hy.Iz.iX bAO
 have ax:(dv x).1.natAbs=M6.val x.2.1:=iZ (x.1,x.2.1);have ay:(dv y).1.natAbs=M6.val y.2.1:=iZ (y.1,y.2.1);have sx:isNeg (dv x).1=x.1:=hx.Dr.cells.1;have sy:isNeg (dv y).1=y.1:=hy.Dr.cells.1;have w1:i64.wrap (i64.wrap (i64.wrap (p+2)+(bl (M6.val y.2.1):Int))-(bl (M6.val x.2.1):Int))=p+2+(bl (M6.val y.2.1):Int)-(bl (M6.val x.2.1):Int):=by
  rw[wrap_i64 (n:=p+2),wrap_i64 (n:=p+2+(bl (M6.val y.2.1):Int)) (by omega) (by omega),wrap_i64]
 simp only[aL];rw[gP trivial,decide_eq_true zR,decide_eq_true tM,bQC,bPB,bF,gP hx,gP hy,gP trivial,bS,aI,aI,Si,w1];unfold sp nW aSN
 try dsimp only
 rw[ax,ay,sx,sy];have hs:(if p+2+(bl (M6.val y.2.1):Int)-(bl (M6.val x.2.1):Int)>0 then p+2+(bl (M6.val y.2.1):Int)-(bl (M6.val x.2.1):Int)else 0)=((yR p (M6.val x.2.1) (M6.val y.2.1):Nat):Int):=by
  unfold yR;split <;> omega
 rw[hs];have bJC:M6.val x.2.1≠0->bl (M6.val x.2.1)+yR p (M6.val x.2.1) (M6.val y.2.1)<=332200:=fun _=>by unfold yR;omega
 have hsl:yR p (M6.val x.2.1) (M6.val y.2.1)<=332200:=by unfold yR;omega
 generalize yR p (M6.val x.2.1) (M6.val y.2.1)=s at *;have vR:=sA bJC;have hX:jA.iC (M6.val x.2.1) s=true:=by rw[Ow.Fe];exact decide_eq_true (by omega)
 have lX:=eZ (n:=M6.val x.2.1*2^s) (k:=8192) (by omega);have Mz:bl (M6.val x.2.1*2^s/M6.val y.2.1)<=332200:=bNX (gU (bVO _ _)) vR;have lQ:=eZ (n:=M6.val x.2.1*2^s/M6.val y.2.1) (k:=8192) (by omega);have hQ:∀q,bl q<=332200->jA.iC q 1=true:=fun q hq=>by rw[Ow.Fe];exact decide_eq_true (by have:=sA (a:=q) (s:=1) (n:=332201) (fun _=>by omega);omega)
 rw[gP ⟨hy.Iz.iX,by omega⟩,gP ⟨hx.Iz.iX,by omega⟩,gP ⟨hx.Iz,hx.len,by omega,by omega⟩,bQX];simp only[aL];rw[hX,cond_true,gP ⟨M6.aW _,lX,hy.Iz,by omega,hy.len⟩,M6.bJ,gP ⟨M6.aW _,lQ,by omega,by omega⟩,M6.bJ];have bJD:decide (0<(((M6.dg (M6.val x.2.1*2^s%M6.val y.2.1)).length:Nat):Int))=decide (M6.val x.2.1*2^s%M6.val y.2.1≠0):=by
  have:=M6.fZ (n:=M6.val x.2.1*2^s%M6.val y.2.1)
  by_cases h:M6.val x.2.1*2^s%M6.val y.2.1=0
  ·rw[decide_eq_false (by have:=this.2 h;omega),decide_eq_false (by omega)]
  ·rw[decide_eq_true (by have:=fun hl=>h (this.1 hl);omega),decide_eq_true h]
 rw[bJD];have j16:∀(aYB:Bool) (q:Nat),bl q<=332202->wv (aYB,M6.dg q)=zs (x.1 !=y.1) q->kA (aYB,M6.dg q)->aLL p up x.1 x.2.1 x.2.2 y.1 y.2.1 y.2.2 false 0 s aYB (M6.dg q)=some (dE (fN (bV.mA up (zs (x.1 !=y.1) q) (x.2.2-y.2.2-(s:Int)-1) p).1 (bV.mA up (zs (x.1 !=y.1) q) (x.2.2-y.2.2-(s:Int)-1) p).2) (aK (bV.mA up (zs (x.1 !=y.1) q) (x.2.2-y.2.2-(s:Int)-1) p).1 (bV.mA up (zs (x.1 !=y.1) q) (x.2.2-y.2.2-(s:Int)-1) p).2)):=by
  intro aYB q hq hw Qn;have w2:i64.wrap (i64.wrap (i64.wrap (x.2.2-y.2.2)-(s:Int))-1)=x.2.2-y.2.2-(s:Int)-1:=by
   rw[wrap_i64 (n:=x.2.2-y.2.2),wrap_i64 (n:=x.2.2-y.2.2-(s:Int)),wrap_i64]
  rw[Vo,w2,gP ⟨Qn,⟨by omega,by omega⟩,zR,tM⟩,hw];simp only[aL];rfl
 have j15:∀q,bl q<=332202->aQU p up x.1 x.2.1 x.2.2 y.1 y.2.1 y.2.2 false 0 s (M6.dg q)=some (dE (fN (bV.mA up (zs (x.1 !=y.1) q) (x.2.2-y.2.2-(s:Int)-1) p).1 (bV.mA up (zs (x.1 !=y.1) q) (x.2.2-y.2.2-(s:Int)-1) p).2) (aK (bV.mA up (zs (x.1 !=y.1) q) (x.2.2-y.2.2-(s:Int)-1) p).1 (bV.mA up (zs (x.1 !=y.1) q) (x.2.2-y.2.2-(s:Int)-1) p).2)):=by
  intro q hq;obtain⟨v1,v2⟩:=aIP (x.1 !=y.1) q;have v2:=v2 (by omega);rw[Vp];cases hn:x.1 !=y.1 with
  |true =>
   rw[hn]at v1 v2;rw[bT];have:=j16 _ q hq (by rw[hn];exact v1) v2;rw[hn]at this;exact this
  |false =>
   rw[hn]at v1 v2;rw[bF];have:=j16 _ q hq (by rw[hn];exact v1) v2;rw[hn]at this;exact this
 unfold Pw;generalize M6.val x.2.1*2^s/M6.val y.2.1=Q at *;have bLV:bl (Q*2)<=332201:=sA (s:=1) (fun _=>by omega);have bIH:=eZ (n:=Q*2) (k:=8192) (by omega);have bLU:bl (Q*2+1)<=332202:=by
  rw[dV]at bLV ⊢;rw[bSA];have:=bQA (n:=332201) (show 0<2 by omega);omega
 have one:=eZ (n:=1) (k:=1) (dV.2 (by omega))
 by_cases hr:M6.val x.2.1*2^s%M6.val y.2.1=0
 ·rw[aI,if_pos hr,hQ _ Mz,cond_true,j15 _ (by omega)];rfl
 ·have bHW:bZ.kX (Q*2+1)=true:=by rw[show bZ.kX _=_ from yB];exact decide_eq_true (by omega)
  rw[aO,if_neg hr,hQ _ Mz,cond_true,gP ⟨by omega,by omega⟩,gP ⟨M6.aW _,M6.aW _,bIH,by omega⟩,M6.bJ,M6.bJ,bHW,cond_true,j15 _ bLU];rfl
def aH:dC:=orc4 hZ hZ (pN .i64) pB sp
theorem ok:OK 111 aH:=(eI E aE (aA xS.ok (aA lB.ok (aA kQ.ok (aA uG.ok (aA jA.ok (aA Dk.ok (aA mP.ok (aA rE.ok (aA bV.ok aD))))))))) func111).aSU rfl spec
end bI
end W
namespace M
open Go AI W
def shD(up:Bool)(p:Int×Int)(n:Int):Int×Int:=aK (bV.mA up p.1 p.2 n).1 (bV.mA up p.1 p.2 n).2
def wA(up:Bool)(p:Int×Int)(n:Int):Bool:=fN (bV.mA up p.1 p.2 n).1 (bV.mA up p.1 p.2 n).2
theorem Ro{z:Int}{k:Nat}:((z/((2^k:Nat):Int):Int):Rat)*((2^k:Nat):Rat)<=(z:Rat)/\(z:Rat)<(((z/((2^k:Nat):Int):Int):Rat)+1)*((2^k:Nat):Rat):=by
 have hp:(0:Int)<((2^k:Nat):Int):=by have:=bQA (n:=k) (show 0<2 by omega);omega
 have h1:=Int.ediv_mul_le z (show((2^k:Nat):Int)≠0 by omega);have h2:=Int.lt_ediv_add_one_mul_self z hp;constructor
 ·have:(((z/((2^k:Nat):Int))*((2^k:Nat):Int):Int):Rat)<=(z:Rat):=Rat.intCast_le_intCast.2 h1;rwa [bXW,bXT]at this
 ·have:(z:Rat)<(((z/((2^k:Nat):Int)+1)*((2^k:Nat):Int):Int):Rat):=Rat.intCast_lt_intCast.2 h2;rwa [bXW,bXT,bYY]at this
theorem Ye(up:Bool)(z:Int)(k:Nat):(up=false->(iU.nN up z k:Rat)*((2^k:Nat):Rat)<=(z:Rat)/\(z:Rat)<(iU.nN up z k:Rat)*((2^k:Nat):Rat)+((2^k:Nat):Rat))/\(up=true->(z:Rat)<=(iU.nN up z k:Rat)*((2^k:Nat):Rat)/\(iU.nN up z k:Rat)*((2^k:Nat):Rat)<(z:Rat)+((2^k:Nat):Rat)):=by
 constructor
 ·rintro rfl;obtain⟨h1,h2⟩:=Ro (z:=z) (k:=k);unfold iU.nN;rw[cond_false];generalize ((z/((2^k:Nat):Int):Int):Rat)=q at *;constructor <;> grind
 ·rintro rfl;obtain⟨h1,h2⟩:=Ro (z:=-z) (k:=k);unfold iU.nN;rw[cond_true,bYC];rw[bYC]at h1 h2;generalize ((-z/((2^k:Nat):Int):Int):Rat)=q at *;constructor <;> grind
theorem rU{p:Int×Int}(h:p.1≠0):R.pz (bB p)<=R.ab (R.qz p)/\R.ab (R.qz p)<R.pz (bB p+1):=by
 have hb:=sE (n:=p.1.natAbs) (by omega);have h1:2^(bl p.1.natAbs-1)<=p.1.natAbs:=rN.1 (by omega);have h2:=vP p.1.natAbs;have e:R.ab (R.qz p)=(p.1.natAbs:Rat)*R.pz p.2:=by
  unfold R.qz;rw[R.fG,R.bG (bSJ (R.dJ p.2))];congr 1;unfold R.ab
  by_cases hz:0<=p.1
  ·rw[if_pos (by exact_mod_cast hz),<-bXT];congr 1;omega
  ·rw[if_neg (by intro hc;exact hz (by exact_mod_cast hc)),<-bXT,<-bYC];congr 1;omega
 have hp:=R.dJ p.2;rw[e];unfold bB;constructor
 ·rw[show p.2+(bl p.1.natAbs:Int)-1=p.2+((bl p.1.natAbs-1:Nat):Int) by omega,R.dW];have aAB:((2^(bl p.1.natAbs-1):Nat):Rat)<=(p.1.natAbs:Rat):=by exact_mod_cast h1
  have:=R.aG (bSJ hp) (show 0<=(p.1.natAbs:Rat)-((2^(bl p.1.natAbs-1):Nat):Rat) by grind);grind
 ·rw[show p.2+(bl p.1.natAbs:Int)-1+1=p.2+(bl p.1.natAbs:Int) by omega,R.dW];have aRR:(p.1.natAbs:Rat)<((2^bl p.1.natAbs:Nat):Rat):=by exact_mod_cast h2
  have:=bSV hp (show 0<((2^bl p.1.natAbs:Nat):Rat)-(p.1.natAbs:Rat) by grind);grind
theorem Cc(up:Bool)(p:Int×Int){n:Int}(aBI:1<=n):(up=false->R.qz (shD up p n)<=R.qz p/\R.qz p<=R.qz (shD up p n)+R.pz (1-n)*R.ab (R.qz p))/\(up=true->R.qz p<=R.qz (shD up p n)/\R.qz (shD up p n)<=R.qz p+R.pz (1-n)*R.ab (R.qz p)):=by
 have h0:0<=R.pz (1-n)*R.ab (R.qz p):=R.aG (bSJ (R.dJ _)) (R.aN _);unfold shD bV.mA;split
 ·have e:R.qz (aK p.1 p.2)=R.qz p:=mT p.1 p.2;dsimp only;rw[e];constructor <;> (intro _;constructor <;> grind)
 ·rename_i hn;obtain⟨k,hk⟩:=bSE (show 0<=(bl p.1.natAbs:Int)-n by omega);have Xo:p.1≠0:=by
   intro hz;rw[hz]at hn;have hb:bl (0:Int).natAbs=0:=rfl;rw[hb]at hn;omega
  obtain⟨c1,c2⟩:=Ye up p.1 k;dsimp only;rw[hk,bQX,mT,R.dW];have oO:=R.dJ p.2;have ht:=(rU Xo).1;have e2:R.pz p.2*((2^k:Nat):Rat)<=R.pz (1-n)*R.ab (R.qz p):=by
   have e3:R.pz p.2*((2^k:Nat):Rat)=R.pz (1-n)*R.pz (bB p):=by
    rw[<-R.dW,<-R.mH];congr 1;unfold bB;omega
   rw[e3];have:=R.aG (bSJ (R.dJ (1-n))) (show 0<=R.ab (R.qz p)-R.pz (bB p) by grind);grind
  have eq:R.qz p=(p.1:Rat)*R.pz p.2:=rfl;generalize R.pz (1-n)*R.ab (R.qz p)=X at *;rw[eq];generalize (iU.nN up p.1 k:Rat)=c at *;generalize ((2^k:Nat):Rat)=K at *;constructor
  ·intro hu;obtain⟨d1,d2⟩:=c1 hu;have m1:=R.aG (bSJ oO) (show 0<=(p.1:Rat)-c*K by grind);have m2:=R.aG (bSJ oO) (show 0<=c*K+K-(p.1:Rat) by grind);constructor <;> grind
  ·intro hu;obtain⟨d1,d2⟩:=c2 hu;have m1:=R.aG (bSJ oO) (show 0<=c*K-(p.1:Rat) by grind);have m2:=R.aG (bSJ oO) (show 0<=(p.1:Rat)+K-c*K by grind);constructor <;> grind
theorem aGU(n:Nat):bl (2^n)=n+1:=by
 have h1:=dV (n:=2^n) (k:=n+1);have h2:=rN (n:=2^n) (k:=n);have:2^n<2^(n+1):=bTU (by omega) (by omega);have:=h1.2 this;have:=h2.2 (bNB _);omega
theorem qV(z e:Int):bl (aK z e).1.natAbs<=bl z.natAbs:=gU (Am z e)
theorem Ur(up:Bool)(z:Int)(k n:Nat)(h:bl z.natAbs<=n+k):bl (iU.nN up z k).natAbs<=n+1:=by
 have hz:=dV.1 h;rw[bSD]at hz;have hp:=bQA (n:=k) (show 0<2 by omega);have hn:=bQA (n:=n) (show 0<2 by omega);refine dV.2 ?_;rw[bSA];have fl:∀w:Int,w.natAbs<2^n*2^k->(w/((2^k:Nat):Int)).natAbs<=2^n:=by
  intro w hw;have h1:=bWE w ((2^k:Nat):Int);have h2:=bWF w (show((2^k:Nat):Int)≠0 by omega);have h3:=bWG w (show(0:Int)<((2^k:Nat):Int) by omega);have aTO:(w.natAbs:Int)<((2^n:Nat):Int)*((2^k:Nat):Int):=by exact_mod_cast hw
  generalize w/((2^k:Nat):Int)=q at *;generalize ((2^k:Nat):Int)=K at *;generalize hN:2^n=N at *
  by_cases hq:0<=q
  ·have:q<(N:Int):=by
    refine Int.not_le.1 fun hc=>?_
    have:=bZG hc (show 0<=K by omega);rw[Int.mul_comm K (N:Int)]at this;omega
   omega
  ·have:-(N:Int)<=q:=by
    refine Int.not_lt.1 fun hc=>?_
    have:=bZG (show q<=-(N:Int)-1 by omega) (show 0<=K by omega);rw[Int.mul_sub,bWB,Int.mul_one,Int.mul_comm K (N:Int)]at this;omega
   omega
 unfold iU.nN;cases up with
 |false =>
  rw[cond_false];have:=fl z hz;omega
 |true =>
  rw[cond_true,bTV];have:=fl (-z) (by rw[bTV];exact hz);omega
def aYC(p:Int×Int):Prop:=jG p/\p.2+(bl p.1.natAbs:Nat)<=1048000
theorem Kl{up:Bool}{p:Int×Int}{n:Int}(hp:aYC p)(hn:1<=n):wA up p n=true/\jG (shD up p n):=by
 obtain⟨⟨h1,h2,h3,h4⟩,h5⟩:=hp;unfold wA shD bV.mA;split
 ·dsimp only;have hi:fN p.1 p.2=true:=by
   unfold fN
   by_cases hz:p.1=0
   ·rw[decide_eq_true hz,bSM]
   ·have ht:=yZ (n:=p.1.natAbs) (by have:=h4 hz;omega);rw[ht,decide_eq_false hz,bPC,decide_eq_true (show -1048576<=p.2+((0:Nat):Int) by omega),decide_eq_true (show p.2+((0:Nat):Int)<=1048576 by omega)];rfl
  exact⟨hi,fM hi h1⟩
 ·rename_i hk;dsimp only;have hc:=iU.Yf up p.1 ((bl p.1.natAbs:Int)-n).toNat;have bFP:=Ur up p.1 ((bl p.1.natAbs:Int)-n).toNat n.toNat (by omega);generalize iU.nN up p.1 ((bl p.1.natAbs:Int)-n).toNat=c at *;have bLC:bl c.natAbs<=bl p.1.natAbs:=gU hc;have bBK:c≠0->tz c.natAbs<bl c.natAbs:=fun h=>zX (by omega)
  have hi:fN c (p.2+((bl p.1.natAbs:Int)-n))=true:=by
   unfold fN
   by_cases hz:c=0
   ·rw[decide_eq_true hz,bSM]
   ·have:=bBK hz;rw[decide_eq_false hz,bPC,decide_eq_true (show -1048576<=p.2+((bl p.1.natAbs:Int)-n)+(tz c.natAbs:Int) by omega),decide_eq_true (show p.2+((bl p.1.natAbs:Int)-n)+(tz c.natAbs:Int)<=1048576 by omega)];rfl
  exact⟨hi,fM hi (bNX bLC h1)⟩
end M
namespace M
open Go AI W
theorem Xa{p q:Int×Int}(hp:jG p)(hq:jG q)(h:bM.jZ p q=true):jG (bM.oT p q):=by
 unfold bM.oT;split
 ·exact hq
 ·split
  ·exact hp
  ·rename_i h1 h2;unfold bM.jZ at h;rw[decide_eq_false h1,decide_eq_false h2,bPC,bPC,bNH,bNH,bNH]at h;exact fM h.2.2.2 (of_decide_eq_true h.2.2.1)
theorem jG.top{p:Int×Int}(h:jG p):-1048577<=bB p/\bB p<=1572864:=by
 obtain⟨h1,h2,_⟩:=h;unfold bB;omega
theorem Fq{p q:Int×Int}:cO p q=0↔R.qz p=R.qz q:=by
 obtain⟨h1,h2⟩:=Fs p q;have a:=R.aDD (p:=p) (q:=q) h1 h2;have b:=R.aDD (p:=q) (q:=p) h2 h1;unfold cO;rw[aKX];constructor
 ·intro h;exact bZH (a.2 (Int.le_of_eq h)) (b.2 (Int.le_of_eq h.symm))
 ·intro h;exact Int.le_antisymm (a.1 (by rw[h];exact bTP)) (b.1 (by rw[h];exact bTP))
theorem yG{p q:Int×Int}:cO p q<0↔R.qz p<R.qz q:=by
 have h1:=jT (p:=p) (q:=q);have h3:=Fq (p:=p) (q:=q);constructor
 ·intro h;have:=h1.1 (by omega);refine Rat.not_le.1 fun hn=>?_
  have:=h3.2 (bZH this hn);omega
 ·intro h;have a:=h1.2 (bSJ h);have b:cO p q≠0:=fun hn=>Rat.lt_irrefl ((h3.1 hn)▸h)
  omega
theorem Ew{p:Int×Int}(h:p.1=0):cO p (0,0)=0:=by
 rw[Fq,R.nH h,R.nH rfl]
theorem jG.El{p:Int×Int}(h:jG p):jG (-p.1,p.2):=by
 obtain⟨x1,x2,x3,x4⟩:=h;exact⟨by dsimp only;rw[bTV];exact x1,x2,fun h=>x3 (by dsimp only at h;omega),fun h=>by dsimp only at h ⊢;have:=x4 (by omega);omega⟩
theorem aJ.Cs{x:dU}(h:aJ x)(hb:bl (dv x).1.natAbs<=262144):x.2.1.length<=4096:=by
 have e:M6.dg (dv x).1.natAbs=x.2.1:=h.Dr.cells.2;rw[<-e];exact eZ (k:=4096) (by omega)
def Bq(p q:Int×Int):Int×Int:=bif decide (cO q p<0)then q else p
def Bs(p q:Int×Int):Int×Int:=bif decide (0<cO q p)then q else p
theorem aDT(p q:Int×Int):Bq p q=p\/Bq p q=q:=by unfold Bq;cases decide (cO q p<0);exact Or.inl rfl;exact Or.inr rfl
theorem aFD(p q:Int×Int):Bs p q=p\/Bs p q=q:=by unfold Bs;cases decide (0<cO q p);exact Or.inl rfl;exact Or.inr rfl
theorem Ty(p q:Int×Int):R.qz (Bq p q)<=R.qz p/\R.qz (Bq p q)<=R.qz q:=by
 unfold Bq
 by_cases h:cO q p<0
 ·rw[decide_eq_true h,cond_true];exact⟨bSJ (yG.1 h),bTP⟩
 ·rw[decide_eq_false h,cond_false];exact⟨bTP,Rat.not_lt.1 fun hn=>h (yG.2 hn)⟩
theorem Ul(p q:Int×Int):R.qz p<=R.qz (Bs p q)/\R.qz q<=R.qz (Bs p q):=by
 unfold Bs
 by_cases h:0<cO q p
 ·rw[decide_eq_true h,cond_true];exact⟨bSJ (tA.1 h),bTP⟩
 ·rw[decide_eq_false h,cond_false];exact⟨bTP,Rat.not_lt.1 fun hn=>h (tA.2 hn)⟩
end M
namespace W
open Go AI M
namespace aM
def E:=mE [] 11 [] [] []
def aE:=bd f157
theorem aU:Nk E aE:=nk
theorem start a:aF E f157 aE [D.s (sc (int i64 a))]=letI A:=int i64 0;aB (a==32) (some [D.agg [sc (int i64 32),sc (int i64 24),sc (int i64 (-149:Int)),sc (int u64 2143289345)]]) (aB (a==64) (some [D.agg [sc (int i64 64),sc (int i64 53),sc (int i64 (-1074:Int)),sc (int u64 9221120237041090561)]]) (some [D.agg [sc A,sc A,sc A,sc (int u64 0)]])):=eJ aU
def gY(f:Int):Int×Int×Int×Int:=if f=32 then(32,24,-149,2143289345)else if f=64 then(64,53,-1074,9221120237041090561)else(0,0,0,0)
def aYJ(s:Int×Int×Int×Int):D:=.agg [.sc (.int .i64 s.1),.sc (.int .i64 s.2.1),.sc (.int .i64 s.2.2.1),.sc (.int .u64 s.2.2.2)]
def Bg(s:Int×Int×Int×Int):Prop:=s=(32,24,-149,2143289345)\/s=(64,53,-1074,9221120237041090561)
theorem two32:Bg (32,24,-149,2143289345):=.inl rfl
theorem tP:Bg (64,53,-1074,9221120237041090561):=.inr rfl
def sp(f:Int):Prop×List D:=(True,[aYJ (gY f)])
theorem spec:gO E f157 aE (pN .i64) sp:=by
 intro f h;refine(start f).trans ?_;unfold sp gY
 try dsimp only
 by_cases h1:f=32
 ·rw[cF h1,if_pos h1];rfl
 ·rw[bS h1,if_neg h1]
  by_cases h2:f=64
  ·rw[cF h2,if_pos h2];rfl
  ·rw[bS h2,if_neg h2];rfl
def aH:dC:=orc1 (pN .i64) sp
theorem ok:OK 157 aH:=(eI E aE aD func157).nD rfl spec
end aM
namespace dM
def E:=mE [] 7 [] [] []
def aE:=bd f172
theorem aU:Nk E aE:=nk
theorem start a b c d:aF E f172 aE [D.agg [sc (int i64 a),sc (int i64 b),sc (int i64 c),sc (int u64 d)]]=if i64.wrap (a-1)<0 then none else some [D.s (sc (int u64 (u64.wrap ((1:Int)*(↑((2:Nat)^min (i64.wrap (a-1)).toNat 64):Int)))))]:=eJ aU
def dX(s:Int×Int×Int×Int):Int:=if s.1=32 then 2147483648 else 9223372036854775808
def sp(s:Int×Int×Int×Int):Prop×List D:=(aM.Bg s,[.s (.sc (.int .u64 (dX s)))])
theorem spec:gO E f172 aE (pG (.pair (sN .i64) (.pair (sN .i64) (.pair (sN .i64) (sN .u64))))) sp:=by
 intro s h;refine(start s.1 s.2.1 s.2.2.1 s.2.2.2).trans ?_;rcases h with rfl |rfl
 ·rfl
 ·rfl
def aH:dC:=orc1 (pG (.pair (sN .i64) (.pair (sN .i64) (.pair (sN .i64) (sN .u64))))) sp
theorem ok:OK 172 aH:=(eI E aE aD func172).nD rfl spec
end dM
namespace fB
def E:=mE [(157,aM.aH),(172,dM.aH)] 36 [] [(6,[1,4,8])] [6]
def aE:=bd f118
theorem aU:Nk E aE:=nk
def J6 a b c d e f g h i:=lD E f118 aE 6 [cY a,dG 1 90 [cP b,cP c,cP d,aIR e],dG 2 90 [cP f,cP g,cP h,aIR i]]
theorem start a b:aF E f118 aE [D.s (sc (int i64 a)),D.s (sc (int u64 b))]=letI A:=aM.gY a;letI G:=int i64 A.snd.fst;letI F:=int u64 A.snd.snd.snd;letI C:=int i64 A.snd.snd.fst;letI B:=fB.J6 b 0 0 0 0 A.fst A.snd.fst A.snd.snd.fst A.snd.snd.snd;aQ True (aB (A.fst==0&&(A.snd.fst==0&&(A.snd.snd.fst==0&&(A.snd.snd.snd==0&&true)))) (some [D.agg [sc (int i64 A.fst),sc G,sc C,sc F],D.s (sc (bool false)),D.s (sc (int u64 0)),D.s (sc (int i64 1))]) (aB (decide (A.fst<64)) (if A.fst<0 then none else aB (b/(↑((2:Nat)^min A.fst.toNat 64):Int) !=(0:Int)) (some [D.agg [sc (int i64 A.fst),sc G,sc C,sc F],D.s (sc (bool false)),D.s (sc (int u64 0)),D.s (sc (int i64 2))]) B) B)):=eJ aU
theorem Ls a b c d e f g h i:J6 a b c d e f g h i=letI A:=(f,g,h,i);aQ (aM.Bg A) (aQ (aM.Bg A) (some [D.agg [sc (int i64 f),sc (int i64 g),sc (int i64 h),sc (int u64 i)],D.s (sc (bool (eY BinOp.and u64 a (dM.dX A) !=0))),D.s (sc (int u64 (eY BinOp.andNot u64 a (dM.dX A)))),D.s (sc (int i64 0))])):=cJ aU
theorem Ry{a b:Int}(ha:0<=a)(aXU:a<18446744073709551616)(hb:0<=b)(vT:b<18446744073709551616):eY .andNot .u64 a b=((a.toNat &&& (2^64-(b.toNat+1)):Nat):Int):=by
 obtain⟨n,rfl⟩:=bSE ha;obtain⟨m,rfl⟩:=bSE hb;rw[sF];unfold bitsI0;simp only;have e:(BitVec.ofInt u64.bits (n:Int) &&& ~~~ BitVec.ofInt u64.bits (m:Int)).toNat=n &&& (2^64-(m+1)):=by
  show(BitVec.ofInt 64 (n:Int) &&& ~~~ BitVec.ofInt 64 (m:Int)).toNat=_;rw[BitVec.toNat_and,BitVec.toNat_not];have e1:(BitVec.ofInt 64 (n:Int)).toNat=n:=by simp;omega
  have e2:(BitVec.ofInt 64 (m:Int)).toNat=m:=by simp;omega
  rw[e1,e2];congr 1;omega
 have hle:n &&& (2^64-(m+1))<=n:=Nat.and_le_left;rw[e,wrap_u64];rfl
theorem Lj{n k:Nat}(hk:k<64)(h:n<2^(k+1)):n &&& (2^64-(2^k+1))=n%2^k:=by
 refine bYG fun i=>?_
 have hp:2^k<2^64:=bTU (by decide) hk;rw[bYE,bYU hp,bXZ,bYR]
 by_cases h1:i<k
 ·have:¬k=i:=by omega
  have bGD:i<64:=by omega
  simp[h1,this,bGD]
 ·by_cases h2:i=k
  ·subst h2;simp
  ·have:n<2^i:=bOB h (bQB (by decide) (by omega));rw[bZJ this];simp
theorem Vy{n k:Nat}(h:n<2^(k+1)):(n &&& 2^k)=if 2^k<=n then 2^k else 0:=by
 refine bYG fun i=>?_
 rw[bYE,bYR]
 by_cases h1:2^k<=n
 ·have ht:n.testBit k=true:=by
   rw[Nat.testBit_eq_decide_div_mod_eq];have:=bXV (k:=1) (show 1*2^k<=n by omega) (show n<(1+1)*2^k by rw[bSA]at h;omega);rw[this];rfl
  rw[if_pos h1,bYR]
  by_cases hi:k=i
  ·subst hi;simp[ht]
  ·simp[hi]
 ·rw[if_neg h1,Nat.zero_testBit]
  by_cases hi:k=i
  ·subst hi;rw[bZJ (by omega)];rfl
  ·simp[hi]
def iA(f b:Int):Bool:=decide (f=64)||decide (b<4294967296)
def sp(f b:Int):Prop×List D:=((f=32\/f=64)/\0<=b/\b<18446744073709551616,[aM.aYJ (aM.gY f),.s (.sc (.bool (iA f b&&decide (dM.dX (aM.gY f)<=b)))),.s (.sc (.int .u64 (bif iA f b then b%dM.dX (aM.gY f)else 0))),.s (.sc (.int .i64 (bif iA f b then 0 else 2)))])
theorem spec:fO E f118 aE (pN .i64) (pN .u64) sp:=by
 rintro f b ⟨hf,h0,h1⟩;obtain⟨n,rfl⟩:=bSE h0;refine(start f n).trans ((gP trivial).trans ?_);unfold sp
 try dsimp only
 rcases hf with rfl |rfl
 ·rw[show aM.gY 32=(32,24,-149,2143289345)from rfl]
  try dsimp only
  rw[Hz (by decide),aO (by decide),if_neg (by decide),show min (32:Int).toNat 64=32 from rfl,show dM.dX (32,24,-149,2143289345)=2147483648 from rfl]
  by_cases hc:(n:Int)<4294967296
  ·have hp:iA 32 n=true:=by unfold iA;rw[decide_eq_true hc,bTB]
   have a1:eY .and .u64 (n:Int) 2147483648=if(2147483648:Int)<=n then 2147483648 else 0:=by
    rw[Rz (by omega) (by omega) (by omega) (by omega),bQX];have:=Vy (n:=n) (k:=31) (by omega);rw[show(2147483648:Int).toNat=2^31 from rfl,this];split <;> split <;> first |rfl |omega
   have a2:eY .andNot .u64 (n:Int) 2147483648=(n:Int)%2147483648:=by
    rw[Ry (by omega) (by omega) (by omega) (by omega),bQX,show(2147483648:Int).toNat=2^31 from rfl,Lj (by omega) (by omega)];omega
   rw[gT,Ls,gP aM.two32,gP aM.two32,show dM.dX (32,24,-149,2143289345)=2147483648 from rfl,a1,a2,hp]
   by_cases hd:(2147483648:Int)<=n
   ·rw[if_pos hd,decide_eq_true hd];rfl
   ·rw[if_neg hd,decide_eq_false hd];rfl
  ·have hp:iA 32 n=false:=by unfold iA;rw[decide_eq_false hc];rfl
   rw[qF,hp];rfl
 ·rw[show aM.gY 64=(64,53,-1074,9221120237041090561)from rfl]
  try dsimp only
  have hp:iA 64 n=true:=rfl;have a1:eY .and .u64 (n:Int) 9223372036854775808=if(9223372036854775808:Int)<=n then 9223372036854775808 else 0:=by
   rw[Rz (by omega) (by omega) (by omega) (by omega),bQX];have:=Vy (n:=n) (k:=63) (by omega);rw[show(9223372036854775808:Int).toNat=2^63 from rfl,this];split <;> split <;> first |rfl |omega
  have a2:eY .andNot .u64 (n:Int) 9223372036854775808=(n:Int)%9223372036854775808:=by
   rw[Ry (by omega) (by omega) (by omega) (by omega),bQX,show(9223372036854775808:Int).toNat=2^63 from rfl,Lj (by omega) (by omega)];omega
  rw[Hz (by decide),aI (by decide),Ls,gP aM.tP,gP aM.tP,show dM.dX (64,53,-1074,9221120237041090561)=9223372036854775808 from rfl,a1,a2,hp]
  by_cases hd:(9223372036854775808:Int)<=n
  ·rw[if_pos hd,decide_eq_true hd];rfl
  ·rw[if_neg hd,decide_eq_false hd];rfl
def aH:dC:=orc2 (pN .i64) (pN .u64) sp
theorem ok:OK 118 aH:=(eI E aE (aA aM.ok (aA dM.ok aD)) func118).lP rfl spec
end fB
namespace cX
def E:=mE [] 7 [] [] []
def aE:=bd f120
theorem aU:Nk E aE:=nk
theorem start a b c d:aF E f120 aE [D.agg [sc (int i64 a),sc (int i64 b),sc (int i64 c),sc (int u64 d)]]=if i64.wrap (b-1)<0 then none else some [D.s (sc (int u64 (u64.wrap ((1:Int)*(↑((2:Nat)^min (i64.wrap (b-1)).toNat 64):Int)))))]:=eJ aU
def lT(s:Int×Int×Int×Int):Int:=if s.1=32 then 8388608 else 4503599627370496
def sp(s:Int×Int×Int×Int):Prop×List D:=(aM.Bg s,[.s (.sc (.int .u64 (lT s)))])
theorem spec:gO E f120 aE (pG (.pair (sN .i64) (.pair (sN .i64) (.pair (sN .i64) (sN .u64))))) sp:=by
 intro s h;refine(start s.1 s.2.1 s.2.2.1 s.2.2.2).trans ?_;rcases h with rfl |rfl
 ·rfl
 ·rfl
def aH:dC:=orc1 (pG (.pair (sN .i64) (.pair (sN .i64) (.pair (sN .i64) (sN .u64))))) sp
theorem ok:OK 120 aH:=(eI E aE aD func120).nD rfl spec
end cX
namespace kW
def E:=mE [(172,dM.aH),(120,cX.aH)] 8 [] [] []
def aE:=bd f119
theorem aU:Nk E aE:=nk
theorem start a b c d:aF E f119 aE [D.agg [sc (int i64 a),sc (int i64 b),sc (int i64 c),sc (int u64 d)]]=letI A:=(a,b,c,d);aQ (aM.Bg A) (aQ (aM.Bg A) (some [D.s (sc (int u64 (u64.wrap (dM.dX A-cX.lT A))))])):=eJ aU
def mM(s:Int×Int×Int×Int):Int:=if s.1=32 then 2139095040 else 9218868437227405312
def sp(s:Int×Int×Int×Int):Prop×List D:=(aM.Bg s,[.s (.sc (.int .u64 (mM s)))])
theorem spec:gO E f119 aE (pG (.pair (sN .i64) (.pair (sN .i64) (.pair (sN .i64) (sN .u64))))) sp:=by
 intro s h;refine(start s.1 s.2.1 s.2.2.1 s.2.2.2).trans ((gP h).trans ((gP h).trans ?_));rcases h with rfl |rfl
 ·rfl
 ·rfl
def aH:dC:=orc1 (pG (.pair (sN .i64) (.pair (sN .i64) (.pair (sN .i64) (sN .u64))))) sp
theorem ok:OK 119 aH:=(eI E aE (aA dM.ok (aA cX.ok aD)) func119).nD rfl spec
end kW
namespace lO
def E:=mE [(120,cX.aH),(119,kW.aH)] 23 [] [] []
def aE:=bd f144
theorem aU:Nk E aE:=nk
theorem start a c d e b:aF E f144 aE [D.agg [sc (int i64 a),sc (int i64 c),sc (int i64 d),sc (int u64 e)],D.s (sc (int u64 b))]=letI B:=(a,c,d,e);letI A:=aM.Bg B;aB (b==0) (some [D.s (sc (int i64 0))]) (aQ A (aB (decide (b<cX.lT B)) (some [D.s (sc (int i64 1))]) (aQ A (aB (decide (b<kW.mM B)) (some [D.s (sc (int i64 2))]) (aQ A (aB (b==kW.mM B) (some [D.s (sc (int i64 3))]) (some [D.s (sc (int i64 4))]))))))):=eJ aU
def lH(s:Int×Int×Int×Int)(n:Int):Int:=if n=0 then 0 else if n<cX.lT s then 1 else if n<kW.mM s then 2 else if n=kW.mM s then 3 else 4
def sp(s:Int×Int×Int×Int)(n:Int):Prop×List D:=(aM.Bg s,[.s (.sc (.int .i64 (lH s n)))])
theorem spec:fO E f144 aE (pG (.pair (sN .i64) (.pair (sN .i64) (.pair (sN .i64) (sN .u64))))) (pN .u64) sp:=by
 intro s n h;obtain⟨s1,s2,s3,s4⟩:=s;have h:aM.Bg (s1,s2,s3,s4):=h;refine(start s1 s2 s3 s4 n).trans ?_;show _=some [D.s (.sc (.int .i64 (lH (s1,s2,s3,s4) n)))];unfold lH
 by_cases h1:n=0
 ·rw[cF h1,if_pos h1]
 ·rw[bS h1,if_neg h1,gP h]
  by_cases h2:n<cX.lT (s1,s2,s3,s4)
  ·rw[aO h2,if_pos h2]
  ·rw[aI h2,if_neg h2,gP h]
   by_cases h3:n<kW.mM (s1,s2,s3,s4)
   ·rw[aO h3,if_pos h3]
   ·rw[aI h3,if_neg h3,gP h]
    by_cases h4:n=kW.mM (s1,s2,s3,s4)
    ·rw[cF h4,if_pos h4]
    ·rw[bS h4,if_neg h4]
def aH:dC:=orc2 (pG (.pair (sN .i64) (.pair (sN .i64) (.pair (sN .i64) (sN .u64))))) (pN .u64) sp
theorem ok:OK 144 aH:=(eI E aE (aA cX.ok (aA kW.ok aD)) func144).lP rfl spec
end lO
namespace Ix
def E:=mE [(118,fB.aH),(144,lO.aH)] 24 [13,23] [] []
def aE:=bd f91
theorem aU:Nk E aE:=nk
theorem start a b:aF E f91 aE [D.s (sc (int i64 a)),D.s (sc (int u64 b))]=letI C:=bif fB.iA a b then(0:Int)else(2:Int);letI A:=aM.gY a;letI B:=(A.fst,A.snd.fst,A.snd.snd.fst,A.snd.snd.snd);aQ ((a=32\/a=64)/\0<=b/\b<18446744073709551616) (aB (C !=0) (some [D.s (sc (int i64 0)),D.s (sc (int i64 C))]) (aQ (aM.Bg B) (some [D.s (sc (int i64 (lO.lH B (bif fB.iA a b then b%dM.dX A else(0:Int))))),D.s (sc (int i64 0))]))):=eJ aU
def sp(f b:Int):Prop×List D:=((f=32\/f=64)/\0<=b/\b<18446744073709551616,[.s (.sc (.int .i64 (bif fB.iA f b then lO.lH (aM.gY f) (b%dM.dX (aM.gY f))else 0))),.s (.sc (.int .i64 (bif fB.iA f b then 0 else 2)))])
theorem spec:fO E f91 aE (pN .i64) (pN .u64) sp:=by
 intro f b h;refine(start f b).trans ((gP h).trans ?_);unfold sp
 try dsimp only
 have ht:aM.Bg (aM.gY f):=by
  rcases h.1 with rfl |rfl
  ·exact .inl rfl
  ·exact .inr rfl
 cases hp:fB.iA f b with
 |false=>rfl
 |true =>
  try dsimp only[cond_true]
  rw[gT rfl,gP ht]
def aH:dC:=orc2 (pN .i64) (pN .u64) sp
theorem ok:OK 91 aH:=(eI E aE (aA fB.ok (aA lO.ok aD)) func91).lP rfl spec
end Ix
namespace xI
def aQB(b:Int):Int:=bif fB.iA 64 b then lO.lH (aM.gY 64) (b%9223372036854775808)else 0
end xI
namespace Dj
def E:=mE [(113,Kg.aH)] 14 [10] [] []
def aE:=bd f62
theorem aU:Nk E aE:=nk
theorem start a b c d e f:aF E f62 aE [D.agg [sc (bool a),ints u64 b,sc (int i64 c)],D.agg [sc (bool d),ints u64 e,sc (int i64 f)]]=aQ (aJ (a,b,c)/\aJ (d,e,f)) (some [D.s (sc (int i64 (lG (bM.lK (dv (a,b,c)) (dv (d,e,f))) (bM.lI (dv (a,b,c)) (dv (d,e,f))))))]):=eJ aU
def sp(x y:dU):Prop×List D:=(aJ x/\aJ y,[.s (.sc (.int .i64 (cO (dv x) (dv y))))])
theorem spec:fO E f62 aE hZ hZ sp:=by
 intro x y h;exact(start x.1 x.2.1 x.2.2 y.1 y.2.1 y.2.2).trans (gP h)
def aH:dC:=orc2 hZ hZ sp
theorem ok:OK 62 aH:=(eI E aE (aA Kg.ok aD) func62).lP rfl spec
end Dj
namespace sK
def E:=mE [(61,lB.aH),(62,Dj.aH)] 19 [] [] []
def aE:=bd f45
theorem aU:Nk E aE:=nk
theorem start a b c d e f:aF E f45 aE [D.agg [sc (bool a),ints u64 b,sc (int i64 c),sc (bool d),ints u64 e,sc (int i64 f)]]=aQ (aJ (a,b,c)) (aQ (aJ (d,e,f)) (aQ (aJ (a,b,c)/\aJ (d,e,f)) (some [D.s (sc (bool (decide (cO (dv (a,b,c)) (dv (d,e,f))<=0))))]))):=eJ aU
def sp(s:rQ):Prop×List D:=(eB s,[.s (.sc (.bool true))])
theorem spec:gO E f45 aE sT sp:=by
 rintro s ⟨h1,h2,h3⟩;refine(start s.1 s.2.1 s.2.2.1 s.2.2.2.1 s.2.2.2.2.1 s.2.2.2.2.2).trans ((gP h1).trans ((gP h2).trans ((gP ⟨h1,h2⟩).trans ?_)));show some [D.s (.sc (.bool (decide (cO (dv (gM s)) (dv (gN s))<=0))))]=_;rw[decide_eq_true h3];rfl
def aH:dC:=orc1 sT sp
theorem ok:OK 45 aH:=(eI E aE (aA lB.ok (aA Dj.ok aD)) func45).nD rfl spec
end sK
namespace aHH
def E:=mE [(121,Clone.aH)] 10 [] [] []
def aE:=bd f156
theorem aU:Nk E aE:=nk
theorem start a b c:aF E f156 aE [D.agg [sc (bool a),ints u64 b,sc (int i64 c)]]=aQ (b.length<=1099511627776) (some [D.agg [sc (bool a),ints u64 b,sc (int i64 c)]]):=eJ aU
def sp(x:dU):Prop×List D:=(x.2.1.length<=1099511627776,[.agg [.sc (.bool x.1),.ints .u64 x.2.1,.sc (.int .i64 x.2.2)]])
theorem spec:gO E f156 aE hZ sp:=by
 intro x h;exact(start x.1 x.2.1 x.2.2).trans (gP h)
def aH:dC:=orc1 hZ sp
theorem ok:OK 156 aH:=(eI E aE (aA Clone.ok aD) func156).nD rfl spec
end aHH
namespace Ih
def E:=mE [(156,aHH.aH)] 10 [] [] []
def aE:=bd f105
theorem aU:Nk E aE:=nk
theorem start a b c d e f:aF E f105 aE [D.agg [sc (bool a),ints u64 b,sc (int i64 c),sc (bool d),ints u64 e,sc (int i64 f)]]=aQ (b.length<=1099511627776) (aQ (e.length<=1099511627776) (some [D.agg [sc (bool a),ints u64 b,sc (int i64 c),sc (bool d),ints u64 e,sc (int i64 f)]])):=eJ aU
def sp(s:rQ):Prop×List D:=(s.2.1.length<=1099511627776/\s.2.2.2.2.1.length<=1099511627776,[.agg [.sc (.bool s.1),.ints .u64 s.2.1,.sc (.int .i64 s.2.2.1),.sc (.bool s.2.2.2.1),.ints .u64 s.2.2.2.2.1,.sc (.int .i64 s.2.2.2.2.2)]])
theorem spec:gO E f105 aE sT sp:=by
 intro s h;exact(start s.1 s.2.1 s.2.2.1 s.2.2.2.1 s.2.2.2.2.1 s.2.2.2.2.2).trans ((gP h.1).trans (gP h.2))
def aH:dC:=orc1 sT sp
theorem ok:OK 105 aH:=(eI E aE (aA aHH.ok aD) func105).nD rfl spec
end Ih
namespace aHI
def E:=mE [(45,sK.aH),(105,Ih.aH)] 16 [] [] []
def aE:=bd f92
theorem aU:Nk E aE:=nk
theorem start a b c d e f:aF E f92 aE [D.agg [sc (bool a),ints u64 b,sc (int i64 c)],D.agg [sc (bool d),ints u64 e,sc (int i64 f)]]=aQ (eB (a,b,c,d,e,f)) (aQ (b.length<=1099511627776/\e.length<=1099511627776) (some [D.agg [sc (bool a),ints u64 b,sc (int i64 c),sc (bool d),ints u64 e,sc (int i64 f)],D.s (sc (int i64 0))])):=eJ aU
def sp(x y:dU):Prop×List D:=(aJ x/\aJ y/\cO (dv x) (dv y)<=0,[.agg [.sc (.bool x.1),.ints .u64 x.2.1,.sc (.int .i64 x.2.2),.sc (.bool y.1),.ints .u64 y.2.1,.sc (.int .i64 y.2.2)],.s (.sc (.int .i64 0))])
theorem spec:fO E f92 aE hZ hZ sp:=by
 rintro x y ⟨h1,h2,h3⟩;have l1:=h1.len;have l2:=h2.len;exact(start x.1 x.2.1 x.2.2 y.1 y.2.1 y.2.2).trans ((gP ⟨h1,h2,h3⟩).trans (gP ⟨by omega,by omega⟩))
def aH:dC:=orc2 hZ hZ sp
theorem ok:OK 92 aH:=(eI E aE (aA sK.ok (aA Ih.ok aD)) func92).lP rfl spec
end aHI
namespace Ij
def E:=mE [(92,aHI.aH)] 9 [6] [] []
def aE:=bd f36
theorem aU:Nk E aE:=nk
theorem start a b c:aF E f36 aE [D.agg [sc (bool a),ints u64 b,sc (int i64 c)]]=aQ (aJ (a,b,c)/\aJ (a,b,c)/\cO (dv (a,b,c)) (dv (a,b,c))<=0) (some [D.agg [sc (bool a),ints u64 b,sc (int i64 c),sc (bool a),ints u64 b,sc (int i64 c)],D.s (sc (int i64 0))]):=eJ aU
def sp(x:dU):Prop×List D:=(aJ x,[.agg [.sc (.bool x.1),.ints .u64 x.2.1,.sc (.int .i64 x.2.2),.sc (.bool x.1),.ints .u64 x.2.1,.sc (.int .i64 x.2.2)],.s (.sc (.int .i64 0))])
theorem spec:gO E f36 aE hZ sp:=by
 intro x h;exact(start x.1 x.2.1 x.2.2).trans (gP ⟨h,h,Li _⟩)
def aH:dC:=orc1 hZ sp
theorem ok:OK 36 aH:=(eI E aE (aA aHI.ok aD) func36).nD rfl spec
end Ij
namespace aHM
def E:=mE [(117,mP.aH),(116,Ip.aH)] 14 [] [] []
def aE:=bd f64
theorem aU:Nk E aE:=nk
theorem start a:aF E f64 aE [D.s (sc (int i64 a))]=letI B:=M6.dg (u64.wrap a).toNat;letI C:=zs false (M6.val B);letI A:=M6.dg (u64.wrap ((0:Int)-u64.wrap a)).toNat;letI F:=zs true (M6.val A);aB (decide (a<0)) (aQ (0<=u64.wrap ((0:Int)-u64.wrap a)/\u64.wrap ((0:Int)-u64.wrap a)<18446744073709551616) (aQ (M6.cD A/\A.length<=1099511627776) (some [D.agg [sc (bool (isNeg F)),ints u64 (M6.dg F.natAbs)]]))) (aQ (0<=u64.wrap a/\u64.wrap a<18446744073709551616) (aQ (M6.cD B/\B.length<=1099511627776) (some [D.agg [sc (bool (isNeg C)),ints u64 (M6.dg C.natAbs)]]))):=eJ aU
def sp(a:Int):Prop×List D:=(-9223372036854775808<=a/\a<9223372036854775808,[wD a])
theorem spec:gO E f64 aE (pN .i64) sp:=by
 rintro a ⟨h1,h2⟩;refine(start a).trans ?_;show _=some [wD a]
 by_cases hn:a<0
 ·have w1:u64.wrap (0-u64.wrap a)=(a.natAbs:Int):=by rw[eG,eG];omega
  have hl:=eZ (n:=a.natAbs) (k:=1) (dV.2 (by omega));rw[aO hn,w1,bQX,gP ⟨by omega,by omega⟩,gP ⟨M6.aW _,by omega⟩,M6.bJ];have:zs true a.natAbs=a:=by show -(a.natAbs:Int)=a;omega
  rw[this];rfl
 ·have w1:u64.wrap a=(a.natAbs:Int):=by rw[eG];omega
  have hl:=eZ (n:=a.natAbs) (k:=1) (dV.2 (by omega));rw[aI hn,w1,bQX,gP ⟨by omega,by omega⟩,gP ⟨M6.aW _,by omega⟩,M6.bJ];have:zs false a.natAbs=a:=by show((a.natAbs:Nat):Int)=a;omega
  rw[this];rfl
def aH:dC:=orc1 (pN .i64) sp
theorem ok:OK 64 aH:=(eI E aE (aA mP.ok (aA Ip.ok aD)) func64).nD rfl spec
end aHM
namespace aLO
def E:=mE [(64,aHM.aH),(63,iK.aH)] 12 [] [] []
def aE:=bd f24
theorem aU:Nk E aE:=nk
theorem start a:aF E f24 aE [D.s (sc (int i64 a))]=letI B:=(isNeg a,M6.dg a.natAbs);letI A:=bif fN (wv B) 0 then aK (wv B) 0 else((0:Int),(0:Int));aQ ((-9223372036854775808:Int)<=a/\a<9223372036854775808) (aQ (kA B/\(-9223372036854775808:Int)<=(0:Int)/\(0:Int)<(9223372036854775808:Int)) (some [D.agg [sc (bool (isNeg A.fst)),ints u64 (M6.dg A.fst.natAbs),sc (int i64 A.snd)]])):=eJ aU
def sp(n:Int):Prop×List D:=(-9223372036854775808<=n/\n<9223372036854775808,[dD (aK n 0)])
theorem aJT{n:Int}(h:bl n.natAbs<=524288):fN n 0=true:=by
 unfold fN
 by_cases hz:n=0
 ·rw[decide_eq_true hz,bSM]
 ·have:=zX (n:=n.natAbs) (by omega);rw[decide_eq_true (show(-1048576<=0+(tz n.natAbs:Int)) by omega),decide_eq_true (show(0+(tz n.natAbs:Int)<=1048576) by omega),bQC,bTB]
theorem spec:gO E f24 aE (pN .i64) sp:=by
 rintro n ⟨h1,h2⟩;have hb:bl n.natAbs<=64:=dV.2 (by omega);refine(start n).trans ?_;rw[gP ⟨h1,h2⟩,gP ⟨mR (by omega),by omega,by omega⟩,rT,aJT (by omega)];rfl
def aH:dC:=orc1 (pN .i64) sp
theorem ok:OK 24 aH:=(eI E aE (aA aHM.ok (aA iK.ok aD)) func24).nD rfl spec
end aLO
namespace Ig
def E:=mE [(36,Ij.aH),(24,aLO.aH)] 12 [] [] []
def aE:=bd f193
theorem aU:Nk E aE:=nk
theorem start a:aF E f193 aE [D.s (sc (int i64 a))]=letI A:=aK a 0;letI C:=M6.dg A.fst.natAbs;letI B:=bool (isNeg A.fst);aQ ((-9223372036854775808:Int)<=a/\a<9223372036854775808) (aQ (aJ (isNeg A.fst,M6.dg A.fst.natAbs,A.snd)) (some [D.agg [sc B,ints u64 C,sc (int i64 A.snd),sc B,ints u64 C,sc (int i64 A.snd)]])):=eJ aU
def sp(n:Int):Prop×List D:=(-1000000<=n/\n<=1000000,[yM (aK n 0) (aK n 0)])
theorem spec:gO E f193 aE (pN .i64) sp:=by
 rintro n ⟨h1,h2⟩;have hb:bl n.natAbs<=20:=dV.2 (by have:(2:Nat)^20=1048576:=rfl;omega);exact(start n).trans ((gP ⟨by omega,by omega⟩).trans (gP (cQ (fM (fP (by decide) (by omega)) (by omega)))))
def aH:dC:=orc1 (pN .i64) sp
theorem ok:OK 193 aH:=(eI E aE (aA Ij.ok (aA aLO.ok aD)) func193).nD rfl spec
end Ig
namespace Bo
def E:=mE [(61,lB.aH),(68,kQ.aH),(197,aHV.aH)] 13 [12] [] []
def aE:=bd f153
theorem aU:Nk E aE:=nk
theorem start a b c:aF E f153 aE [D.agg [sc (bool a),ints u64 b,sc (int i64 c)]]=aQ (aJ (a,b,c)) (aQ True (aB ((b.length:Int)==(0:Int)) (some [D.s (sc (int i64 0)),D.s (sc (int i64 4))]) (aQ (aJ (a,b,c)) (some [D.s (sc (int i64 (c+(↑(bl (M6.val b)):Int)-(1:Int)))),D.s (sc (int i64 0))])))):=eJ aU
def sp(x:dU):Prop×List D:=(aJ x,[.s (.sc (.int .i64 (if(dv x).1=0 then 0 else x.2.2+(bl (M6.val x.2.1):Nat)-1))),.s (.sc (.int .i64 (if(dv x).1=0 then 4 else 0)))])
theorem spec:gO E f153 aE hZ sp:=by
 intro x h;have h:aJ x:=h;refine(start x.1 x.2.1 x.2.2).trans ?_;have hz:=M6.cS h.Iz;have ha:=iZ (x.1,x.2.1)
 try dsimp only at ha
 have hd:(dv x).1=wv (x.1,x.2.1):=rfl;unfold sp
 try dsimp only
 rw[gP h,gP trivial]
 by_cases h0:x.2.1.length=0
 ·have:(dv x).1=0:=by rw[hd];have:=hz.1 h0;omega
  rw[cF,if_pos this,if_pos this]
 ·have:(dv x).1≠0:=by rw[hd];have:=fun hv=>h0 (hz.2 hv);omega
  rw[bS,if_neg this,if_neg this,gP h]
def aH:dC:=orc1 hZ sp
theorem ok:OK 153 aH:=(eI E aE (aA lB.ok (aA kQ.ok (aA aHV.ok aD))) func153).nD rfl spec
end Bo
namespace aHX
def E:=mE [(61,lB.aH),(69,Bn.aH),(68,kQ.aH)] 22 [] [] []
def aE:=bd f80
theorem aU:Nk E aE:=nk
theorem start a b c:aF E f80 aE [D.agg [sc (bool a),ints u64 b,sc (int i64 c)]]=aQ (aJ (a,b,c)) (aQ (b.length<=1099511627776) (aB (!a) (aQ True (some [D.agg [sc (bool !(b.length:Int)==(0:Int)),ints u64 b,sc (int i64 c)],D.s (sc (int i64 0))])) (some [D.agg [sc (bool false),ints u64 b,sc (int i64 c)],D.s (sc (int i64 0))]))):=eJ aU
def sp(x:dU):Prop×List D:=(aJ x,dE true (-(dv x).1,(dv x).2))
theorem spec:gO E f80 aE hZ sp:=by
 intro x h;have h:aJ x:=h;have hl:=h.len;have hc:=h.Dr.cells;refine(start x.1 x.2.1 x.2.2).trans ?_;obtain⟨b,a,e⟩:=x
 try dsimp only at *
 unfold sp
 try dsimp only
 rw[gP h,gP];have hz:=M6.cS h.Iz;have ha:=iZ (b,a)
 try dsimp only at ha hz
 have e1:dE true (-(dv (b,a,e)).1,(dv (b,a,e)).2)=[D.agg [.sc (.bool (isNeg (-(wv (b,a))))),.ints .u64 a,.sc (.int .i64 e)],.s (.sc (.int .i64 0))]:=by
  show [M.dD (-(wv (b,a)),e),_]=_;unfold M.dD
  try dsimp only
  rw[bTV,hc.2];rfl
 rw[e1];cases b with
 |true =>
  have:wv (true,a)=-(M6.val a:Int):=Lu (x:=(true,a)) rfl;rw[bPB,bF,jL.2 (by omega)]
 |false =>
  have hw:wv (false,a)=(M6.val a:Int):=Bt (x:=(false,a)) rfl;rw[bYZ,bT,gP trivial]
  by_cases h0:a.length=0
  ·rw[beq_iff_eq.2 (show(a.length:Int)=0 by omega),jL.2 (by have:=hz.1 h0;omega)];rfl
  ·rw[beq_eq_false_iff_ne.2 (show(a.length:Int)≠0 by omega),lS.2 (by have:M6.val a≠0:=fun h=>h0 (hz.2 h);omega)];rfl
def aH:dC:=orc1 hZ sp
theorem ok:OK 80 aH:=(eI E aE (aA lB.ok (aA Bn.ok (aA kQ.ok aD))) func80).nD rfl spec
end aHX
namespace Vs
def E:=mE [(80,aHX.aH),(26,bM.aH)] 22 [10,19] [] []
def aE:=bd f78
theorem aU:Nk E aE:=nk
theorem start a b c d e f:aF E f78 aE [D.agg [sc (bool a),ints u64 b,sc (int i64 c)],D.agg [sc (bool d),ints u64 e,sc (int i64 f)]]=letI G:=dv (a,b,c);letI F:=dv (d,e,f);letI C:=bif true then(-F.fst,F.snd)else((0:Int),(0:Int));letI A:=dv (isNeg C.fst,M6.dg C.fst.natAbs,C.snd);letI B:=bif bM.jZ G A then bM.oT G A else((0:Int),(0:Int));aQ (aJ (d,e,f)) (aQ (aJ (a,b,c)/\aJ (isNeg (-F.fst),M6.dg (-F.fst).natAbs,F.snd)) (some [D.agg [sc (bool (isNeg B.fst)),ints u64 (M6.dg B.fst.natAbs),sc (int i64 B.snd)],D.s (sc (int i64 (bif bM.jZ G A then(0:Int)else(5:Int))))])):=eJ aU
def sp(x y:dU):Prop×List D:=(aJ x/\aJ y,dE (bM.jZ (dv x) (-(dv y).1,(dv y).2)) (bM.oT (dv x) (-(dv y).1,(dv y).2)))
theorem spec:fO E f78 aE hZ hZ sp:=by
 rintro x y ⟨hx,hy⟩;refine(start x.1 x.2.1 x.2.2 y.1 y.2.1 y.2.2).trans ?_;have hn:=cQ hy.uS.neg;have hv:=dK (-(dv y).1,(dv y).2);rw[gP hy,gP ⟨hx,hn⟩]
 try dsimp only[cond_true]at hv ⊢
 rw[hv];rfl
def aH:dC:=orc2 hZ hZ sp
theorem ok:OK 78 aH:=(eI E aE (aA aHX.ok (aA bM.ok aD)) func78).lP rfl spec
end Vs
namespace Norm
def E:=mE [] 27 [] [(2,[0,3]),(4,[0,3])] [4]
def aE:=bd f134
theorem aU:Nk E aE:=nk
def L2 a b:=nU E f134 aE 2 [wG a,bR b]
def J4 a b:=lD E f134 aE 4 [wG a,bR b]
theorem start a:aF E f134 aE [D.s (ints u32 a)]=Norm.L2 a (a.length:Int):=eJ aU
theorem kC a b:L2 a b=aB (decide (0<b)) (if 0<=i64.wrap (b-1)/\i64.wrap (b-1)<(a.length:Int)then aB (a.getD (i64.wrap (b-1)).toNat 0==(0:Int)) (Norm.L2 a (i64.wrap (b-1))) (Norm.J4 a b)else none) (Norm.J4 a b):=lJ aU
theorem Sk a b:J4 a b=letI A:=bSY 0 (bSX b.toNat a);if 0<=b/\b<=b/\b<=8796093022208 then if(0:Int)<=(0:Int)/\0<=b/\b<=(a.length:Int)then some [D.own 156 u32 (bSX b.toNat A ++ bSY (min A.length b.toNat) (bPE b.toNat (0:Int)))]else none else none:=cJ aU
theorem J{xs:List Int}{n:Nat}(h:n<=xs.length)(hl:xs.length<=4398046511104):J4 xs n=some [D.own Ji .u32 (xs.take n)]:=by
 rw[Sk,aT,aT];simp only[bQX];rw[aGO h]
theorem L{xs:List Int}(hd:cB xs)(hl:xs.length<=4398046511104):∀n:Nat,n<=xs.length->L2 xs n=some [D.own Ji .u32 (dg (val (xs.take n)))]
 |0,h=>by
  rw[kC];simp only[aB,Int.natCast_zero,Int.lt_irrefl,decide_false,cond_false];rw[show((0:Int))=((0:Nat):Int)from rfl,J (by omega) hl];simp[val,bN]
 |n+1,h=>by
  rw[kC];have e:i64.wrap (((n+1:Nat):Int)-1)=(n:Int):=by rw[wrap_i64];omega
  rw[e];have e2:decide ((0:Int)<((n+1:Nat):Int))=true   := by simp
  simp only[aB,e2,cond_true,bQX];rw[aT];cases hz:xs.getD n 0==0 with
  |true =>
   have hz:=eq_of_beq hz;simp only[cond_true];rw[L hd hl n (by omega),jQ (by omega),hz];simp
  |false =>
   have hz:xs.getD n 0≠0:=by simpa using hz
   simp only[cond_false];rw[J h hl];have:cD (xs.take (n+1)):=wS (hd.take _) fun d hg=>by
    rw[getLast_take (by omega)]at hg;cases hg;exact hz
   rw[<-this]
def sp(a:List Int):Prop×List D:=(cB a/\a.length<=4398046511104,[.own Ji .u32 (dg (val a))])
theorem spec:gO E f134 aE (pI .u32) sp:=by
 rintro a ⟨hd,hl⟩;refine(start a).trans ?_;rw[L hd hl a.length (bNB _),bTW];rfl
def aH:dC:=orc1 (pI .u32) sp
theorem ok:OK 134 aH:=(eI E aE aD func134).nD rfl spec
end Norm
namespace Vg
def E:=mE [(134,Norm.aH)] 11 [10] [] []
def aE:=bd f142
theorem aU:Nk E aE:=nk
theorem start a:aF E f142 aE [D.s (sc (int u64 a))]=letI B:=a/4294967296;letI A:=eY BinOp.and u64 a 4294967295;aQ (cB [u32.wrap A,u32.wrap B]/\[u32.wrap A,u32.wrap B].length<=4398046511104) (some [D.own 156 u32 (dg (val [u32.wrap A,u32.wrap B]))]):=eJ aU
def sp(w:Int):Prop×List D:=(0<=w/\w<18446744073709551616,[.own Ji .u32 (dg w.toNat)])
theorem spec:gO E f142 aE (pN .u64) sp:=by
 rintro w ⟨h,h'⟩;refine(start w).trans ?_;rw[oS h h',wrap_u32,wrap_u32,Xw]
 ·unfold sp;congr 4;simp only[val];omega
 ·refine⟨?_,by simp⟩;rw[jO,jO];exact⟨by omega,by omega,lW⟩
def aH:dC:=orc1 (pN .u64) sp
theorem ok:OK 142 aH:=(eI E aE (aA Norm.ok aD) func142).nD rfl spec
end Vg
namespace xR
def E:=mE [(134,Norm.aH),(142,Vg.aH)] 46 [11,43] [(6,[0,1,6,7,8])] []
def aE:=bd f228
theorem aU:Nk E aE:=nk
def L6 a (b:Int) (c:Nat) (d:List Int) f g:=nU E f228 aE 6 [wG a,vA (sc (int u32 b)),(A.v (V.one (L.buf 2 c)),some { e:=(156:Nat),cont:=rH.ints u32 d }),cY f,bR g]
theorem start a b:aF E f228 aE [D.s (ints u32 a),D.s (sc (int u32 b))]=letI A:=(a.length:Int);aB (b==0) (aQ ((0:Int)<=(0:Int)/\(0:Int)<(18446744073709551616:Int)) (some [D.own 156 u32 (dg 0),D.s (sc (int u32 0))])) (if 0<=A/\A<=A/\A<=(8796093022208:Int)then xR.L6 a b A.toNat (bPE A.toNat (0:Int)) 0 (i64.wrap (A-(1:Int)))else none):=eJ aU
theorem yY a b c d e f:L6 a b c d e f=letI A:=u64.wrap (u64.wrap (e*4294967296)+u64.wrap (a.getD f.toNat 0));aB (decide (0<=f)) (if 0<=f/\f<(a.length:Int)then if u64.wrap b=0 then none else if 0<=f/\f<(c:Int)then if u64.wrap b=0 then none else xR.L6 a b c (d.set f.toNat (u32.wrap (u64.wrap (A.tdiv (u64.wrap b))))) (A.tmod (u64.wrap b)) (i64.wrap (f-1))else none else none) (aQ (cB d/\d.length<=4398046511104) (some [D.own 156 u32 (dg (val d)),D.s (sc (int u32 (u32.wrap e)))])):=lJ aU
theorem L{a:List Int}{w:Int}(ha:cB a)(bJW:a.length<=1099511627776)(hw:0<w)(aTO:w<4294967296):∀(n:Nat) (q:List Int) (l:Int),cB q->q.length=a.length->0<=l->l<w->n<=a.length ->
  L6 a w a.length q l ((n:Int)-1)=some [D.own Ji .u32 (dg ((l.toNat*4294967296^n+val (a.take n))/w.toNat+4294967296^n*val (q.drop n))),D.s (.sc (.int .u32 (((l.toNat*4294967296^n+val (a.take n))%w.toNat:Nat):Int)))]:=by
 intro n
 induction n with
 |zero =>
  intro q l hq bFC h0 h1 hn;rw[yY,aI,gP ⟨hq,by omega⟩,wrap_u32];simp only[bXC,bNL,bRC,val,bOC,bTJ,bRE];rw[bSZ (by omega),bND,bXQ (by omega)];have e0:l%4294967296=(l.toNat:Int):=by omega
  rw[e0]
 |succ n ih =>
  intro q l hq bFC h0 h1 hn;have g1:=ha.get n;have e:(((n+1:Nat):Int)-1)=(n:Int):=by omega
  have e':((n:Int)).toNat=n:=bQX n;have hu:wrap_u64 (n:=w)=wrap_u64 (n:=w):=rfl;rw[e,yY,aO,aT,e',wrap_u64 (n:=w),aX,aT,aX,wrap_u64 (n:=l*4294967296),
   wrap_u64 (n:=a.getD n 0),wrap_u64 (n:=l*4294967296+a.getD n 0),wrap_i64]
  have Jd:0<=l*4294967296+a.getD n 0:=by omega
  rw[bUQ Jd,bUR Jd];have bFD:(l*4294967296+a.getD n 0)/w<4294967296:=Int.ediv_lt_of_lt_mul hw (by
   have:(l+1)*4294967296<=w*4294967296:=Int.mul_le_mul_of_nonneg_right (by omega) (by omega);omega)
  have aIH:0<=(l*4294967296+a.getD n 0)/w:=Int.ediv_nonneg Jd (by omega);have aRG:=bWF (l*4294967296+a.getD n 0) (show w≠0 by omega);have bAN:=bWG (l*4294967296+a.getD n 0) hw;rw[wrap_u64 aIH (by omega),wrap_u32,Int.emod_eq_of_lt aIH bFD,ih _ _ (lV hq ⟨aIH,bFD⟩) (by simpa using bFC) aRG bAN (by omega),qO (by omega),cA];have bEP:0<w.toNat:=by omega
  have d1:((l*4294967296+a.getD n 0)/w).toNat=(l.toNat*4294967296+(a.getD n 0).toNat)/w.toNat:=by
   rw[Pn Jd (by omega)];congr 1;omega
  have d2:((l*4294967296+a.getD n 0)%w).toNat=(l.toNat*4294967296+(a.getD n 0).toNat)%w.toNat:=by
   rw[Pm Jd (by omega)];congr 1;omega
  rw[d1,d2,bSA];generalize (a.getD n 0).toNat=x at *;generalize l.toNat=l at *;generalize val (a.take n)=v at *;generalize 4294967296^n=B at *;have e3:l*(B*4294967296)+(v+B*x)=(l*4294967296+x)*B+v:=by
   rw[bNV,bRZ B 4294967296,<-bSF,bRZ B x];omega
  rw[e3,aGC bEP,aDP (l:=l) (B:=4294967296) (d:=x),bSB,bSF,bQR]
def sp(a:List Int)(w:Int):Prop×List D:=(cB a/\a.length<=1099511627776/\(0<w/\w<4294967296),[.own Ji .u32 (dg (val a/w.toNat)),.s (.sc (.int .u32 ((val a%w.toNat:Nat):Int)))])
theorem spec:fO E f228 aE (pI .u32) (pN .u32) sp:=by
 rintro a w ⟨ha,h1,hw⟩;refine(start a w).trans ?_;rw[bS,if_pos ⟨by omega,by omega,by omega⟩,wrap_i64,bQX,L ha h1 hw.1 hw.2 a.length _ 0 (iJ _) (by simp) (by omega) (by omega) (bNB _)];simp[sp,val]
def aH:dC:=orc2 (pI .u32) (pN .u32) sp
theorem ok:OK 228 aH:=(eI E aE (aA Norm.ok (aA Vg.ok aD)) func228).lP rfl spec
end xR
namespace Add
def E:=mE [(134,Norm.aH)] 63 [62] [(4,[0,1,5,6,7]),(6,[0,1,5,6,7]),(8,[0,1,5,6,7]),(10,[0,1,5,6,7])] [6,8,10]
def aE:=bd f141
theorem aU:Nk E aE:=nk
def L4 a b (c:Nat) (d:List Int) f g:=nU E f141 aE 4 [wG a,wG b,(A.v (V.one (L.buf 2 c)),some { e:=(156:Nat),cont:=rH.ints u32 d }),cY f,bR g]
def J6 a b (c:Nat) (d:List Int) f g:=lD E f141 aE 6 [wG a,wG b,(A.v (V.one (L.buf 2 c)),some { e:=(156:Nat),cont:=rH.ints u32 d }),cY f,bR g]
def J8 a b (c:Nat) (d:List Int) f g:=lD E f141 aE 8 [wG a,wG b,(A.v (V.one (L.buf 2 c)),some { e:=(156:Nat),cont:=rH.ints u32 d }),cY f,bR g]
def aBA a b (c:Nat) (d:List Int) f g:=lD E f141 aE 10 [wG a,wG b,(A.v (V.one (L.buf 2 c)),some { e:=(156:Nat),cont:=rH.ints u32 d }),cY f,bR g]
theorem start a b:aF E f141 aE [D.s (ints u32 a),D.s (ints u32 b)]=letI A:=if(b.length:Int)>(a.length:Int)then(b.length:Int)else(a.length:Int);if(0:Int)<=(0:Int)/\0<=i64.wrap (A+1)/\i64.wrap (A+1)<=8796093022208 then Add.L4 a b 0 (bPE 0 (0:Int)) 0 0 else none:=eJ aU
theorem kV a b c d e f:L4 a b c d e f=letI A:=Add.J6 a b c d e f;aB (decide (f<(a.length:Int))) A (aB (decide (f<(b.length:Int))) A (aB (decide (0<e)) A (aQ (cB d/\d.length<=4398046511104) (some [D.own 156 u32 (dg (val d))])))):=lJ aU
theorem Ls a b c d e f:J6 a b c d e f=aB (decide (f<(a.length:Int))) (if 0<=f/\f<(a.length:Int)then Add.J8 a b c d (u64.wrap (e+u64.wrap (a.getD f.toNat 0))) f else none) (Add.J8 a b c d e f):=cJ aU
theorem vW a b c d e f:J8 a b c d e f=aB (decide (f<(b.length:Int))) (if 0<=f/\f<(b.length:Int)then Add.aBA a b c d (u64.wrap (e+u64.wrap (b.getD f.toNat 0))) f else none) (Add.aBA a b c d e f):=cJ aU
theorem Iu a b c d e f:aBA a b c d e f=letI A:=eY BinOp.and u64 e 4294967295;letI B:=d.length+[u32.wrap A].length;if(0:Nat)<[u32.wrap A].length/\(B:Int)<=(8796093022208:Int)then Add.L4 a b B (d ++ [u32.wrap A]) (e/4294967296) (i64.wrap (f+1))else none:=cJ aU
theorem step{a b xs:List Int}{c:Int}{i:Nat}(ha:cB a)(hb:cB b)(Sp:xs.length=i)(hi:i<4398046511104)(h0:0<=c)(h1:c<=1)(hc:i<a.length\/i<b.length\/0<c) :
  L4 a b i xs c i=L4 a b (i+1) (xs ++ [(c+a.getD i 0+b.getD i 0)%4294967296]) ((c+a.getD i 0+b.getD i 0)/4294967296) ((i+1:Nat):Int):=by
 have g1:=ha.get i;have g2:=hb.get i;have e':((i:Int)).toNat=i:=bQX i;have aVS:∀s:Int,0<=s->s<18446744073709551616->aBA a b i xs s i=L4 a b (i+1) (xs ++ [s%4294967296]) (s/4294967296) ((i+1:Nat):Int):=by
  intro s hs oB;rw[Iu,oS hs oB,if_pos ⟨by simp,by simp;omega⟩,wrap_u32,Int.emod_emod_of_dvd _ (Int.dvd_refl _),wrap_i64,Sp];rfl
 have bFY:∀s:Int,0<=s->s<8589934592->J8 a b i xs s i=aBA a b i xs (s+b.getD i 0) i:=by
  intro s hs oB;rw[vW]
  by_cases h:i<b.length
  ·rw[aO,aT,e',wrap_u64 (n:=b.getD i 0),wrap_u64]
  ·rw[aI,getD_none (a:=b) (by omega),Int.add_zero]
 have bCB:J6 a b i xs c i=L4 a b (i+1) (xs ++ [(c+a.getD i 0+b.getD i 0)%4294967296]) ((c+a.getD i 0+b.getD i 0)/4294967296) ((i+1:Nat):Int):=by
  rw[Ls]
  by_cases h:i<a.length
  ·rw[aO,aT,e',wrap_u64 (n:=a.getD i 0),wrap_u64,bFY _ (by omega) (by omega),aVS _ (by omega) (by omega)]
  ·rw[aI,getD_none (a:=a) (by omega),Int.add_zero,bFY _ (by omega) (by omega),aVS _ (by omega) (by omega)]
 rw[kV]
 by_cases h:i<a.length
 ·rw[aO,bCB]
 ·rw[aI]
  by_cases h':i<b.length
  ·rw[aO,bCB]
  ·rw[aI,aO,bCB]
theorem L{a b:List Int}(ha:cB a)(hb:cB b)(bJW:a.length<=1099511627776)(hlb:b.length<=1099511627776):∀(d i:Nat) (xs:List Int) (c:Int),cB xs->xs.length=i->0<=c->c<=1 ->
  i+d=max a.length b.length+1->(d=0->c=0)->val xs+4294967296^i*c.toNat=val (a.take i)+val (b.take i) ->
  L4 a b i xs c i=some [D.own Ji .u32 (dg (val a+val b))]:=by
 intro d
 induction d with
 |zero =>
  intro i xs c hx Sp h0 h1 hd hc hv;have hc:=hc rfl;subst hc;rw[kV,aI,aI,aI,gP ⟨hx,by omega⟩];rw[cE (by omega),cE (by omega)]at hv;simp at hv;rw[hv]
 |succ d ih =>
  intro i xs c hx Sp h0 h1 hd hc hv
  by_cases aXM:i<a.length\/i<b.length\/0<c
  ·have g1:=ha.get i;have g2:=hb.get i;rw[step ha hb Sp (by omega) h0 h1 aXM];refine ih (i+1) _ _ (lF hx (by omega)) (by simp[Sp]) (by omega) (by omega) (by omega) (fun hd0=>?_) ?_
   ·have:¬i<a.length:=by omega
    have:¬i<b.length:=by omega
    rw[getD_none (a:=a) (by omega),getD_none (a:=b) (by omega)];omega
   ·rw[lE,cA,cA,Sp,bSA,bSF];generalize a.getD i 0=x at *;generalize b.getD i 0=y at *;generalize 4294967296^i=B at *;have e:4294967296*((c+x+y)/4294967296).toNat+((c+x+y)%4294967296).toNat=c.toNat+x.toNat+y.toNat:=by omega
    have e2:B*(4294967296*((c+x+y)/4294967296).toNat)+B*((c+x+y)%4294967296).toNat=B*c.toNat+B*x.toNat+B*y.toNat:=by
     rw[<-bSB,e,bSB,bSB]
    omega
  ·have:c=0:=by omega
   subst this;rw[kV,aI,aI,aI,gP ⟨hx,by omega⟩];rw[cE (by omega),cE (by omega)]at hv;simp at hv;rw[hv]
def sp(a b:List Int):Prop×List D:=(cB a/\cB b/\a.length<=1099511627776/\b.length<=1099511627776,[.own Ji .u32 (dg (val a+val b))])
theorem spec:fO E f141 aE (pI .u32) (pI .u32) sp:=by
 rintro a b ⟨ha,hb,h1,h2⟩;refine(start a b).trans ?_;rw[if_pos]
 ·exact L ha hb h1 h2 (max a.length b.length+1) 0 [] 0 lW rfl (by omega) (by omega) (by omega) (fun _=>rfl) (by simp[val])
 ·refine⟨by omega,?_,?_⟩ <;> rw[wrap_i64 ?_ ?_] <;> split <;> omega
def aH:dC:=orc2 (pI .u32) (pI .u32) sp
theorem ok:OK 141 aH:=(eI E aE (aA Norm.ok aD) func141).lP rfl spec
end Add
namespace Arctan
def rounds(k:Nat):Nat->Nat->Nat->Nat->Nat->Nat->Nat×Nat
 |0,_,p,m,_,n=>(p-m,n)
 |f+1,t,p,m,i,n=>if t=0 then(p-m,n)else if i%4=1 then rounds k f (t/k/k) (p+t/i) m (i+2) (n+1)else rounds k f (t/k/k) p (m+t/i) (i+2) (n+1)
theorem Zc{k Q:Nat}:∀(f t p m i n:Nat),t<2^Q->p<2^(Q+n+1)->(rounds k f t p m i n).1<2^(Q+n+f+1)/\(rounds k f t p m i n).2<=n+f:=by
 intro f
 induction f with
 |zero =>
  intro t p m i n ht hp;exact⟨bTQ (Nat.sub_le _ _) hp,by simp[rounds]⟩
 |succ f ih =>
  intro t p m i n ht hp;have aEJ:2^(Q+n+1)<=2^(Q+n+(f+1)+1):=fY;have aTY:2^(Q+(n+1)+1)=2*2^(Q+n+1):=by rw[show Q+(n+1)+1=(Q+n+1)+1 from by omega,bSA];omega
  have hd:t/i<2^(Q+n+1):=bTQ (bVO _ _) (bOB ht (fY));have hk:t/k/k<2^Q:=bTQ (bVO _ _) (bTQ (bVO _ _) ht);unfold rounds;split
  ·refine⟨bOB (bTQ (Nat.sub_le _ _) hp) aEJ,by simp⟩
  ·split
   ·have:=ih (t/k/k) (p+t/i) m (i+2) (n+1) hk (by rw[aTY];omega);rw[show Q+(n+1)+f+1=Q+n+(f+1)+1 from by omega]at this;exact⟨this.1,by omega⟩
   ·have:=ih (t/k/k) p (m+t/i) (i+2) (n+1) hk (by rw[aTY];omega);rw[show Q+(n+1)+f+1=Q+n+(f+1)+1 from by omega]at this;exact⟨this.1,by omega⟩
def atan(k q:Nat):Nat×Nat:=rounds k (q+2) (2^q/k) 0 0 1 0
theorem Ba(k q:Nat):(atan k q).1<2^(2*q+4)/\(atan k q).2<=q+2:=by
 have hb:2^q/k<2^(q+1):=bTQ (bVO _ _) (bTU (by omega) (by omega));have:=Zc (k:=k) (Q:=q+1) (q+2) (2^q/k) 0 0 1 0 hb (cI);rw[show q+1+0+(q+2)+1=2*q+4 from by omega]at this;exact⟨this.1,by have:=this.2;unfold atan;omega⟩
end Arctan
namespace aHT
def E:=mE [(206,lN.aH)] 32 [12,20,27] [] []
def aE:=bd f251
theorem aU:Nk E aE:=nk
theorem start a b:aF E f251 aE [D.s (ints u64 a),D.s (sc (int u64 b))]=letI A:=M6.dg (M6.val a/b.toNat);aB (decide (b<4294967296)) (aQ (M6.cD a/\a.length<=8192/\0<u64.wrap (b*b)/\u64.wrap (b*b)<18446744073709551616) (some [D.s (ints u64 (M6.dg (M6.val a/(u64.wrap (b*b)).toNat)))])) (aQ (M6.cD a/\a.length<=8192/\0<b/\b<18446744073709551616) (aQ (M6.cD A/\A.length<=8192/\0<b/\b<18446744073709551616) (some [D.s (ints u64 (M6.dg (M6.val A/b.toNat)))]))):=eJ aU
def sp(a:List Int)(b:Int):Prop×List D:=(M6.cD a/\a.length<=8192/\2<=b/\b<4294967296,[.s (.ints .u64 (M6.dg (M6.val a/b.toNat/b.toNat)))])
theorem spec:fO E f251 aE (pI .u64) (pN .u64) sp:=by
 rintro a b ⟨hn,hl,h0,h1⟩;obtain⟨k,rfl⟩:=bSE (show 0<=b by omega);have hk:k*k<4294967296*4294967296:=Nat.mul_lt_mul_of_lt_of_le (by omega) (by omega) (by omega);have bKB:0<k*k:=Nat.mul_pos (by omega) (by omega);have e:u64.wrap ((k:Int)*(k:Int))=((k*k:Nat):Int):=by
  rw[<-bTA];exact wrap_u64
 refine(start a k).trans ?_;rw[aO h1,e,bQX,gP ⟨hn,hl,by omega,by omega⟩];unfold sp;rw[bQX,bST]
def aH:dC:=orc2 (pI .u64) (pN .u64) sp
theorem ok:OK 251 aH:=(eI E aE (aA lN.ok aD) func251).lP rfl spec
end aHT
namespace dA
def E:=mE [(122,jA.aH),(117,mP.aH),(206,lN.aH),(124,rE.aH),(126,sR.aH),(251,aHT.aH)] 72 [67] [(6,[0,6,8,9,10,11])] []
def aE:=bd f229
theorem aU:Nk E aE:=nk
def L6 a b (c:Nat) (d:List Int) (e:Nat) (f:List Int) g x7:=nU E f229 aE 6 [cY a,gD b,yL 2 c 22 d,yL 3 e 22 f,cY g,cY x7]
def bDJ a b c (d:Nat) (e:List Int) f g:=nU E f229 aE 6 [cY a,gD b,gD c,yL 3 d 22 e,cY f,cY g]
def bMX a b (c:Nat) (d:List Int) e f g:=nU E f229 aE 6 [cY a,gD b,yL 2 c 22 d,gD e,cY f,cY g]
def aWP a b c d e f:=nU E f229 aE 6 [cY a,gD b,gD c,gD d,cY e,cY f]
theorem start a b:aF E f229 aE [D.s (sc (int u64 a)),D.s (sc (int i64 b))]=letI B:=M6.dg 1;letI A:=bif jA.iC (M6.val B) b.toNat then M6.dg (M6.val B*(2:Nat)^b.toNat)else [];aQ ((0:Int)<=(1:Int)/\(1:Int)<(18446744073709551616:Int)) (aQ (M6.cD B/\B.length<=8192/\0<=b/\b<4611686018427387904) (aQ (M6.cD A/\A.length<=8192/\0<a/\a<18446744073709551616) (dA.L6 a (M6.dg (M6.val A/a.toNat)) 0 [] 0 [] 2 1))):=eJ aU
theorem yY a b c d e f g h:L6 a b c d e f g h=letI C:=M6.dg (M6.val b/a.toNat/a.toNat);letI B:=M6.cD b/\b.length<=8192/\2<=a/\a<4294967296;letI A:=M6.dg (M6.val b/h.toNat);letI G:=M6.val f+M6.val A;letI F:=M6.val d+M6.val A;aB (decide (0<(b.length:Int))) (aQ (M6.cD b/\b.length<=8192/\0<h/\h<18446744073709551616) (aB (h.tmod 4==(1:Int)) (aQ (M6.cD d/\M6.cD A/\d.length<=8192/\A.length<=8192) (aQ B (dA.bDJ a C (bif bZ.kX F then M6.dg F else []) e f (u64.wrap (g+3)) (u64.wrap (h+2))))) (aQ (M6.cD f/\M6.cD A/\f.length<=8192/\A.length<=8192) (aQ B (dA.bMX a C c d (bif bZ.kX G then M6.dg G else []) (u64.wrap (g+3)) (u64.wrap (h+2))))))) (aQ (M6.cD d/\M6.cD f/\d.length<=8192/\f.length<=8192) (some [D.s (ints u64 (M6.dg (M6.val d-M6.val f))),D.s (sc (int u64 g))])):=lJ aU
theorem aQM a b c d e f g:bDJ a b c d e f g=letI C:=M6.dg (M6.val b/a.toNat/a.toNat);letI B:=M6.cD b/\b.length<=8192/\2<=a/\a<4294967296;letI A:=M6.dg (M6.val b/g.toNat);letI G:=M6.val e+M6.val A;letI F:=M6.val c+M6.val A;aB (decide (0<(b.length:Int))) (aQ (M6.cD b/\b.length<=8192/\0<g/\g<18446744073709551616) (aB (g.tmod 4==(1:Int)) (aQ (M6.cD c/\M6.cD A/\c.length<=8192/\A.length<=8192) (aQ B (dA.bDJ a C (bif bZ.kX F then M6.dg F else []) d e (u64.wrap (f+3)) (u64.wrap (g+2))))) (aQ (M6.cD e/\M6.cD A/\e.length<=8192/\A.length<=8192) (aQ B (dA.aWP a C c (bif bZ.kX G then M6.dg G else []) (u64.wrap (f+3)) (u64.wrap (g+2))))))) (aQ (M6.cD c/\M6.cD e/\c.length<=8192/\e.length<=8192) (some [D.s (ints u64 (M6.dg (M6.val c-M6.val e))),D.s (sc (int u64 f))])):=lJ aU
theorem aHQ a b c d e f:aWP a b c d e f=letI C:=M6.dg (M6.val b/a.toNat/a.toNat);letI B:=M6.cD b/\b.length<=8192/\2<=a/\a<4294967296;letI A:=M6.dg (M6.val b/f.toNat);letI G:=M6.val d+M6.val A;letI F:=M6.val c+M6.val A;aB (decide (0<(b.length:Int))) (aQ (M6.cD b/\b.length<=8192/\0<f/\f<18446744073709551616) (aB (f.tmod 4==(1:Int)) (aQ (M6.cD c/\M6.cD A/\c.length<=8192/\A.length<=8192) (aQ B (dA.aWP a C (bif bZ.kX F then M6.dg F else []) d (u64.wrap (e+3)) (u64.wrap (f+2))))) (aQ (M6.cD d/\M6.cD A/\d.length<=8192/\A.length<=8192) (aQ B (dA.aWP a C c (bif bZ.kX G then M6.dg G else []) (u64.wrap (e+3)) (u64.wrap (f+2))))))) (aQ (M6.cD c/\M6.cD d/\c.length<=8192/\d.length<=8192) (some [D.s (ints u64 (M6.dg (M6.val c-M6.val d))),D.s (sc (int u64 e))])):=lJ aU
open Arctan in
theorem jX {n k:Nat} (h:n<2^k) (hk:k<=524288):(M6.dg n).length<=8192:=eZ (k:=8192) (bNX (dV.2 h) (by omega))
theorem aMD{n k:Nat}(h:n<2^k)(hk:k<=524288):bZ.kX n=true:=decide_eq_true (jX h hk)
theorem Ld{k Q:Nat}(hk:2<=k)(Su:k<4294967296)(hQ:Q<=200000):∀(f t p m n:Nat),t<2^Q->t<4^f->f+n<=250000->p<2^(Q+n+1)->m<2^(Q+n+1) ->
  aWP k (M6.dg t) (M6.dg p) (M6.dg m) ((2+3*n:Nat):Int) ((2*n+1:Nat):Int)=some [D.s (.ints .u64 (M6.dg (Arctan.rounds k f t p m (2*n+1) n).1)),D.s (.sc (.int .u64 ((2+3*(Arctan.rounds k f t p m (2*n+1) n).2:Nat):Int)))]:=by
 intro f
 induction f with
 |zero =>
  intro t p m n aXX ht hf hp hm;have:t=0:=by simpa using ht
  subst this;rw[aHQ,M6.bN,aI (by simp),gP ⟨M6.aW _,M6.aW _,jX hp (by omega),jX hm (by omega)⟩,M6.bJ,M6.bJ];rfl
 |succ f ih =>
  intro t p m n aXX ht hf hp hm;rw[aHQ];unfold Arctan.rounds
  by_cases hz:t=0
  ·subst hz;rw[M6.bN,aI (by simp),gP ⟨M6.aW _,M6.aW _,jX hp (by omega),jX hm (by omega)⟩,M6.bJ,M6.bJ,if_pos rfl]
  ·have aUS:(M6.dg t).length≠0:=fun h=>hz (M6.fZ.1 h)
   have et:(((2*n+1:Nat):Int)).toNat=2*n+1:=bQX _;have ek:((k:Int)).toNat=k:=bQX _;have em:(((2*n+1:Nat):Int)).tmod 4=(((2*n+1)%4:Nat):Int):=by rw[bUR (by omega)];omega
   have w1:u64.wrap (((2+3*n:Nat):Int)+3)=((2+3*(n+1):Nat):Int):=by rw[wrap_u64];omega
   have w2:u64.wrap (((2*n+1:Nat):Int)+2)=((2*(n+1)+1:Nat):Int):=by rw[wrap_u64];omega
   have aXG:t/k/k<2^Q:=bTQ (bVO _ _) (bTQ (bVO _ _) aXX);have bEW:t/k/k<4^f:=by
    rw[bST];apply bSW;have:4<=k*k:=bXP hk hk;rw[bSA 4 f,bRZ (4^f)]at ht;exact bOB ht (bOO _ this)
   have aEJ:2^(Q+(n+1)+1)=2*2^(Q+n+1):=by rw[show Q+(n+1)+1=(Q+n+1)+1 from by omega,bSA];omega
   have hd:t/(2*n+1)<2^(Q+n+1):=bTQ (bVO _ _) (bOB aXX (fY));have lt:=jX aXX (by omega);have ld:=jX hd (by omega);rw[aO];simp only[et,ek,em,M6.bJ,w1,w2];rw[gP ⟨M6.aW _,lt,by omega,by omega⟩,if_neg hz,show 2*n+1+2=2*(n+1)+1 by omega]
   by_cases hc:(2*n+1)%4=1
   ·have hs:p+t/(2*n+1)<2^(Q+(n+1)+1):=by rw[aEJ];omega
    rw[cF,gP ⟨M6.aW _,M6.aW _,jX hp (by omega),ld⟩,gP ⟨M6.aW _,lt,by omega,by omega⟩,if_pos hc,aMD hs (by omega),cond_true];exact ih _ _ _ (n+1) aXG bEW (by omega) hs (by rw[aEJ];omega)
   ·have hs:m+t/(2*n+1)<2^(Q+(n+1)+1):=by rw[aEJ];omega
    rw[bS,gP ⟨M6.aW _,M6.aW _,jX hm (by omega),ld⟩,gP ⟨M6.aW _,lt,by omega,by omega⟩,if_neg hc,aMD hs (by omega),cond_true];exact ih _ _ _ (n+1) aXG bEW (by omega) (by rw[aEJ];omega) hs
def sp(k q:Int):Prop×List D:=((2<=k/\k<4294967296)/\0<=q/\q<=150000,[.s (.ints .u64 (M6.dg (Arctan.atan k.toNat q.toNat).1)),.s (.sc (.int .u64 ((2+3*(Arctan.atan k.toNat q.toNat).2:Nat):Int)))])
theorem spec:fO E f229 aE (pN .u64) (pN .i64) sp:=by
 rintro k q ⟨⟨h1,h2⟩,h3,h4⟩;refine(start k q).trans ?_;unfold sp;obtain⟨k,rfl⟩:=bSE (show 0<=k by omega);obtain⟨q,rfl⟩:=bSE h3;have Mz:2^q<2^(q+1):=bTU (by omega) (by omega);have hb:2^q/k<2^(q+1):=bTQ (bVO _ _) Mz;have so:jA.iC 1 q=true:=by
  unfold jA.iC;rw[show bl 1=1 from rfl,decide_eq_true (show 1+q<=524288 by omega),bTB]
 have l1:(M6.dg 1).length<=8192:=jX (k:=1) (by decide) (by decide);have nn:M6.cD ([]:List Int):=by rw[<-M6.bN];exact M6.aW 0
 have v0:M6.val ([]:List Int)=0:=rfl;simp only[M6.bJ,bQX,so,cond_true,bRE];rw[gP ⟨by decide,by decide⟩,gP ⟨M6.aW _,l1,by omega,by omega⟩,gP ⟨M6.aW _,jX Mz (by omega),by omega,by omega⟩];unfold Arctan.atan;have bKR:2^q/k<4^(q+2):=bOB hb (by rw[show(4:Nat)=2^2 from rfl,<-bTT];exact fY);generalize 2^q/k=t at *;have e4:4^(q+2)=16*4^q:=by rw[bSD];omega
 rw[e4]at bKR;have kk:4<=k*k:=bXP (show 2<=k by omega) (show 2<=k by omega);have step:∀a X:Nat,a<4*X->a/k/k<X:=fun a X ha=>by
  rw[bST];exact bSW (bOB ha (bOO _ kk))
 have aGB:∀a:Nat,a/k/k<=a:=fun a=>bNX (bVO _ _) (bVO _ _)
 have ht:=jX hb (by omega);rw[yY,show q+2=(q+1)+1 by omega];unfold Arctan.rounds
 by_cases z:t=0
 ·subst z;rw[M6.bN,aI (by simp),gP ⟨nn,nn,by decide,by decide⟩,if_pos rfl,v0];rfl
 ·have aUS:(M6.dg t).length≠0:=fun h=>z (M6.fZ.1 h)
  rw[aO,if_neg z,if_pos (by decide)];simp only[M6.bJ,v0,bND,Int.toNat_one,bYM,bQX];have vR:=bTQ (aGB t) hb;have bKS:=step t (4*4^q) (by omega);have l2:=jX vR (by omega);rw[gP ⟨M6.aW _,ht,by decide,by decide⟩,cF (by decide),gP ⟨nn,M6.aW _,by decide,ht⟩,gP ⟨M6.aW _,ht,by omega,by omega⟩,aMD hb (by omega),cond_true,aQM,show u64.wrap (2+3)=5 from wrap_u64 (by decide) (by decide),show u64.wrap (1+2)=3 from wrap_u64 (by decide) (by decide)];unfold Arctan.rounds;generalize t/k/k=u at *
  by_cases z1:u=0
  ·subst z1;rw[M6.bN,aI (by simp),gP ⟨M6.aW _,nn,ht,by decide⟩,if_pos rfl,v0,M6.bJ];rfl
  ·have Dz:(M6.dg u).length≠0:=fun h=>z1 (M6.fZ.1 h)
   have bEU:u/3<2^(q+1):=bTQ (bVO _ _) vR;rw[aO,if_neg z1,if_neg (by decide)];simp only[M6.bJ,v0,bND,bQX,show((3:Int)).toNat=3 from rfl];rw[gP ⟨M6.aW _,l2,by decide,by decide⟩,bS (by decide),gP ⟨nn,M6.aW _,by decide,jX bEU (by omega)⟩,gP ⟨M6.aW _,l2,by omega,by omega⟩,aMD bEU (by omega),cond_true,show u64.wrap (5+3)=8 from wrap_u64 (by decide) (by decide),show u64.wrap (3+2)=5 from wrap_u64 (by decide) (by decide)];have up:2^(q+1)<=2^(q+1+2+1):=fY;exact Ld (k:=k) (Q:=q+1) (by omega) (by omega) (by omega) q (u/k/k) t (u/3) 2 (bTQ (aGB u) vR) (step u (4^q) bKS) (by omega) (by omega) (by omega)
def aH:dC:=orc2 (pN .u64) (pN .i64) sp
theorem ok:OK 229 aH:=(eI E aE (aA jA.ok (aA mP.ok (aA lN.ok (aA rE.ok (aA sR.ok (aA aHT.ok aD)))))) func229).lP rfl spec
end dA
namespace THalvings
def E:=mE [] 13 [] [(2,[0,3])] []
def aE:=bd f221
theorem aU:Nk E aE:=nk
def L2 a b:=nU E f221 aE 2 [bR a,bR b]
theorem start a:aF E f221 aE [D.s (sc (int i64 a))]=THalvings.L2 a 4:=eJ aU
theorem kC a b:L2 a b=aB (decide (i64.wrap (i64.wrap ((4:Int)*b)*b)<a)) (THalvings.L2 a (i64.wrap (b+1))) (some [D.s (sc (int i64 b))]):=lJ aU
def hlv(w:Int):Nat->Nat->Nat
 |0,h=>h
 |f+1,h=>if 4*(h:Int)*h<w then hlv w f (h+1)else h
def sp(w:Int):Prop×List D:=(w<=150000,[.s (.sc (.int .i64 (hlv w 200 4:Nat)))])
theorem L{w:Int}(hw:w<=150000):∀f h:Nat,h+f=204->L2 w h=some [.s (.sc (.int .i64 (hlv w f h:Nat)))]:=by
 intro f
 induction f with
 |zero =>
  intro h hh;obtain rfl:h=204:=by omega
  have e:i64.wrap (i64.wrap (4*((204:Nat):Int))*((204:Nat):Int))=166464:=by decide +kernel
  rw[kC,e,aI];rfl
 |succ f ih =>
  intro h hh;have hb:(h:Int)*h<=41616:=Int.ofNat_le.2 (bXP (show h<=204 by omega) (show h<=204 by omega));have hb0:(0:Int)<=(h:Int)*h:=bZB (by omega) (by omega);have ea:4*(h:Int)*h=4*((h:Int)*h):=Int.mul_assoc _ _ _;have e:i64.wrap (i64.wrap (4*(h:Int))*(h:Int))=4*(h:Int)*h:=by rw[wrap_i64 (n:=4*(h:Int)),wrap_i64]
  have e2:i64.wrap ((h:Int)+1)=((h+1:Nat):Int):=by rw[wrap_i64];omega
  rw[kC,e,e2];unfold hlv
  by_cases c:4*(h:Int)*h<w
  ·rw[aO c,if_pos c];exact ih (h+1) (by omega)
  ·rw[aI c,if_neg c]
theorem spec:gO E f221 aE (pN .i64) sp:=fun w h=>(start w).trans (L h 200 4 rfl)
def aH:dC:=orc1 (pN .i64) sp
theorem ok:OK 221 aH:=(eI E aE aD func221).nD rfl spec
end THalvings
namespace sJ
def E:=mE [(70,Ow.aH),(148,lZ.aH)] 36 [] [] []
def aE:=bd f222
theorem aU:Nk E aE:=nk
theorem start a c d b:aF E f222 aE [D.agg [sc (bool a),ints u64 c,sc (int i64 d)],D.s (sc (int i64 b))]=letI A:=(false,c);aB (decide (0<=i64.wrap (d+b))) (aQ (kA A/\0<=i64.wrap (d+b)/\i64.wrap (d+b)<4611686018427387904) (some [D.s (ints u64 (M6.dg (bif fit (M6.val c*(2:Nat)^(i64.wrap (d+b)).toNat)then wv A*(↑((2:Nat)^(i64.wrap (d+b)).toNat):Int)else(0:Int)).natAbs))])) (aQ (kA A/\0<=i64.wrap ((0:Int)-i64.wrap (d+b))/\i64.wrap ((0:Int)-i64.wrap (d+b))<4611686018427387904) (some [D.s (ints u64 (M6.dg (wv A/(↑((2:Nat)^(i64.wrap ((0:Int)-i64.wrap (d+b))).toNat):Int)).natAbs))])):=eJ aU
def aIL(p:Int×Int)(n:Int):Nat:=if 0<=p.2+n then p.1.natAbs*2^(p.2+n).toNat else p.1.natAbs/2^(-(p.2+n)).toNat
def sp(x:dU)(n:Int):Prop×List D:=(aJ x/\-1099511627776<=n/\n<=1099511627776/\(0<=x.2.2+n->fit ((dv x).1.natAbs*2^(x.2.2+n).toNat)=true),[.s (.ints .u64 (M6.dg (aIL (dv x) n)))])
theorem spec:fO E f222 aE hZ (pN .i64) sp:=by
 rintro x n ⟨hx,h1,h2,hf⟩;have he:=hx.2.1;refine(start x.1 x.2.1 x.2.2 n).trans ?_;have w1:i64.wrap (x.2.2+n)=x.2.2+n:=wrap_i64;have ha:(dv x).1.natAbs=M6.val x.2.1:=iZ (x.1,x.2.1);have ok:kA (false,x.2.1):=⟨hx.1.1,fun hf=>(by cases hf),hx.1.len⟩;have vx:wv (false,x.2.1)=(M6.val x.2.1:Int):=rfl;rw[w1,vx];unfold sp aIL;dsimp only
 by_cases c:0<=x.2.2+n
 ·have aVG:=hf c;rw[ha]at aVG ⊢;rw[aO c,gP ⟨ok,c,by omega⟩,aVG,cond_true,if_pos (show 0<=(dv x).2+n from c),<-bTA,bSU];rfl
 ·have w2:i64.wrap (0-(x.2.2+n))=-(x.2.2+n):=by rw[wrap_i64];omega
  rw[ha,w2,aI c,gP ⟨ok,by omega,by omega⟩,if_neg (show ¬0<=(dv x).2+n from c),<-bSS,bSU];rfl
def aH:dC:=orc2 hZ (pN .i64) sp
theorem ok:OK 222 aH:=(eI E aE (aA Ow.ok (aA lZ.ok aD)) func222).lP rfl spec
end sJ
namespace Ie
def E:=mE [(154,aHJ.aH),(115,Bm.aH)] 22 [12,18] [] []
def aE:=bd f224
theorem aU:Nk E aE:=nk
theorem start a b c:aF E f224 aE [D.s (ints u64 a),D.s (ints u64 b),D.s (sc (int i64 c))]=letI B:=M6.val a*M6.val b;letI A:=bif bZ.kX B then M6.dg B else [];aQ (M6.cD a/\M6.cD b/\a.length<=8192/\b.length<=8192) (aQ (M6.cD A/\A.length<=8192/\0<=c/\c<4611686018427387904) (some [D.s (ints u64 (M6.dg (M6.val A/(2:Nat)^c.toNat)))])):=eJ aU
def sp(a b:List Int)(n:Int):Prop×List D:=(M6.cD a/\M6.cD b/\a.length<=4096/\b.length<=4096/\0<=n/\n<4611686018427387904,[.s (.ints .u64 (M6.dg (M6.val a*M6.val b/2^n.toNat)))])
theorem spec:tL E f224 aE (pI .u64) (pI .u64) (pN .i64) sp:=by
 rintro a b n ⟨h1,h2,l1,l2,n1,n2⟩;have hl:(M6.dg (M6.val a*M6.val b)).length<=8192:=by
  refine M6.cR (k:=8192) ?_;have va:=bOB (M6.cK h1.iX) (bQB (by decide) l1);have vb:=bOB (M6.cK h2.iX) (bQB (by decide) l2);rw[show(8192:Nat)=4096+4096 from rfl,bSD];generalize 18446744073709551616^4096=Q at *;exact bVP va vb
 have ok:bZ.kX (M6.val a*M6.val b)=true:=decide_eq_true hl;refine(start a b n).trans ?_;rw[gP ⟨h1,h2,by omega,by omega⟩,ok];simp only[cond_true,M6.bJ];exact gP ⟨M6.aW _,hl,n1,n2⟩
def aH:dC:=orc3 (pI .u64) (pI .u64) (pN .i64) sp
theorem ok:OK 224 aH:=(eI E aE (aA aHJ.ok (aA Bm.ok aD)) func224).Bp rfl spec
end Ie
namespace TSums
def E:Env:={ ({ base with C:=callsOf [(122,jA.aH),(117,mP.aH),(124,rE.aH),(224,Ie.aH),(206,lN.aH),(126,sR.aH)],wide:=some .u64 })with nt:=63,own:=[50,58],keep:=fun k=>(tlook [(4,[0,1,6,7,9])] k).getD [],cut:=tlook [] }
def aE:=bd f223
theorem aU:Nk E aE:=nk
def L4 a b c d e f g h:=nU E f223 aE 4 [gD a,bR b,dG 2 250 [eM c,eM d,eM e,eM f],gD g,cY h]
theorem start a b:aF E f223 aE [D.s (ints u64 a),D.s (sc (int i64 b))]=letI A:=M6.dg 1;aQ ((0:Int)<=(1:Int)/\(1:Int)<(18446744073709551616:Int)) (aQ (M6.cD A/\A.length<=8192/\0<=b/\b<4611686018427387904) (aC (bif jA.iC (M6.val A) b.toNat then M6.dg (M6.val A*(2:Nat)^b.toNat)else []) fun c=>TSums.L4 a b [] [] [] [] c 0)):=eJ aU
theorem kV a b c d e f g h:L4 a b c d e f g h=letI P:=M6.val f+M6.val g;letI O:=M6.val e+M6.val g;letI N:=M6.val d+M6.val g;letI K:=M6.val c+M6.val g;letI I:=decide (h.tmod 4=(3:Int));letI H:=decide (h.tmod 4=(2:Int));letI G:=decide (h.tmod 4=(1:Int));letI F:=decide (h.tmod 4=(0:Int));letI C:=u64.wrap (h+1);letI B:=M6.dg (M6.val g*M6.val a/(2:Nat)^b.toNat);letI A:=M6.cD g/\M6.cD a/\g.length<=4096/\a.length<=4096/\0<=b/\b<4611686018427387904;aB (decide (0<(g.length:Int))) (aB F (aQ (M6.cD c/\M6.cD g/\c.length<=8192/\g.length<=8192) (aC (bif bZ.kX K then M6.dg K else []) fun i=>aB F (aQ A (aC B fun j=>aQ (M6.cD j/\j.length<=8192/\0<u64.wrap (h+1)/\u64.wrap (h+1)<18446744073709551616) (aC (M6.dg (M6.val j/C.toNat)) fun k=>TSums.L4 a b i d e f k C))) (aB G (aQ A (aC B fun l=>aQ (M6.cD l/\l.length<=8192/\0<u64.wrap (h+1)/\u64.wrap (h+1)<18446744073709551616) (aC (M6.dg (M6.val l/C.toNat)) fun m=>TSums.L4 a b c i e f m C))) (aB H (aQ A (aC B fun n=>aQ (M6.cD n/\n.length<=8192/\0<u64.wrap (h+1)/\u64.wrap (h+1)<18446744073709551616) (aC (M6.dg (M6.val n/C.toNat)) fun o=>TSums.L4 a b c d i f o C))) (aB I (aQ A (aC B fun p=>aQ (M6.cD p/\p.length<=8192/\0<u64.wrap (h+1)/\u64.wrap (h+1)<18446744073709551616) (aC (M6.dg (M6.val p/C.toNat)) fun q=>TSums.L4 a b c d e i q C))) none))))) (aB G (aQ (M6.cD d/\M6.cD g/\d.length<=8192/\g.length<=8192) (aC (bif bZ.kX N then M6.dg N else []) fun r=>aB F (aQ A (aC B fun s=>aQ (M6.cD s/\s.length<=8192/\0<u64.wrap (h+1)/\u64.wrap (h+1)<18446744073709551616) (aC (M6.dg (M6.val s/C.toNat)) fun t=>TSums.L4 a b r d e f t C))) (aB G (aQ A (aC B fun u=>aQ (M6.cD u/\u.length<=8192/\0<u64.wrap (h+1)/\u64.wrap (h+1)<18446744073709551616) (aC (M6.dg (M6.val u/C.toNat)) fun v=>TSums.L4 a b c r e f v C))) (aB H (aQ A (aC B fun w=>aQ (M6.cD w/\w.length<=8192/\0<u64.wrap (h+1)/\u64.wrap (h+1)<18446744073709551616) (aC (M6.dg (M6.val w/C.toNat)) fun x=>TSums.L4 a b c d r f x C))) (aB I (aQ A (aC B fun y=>aQ (M6.cD y/\y.length<=8192/\0<u64.wrap (h+1)/\u64.wrap (h+1)<18446744073709551616) (aC (M6.dg (M6.val y/C.toNat)) fun z=>TSums.L4 a b c d e r z C))) none))))) (aB H (aQ (M6.cD e/\M6.cD g/\e.length<=8192/\g.length<=8192) (aC (bif bZ.kX O then M6.dg O else []) fun aa=>aB F (aQ A (aC B fun ab=>aQ (M6.cD ab/\ab.length<=8192/\0<u64.wrap (h+1)/\u64.wrap (h+1)<18446744073709551616) (aC (M6.dg (M6.val ab/C.toNat)) fun ac=>TSums.L4 a b aa d e f ac C))) (aB G (aQ A (aC B fun ad=>aQ (M6.cD ad/\ad.length<=8192/\0<u64.wrap (h+1)/\u64.wrap (h+1)<18446744073709551616) (aC (M6.dg (M6.val ad/C.toNat)) fun ae=>TSums.L4 a b c aa e f ae C))) (aB H (aQ A (aC B fun af=>aQ (M6.cD af/\af.length<=8192/\0<u64.wrap (h+1)/\u64.wrap (h+1)<18446744073709551616) (aC (M6.dg (M6.val af/C.toNat)) fun ag=>TSums.L4 a b c d aa f ag C))) (aB I (aQ A (aC B fun ah=>aQ (M6.cD ah/\ah.length<=8192/\0<u64.wrap (h+1)/\u64.wrap (h+1)<18446744073709551616) (aC (M6.dg (M6.val ah/C.toNat)) fun ai=>TSums.L4 a b c d e aa ai C))) none))))) (aB I (aQ (M6.cD f/\M6.cD g/\f.length<=8192/\g.length<=8192) (aC (bif bZ.kX P then M6.dg P else []) fun aj=>aB F (aQ A (aC B fun ak=>aQ (M6.cD ak/\ak.length<=8192/\0<u64.wrap (h+1)/\u64.wrap (h+1)<18446744073709551616) (aC (M6.dg (M6.val ak/C.toNat)) fun al=>TSums.L4 a b aj d e f al C))) (aB G (aQ A (aC B fun am=>aQ (M6.cD am/\am.length<=8192/\0<u64.wrap (h+1)/\u64.wrap (h+1)<18446744073709551616) (aC (M6.dg (M6.val am/C.toNat)) fun an=>TSums.L4 a b c aj e f an C))) (aB H (aQ A (aC B fun ao=>aQ (M6.cD ao/\ao.length<=8192/\0<u64.wrap (h+1)/\u64.wrap (h+1)<18446744073709551616) (aC (M6.dg (M6.val ao/C.toNat)) fun ap=>TSums.L4 a b c d aj f ap C))) (aB I (aQ A (aC B fun aq=>aQ (M6.cD aq/\aq.length<=8192/\0<u64.wrap (h+1)/\u64.wrap (h+1)<18446744073709551616) (aC (M6.dg (M6.val aq/C.toNat)) fun ar=>TSums.L4 a b c d e aj ar C))) none))))) none)))) (aQ (M6.cD c/\M6.cD e/\c.length<=8192/\e.length<=8192) (aC (M6.dg (M6.val c-M6.val e)) fun au=>aQ (M6.cD d/\M6.cD f/\d.length<=8192/\f.length<=8192) (aC (M6.dg (M6.val d-M6.val f)) fun av=>some [D.s (ints u64 av),D.s (ints u64 au)]))):=lJ aU
def tay(u W:Nat):Nat->Nat->Nat->Nat->Nat->Nat->Nat×Nat×Nat×Nat
 |0,_,a,b,c,d=>(a,b,c,d)
 |f+1,k,a,b,c,d=>if R.sq u W k=0 then(a,b,c,d)else
  if k%4=0 then tay u W f (k+1) (a+R.sq u W k) b c d else if k%4=1 then tay u W f (k+1) a (b+R.sq u W k) c d
  else if k%4=2 then tay u W f (k+1) a b (c+R.sq u W k) d else tay u W f (k+1) a b c (d+R.sq u W k)
theorem Ge{u W:Nat}(h:u<=W):∀k,R.sq u W k<=W
 |0=>bNB _
 |k+1=>bNX (R.Gc h k) (Ge h k)
theorem L{w:Nat}{a0:List Int}(hn:M6.cD a0)(hl:a0.length<=4096)(hu:M6.val a0<=2^w)(hw:w<=150000):∀(f k a b c d:Nat),k+f<=200000->R.sq (M6.val a0) (2^w) (k+f)=0 ->
  a<=k*2^w->b<=k*2^w->c<=k*2^w->d<=k*2^w ->
  L4 a0 w (M6.dg a) (M6.dg b) (M6.dg c) (M6.dg d) (M6.dg (R.sq (M6.val a0) (2^w) k)) k=some [.s (.ints .u64 (M6.dg ((tay (M6.val a0) (2^w) f k a b c d).2.1-(tay (M6.val a0) (2^w) f k a b c d).2.2.2))),.s (.ints .u64 (M6.dg ((tay (M6.val a0) (2^w) f k a b c d).1-(tay (M6.val a0) (2^w) f k a b c d).2.2.1)))]:=by
 intro f
 induction f with
 |zero =>
  intro k a b c d hk h0 ha hb hc hd;have pw:k*2^w<2^(w+18):=by
   rw[bSD,bRZ];exact bZK (by omega) (bQA (by decide))
  rw[bOC]at h0;rw[kV,h0,M6.bN,aI (by simp)];simp only[aL];rw[gP ⟨M6.aW _,M6.aW _,dA.jX (bTQ ha pw) (by omega),dA.jX (bTQ hc pw) (by omega)⟩,gP ⟨M6.aW _,M6.aW _,dA.jX (bTQ hb pw) (by omega),dA.jX (bTQ hd pw) (by omega)⟩];simp only[M6.bJ];rfl
 |succ f ih =>
  intro k a b c d hk h0 ha hb hc hd;have pw:∀j,j<=200000->j*2^w<2^(w+18):=fun j hj=>by
   rw[bSD,bRZ];exact bZK (by omega) (bQA (by decide))
  have hs:(k+1)*2^w=k*2^w+2^w:=by rw[bNV,bRE]
  have ht:=Ge hu k;have lt:(M6.dg (R.sq (M6.val a0) (2^w) k)).length<=4096:=eZ (k:=4096) (bNX (dV.2 (bTQ ht (bTU (by decide) (bZL w)))) (by omega));rw[kV];unfold tay
  by_cases hz:R.sq (M6.val a0) (2^w) k=0
  ·rw[hz,M6.bN,aI (by simp),if_pos rfl];simp only[aL];rw[gP ⟨M6.aW _,M6.aW _,dA.jX (bTQ ha (pw k (by omega))) (by omega),dA.jX (bTQ hc (pw k (by omega))) (by omega)⟩,gP ⟨M6.aW _,M6.aW _,dA.jX (bTQ hb (pw k (by omega))) (by omega),dA.jX (bTQ hd (pw k (by omega))) (by omega)⟩];simp only[M6.bJ]
  ·have aUS:(M6.dg (R.sq (M6.val a0) (2^w) k)).length≠0:=fun h=>hz (M6.fZ.1 h)
   have em:(k:Int).tmod 4=((k%4:Nat):Int):=by rw[bUR (by omega)];omega
   have w1:u64.wrap ((k:Int)+1)=((k+1:Nat):Int):=by rw[wrap_u64];omega
   have ew:(w:Int).toNat=w:=bQX _;have ek:(((k+1:Nat)):Int).toNat=k+1:=bQX _;have es:R.sq (M6.val a0) (2^w) k*M6.val a0/2^w/(k+1)=R.sq (M6.val a0) (2^w) (k+1):=rfl;have bIE:(M6.dg (R.sq (M6.val a0) (2^w) k*M6.val a0/2^w)).length<=8192:=by
    have:R.sq (M6.val a0) (2^w) k*M6.val a0/2^w<=R.sq (M6.val a0) (2^w) k:=bYV (by rw[bRZ (2^w)];exact bPP _ hu);exact dA.jX (bTQ (bNX this ht) (bTU (by decide) (bZL w))) (by omega)
   rw[aO];simp only[aL,em,w1,ew,ek,M6.bJ,es];rw[if_neg hz];have aOY:k+1+f=k+(f+1):=by omega
   have Md:∀x,x<=k*2^w->x+R.sq (M6.val a0) (2^w) k<=(k+1)*2^w/\bZ.kX (x+R.sq (M6.val a0) (2^w) k)=true/\(M6.dg x).length<=8192:=fun x hx=>by
    have h1:x+R.sq (M6.val a0) (2^w) k<=(k+1)*2^w:=by omega
    exact⟨h1,dA.aMD (bTQ h1 (pw (k+1) (by omega))) (by omega),dA.jX (bTQ hx (pw k (by omega))) (by omega)⟩
   have up:∀x,x<=k*2^w->x<=(k+1)*2^w:=fun x hx=>by omega
   have g1:M6.cD (M6.dg (R.sq (M6.val a0) (2^w) k))/\M6.cD a0/\(M6.dg (R.sq (M6.val a0) (2^w) k)).length<=4096/\a0.length<=4096/\(0:Int)<=w/\(w:Int)<4611686018427387904:=⟨M6.aW _,hn,lt,hl,by omega,by omega⟩;have g2:M6.cD (M6.dg (R.sq (M6.val a0) (2^w) k*M6.val a0/2^w))/\(M6.dg (R.sq (M6.val a0) (2^w) k*M6.val a0/2^w)).length<=8192/\(0:Int)<((k+1:Nat):Int)/\((k+1:Nat):Int)<18446744073709551616:=⟨M6.aW _,bIE,by omega,by omega⟩;have h4:k%4<4:=bPJ _ (by decide)
   by_cases c0:k%4=0
   ·obtain⟨x1,x2,x3⟩:=Md a ha;rw[aO,gP ⟨M6.aW _,M6.aW _,x3,by omega⟩,aO,x2,cond_true,gP g1,gP g2,if_pos c0];exact ih (k+1) _ _ _ _ (by omega) (by rw[aOY];exact h0) x1 (up b hb) (up c hc) (up d hd)
   ·rw[aI,if_neg c0]
    by_cases c1:k%4=1
    ·obtain⟨x1,x2,x3⟩:=Md b hb;rw[aO,gP ⟨M6.aW _,M6.aW _,x3,by omega⟩,aI,aO,x2,cond_true,gP g1,gP g2,if_pos c1];exact ih (k+1) _ _ _ _ (by omega) (by rw[aOY];exact h0) (up a ha) x1 (up c hc) (up d hd)
    ·rw[aI,if_neg c1]
     by_cases c2:k%4=2
     ·obtain⟨x1,x2,x3⟩:=Md c hc;rw[aO,gP ⟨M6.aW _,M6.aW _,x3,by omega⟩,aI,aI,aO,x2,cond_true,gP g1,gP g2,if_pos c2];exact ih (k+1) _ _ _ _ (by omega) (by rw[aOY];exact h0) (up a ha) (up b hb) x1 (up d hd)
     ·obtain⟨x1,x2,x3⟩:=Md d hd;rw[aI,aO,gP ⟨M6.aW _,M6.aW _,x3,by omega⟩,aI,aI,aI,aO,x2,cond_true,gP g1,gP g2,if_neg c2];exact ih (k+1) _ _ _ _ (by omega) (by rw[aOY];exact h0) (up a ha) (up b hb) (up c hc) x1
def Tc(u w:Nat):Nat:=(tay u (2^w) (w+1) 0 0 0 0 0).2.1-(tay u (2^w) (w+1) 0 0 0 0 0).2.2.2
def Td(u w:Nat):Nat:=(tay u (2^w) (w+1) 0 0 0 0 0).1-(tay u (2^w) (w+1) 0 0 0 0 0).2.2.1
def sp(a:List Int)(w:Int):Prop×List D:=(M6.cD a/\0<=w/\w<=150000/\2*M6.val a<=2^w.toNat,[.s (.ints .u64 (M6.dg (Tc (M6.val a) w.toNat))),.s (.ints .u64 (M6.dg (Td (M6.val a) w.toNat)))])
theorem spec:fO E f223 aE (pI .u64) (pN .i64) sp:=by
 rintro a w ⟨hn,w0,w1,hu⟩;refine(start a w).trans ?_;obtain⟨w,rfl⟩:=bSE w0;rw[bQX]at hu;have hl:a.length<=4096:=by
  have e:M6.dg (M6.val a)=a:=by first |exact hn |exact Eq.symm hn
  rw[<-e];exact eZ (k:=4096) (bNX (dV.2 (show M6.val a<2^(w+1) by rw[bSA];have:0<2^w:=bQA (by decide);omega)) (by omega))
 have so:jA.iC 1 w=true:=by
  unfold jA.iC;rw[show bl 1=1 from rfl,decide_eq_true (show 1+w<=524288 by omega),bTB]
 have l1:(M6.dg 1).length<=8192:=dA.jX (k:=1) (by decide) (by decide);unfold sp;simp only[M6.bJ,bQX,so,cond_true,bRE,aL];rw[gP ⟨by decide,by decide⟩,gP ⟨M6.aW _,l1,by omega,by omega⟩,<-M6.bN];exact L hn hl (by omega) (by omega) (w+1) 0 0 0 0 0 (by omega) (by rw[bND];exact R.Wg hu) (by omega) (by omega) (by omega) (by omega)
def aH:dC:=orc2 (pI .u64) (pN .i64) sp
theorem ok:OK 223 aH:=(eI E aE (aA jA.ok (aA mP.ok (aA rE.ok (aA Ie.ok (aA lN.ok (aA sR.ok aD)))))) func223).lP rfl spec
end TSums
end W
end Go.Proofs.YtcnlagnipklcmaaGreatDoor
end
