/- Contracts of functions and laws, for the claim on TurnPeriod. -/
import Derived.KernelRfl
import Derived.WalkKit
import Derived.Test.YtplagoepbghhpaaGreatDoorBTurnPeriod2
set_option linter.unusedVariables false
set_option linter.unusedSimpArgs false
set_option exponentiation.threshold 10000000
noncomputable section
open Go.IntKind(i8 i16 i32 i64 u8 u16 u32 u64)
open Go.Proofs.Tryz
open Int renaming toNat_natCast->bPN,eq_ofNat_of_zero_le->bQT,natCast_mul->bRP,natCast_ediv->bRH,natAbs_natCast->bRJ,natAbs_neg->bSL,tdiv_eq_ediv_of_nonneg->bTG,natCast_nonneg->bVK,tmod_eq_emod_of_nonneg->bTH,mul_neg->bUR,natAbs->bVT,mul_ediv_add_emod->bUU,lt_or_le->bXE,mul_nonneg->bXP,natCast_emod->bSI,toNat_of_nonneg->bXS,mul_le_mul_of_nonneg_left->bXU
open Nat renaming pow_add->bQS,mul_add->bQR,pow_succ->bQQ,mul_assoc->bQU,lt_of_le_of_lt->bSG,mul_comm->bQP,le_trans->bMN,mod_lt->bNZ,zero_add->bLT,div_le_self->bUE,mul_le_mul_left->bOF,div_lt_of_lt_mul->bRL,lt_of_lt_of_le->bMR,pow_pos->bOQ,mul_le_mul_right->bNE,div_eq_of_lt->bRO,mul_lt_mul''->bUF,add_mul->bML,div_div_eq_div_mul->bRI,mod_eq_of_lt->bWG,div_add_mod->bQX,one_mul->bPU,pow_lt_pow_right->bSK,pow_le_pow_right->bOR,beq->bLS,eq_of_beq_eq_true->bMF,zero_le->bRU,le_refl->bLR,mul_le_mul->bWF,mul_one->bMB,mod_add_div->bWI,le_of_ble_eq_true->bNP,add_mul_div_left->bSH,add_zero->bMS,sub_le->bSP,ble->bLU,pow_zero->bVS,div_le_div_left->bWN,le_of_not_lt->bQO,mul_div_le->bWO,div_eq_of_lt_le->bWP,mul_right_comm->bWQ,add_assoc->bPH,lt_or_ge->bMG,add_comm->bRS,lt_succ_self->bWT,testBit_mod_two_pow->bWU,testBit_div_two_pow->bWV,div_mul_le_self->bWW,lt_div_mul_add->bWX,mul_left_comm->bTO,lt_mul_div_succ->bWY,div_lt_iff_lt_mul->bWZ,pow_mul->bSJ,div_one->bXB,zero_mod->bTN,min_eq_left->bRX,mul_add_div->bVJ,mul_lt_mul_of_pos_left->bXG,testBit_two_pow_sub_one->bXI,div_le_of_le_mul->bXJ,le_div_iff_mul_le->bXL,add_mul_mod_self_left->bXO,mul_add_mod->bXR,mul_div_mul_right->bUP,mul_mod_mul_right->bUQ,mul_div_cancel->bVU,exists_eq_add_of_le->bMW,mul_lt_mul_of_pos_right->bXT
open Rat renaming le_of_lt->bQY,natCast_mul->bSR,le_trans->bQW,le_refl->bSF,intCast_natCast->bWJ,intCast_mul->bWL,intCast_neg->bWR,mul_pos->bRK,mul_assoc->bXA,div_mul_cancel->bXK,intCast_add->bXM,le_antisymm->bXV
open List renaming replicate->bNU,take->bRM,drop->bRN,take_length->bSM,drop_zero->bRY,take_set_of_le->bWM,length_take->bOH,drop_set_of_lt->bWS,length_replicate->bXC,drop_of_length_le->bXD,getD_eq_getElem?_getD->bQV,take_of_length_le->bTC,drop_replicate->bXF,nil_append->bPT,append_nil->bRR,length_append->bMU,append_assoc->bNM,singleton_append->bSN
open Bool renaming not_true->bNR,true_and->bOS,or_true->bRQ,false_and->bRA,false_or->bNS,true_or->bRB,and_eq_true->bLX,not_false->bXN,and_false->bRD
namespace Go.Proofs.YtplagoepbghhpaaGreatDoor
namespace R
def gU{α:Type}(n:Nat)(k:Nat->α):α:=Nat.rec (motive:=fun _=>α) (k 0) (fun m _=>k (m+1)) n
theorem fG{α:Type}(n:Nat)(k:Nat->α):gU n k=k n:=by cases n <;> rfl
def inner(q:Nat)(f:Nat):Nat->Nat->Nat->Nat×Nat:=Nat.rec (motive:=fun _=>Nat->Nat->Nat->Nat×Nat) (fun t s _=>(t,s))
 (fun _ ih t s i=>gU (t/q) fun u=>gU (u/q) fun v=>gU (s+t/i-u/(i+2)) fun s'=>gU (i+4) fun i'=>ih v s' i') f
def outer(q:Nat)(g:Nat)(f:Nat):Nat->Nat->Nat->Nat×Nat:=Nat.rec (motive:=fun _=>Nat->Nat->Nat->Nat×Nat) (fun t s _=>(t,s))
 (fun _ ih t s i=>Prod.rec (motive:=fun _=>Nat×Nat) (fun t' s'=>ih t' s' (i+4*g)) (inner q g t s i)) f
theorem aGC(n w:Nat){j:Nat}(hn:0<n):fP n w (j+1)<=fP n w j:=by
 unfold fP;refine bMN (bWN (show 2*j+1<=2*(j+1)+1 by omega) (by omega)) (Nat.div_le_div_right ?_);exact bWN (bOR hn (by omega)) (bOQ hn)
def At(n w:Nat)(j:Nat)(t s:Nat):Prop:=t=2^w/n^(2*j+1)/\(s:Rat)=sum (fun j=>sg j*(fP n w j:Rat)) j/\j%2=0
theorem aKP{n w j t s:Nat}(hn:0<n)(h:At n w j t s):At n w (j+2) (t/(n*n)/(n*n)) (s+t/(2*j+1)-t/(n*n)/(2*j+1+2)):=by
 obtain⟨h1,h2,h3⟩:=h;have e1:t/(n*n)=2^w/n^(2*(j+1)+1):=by
  rw[h1,bRI,show 2*(j+1)+1=2*j+1+2 by omega,bQS _ (2*j+1) 2,Nat.pow_two]
 have e2:t/(n*n)/(n*n)=2^w/n^(2*(j+2)+1):=by
  rw[e1,bRI,show 2*(j+2)+1=2*(j+1)+1+2 by omega,bQS _ (2*(j+1)+1) 2,Nat.pow_two]
 refine⟨e2,?_,by omega⟩;have a1:t/(2*j+1)=fP n w j:=by rw[h1];rfl
 have a2:t/(n*n)/(2*j+1+2)=fP n w (j+1):=by rw[e1];rfl
 rw[a1,a2,cY,cY,<-h2];have hle:=aGC n w (j:=j) hn;have:((s+fP n w j-fP n w (j+1):Nat):Rat)+(fP n w (j+1):Rat)=(s:Rat)+(fP n w j:Rat):=by
  exact_mod_cast(show s+fP n w j-fP n w (j+1)+fP n w (j+1)=s+fP n w j by omega)
 have g1:sg j=1:=by unfold sg;rw[if_pos h3]
 have g2:sg (j+1)=-1:=by unfold sg;rw[aY]
 rw[g1,g2];grind
theorem Tk(q f t s i:Nat):inner q (f+1) t s i=gU (t/q) fun u=>gU (u/q) fun v=>gU (s+t/i-u/(i+2)) fun s'=>gU (i+4) fun i'=>inner q f v s' i':=rfl
theorem Ta(q g f t s i:Nat):outer q g (f+1) t s i=outer q g f (inner q g t s i).1 (inner q g t s i).2 (i+4*g):=rfl
theorem aDG{n w:Nat}(hn:0<n):∀(f j t s:Nat),At n w j t s->At n w (j+2*f) (inner (n*n) f t s (2*j+1)).1 (inner (n*n) f t s (2*j+1)).2:=by
 intro f
 induction f with
 |zero=>intro j t s h;exact h
 |succ f ih =>
  intro j t s h;have e:inner (n*n) (f+1) t s (2*j+1)=inner (n*n) f (t/(n*n)/(n*n)) (s+t/(2*j+1)-t/(n*n)/(2*j+1+2)) (2*(j+2)+1):=by
   rw[Tk,fG,fG,fG,fG];rfl
  rw[e,show j+2*(f+1)=(j+2)+2*f by omega];exact ih _ _ _ (aKP hn h)
theorem aCR{n w:Nat}(hn:0<n)(g:Nat):∀(f j t s:Nat),At n w j t s->At n w (j+2*(g*f)) (outer (n*n) g f t s (2*j+1)).1 (outer (n*n) g f t s (2*j+1)).2:=by
 intro f
 induction f with
 |zero=>intro j t s h;exact h
 |succ f ih =>
  intro j t s h;have e:outer (n*n) g (f+1) t s (2*j+1)=outer (n*n) g f (inner (n*n) g t s (2*j+1)).1 (inner (n*n) g t s (2*j+1)).2 (2*(j+2*g)+1):=by
   rw[Ta,show 2*j+1+4*g=2*(j+2*g)+1 by omega]
  rw[e,show j+2*(g*(f+1))=(j+2*g)+2*(g*f) by rw[Nat.mul_succ];omega];exact ih _ _ _ (aDG hn g j t s h)
def aAY(n w g f:Nat):Nat×Nat:=outer (n*n) g f (2^w/n) 0 1
theorem Nu{n:Nat}(hn:2<=n)(w g f:Nat)(hJ:2*(g*f)<=1048576)(hz:(aAY n w g f).1=0):ab (((aAY n w g f).2:Rat)-((2^w:Nat):Rat)*Um n)<=((2*(g*f):Nat):Rat)+2:=by
 have h:=aCR (n:=n) (w:=w) (by omega) g f 0 (2^w/n) 0 ⟨by rw[Nat.mul_zero,Nat.pow_one],by simp only[sum];norm_cast,rfl⟩;obtain⟨h1,h2,_⟩:=h;rw[bLT]at h1 h2;have h3:(aAY n w g f).2=(outer (n*n) g f (2^w/n) 0 (2*0+1)).2:=rfl;have h4:(aAY n w g f).1=(outer (n*n) g f (2^w/n) 0 (2*0+1)).1:=rfl;rw[h3,h2];rw[h4,h1]at hz;rw[bLT]at hz ⊢;refine Ya hn w hJ ?_;unfold fP;rw[hz,Nat.zero_div]
def Lv(u w:Nat)(f:Nat):Nat->Nat->Nat->Nat->Nat×Nat×Nat:=Nat.rec (motive:=fun _=>Nat->Nat->Nat->Nat->Nat×Nat×Nat) (fun t c s _=>(t,c,s))
 (fun _ ih t c s k=>gU (t*u/w/(k+1)) fun t1=>gU (t1*u/w/(k+2)) fun t2=>gU (t2*u/w/(k+3)) fun t3=>gU (t3*u/w/(k+4)) fun t4=>gU (c+t-t2) fun c'=>gU (s+t1-t3) fun s'=>gU (k+4) fun k'=>ih t4 c' s' k') f
def Ej(w:Nat)(h:Nat):Nat->Nat->Nat×Nat:=Nat.rec (motive:=fun _=>Nat->Nat->Nat×Nat) (fun s c=>(s,c))
 (fun _ ih s c=>gU (2*(s*c/w)) fun s'=>gU (w-2*(s*s/w)) fun c'=>ih s' c') h
def aIL(x:Nat):Bool :=
 gU (x &&& (x >>> 1)) fun x=>gU (x &&& (x >>> 2)) fun x=>gU (x &&& (x >>> 4)) fun x=>gU (x &&& (x >>> 8)) fun x=>bLS (x &&& (x >>> 8)) 0
def aND(P w:Nat):Bool :=
 gU (P/2^102) fun u=>gU (2^w) fun W =>
 Prod.rec (motive:=fun _=>Bool) (fun t r=>Prod.rec (motive:=fun _=>Bool) (fun c s=>bLS t 0 &&
  Prod.rec (motive:=fun _=>Bool) (fun s' c'=>bLU (2*s'*s') (W*W+2^(w+240))&&(bLU (W*W) (2*s'*s'+2^(w+240))&&bLU 1 c')) (Ej W 100 s c)) r) (Lv u W 320 W 0 0 0)
def aPN(w:Nat):Bool :=
 Prod.rec (motive:=fun _=>Bool) (fun t5 s5=>Prod.rec (motive:=fun _=>Bool) (fun t239 rH=>Prod.rec (motive:=fun _=>Bool) (fun t18 aHJ=>Prod.rec (motive:=fun _=>Bool) (fun t57 aHI =>
  bLS t5 0&&(bLS t239 0&&(bLS t18 0&&(bLS t57 0 &&
  gU (16*s5-4*rH) fun P=>gU (48*aHJ+32*aHI-20*rH) fun G =>
  bLU P (G+2^24)&&(bLU G (P+2^24)&&gU (P/2^64) fun Q =>
  bLS ((P+2^40)/2^64) Q&&(bLS ((P-2^40)/2^64) Q&&(bLS (Q/2^(w-104)) 3454217652357&&(aIL Q&&(aIL (2^(w-62)-1-Q)&&aND P w)))))))))
  (aAY 57 w 78 78)) (aAY 18 w 92 92)) (aAY 239 w 66 66)) (aAY 5 w 122 122)
def Gu(x n:Nat):Prop:=∀p,∃i,i<n/\x.testBit (p+i)=false
theorem tG{x a n:Nat}(h:Gu (x &&& (x >>> a)) n):Gu x (n+a):=by
 intro p;obtain⟨i,hi,hb⟩:=h p;rw[Nat.testBit_and,Nat.testBit_shiftRight,Bool.and_eq_false_iff]at hb;rcases hb with hb |hb
 ·exact⟨i,by omega,hb⟩
 ·exact⟨i+a,by omega,by rwa [show p+(i+a)=a+(p+i) by omega]⟩
theorem We{x:Nat}(h:aIL x=true):Gu x 24:=by
 unfold aIL at h;rw[fG,fG,fG,fG]at h;have h0:=bMF h;have n0:Gu ((((x &&& x >>> 1) &&& (x &&& x >>> 1) >>> 2) &&& ((x &&& x >>> 1) &&& (x &&& x >>> 1) >>> 2) >>> 4) &&& (((x &&& x >>> 1) &&& (x &&& x >>> 1) >>> 2) &&& ((x &&& x >>> 1) &&& (x &&& x >>> 1) >>> 2) >>> 4) >>> 8 &&& ((((x &&& x >>> 1) &&& (x &&& x >>> 1) >>> 2) &&& ((x &&& x >>> 1) &&& (x &&& x >>> 1) >>> 2) >>> 4) &&& (((x &&& x >>> 1) &&& (x &&& x >>> 1) >>> 2) &&& ((x &&& x >>> 1) &&& (x &&& x >>> 1) >>> 2) >>> 4) >>> 8) >>> 8) 1:=by
  rw[h0];exact fun p=>⟨0,by omega,by simp⟩
 exact tG (a:=1) (n:=23) (tG (a:=2) (n:=21) (tG (a:=4) (n:=17) (tG (a:=8) (n:=9) (tG (a:=8) (n:=1) n0))))
theorem Ko{x n:Nat}(h:Gu x n)(p:Nat):x/2^p%2^n≠2^n-1:=by
 intro hc;obtain⟨i,hi,hb⟩:=h p;have h1:(x/2^p%2^n).testBit i=true:=by
  rw[hc,bXI];exact decide_eq_true hi
 rw[bWU,bWV]at h1;rw[show p+i=i+p by omega]at hb;rw[hb]at h1;simp at h1
theorem Zx{x L n p:Nat}(hx:x<2^L)(hp:p+n<=L)(h:(2^L-1-x)/2^p%2^n≠2^n-1):x/2^p%2^n≠0:=by
 intro hc;apply h;apply Nat.eq_of_testBit_eq;intro i;rw[bXI,bWU,bWV,show 2^L-1-x=2^L-(x+1) by omega,Nat.testBit_two_pow_sub_succ hx];have h1:(x/2^p%2^n).testBit i=false:=by rw[hc];simp
 rw[bWU,bWV]at h1
 by_cases hi:i<n
 ·simp[hi]at h1 ⊢;exact⟨by omega,h1⟩
 ·simp[hi]
theorem Wn(h:Nat):((4^(h+1):Nat):Rat)=4*((4^h:Nat):Rat):=by
 rw[bQQ,bSR];grind
theorem Fa(h:Nat):((2^(h+1):Nat):Rat)=2*((2^h:Nat):Rat):=by
 rw[bQQ,bSR];grind
theorem Gl(b h:Nat)(hb:0<b):(1:Rat)<=((b^h:Nat):Rat):=by exact_mod_cast bOQ hb
theorem Kw(w h s c:Nat):Ej w (h+1) s c=Ej w h (2*(s*c/w)) (w-2*(s*s/w)):=by
 show gU _ (fun s'=>gU _ fun c'=>Ej w h s' c')=_;rw[fG,fG]
theorem aFI{W s c:Nat}{x e:Rat}(hW:1<=W)(h0:0<=x)(h1:x<=1/2)(hs:ab ((s:Rat)-W*sn x)<=e)(hc:ab ((c:Rat)-W*cs x)<=e)(he:100*(e*e)<=(W:Rat))(aTE:(8*e+4*(W:Rat))*uE<=1/4) :
  ab (((2*(s*c/W):Nat):Rat)-W*sn (2*x))<=4*e+4/\ab (((W-2*(s*s/W):Nat):Rat)-W*cs (2*x))<=4*e+4/\2*(s*s/W)<=W:=by
 have bJZ:(1:Rat)<=(W:Rat):=by exact_mod_cast hW
 have aHO:0<=e:=bQW (aT _) hs;have aNZ:ab x<=1:=by rw[bS h0];grind
 have aOA:2*(s*s/W)<=W:=by
  have h2:=Vw h0 (by grind);have h3:=Gc h0 (by grind);rw[dY]at hs;have e1:e<=(W:Rat)/10:=by
   have:=Ga (a:=10*e) (b:=(W:Rat)) (by have:=aH (show 0<=(W:Rat)-1 by grind) (show 0<=(W:Rat) by grind);grind) (by grind);rw[bS (by grind)]at this;grind
  have e2:=aH (show 0<=(W:Rat) by grind) (show 0<=1/2-sn x by grind);have e3:(s:Rat)<=3/5*(W:Rat):=by grind
  have e4:(0:Rat)<=(s:Rat):=by exact_mod_cast bRU _
  have e5:=cT e4 e3 e4 e3;have d:=(uN (s*s) (b:=W) (by omega)).1;rw[bSR]at d;have e6:(W:Rat)*(2*((s*s/W:Nat):Rat))<=(W:Rat)*(W:Rat):=by
   have:=aH (show 0<=(W:Rat) by grind) (show 0<=(W:Rat) by grind);grind
  have e7:=dK (show 0<(W:Rat) by grind) e6;exact_mod_cast e7
 have Zi:ab ((W:Rat)*((2*(s*c/W):Nat):Rat)-2*((s:Rat)*(c:Rat)))<=2*(W:Rat):=by
  obtain⟨d1,d2⟩:=uN (s*c) (b:=W) (by omega);rw[bSR]at d1 d2;rw[bSR,dY];have:((2:Nat):Rat)=2:=by norm_cast
  rw[this];constructor <;> grind
 have aRF:ab ((W:Rat)*((W-2*(s*s/W):Nat):Rat)-((W:Rat)*(W:Rat)-2*((s:Rat)*(s:Rat))))<=2*(W:Rat):=by
  obtain⟨d1,d2⟩:=uN (s*s) (b:=W) (by omega);have aMC:((W-2*(s*s/W):Nat):Rat)+2*((s*s/W:Nat):Rat)=(W:Rat):=by
   exact_mod_cast(show W-2*(s*s/W)+2*(s*s/W)=W by omega)
  rw[bSR]at d1 d2;generalize ((W-2*(s*s/W):Nat):Rat)=z at *;generalize ((s*s/W:Nat):Rat)=y at *;have:z=(W:Rat)-2*y:=by grind
  subst this;rw[dY];constructor <;> grind
 obtain⟨r1,r2⟩:=aRI bJZ aNZ hs hc (by have:=aH aHO aHO;grind) aTE Zi aRF;exact⟨r1,r2,aOA⟩
theorem Xo{W:Nat}(hW:1<=W){E:Rat}(hE:100*(E*E)<=(W:Rat))(aTE:(8*E+4*(W:Rat))*uE<=1/4):∀(h:Nat) (x e:Rat) (s c:Nat),0<=x->((2^h:Nat):Rat)*x<=1->ab ((s:Rat)-W*sn x)<=e->ab ((c:Rat)-W*cs x)<=e->((4^h:Nat):Rat)*(e+2)<=E ->
  ab (((Ej W h s c).1:Rat)-W*sn (((2^h:Nat):Rat)*x))<=((4^h:Nat):Rat)*(e+2)-2/\ab (((Ej W h s c).2:Rat)-W*cs (((2^h:Nat):Rat)*x))<=((4^h:Nat):Rat)*(e+2)-2:=by
 intro h
 induction h with
 |zero =>
  intro x e s c h0 h1 hs hc bEY;rw[bVS,show((1:Nat):Rat)*x=x by grind];have:((1:Nat):Rat)=1:=by norm_cast
  rw[this];exact⟨by show ab ((s:Rat)-_)<=_;grind,by show ab ((c:Rat)-_)<=_;grind⟩
 |succ h ih =>
  intro x e s c h0 h1 hs hc bEY;rw[Fa]at h1;rw[Wn]at bEY;have aHO:0<=e:=bQW (aT _) hs;have g2:=Gl 2 h (by omega);have g4:=Gl 4 h (by omega);have aAQ:x<=1/2:=by
   have:=aH (show 0<=((2^h:Nat):Rat)-1 by grind) h0;grind
  have aJK:e<=E:=by
   have:=aH (show 0<=((4^h:Nat):Rat)-1 by grind) (show 0<=e+2 by grind);grind
  have hsq:=cT aHO aJK aHO aJK;have aOR:=xW;have hsm2:=aH (show 0<=E-e by grind) (bQY aOR);obtain⟨r1,r2,_⟩:=aFI hW h0 aAQ hs hc (by grind) (by grind);have:=ih (2*x) (4*e+4) _ _ (by grind) (by grind) r1 r2 (by grind);rw[Kw,Fa,Wn,show 2*((2^h:Nat):Rat)*x=((2^h:Nat):Rat)*(2*x) by grind];refine⟨bQW this.1 ?_,bQW this.2 ?_⟩ <;> grind
theorem Fz{u W:Nat}(h:u<=W)(k:Nat):sq u W (k+1)<=sq u W k:=by
 rw[sq];refine bMN (bUE _ _) ?_
 by_cases hW:W=0
 ·rw[hW,Nat.div_zero];omega
 ·exact bXJ (by rw[bQP];exact bNE _ h)
theorem Yg(u w f t c s k:Nat):Lv u w (f+1) t c s k=gU (t*u/w/(k+1)) fun t1=>gU (t1*u/w/(k+2)) fun t2=>gU (t2*u/w/(k+3)) fun t3=>gU (t3*u/w/(k+4)) fun t4=>gU (c+t-t2) fun c'=>gU (s+t1-t3) fun s'=>gU (k+4) fun k'=>Lv u w f t4 c' s' k':=rfl
theorem aIE{u W:Nat}(hu:u<=W):∀(f k t c s:Nat),k%4=0->t=sq u W k->(c:Rat)=sum (fun k=>cc k*(sq u W k:Rat)) k->(s:Rat)=sum (fun k=>ss k*(sq u W k:Rat)) k ->
  (Lv u W f t c s k).1=sq u W (k+4*f)/\(((Lv u W f t c s k).2.1:Nat):Rat)=sum (fun k=>cc k*(sq u W k:Rat)) (k+4*f)/\(((Lv u W f t c s k).2.2:Nat):Rat)=sum (fun k=>ss k*(sq u W k:Rat)) (k+4*f):=by
 intro f
 induction f with
 |zero=>intro k t c s _ h1 h2 h3;exact⟨h1,h2,h3⟩
 |succ f ih =>
  intro k t c s hk h1 h2 h3;have e:Lv u W (f+1) t c s k=Lv u W f (sq u W (k+4)) (c+sq u W k-sq u W (k+2)) (s+sq u W (k+1)-sq u W (k+3)) (k+4):=by
   rw[Yg,fG,fG,fG,fG,fG,fG,fG,h1];rfl
  have l1:sq u W (k+1)<=sq u W k:=Fz hu k;have l2:sq u W (k+2)<=sq u W (k+1):=Fz hu (k+1);have l3:sq u W (k+3)<=sq u W (k+2):=Fz hu (k+2);rw[e,show k+4*(f+1)=k+4+4*f by omega];have c0:cc k=1/\cc (k+1)=0/\cc (k+2)=-1/\cc (k+3)=0:=by
   unfold cc;refine⟨?_,?_,?_,?_⟩
   ·rw[if_pos hk]
   ·rw[aY,aY]
   ·rw[aY,aU]
   ·rw[aY,aY]
  have s0:ss k=0/\ss (k+1)=1/\ss (k+2)=0/\ss (k+3)=-1:=by
   unfold ss;refine⟨?_,?_,?_,?_⟩
   ·rw[aY,aY]
   ·rw[aU]
   ·rw[aY,aY]
   ·rw[aY,aU]
  refine ih (k+4) _ _ _ (by omega) rfl ?_ ?_
  ·rw[cY,cY,cY,cY,<-h2,c0.1,c0.2.1,c0.2.2.1,c0.2.2.2];have:((c+sq u W k-sq u W (k+2):Nat):Rat)+(sq u W (k+2):Rat)=(c:Rat)+(sq u W k:Rat):=by exact_mod_cast(show c+sq u W k-sq u W (k+2)+sq u W (k+2)=c+sq u W k by omega)
   grind
  ·rw[cY,cY,cY,cY,<-h3,s0.1,s0.2.1,s0.2.2.1,s0.2.2.2];have:((s+sq u W (k+1)-sq u W (k+3):Nat):Rat)+(sq u W (k+3):Rat)=(s:Rat)+(sq u W (k+1):Rat):=by exact_mod_cast(show s+sq u W (k+1)-sq u W (k+3)+sq u W (k+3)=s+sq u W (k+1) by omega)
   grind
set_option maxRecDepth 10000
def pi:Rat:=16*Um 5-4*Um 239
def aXR:Rat:=48*Um 18+32*Um 57-20*Um 239
theorem hZ{a b:Bool}(h:(a&&b)=true):a=true/\b=true:=by simpa using h
structure Of(w:Nat)(Q:Nat):Prop where
 lo:(Q:Rat)<=((2^(w-64):Nat):Rat)*pi
 hi:((2^(w-64):Nat):Rat)*pi<(Q:Rat)+1
 gauss:ab (((2^w:Nat):Rat)*(pi-aXR))<=33554432
 top:Q/2^(w-104)=3454217652357
 aXU:Gu Q 24
 aIX:Gu (2^(w-62)-1-Q) 24
 cos:ab (((2^w:Nat):Rat)*cs (pi/2))<=((2^250:Nat):Rat)
theorem vG(w:Nat)(hw:64<=w):2^w=2^64*2^(w-64):=by rw[<-bQS];congr 1;omega
theorem Wq{u W:Nat}(hW:0<W):∃x:Rat,x*(W:Rat)=(u:Rat)/\0<=x:=by
 have h:(0:Rat)<(W:Rat):=by exact_mod_cast hW
 have h1:(W:Rat)≠0:=by grind
 refine⟨(u:Rat)/(W:Rat),bXK h1,?_⟩;have hu:(0:Rat)<=(u:Rat):=by exact_mod_cast bRU _
 refine Rat.not_lt.1 fun hn=>?_
 have:=bRK h (show 0 < -((u:Rat)/(W:Rat)) by grind);have e:(u:Rat)/(W:Rat)*(W:Rat)=u:=bXK h1;grind
theorem Xn{w:Nat}(hw:w<=1000000):((2^w:Nat):Rat)*uE<=1/1048576:=by
 have h1:=Cq (n:=w+20) (by omega);have h2:=Ts w;have h3:=Mz w 20;have h4:hf 20=1/1048576:=by simp only[hf];grind
 have h5:(0:Rat)<=((2^w:Nat):Rat):=by exact_mod_cast bRU _
 have h6:=aH h5 (show 0<=hf (w+20)-uE by grind);rw[h3,h4]at h6;generalize ((2^w:Nat):Rat)=W at *;generalize hf w=H at *;clear h1 h3 h4;grind
theorem Pf{W E:Rat}(h:E<=W)(aOR:W*uE<=1/1048576):(8*E+4*W)*uE<=1/4:=by
 have:=aH (show 0<=W-E by grind) (bQY xW);grind
theorem aKC{W u P p x y:Rat}(hx:x*W=u)(hy:y=1267650600228229401496703205376*x)(v1:u*5070602400912917605986812821504<=P)(v2:P<u*5070602400912917605986812821504+5070602400912917605986812821504)(hp:ab (P-W*p)<=524288):ab (W*(p/2-2*y))<=10141204801825835211973625643008:=by
 rw[dY]at hp ⊢;subst hy;have:W*(p/2-2*(1267650600228229401496703205376*x))=W*p/2-2535301200456458802993406410752*u:=by rw[<-hx];grind
 rw[this];grind
theorem aPI{w P:Nat}(hw:1000<=w)(aSX:w<=1000000)(hP:P<3454217652358*2^(w-40)){p:Rat}(hp:ab ((P:Rat)-((2^w:Nat):Rat)*p)<=524288)(h:aND P w=true):ab (((2^w:Nat):Rat)*cs (p/2))<=((2^250:Nat):Rat):=by
 unfold aND at h;rw[fG,fG]at h;have aHQ:0<2^w:=cN;have aDM:P/2^102*2^102<=P:=bWW P (2^102);have aWJ:P<P/2^102*2^102+2^102:=bWX (cN);have bLD:2^w=2^40*2^(w-40):=by rw[<-bQS];congr 1;omega
 have bDO:P/2^102*2^100<=2^w:=by
  rw[show 2^102=4*2^100 from rfl,show 2^40=1099511627776 from rfl]at *;generalize 2^100=b at *;generalize 2^(w-40)=q at *;generalize P/(4*b)=u at *;have:u*(4*b)=4*(u*b):=by rw[bTO]
  omega
 obtain⟨x,hx,Ov⟩:=Wq (u:=P/2^102) aHQ;have ht:=aIE (u:=P/2^102) (W:=2^w) (by omega) 320 0 (2^w) 0 0 rfl rfl (by simp only[sum];norm_cast) (by simp only[sum];norm_cast);generalize Lv (P/2^102) (2^w) 320 (2^w) 0 0 0=T at *;obtain⟨t,c,s⟩:=T;dsimp only at h ht;rw[bLT,show 4*320=1280 from rfl]at ht;obtain⟨ht0,bDR,aWK⟩:=ht;obtain⟨z0,h⟩:=hZ h;have z0:=bMF z0;rw[z0]at ht0;have hW:(0:Rat)<((2^w:Nat):Rat):=by exact_mod_cast aHQ
 have aWH:((2^100:Nat):Rat)*x<=1:=by
  refine dK hW ?_;have h1:((P/2^102:Nat):Rat)*((2^100:Nat):Rat)<=((2^w:Nat):Rat):=by exact_mod_cast bDO
  grind
 have aAQ:x<=1/2:=by
  have n1:((2^100:Nat):Rat)=1267650600228229401496703205376:=by norm_cast
  rw[n1]at aWH;grind
 have ec:=aBT aHQ hx Ov aAQ (n:=1280) (by omega) (by omega) ht0.symm;have es:=aBS aHQ hx Ov aAQ (n:=1280) (by omega) (by omega) ht0.symm;rw[<-bDR]at ec;rw[<-aWK]at es;have aLN:((1280:Nat):Rat)=1280:=by norm_cast
 rw[aLN]at ec es;have aOR:=Xn aSX;have n4:((4^100:Nat):Rat)=1606938044258990275541962092341162602522202993782792835301376:=by norm_cast
 have aUV:(100000000000000000000000000000000000000000000000000000000000000000000000000000000000000000000000000000000000000000000000000000000000000000000000000000000000000000000000000000000000000000000000000000000:Rat)<=((2^w:Nat):Rat):=by
  have e:2^w=2^200*(2^200*(2^200*(2^200*2^(w-800)))):=by simp only[<-bQS];congr 1;omega
  have h1:100000000000000000000000000000000000000000000000000000000000000000000000000000000000000000000000000000000000000000000000000000000000000000000000000000000000000000000000000000000000000000000000000000000<=2^200*(2^200*(2^200*(2^200*1))):=bNP rfl;have h2:100000000000000000000000000000000000000000000000000000000000000000000000000000000000000000000000000000000000000000000000000000000000000000000000000000000000000000000000000000000000000000000000000000000<=2^w:=by
   rw[e];exact bMN h1 (bOF _ (bOF _ (bOF _ (bOF _ (cN)))))
  exact_mod_cast h2
 have hepp:=xW;have hept:=aEU;have hd:=Xo (W:=2^w) aHQ (E:=4499426523925172771517493858555255287062168382591819938843852800) (bQW (by grind) aUV) (Pf (bQW (by grind) aUV) aOR) 100 x 2564 s c Ov aWH (by grind) (by grind) (by rw[n4];grind);generalize Ej (2^w) 100 s c=R at *;obtain⟨s',c'⟩:=R;dsimp only at h hd;obtain⟨k1,h⟩:=hZ h;obtain⟨k2,k3⟩:=hZ h;have k1:=bNP k1;have k2:=bNP k2;have nU:=hd.1;rw[n4]at nU;have aSJ:((2^100:Nat):Rat)=1267650600228229401496703205376:=by norm_cast
 rw[aSJ]at nU aWH;obtain⟨y,hy⟩:∃y:Rat,y=1267650600228229401496703205376*x:=⟨_,rfl⟩;rw[<-hy]at nU aWH;have aLT:0<=y:=by grind
 have bEL:=Kx (x:=y) (by rw[bS aLT];grind);have bDE:2*(s':Rat)*(s':Rat)<=((2^w:Nat):Rat)*((2^w:Nat):Rat)+((2^w:Nat):Rat)*((2^240:Nat):Rat):=by
  rw[bQS]at k1;exact_mod_cast k1
 have bDD:((2^w:Nat):Rat)*((2^w:Nat):Rat)<=2*(s':Rat)*(s':Rat)+((2^w:Nat):Rat)*((2^240:Nat):Rat):=by
  rw[bQS]at k2;exact_mod_cast k2
 have aSI:((2^240:Nat):Rat)=1766847064778384329583297500742918515827483896875618958121606201292619776:=by norm_cast
 have aSH:((2^250:Nat):Rat)=1809251394333065553493296640760748560207343510400633813116524750123642650624:=by norm_cast
 rw[aSI]at bDE bDD;rw[aSH];have Xf:ab (((2^w:Nat):Rat)*(p/2-2*y))<=10141204801825835211973625643008:=by
  have v1:((P/2^102:Nat):Rat)*((2^102:Nat):Rat)<=(P:Rat):=by exact_mod_cast aDM
  have v2:(P:Rat)<((P/2^102:Nat):Rat)*((2^102:Nat):Rat)+((2^102:Nat):Rat):=by exact_mod_cast aWJ
  have aYD:((2^102:Nat):Rat)=5070602400912917605986812821504:=by norm_cast
  rw[aYD]at v1 v2;exact aKC hx hy v1 v2 hp
 generalize ((2^w:Nat):Rat)=W at *;have Jb:(0:Rat)<=(s':Rat):=by exact_mod_cast bRU _
 generalize (s':Rat)=S at *;clear hd k1 k2 k3 ec es bDR aWK aLN Ov aAQ aDM aWJ bDO bLD hx n4 aSJ aSI aSH;have bKH:S<=W:=by
  refine Rat.not_lt.1 fun hn=>?_
  have:=cT (bQY hW) (bQY hn) (bQY hW) (bQY hn);have:=aH (bQY hW) (show 0<=W-1000000000000000000000000000000000000000000000000000000000000000000000000000000000000000000 by grind);grind
 have aMD:ab (W*cs (2*y))<=56539106072908298546665520023773392506479484700019806659891398441363832832:=by
  obtain⟨a,ha⟩:∃a,a=S-W*sn y:=⟨_,rfl⟩;rw[<-ha]at nU;have eS:W*sn y=S-a:=by grind
  have q1:=cT (aT S) (show ab S<=W by rwa [bS Jb]) (aT a) nU;have q2:=cT (aT a) nU (aT a) nU;rw[<-gQ]at q1 q2;have e2:W*(W*(1-2*(sn y*sn y)))=W*W-2*((S-a)*(S-a)):=by rw[<-eS];grind
  have w1:=aH (bQY hW) (bQY hW);rw[dY]at bEL q1 q2 ⊢;have w2:=aH w1 (show 0<=2*uE-(cs (2*y)-(1-2*(sn y*sn y))) by grind);have w3:=aH w1 (show 0<=2*uE+(cs (2*y)-(1-2*(sn y*sn y))) by grind);have w4:=aH (bQY hW) (show 0<=1/1048576-W*uE by grind);generalize cs (2*y)=C2 at *;generalize sn y=Sy at *;constructor
  ·refine dK hW ?_;grind
  ·refine dK hW ?_;grind
 have aMB:ab (p/2-2*y)<=1:=by
  have e3:ab (W*(p/2-2*y))=W*ab (p/2-2*y):=by rw[gQ,bS (bQY hW)]
  rw[e3]at Xf;refine dK hW ?_;grind
 have aNX:ab (2*y)<=4:=by rw[bS (by grind)];grind
 have aJQ:=Hq aNX (show ab (p/2-2*y)<=4 by grind);rw[show 2*y+(p/2-2*y)=p/2 by grind]at aJQ;have b1:=Sq aMB;have b2:=aMN (show ab (p/2-2*y)<=4 by grind);have b3:=aLE aNX;have m1:=cT (aT _) aMD (aT _) b2;have m2:=cT (aT _) b3 (aT _) b1;have m3:W*ab (p/2-2*y)<=10141204801825835211973625643008:=by
  rw[gQ,bS (bQY hW)]at Xf;exact Xf
 rw[<-gQ]at m1 m2;have m4:=aH (bQY hW) (show 0<=(1+uE)*ab (p/2-2*y)-ab (sn (2*y)*sn (p/2-2*y)) by grind);have m5:=aH (show 0<=1+uE by grind) (show 0<=10141204801825835211973625643008-W*ab (p/2-2*y) by grind);have l1:=Pz (sn (2*y)*sn (p/2-2*y));have l2:=tH (sn (2*y)*sn (p/2-2*y));have m6:=aH (bQY hW) (show 0<=ab (sn (2*y)*sn (p/2-2*y))-sn (2*y)*sn (p/2-2*y) by grind);have m7:=aH (bQY hW) (show 0<=ab (sn (2*y)*sn (p/2-2*y))+sn (2*y)*sn (p/2-2*y) by grind);rw[dY]at aJQ m1 ⊢;have m8:=aH (bQY hW) (show 0<=uE-(cs (p/2)-(cs (2*y)*cs (p/2-2*y)-sn (2*y)*sn (p/2-2*y))) by grind);have m9:=aH (bQY hW) (show 0<=uE+(cs (p/2)-(cs (2*y)*cs (p/2-2*y)-sn (2*y)*sn (p/2-2*y))) by grind);generalize cs (2*y)=C2 at *;generalize sn (2*y)*sn (p/2-2*y)=SS at *;generalize ab SS=aS at *;generalize cs (p/2-2*y)=Cd at *;generalize ab (p/2-2*y)=dd at *;generalize cs (p/2)=X at *;clear bEL nU bDE bDD bKH Xf aMB b1 b2 b3 aNX aMD;constructor <;> grind
theorem aEP{w:Nat}(hw:1000<=w)(aSX:w<=1000000)(h:aPN w=true):∃Q,Of w Q:=by
 unfold aPN at h;have h5:=Nu (n:=5) (by omega) w 122 122 (by omega);have aJR:=Nu (n:=239) (by omega) w 66 66 (by omega);have bBL:=Nu (n:=18) (by omega) w 92 92 (by omega);have bBI:=Nu (n:=57) (by omega) w 78 78 (by omega);generalize aAY 5 w 122 122=A at *;generalize aAY 239 w 66 66=B at *;generalize aAY 18 w 92 92=C at *;generalize aAY 57 w 78 78=D at *;obtain⟨t5,s5⟩:=A;obtain⟨t239,rH⟩:=B;obtain⟨t18,aHJ⟩:=C;obtain⟨t57,aHI⟩:=D;dsimp only at *;obtain⟨z5,h⟩:=hZ h;obtain⟨aXL,h⟩:=hZ h;obtain⟨bFW,h⟩:=hZ h;obtain⟨bFV,h⟩:=hZ h;rw[fG,fG]at h;obtain⟨g1,h⟩:=hZ h;obtain⟨g2,h⟩:=hZ h;rw[fG]at h;obtain⟨q1,h⟩:=hZ h;obtain⟨q2,h⟩:=hZ h;obtain⟨q3,h⟩:=hZ h;obtain⟨r1,h⟩:=hZ h;obtain⟨r2,aZA⟩:=hZ h;have g1:=bNP g1;have g2:=bNP g2;have q1:=bMF q1;have q2:=bMF q2;have q3:=bMF q3;have h5:=h5 (bMF z5);have aJR:=aJR (bMF aXL);have bBL:=bBL (bMF bFW);have bBI:=bBI (bMF bFV);have aRE:ab (((16*s5-4*rH:Nat):Rat)-((2^w:Nat):Rat)*pi)<=524288:=by
  have oY:4*rH<=16*s5:=by
   refine bQO fun hn=>?_
   rw[show 16*s5-4*rH=0 by omega]at q3;simp at q3
  have hc:((16*s5-4*rH:Nat):Rat)+4*(rH:Rat)=16*(s5:Rat):=by exact_mod_cast(show 16*s5-4*rH+4*rH=16*s5 by omega)
  have n1:((2*(122*122):Nat):Rat)=29768:=by norm_cast
  have n2:((2*(66*66):Nat):Rat)=8712:=by norm_cast
  rw[n1]at h5;rw[n2]at aJR;unfold pi;rw[dY]at *;generalize ((2^w:Nat):Rat)=W at *;grind
 have bBF:20*rH<=48*aHJ+32*aHI->ab (((48*aHJ+32*aHI-20*rH:Nat):Rat)-((2^w:Nat):Rat)*aXR)<=2097152:=by
  intro hle;have hc:((48*aHJ+32*aHI-20*rH:Nat):Rat)+20*(rH:Rat)=48*(aHJ:Rat)+32*(aHI:Rat):=by exact_mod_cast(show 48*aHJ+32*aHI-20*rH+20*rH=48*aHJ+32*aHI by omega)
  have n1:((2*(92*92):Nat):Rat)=16928:=by norm_cast
  have n3:((2*(78*78):Nat):Rat)=12168:=by norm_cast
  have n2:((2*(66*66):Nat):Rat)=8712:=by norm_cast
  rw[n1]at bBL;rw[n2]at aJR;rw[n3]at bBI;unfold aXR;rw[dY]at *;generalize ((2^w:Nat):Rat)=W at *;grind
 have hple:2^104<=16*s5-4*rH:=by
  refine bQO fun hn=>?_
  have:(16*s5-4*rH)/2^64<2^40:=bRL (by rw[<-bQS];exact hn);have h2:(16*s5-4*rH)/2^64/2^(w-104)<=(16*s5-4*rH)/2^64:=bUE _ _;omega
 have bBE:20*rH<=48*aHJ+32*aHI:=by omega
 have bBF:=bBF bBE;generalize hP:16*s5-4*rH=P at *;generalize 48*aHJ+32*aHI-20*rH=G at *;have aMM:=vG w (by omega);refine⟨P/2^64,?_,?_,?_,q3,We r1,We r2,?_⟩
 ·have:2^64*(P/2^64)<=P-2^40:=by
   have:=bWO (P-2^40) (2^64);rwa [q2]at this
  have h2:2^64*(P/2^64)+2^40<=P:=by omega
  have h3:((2^64:Nat):Rat)*((P/2^64:Nat):Rat)+((2^40:Nat):Rat)<=(P:Rat):=by exact_mod_cast h2
  rw[aMM,bSR,dY]at aRE;have n1:((2^64:Nat):Rat)=18446744073709551616:=by norm_cast
  have n2:((2^40:Nat):Rat)=1099511627776:=by norm_cast
  rw[n1]at aRE h3;rw[n2]at h3;refine dK (q:=18446744073709551616) (by grind) ?_;generalize ((2^(w-64):Nat):Rat)=W at *;grind
 ·have:P+2^40<2^64*(P/2^64+1):=by
   have:=bWY (P+2^40) (show 0<2^64 by omega);rwa [q1]at this
  have h3:(P:Rat)+((2^40:Nat):Rat)<((2^64:Nat):Rat)*(((P/2^64:Nat):Rat)+1):=by exact_mod_cast this
  rw[aMM,bSR,dY]at aRE;have n1:((2^64:Nat):Rat)=18446744073709551616:=by norm_cast
  have n2:((2^40:Nat):Rat)=1099511627776:=by norm_cast
  rw[n1]at aRE h3;rw[n2]at h3;refine oJ (q:=18446744073709551616) (by grind) ?_;generalize ((2^(w-64):Nat):Rat)=W at *;grind
 ·have c1:(P:Rat)<=(G:Rat)+((2^24:Nat):Rat):=by exact_mod_cast g1
  have c2:(G:Rat)<=(P:Rat)+((2^24:Nat):Rat):=by exact_mod_cast g2
  have n1:((2^24:Nat):Rat)=16777216:=by norm_cast
  rw[n1]at c1 c2;rw[dY]at *;generalize ((2^w:Nat):Rat)=W at *;grind
 ·refine aPI hw aSX ?_ aRE aZA;have h1:P/2^64/2^(w-104)<3454217652358:=by omega
  have h2:P/2^64<2^(w-104)*3454217652358:=(bWZ (cN)).1 h1 |> fun h=>by rwa [bQP]at h
  have h3:P<2^64*(2^(w-104)*3454217652358):=by
   have:=(bWZ (show 0<2^64 by omega)).1 h2;rwa [bQP]at this
  have e:2^(w-40)=2^64*2^(w-104):=by rw[<-bQS];congr 1;omega
  rw[e,bQP,bQU];exact h3
theorem bLI:aPN 136064=true:=by kernel_rfl
theorem Wj:∃w,w=136064/\∃Q,Of w Q:=⟨136064,rfl,aEP (by omega) (by omega) bLI⟩
def pw:Nat:=Classical.choose Wj
theorem aCO:pw=136064:=(Classical.choose_spec Wj).1
def pq:Nat:=Classical.choose (Classical.choose_spec Wj).2
theorem Gm:Of pw pq:=Classical.choose_spec (Classical.choose_spec Wj).2
theorem rJ:314159/100000<pi/\pi<314160/100000:=by
 have h:=Gm;have h1:=h.lo;have h2:=h.hi;have h3:=h.top;have e:2^(pw-64)=2^40*2^(pw-104):=by have:=aCO;rw[<-bQS];congr 1;omega
 have hp:0<2^(pw-104):=cN;have l1:=bWW pq (2^(pw-104));have l2:=bWX hp (a:=pq);rw[h3]at l1 l2;have bGY:(3454217652357:Rat)*((2^(pw-104):Nat):Rat)<=(pq:Rat):=by exact_mod_cast l1
 have bGX:(pq:Rat)+1<=(3454217652357:Rat)*((2^(pw-104):Nat):Rat)+((2^(pw-104):Nat):Rat):=by exact_mod_cast l2
 rw[e,bSR]at h1 h2;have n40:((2^40:Nat):Rat)=1099511627776:=by norm_cast
 rw[n40]at h1 h2;have hq:(0:Rat)<((2^(pw-104):Nat):Rat):=by exact_mod_cast hp
 generalize ((2^(pw-104):Nat):Rat)=W at *;generalize (pq:Rat)=Q at *;clear h h3 e hp l1 l2 n40;constructor
 ·refine oJ hq ?_;grind
 ·refine oJ hq ?_;grind
def rs(k:Int)(s c:Rat):Rat:=if k%4=0 then s else if k%4=1 then c else if k%4=2 then -s else -c
def rc(k:Int)(s c:Rat):Rat:=if k%4=0 then c else if k%4=1 then -s else if k%4=2 then -c else s
def Sf(x:Rat)(k:Int):Rat:=rs k (sn (x-(k:Rat)*(pi/2))) (cs (x-(k:Rat)*(pi/2)))
def Cf(x:Rat)(k:Int):Rat:=rc k (sn (x-(k:Rat)*(pi/2))) (cs (x-(k:Rat)*(pi/2)))
end R
namespace R
def pF(q:Nat):Nat:=pq/2^(pw-64-q)
theorem Zm{x:Rat}{Q m:Nat}(h1:(Q:Rat)<=((2^m:Nat):Rat)*x)(h2:((2^m:Nat):Rat)*x<(Q:Rat)+1):((Q/2^m:Nat):Rat)<=x/\x<((Q/2^m:Nat):Rat)+1:=by
 have hp:0<2^m:=cN;obtain⟨d1,d2⟩:=uN Q hp;have hq:(0:Rat)<((2^m:Nat):Rat):=by exact_mod_cast hp
 have hs:(Q:Rat)+1<=((2^m:Nat):Rat)*((Q/2^m:Nat):Rat)+((2^m:Nat):Rat):=by
  have:=bWY Q hp;exact_mod_cast(show Q+1<=2^m*(Q/2^m)+2^m by rw[bQR,bMB]at this;omega)
 constructor
 ·exact dK hq (by grind)
 ·exact oJ hq (by grind)
theorem Gp{q:Nat}(hq:q<=136000):(pF q:Rat)<=((2^q:Nat):Rat)*pi/\((2^q:Nat):Rat)*pi<(pF q:Rat)+1:=by
 have h:=Gm;have h1:=h.lo;have h2:=h.hi;have hw:=aCO;have e:2^(pw-64)=2^(pw-64-q)*2^q:=by rw[<-bQS];congr 1;omega
 rw[e,bSR,bXA]at h1 h2;exact Zm h1 h2
theorem aNN{q:Nat}(hq:q+24<=136000):16777216*(pF q:Rat)+1<=((2^(q+24):Nat):Rat)*pi/\((2^(q+24):Nat):Rat)*pi<16777216*(pF q:Rat)+16777215:=by
 obtain⟨h1,h2⟩:=Gp hq;have hw:=aCO;have e:pF q=pF (q+24)/2^24:=by
  unfold pF;rw[bRI,<-bQS];congr 2;omega
 have aZO:pF (q+24)%2^24≠2^24-1:=Ko Gm.aXU _;have hx:pq<2^(pw-62):=by
  have h3:=Gm.top;have hp:0<2^(pw-104):=cN;have l2:=bWX hp (a:=pq);rw[h3]at l2;have e:2^(pw-62)=4398046511104*2^(pw-104):=by
   rw[show 4398046511104=2^42 from rfl,<-bQS];congr 1;omega
  omega
 have aAS:pF (q+24)%2^24≠0:=Zx hx (by omega) (Ko Gm.aIX _);have hd:=bQX (pF (q+24)) (2^24);rw[<-e]at hd;have l1:16777216*pF q+1<=pF (q+24):=by omega
 have aTW:=bNZ (pF (q+24)) (show 0<2^24 by omega);have l2:pF (q+24)+1<=16777216*pF q+16777215:=by omega
 have bGY:(16777216:Rat)*(pF q:Rat)+1<=(pF (q+24):Rat):=by exact_mod_cast l1
 have bGX:(pF (q+24):Rat)+1<=(16777216:Rat)*(pF q:Rat)+16777215:=by exact_mod_cast l2
 grind
theorem aSC{q g X off:Nat}(hq:q+24<=136000)(hg:24<=g)(aZJ:2*off<=2^(g-24))(hX:ab ((X:Rat)-((2^(q+g):Nat):Rat)*pi)<=(off:Rat)):off<=X/\(X-off)/2^g=pF q/\(X+off)/2^g=pF q:=by
 obtain⟨h1,h2⟩:=aNN hq;have e:2^(q+g)=2^(g-24)*2^(q+24):=by rw[<-bQS];congr 1;omega
 have eg:2^g=2^(g-24)*16777216:=by rw[show 16777216=2^24 from rfl,<-bQS];congr 1;omega
 rw[e,bSR,bXA,dY]at hX;have hG:(0:Rat)<=((2^(g-24):Nat):Rat):=by exact_mod_cast bRU _
 have ho:(2:Rat)*(off:Rat)<=((2^(g-24):Nat):Rat):=by exact_mod_cast aZJ
 have m1:=aH hG (show 0<=((2^(q+24):Nat):Rat)*pi-(16777216*(pF q:Rat)+1) by grind);have bKM:(0:Rat)<((2^(g-24):Nat):Rat):=by exact_mod_cast cN
 have m2:=bRK bKM (show 0<16777216*(pF q:Rat)+16777215-((2^(q+24):Nat):Rat)*pi by grind);have r1:2^(g-24)*16777216*pF q+off<=X:=by
  have:((2^(g-24):Nat):Rat)*16777216*(pF q:Rat)+(off:Rat)<=(X:Rat):=by grind
  exact_mod_cast this
 have r2:X+off<2^(g-24)*16777216*(pF q+1):=by
  have:(X:Rat)+(off:Rat)<((2^(g-24):Nat):Rat)*16777216*((pF q:Rat)+1):=by grind
  exact_mod_cast this
 rw[eg];generalize 2^(g-24)*16777216=B at *;refine⟨by omega,?_,?_⟩
 ·refine bWP ?_ ?_
  ·rw[bQP];omega
  ·rw[bQP];omega
 ·refine bWP ?_ ?_
  ·rw[bQP];omega
  ·rw[bQP];omega
theorem Vt{u W:Nat}(h:2*u<=W)(hW:0<W):∀k,sq u W k*2^k<=W
 |0=>by simp[sq]
 |k+1=>by
  have ih:=Vt h hW k;have h1:sq u W (k+1)<=sq u W k/2:=by
   rw[sq];refine bMN (bUE _ _) ?_;rw[bXL (by omega)];have h2:=bWW (sq u W k*u) W;have h3:sq u W k*u*2<=sq u W k*W:=by
    rw[bQU];exact bOF _ (by omega)
   generalize sq u W k*u/W=z at *;have h4:z*2*W<=sq u W k*W:=by
    rw[bWQ];omega
   exact Nat.le_of_mul_le_mul_right h4 hW
  have h2:sq u W (k+1)*2<=sq u W k:=by omega
  rw[bQQ,bQP (2^k) 2,<-bQU];exact bMN (bNE _ h2) ih
theorem Vs{u w:Nat}(h:2*u<=2^w):sq u (2^w) (w+1)=0:=by
 have h1:=Vt h (cN) (w+1);refine Nat.eq_zero_of_not_pos fun hp=>?_
 have:1*2^(w+1)<=sq u (2^w) (w+1)*2^(w+1):=bNE _ hp;rw[bQQ]at this h1;have:=bOQ (n:=w) (show 0<2 by omega);omega
theorem Pd{u W m:Nat}(h:sq u W m=0):∀k,sq u W (m+k)=0
 |0=>h
 |k+1=>by rw[<-bPH,sq,Pd h k];simp
theorem Hm(h:Nat):4^h=2^(2*h):=by rw[bSJ]
theorem aKL{T:Rat}(hT0:0<=T)(bKG:T<=1){w1 h u s0 c0:Nat}(aDM:(u:Rat)<=((2^w1:Nat):Rat)*T)(aWJ:((2^w1:Nat):Rat)*T<(u:Rat)+1)(hh:1<=h)(hw:w1+h<=1000000)(bDK:4*h+50<=w1+h)
  (Jb:(s0:Rat)=sum (fun k=>ss k*(sq u (2^(w1+h)) k:Rat)) (w1+h+1)) (aWX:(c0:Rat)=sum (fun k=>cc k*(sq u (2^(w1+h)) k:Rat)) (w1+h+1)) :
  ab (((Ej (2^(w1+h)) h s0 c0).1:Rat)-((2^(w1+h):Nat):Rat)*sn T)<=((4^h*(2*(w1+h)+10):Nat):Rat)/\ab (((Ej (2^(w1+h)) h s0 c0).2:Rat)-((2^(w1+h):Nat):Rat)*cs T)<=((4^h*(2*(w1+h)+10):Nat):Rat):=by
 have aHQ:0<2^(w1+h):=cN;have aUY:(0:Rat)<((2^w1:Nat):Rat):=by exact_mod_cast cN
 have eW:((2^(w1+h):Nat):Rat)=((2^w1:Nat):Rat)*((2^h:Nat):Rat):=by rw[bQS,bSR]
 have g2:=Gl 2 h (by omega);have g2':(2:Rat)<=((2^h:Nat):Rat):=by
  exact_mod_cast(show 2<=2^h from bOR (n:=2) (by omega) hh)
 have aYV:u<=2^w1:=by
  have:=aH (bQY aUY) (show 0<=1-T by grind);have:(u:Rat)<=((2^w1:Nat):Rat):=by grind
  exact_mod_cast this
 have aYX:2*u<=2^(w1+h):=by
  have e:2^(w1+h)=2^w1*2^h:=bQS _ _ _;have:2^w1*2<=2^w1*2^h:=bOF _ (bOR (n:=2) (by omega) hh);omega
 obtain⟨x,hx,Ov⟩:=Wq (u:=u) aHQ;have bHF:((2^h:Nat):Rat)*x*((2^w1:Nat):Rat)=(u:Rat):=by rw[eW]at hx;grind
 have aSV:((2^h:Nat):Rat)*x<=1:=by
  have:(u:Rat)<=((2^w1:Nat):Rat):=by exact_mod_cast aYV
  refine dK aUY ?_;grind
 have aAQ:x<=1/2:=by
  have:=aH (show 0<=((2^h:Nat):Rat)-2 by grind) Ov;grind
 have hz:=Vs aYX;have ec:=aBT aHQ hx Ov aAQ (n:=w1+h+1) (by omega) (by omega) hz;have es:=aBS aHQ hx Ov aAQ (n:=w1+h+1) (by omega) (by omega) hz;rw[<-aWX]at ec;rw[<-Jb]at es;have hn:((w1+h+1:Nat):Rat)=((w1+h:Nat):Rat)+1:=by norm_cast
 have Xb:((w1+h:Nat):Rat)<=1000000:=by exact_mod_cast hw
 have Ef:(0:Rat)<=((w1+h:Nat):Rat):=by exact_mod_cast bRU _
 rw[hn]at ec es;have aOR:=Xn (w:=w1+h) (by omega);have e4:((4^h*(2*(w1+h)+10):Nat):Rat)=((4^h:Nat):Rat)*(2*((w1+h:Nat):Rat)+10):=by
  rw[bSR];congr 1;push_cast;grind
 have aEG:((4^h:Nat):Rat)*((4^h:Nat):Rat)*1125899906842624<=((2^(w1+h):Nat):Rat):=by
  have:4^h*4^h*2^50<=2^(w1+h):=by
   rw[Hm,<-bQS,<-bQS];exact fD
  have bGT:(2^50:Nat)=1125899906842624:=by rfl
  rw[bGT]at this;exact_mod_cast this
 have g4:=Gl 4 h (by omega);have g42:((2^h:Nat):Rat)<=((4^h:Nat):Rat):=by exact_mod_cast Nat.pow_le_pow_left (show 2<=4 by omega) h
 have hq4:=aH (show 0<=((4^h:Nat):Rat) by grind) (show 0<=((4^h:Nat):Rat)-1 by grind);have hE:((4^h:Nat):Rat)*(2*((w1+h:Nat):Rat)+8)<=((4^h:Nat):Rat)*2097152:=by
  have:=aH (show 0<=((4^h:Nat):Rat) by grind) (show 0<=2097152-(2*((w1+h:Nat):Rat)+8) by grind);grind
 have bEX:0<=((4^h:Nat):Rat)*(2*((w1+h:Nat):Rat)+8):=aH (by grind) (by grind);have vK:100*(((4^h:Nat):Rat)*(2*((w1+h:Nat):Rat)+8)*(((4^h:Nat):Rat)*(2*((w1+h:Nat):Rat)+8)))<=((2^(w1+h):Nat):Rat):=by
  refine bQW ?_ aEG;have:=cT bEX hE bEX hE;grind
 have aJP:((4^h:Nat):Rat)*(2*((w1+h:Nat):Rat)+8)<=((2^(w1+h):Nat):Rat):=by
  refine bQW (bQW hE ?_) aEG;grind
 have hd:=Xo (W:=2^(w1+h)) aHQ vK (Pf aJP aOR) h x (2*((w1+h:Nat):Rat)+6) s0 c0 Ov aSV (bQW es (by grind)) (bQW ec (by grind)) (by grind);have hT:ab T<=1:=by rw[bS hT0];exact bKG
 have hX:ab (((2^h:Nat):Rat)*x)<=1:=by rw[bS (aH (by grind) Ov)];exact aSV
 have l1:=Vv hX hT;have l2:=aFM hX hT;have hd0:0<=T-((2^h:Nat):Rat)*x:=by
  have:((2^w1:Nat):Rat)*(((2^h:Nat):Rat)*x)<=((2^w1:Nat):Rat)*T:=by grind
  have:=dK aUY this;grind
 have aWW:((2^(w1+h):Nat):Rat)*(T-((2^h:Nat):Rat)*x)<=((2^h:Nat):Rat):=by
  rw[eW];have:((2^w1:Nat):Rat)*(T-((2^h:Nat):Rat)*x)<=1:=by grind
  have:=aH (show 0<=((2^h:Nat):Rat) by grind) (show 0<=1-((2^w1:Nat):Rat)*(T-((2^h:Nat):Rat)*x) by grind);grind
 rw[bS hd0]at l1 l2;have hW:(0:Rat)<=((2^(w1+h):Nat):Rat):=by exact_mod_cast bRU _
 obtain⟨r1,r2⟩:=hd;rw[e4];clear aDM aWJ vK aJP aEG bHF hx eW ec es Jb aWX hz;generalize ((2^(w1+h):Nat):Rat)=W at *;generalize ((w1+h:Nat):Rat)=wr at *;generalize ((4^h:Nat):Rat)=F at *;generalize ((2^h:Nat):Rat)*x=y at *;generalize ((2^h:Nat):Rat)=H at *;rw[dY]at l1 l2 r1 r2;have m1:=aH hW (show 0<=2*(T-y)-(sn T-sn y) by grind);have m2:=aH hW (show 0<=2*(T-y)+(sn T-sn y) by grind);have m3:=aH hW (show 0<=(T-y+2*uE)-(cs T-cs y) by grind);have m4:=aH hW (show 0<=(T-y+2*uE)+(cs T-cs y) by grind);rw[dY,dY];refine⟨⟨?_,?_⟩,?_,?_⟩ <;> grind
end R
namespace R
def pz(e:Int):Rat:=if 0<=e then((2^e.toNat:Nat):Rat)else hf (-e).toNat
theorem oA(k:Nat):pz (k:Int)=((2^k:Nat):Rat):=by unfold pz;rw[aU,bPN]
theorem yY(k:Nat):pz (-(k:Int))=hf k:=by
 unfold pz
 by_cases h:k=0
 ·subst h;simp[hf]
 ·rw[aY,Int.neg_neg,bPN]
theorem fB:pz 0=1:=by rw[show(0:Int)=((0:Nat):Int)from rfl,oA];norm_cast
theorem dT(e:Int):0<pz e:=by
 unfold pz;split
 ·exact_mod_cast cN
 ·exact wS _
theorem hI(e:Int):pz (e+1)=2*pz e:=by
 by_cases h:0<=e
 ·obtain⟨k,rfl⟩:=bQT h;rw[show(k:Int)+1=((k+1:Nat):Int) by omega,oA,oA,Fa]
 ·obtain⟨k,hk⟩:=bQT (show 0<=-e by omega);have e1:e=-(k:Int):=by omega
  subst e1;obtain⟨j,rfl⟩:∃j,k=j+1:=⟨k-1,by omega⟩;rw[show -((j+1:Nat):Int)+1=-(j:Int) by omega,yY,yY,hf];grind
theorem dU(a:Int):∀k:Nat,pz (a+k)=pz a*((2^k:Nat):Rat)
 |0=>by rw[show a+((0:Nat):Int)=a by omega,bVS];grind
 |k+1=>by
  rw[show a+((k+1:Nat):Int)=(a+k)+1 by omega,hI,dU a k,Fa];grind
theorem kB(a b:Int):pz (a+b)=pz a*pz b:=by
 by_cases h:0<=b
 ·obtain⟨k,rfl⟩:=bQT h;rw[dU,oA]
 ·obtain⟨k,hk⟩:=bQT (show 0<=-b by omega);have h1:=dU (a+b) k;rw[show a+b+(k:Int)=a by omega]at h1;have e1:b=-(k:Int):=by omega
  have h2:=Ts k;rw[show pz b=hf k by rw[e1,yY],h1];rw[bXA,Rat.mul_comm ((2^k:Nat):Rat),h2];grind
theorem dO{a b:Int}(h:a<=b):pz a<=pz b:=by
 obtain⟨k,hk⟩:=bQT (show 0<=b-a by omega);rw[show b=a+(k:Int) by omega,dU];have h1:=dT a;have:=aH (bQY h1) (show 0<=((2^k:Nat):Rat)-1 by have:=Gl 2 k (by omega);grind);grind
theorem aCN(e:Int):pz e*pz (-e)=1:=by rw[<-kB,Int.add_right_neg,fB]
def qz(p:Int×Int):Rat:=(p.1:Rat)*pz p.2
theorem lP{p:Int×Int}(h:p.1=0):qz p=0:=by
 unfold qz;rw[h];have:((0:Int):Rat)=0:=by norm_cast
 rw[this];grind
theorem Pm{p q:Int×Int}{g:Int}(hp:g<=p.2)(hq:g<=q.2):qz p<=qz q↔p.1*((2^(p.2-g).toNat:Nat):Int)<=q.1*((2^(q.2-g).toNat:Nat):Int):=by
 unfold qz;have e1:pz p.2=pz g*((2^(p.2-g).toNat:Nat):Rat):=by
  rw[<-dU];congr 1;omega
 have e2:pz q.2=pz g*((2^(q.2-g).toNat:Nat):Rat):=by
  rw[<-dU];congr 1;omega
 have hg:=dT g;have c1:((p.1*((2^(p.2-g).toNat:Nat):Int):Int):Rat)=(p.1:Rat)*((2^(p.2-g).toNat:Nat):Rat):=by push_cast;rfl
 have c2:((q.1*((2^(q.2-g).toNat:Nat):Int):Int):Rat)=(q.1:Rat)*((2^(q.2-g).toNat:Nat):Rat):=by push_cast;rfl
 rw[<-Rat.intCast_le_intCast,c1,c2,e1,e2];generalize ((2^(p.2-g).toNat:Nat):Rat)=x;generalize ((2^(q.2-g).toNat:Nat):Rat)=y;constructor
 ·intro h;exact dK hg (by grind)
 ·intro h;have:=aH (bQY hg) (show 0<=(q.1:Rat)*y-(p.1:Rat)*x by grind);grind
end R
namespace M
open Go AI W
def cR(p q:Int×Int):Int:=lG (bJ.lK p q) (bJ.lI p q)
def bC(p:Int×Int):Int:=p.2+(bl p.1.natAbs:Nat)-1
abbrev rY:=Bool×List Int×Int×Bool×List Int×Int
def gN(s:rY):dR:=(s.1,s.2.1,s.2.2.1)
def gO(s:rY):dR:=(s.2.2.2.1,s.2.2.2.2.1,s.2.2.2.2.2)
def eG(s:rY):Prop:=aL (gN s)/\aL (gO s)/\cR (dv (gN s)) (dv (gO s))<=0
def yE(a b:Int×Int):D:=.agg [.sc (.bool (isNeg a.1)),.ints .u64 (M6.dg a.1.natAbs),.sc (.int .i64 a.2),.sc (.bool (isNeg b.1)),.ints .u64 (M6.dg b.1.natAbs),.sc (.int .i64 b.2)]
def mD(a b:Int×Int):rY:=(isNeg a.1,M6.dg a.1.natAbs,a.2,isNeg b.1,M6.dg b.1.natAbs,b.2)
theorem qB(a b:Int×Int):dv (gN (mD a b))=a:=cU a
theorem qC(a b:Int×Int):dv (gO (mD a b))=b:=cU b
theorem uG{a b:Int×Int}(ha:iL a)(hb:iL b)(h:cR a b<=0):eG (mD a b):=by
 refine⟨cF ha,cF hb,?_⟩;rw[qB,qC];exact h
theorem eG.yE{s:rY}(h:eG s):M.yE (dv (gN s)) (dv (gO s))=.agg [.sc (.bool s.1),.ints .u64 s.2.1,.sc (.int .i64 s.2.2.1),.sc (.bool s.2.2.2.1),.ints .u64 s.2.2.2.2.1,.sc (.int .i64 s.2.2.2.2.2)]:=by
 have h1:=h.1.Dh.cells;have h2:=h.2.1.Dh.cells;unfold M.yE;have e1:(dv (gN s)).1=wv ((gN s).1,(gN s).2.1):=rfl;have e2:(dv (gO s)).1=wv ((gO s).1,(gO s).2.1):=rfl;rw[e1,e2,h1.1,h1.2,h2.1,h2.2];rfl
theorem aKG{a b:Int}:lG a b<=0↔a<=b:=by unfold lG;split <;> (try split) <;> omega
theorem aKH{a b:Int}:lG a b=0↔a=b:=by unfold lG;split <;> (try split) <;> omega
theorem Fm(p q:Int×Int):bJ.fH p q<=p.2/\bJ.fH p q<=q.2:=Mn
theorem kY{p q:Int×Int}:cR p q<=0↔R.qz p<=R.qz q:=by
 obtain⟨h1,h2⟩:=Fm p q;unfold cR;rw[aKG,R.Pm h1 h2];rfl
theorem sL{p q:Int×Int}:0<cR p q↔R.qz q<R.qz p:=by
 have:=kY (p:=p) (q:=q);constructor
 ·intro h;refine Rat.not_le.1 fun hn=>?_;have:=this.2 hn;omega
 ·intro h;refine Int.not_le.1 fun hn=>?_;exact Rat.not_lt.2 (this.1 hn) h
theorem La(p:Int×Int):cR p p<=0:=kY.2 bSF
theorem mF(z e:Int):R.qz (aK z e)=(z:Rat)*R.pz e:=by
 by_cases hz:z=0
 ·subst hz;rw[cZ,R.lP rfl];have:((0:Int):Rat)=0:=by norm_cast
  rw[this];grind
 ·obtain⟨h1,h2⟩:=jG (e:=e) hz;unfold R.qz;rw[h2]
  conv=>rhs;rw[h1]
  rw[Cb,R.dU,bWL,bWJ];grind
theorem mQ(p:Int×Int):R.qz (-p.1,p.2)=- R.qz p:=by
 unfold R.qz;rw[bWR];grind
theorem Sz(p q:Int×Int):R.qz (bJ.mL p q)=R.qz p+R.qz q:=by
 unfold bJ.mL;split
 ·rename_i h;rw[R.lP h];grind
 ·split
  ·rename_i h;rw[R.lP h];grind
  ·obtain⟨h1,h2⟩:=Fm p q;rw[mF];unfold bJ.lK bJ.lI R.qz;have e1:R.pz p.2=R.pz (bJ.fH p q)*((2^(p.2-bJ.fH p q).toNat:Nat):Rat):=by rw[<-R.dU];congr 1;omega
   have e2:R.pz q.2=R.pz (bJ.fH p q)*((2^(q.2-bJ.fH p q).toNat:Nat):Rat):=by rw[<-R.dU];congr 1;omega
   rw[e1,e2,bXM,bWL,bWL,bWJ,bWJ];grind
end M
open Go.Value(int bool slice)
open AI.S(sc ints)
namespace W
open Go AI M
namespace aAG
def E:=mE [] 24 [] [(3,[0,1])] [3]
def aE:=bd f189
theorem aW:Nk E aE:=nk
def J3 a b:=kV E f189 aE 3 [fW a,bI b]
theorem start a b:aF E f189 aE [D.s (ints u64 a),D.s (sc (int i64 b))]=letI A:=some [D.s (sc (bool false))];aB (decide (b<0)) A (aB (decide ((a.length:Int)<=i64.wrap (b.tdiv 64))) A (aAG.J3 a b)):=eJ aW
theorem gH a b:J3 a b=letI A:=b.tdiv 64;if 0<=i64.wrap A/\i64.wrap A<(a.length:Int)then if b.tmod 64<(0:Int)then none else some [D.s (sc (bool (dX BinOp.and u64 (a.getD (i64.wrap A).toNat 0/(↑((2:Nat)^min (b.tmod 64).toNat 64):Int)) 1==(1:Int))))]else none:=cJ aW
def sp(a:List Int)(i:Int):Prop×List D:=(M6.cA a/\a.length<=1099511627776/\-9223372036854775808<=i/\i<9223372036854775808,[.s (.sc (.bool (decide (0<=i)&&decide (M6.val a/2^i.toNat%2=1))))])
theorem Fl{x:Int}(h:0<=x)(h':x<18446744073709551616):dX .and .u64 x 1=x%2:=by
 rw[Ro h h' (by omega) (by omega)];have:x.toNat &&& 1=x.toNat%2:=Nat.and_one_is_mod _;show((x.toNat &&& 1:Nat):Int)=_;rw[this];omega
theorem spec:fK E f189 aE (pI .u64) (pN .i64) sp:=by
 rintro a i ⟨ha,hl,h1,h2⟩;refine(start a i).trans ?_;show _=some [D.s (.sc (.bool (decide (0<=i)&&decide (M6.val a/2^i.toNat%2=1))))]
 by_cases hn:i<0
 ·rw[aO hn,decide_eq_false (show ¬0<=i by omega),bRA]
 ·have t1:i.tdiv 64=i/64:=bTG (by omega);have t2:i.tmod 64=i%64:=bTH (by omega);have e1:(i/64).toNat=i.toNat/64:=by omega
  have e2:(i%64).toNat=i.toNat%64:=by omega
  have ps:2^i.toNat=18446744073709551616^(i.toNat/64)*2^(i.toNat%64):=by
   rw[show(18446744073709551616:Nat)=2^64 from rfl,<-bSJ,<-bQS];congr 1;omega
  rw[aI hn,decide_eq_true (show 0<=i by omega),bOS,t1,wrap_i64 (n:=i/64),ps,<-bRI]
  by_cases hz:(a.length:Int)<=i/64
  ·have hv:M6.val a/18446744073709551616^(i.toNat/64)=0:=by
    apply bRO;exact bMR (M6.cK ha) (fD)
   rw[aO hz,hv,Nat.zero_div];rfl
  ·have g:=ha.get (i.toNat/64);have hv:=M6.fX a (n:=i.toNat/64) (by omega);have hq:M6.val a/18446744073709551616^(i.toNat/64)=M6.val (a.drop (i.toNat/64)):=by
    rw[hv,bSH _ _ (cN),bRO (M6.gJ ha _),bLT]
   rw[aI hz,gH,t1,t2,wrap_i64 (n:=i/64),aU,aY,e1,e2,hq,M6.fM];have em:min (i.toNat%64) 64=i.toNat%64:=by omega
   have iN:i.toNat%64<64:=bNZ _ (by omega);rw[em];generalize i.toNat%64=k at *;generalize a.getD (i.toNat/64) 0=x at *;generalize M6.val (a.drop (i.toNat/64+1))=r at *;have hp:0<2^k:=cN;have e3:(x.toNat+18446744073709551616*r)/2^k%2=x.toNat/2^k%2:=by
    have:18446744073709551616*r=2^k*(2*(2^(63-k)*r)):=by
     rw[show(18446744073709551616:Nat)=2^64 from rfl,show 64=k+(1+(63-k))from by omega,bQS,bQS,bQU,bQU]
    rw[this,bSH _ _ hp];omega
   rw[e3];have ex:x/((2^k:Nat):Int)=((x.toNat/2^k:Nat):Int):=by
    obtain⟨n,rfl⟩:=bQT g.1;rw[<-bRH];rfl
   have hle:x.toNat/2^k<=x.toNat:=bUE _ _;rw[ex];clear ex e3 hq hv ps;generalize x.toNat/2^k=q at *;rw[Fl (by omega) (by omega)];congr 4
   by_cases h:q%2=1
   ·rw[decide_eq_true h];have:((q:Int)%2)=1:=by omega
    rw[this];rfl
   ·rw[decide_eq_false h];have:((q:Int)%2)=0:=by omega
    rw[this];rfl
def aG:cX:=orc2 (pI .u64) (pN .i64) sp
theorem ok:OK 189 aG:=(eB E aE aD func189).lE rfl spec
end aAG
namespace mW
def E:=mE [] 34 [] [] []
def aE:=bd f225
theorem aW:Nk E aE:=nk
theorem start a b c d e:aF E f225 aE [D.s (sc (int i64 a)),D.s (sc (bool b)),D.s (sc (bool c)),D.s (sc (bool d)),D.s (sc (int i64 e))]=letI B:=some [D.s (sc (bool d))];letI A:=some [D.s (sc (bool false))];aB (a==0) (aB b B A) (aB (a==1) (aB (!b) B A) (aB (decide (0<e)) (some [D.s (sc (bool true))]) (aB (e==0) (some [D.s (sc (bool c))]) A))):=eJ aW
def mT(w:Int)(neg aWE rest:Bool)(half:Int):Bool:=bif w==0 then neg&&rest else bif w==1 then !neg&&rest else(decide (0<half)||(half==0&&aWE))
def sp(a:Int)(b c d:Bool)(e:Int):Prop×List D:=(True,[.s (.sc (.bool (mT a b c d e)))])
theorem spec(a:Int)(b c d:Bool)(e:Int)(h:(sp a b c d e).1):aF E f225 aE [(pN .i64).put a,pB.put b,pB.put c,pB.put d,(pN .i64).put e]=some (sp a b c d e).2:=by
 refine(start a b c d e).trans ?_;show _=some [D.s (.sc (.bool (mT a b c d e)))];unfold mT aB;cases (a==0) <;> cases (a==1) <;> cases b <;> cases c <;> cases d <;> cases (decide (0<e)) <;> cases (e==0) <;> rfl
def aG:cX:=orc5 (pN .i64) pB pB pB (pN .i64) sp
theorem ok:OK 225 aG:=(eB E aE aD func225).aXX rfl spec
end mW
namespace mM
def E:=mE [] 7 [] [] []
def aE:=bd f95
theorem aW:Nk E aE:=nk
theorem start a:aF E f95 aE [D.s (sc (int u64 a))]=aB (a==0) (some [D.s (sc (slice none 0 0))]) (some [D.own 22 u64 [a]]):=eJ aW
def sp(w:Int):Prop×List D:=(0<=w/\w<18446744073709551616,[.s (.ints .u64 (M6.dg w.toNat))])
theorem spec:aGG E f95 aE (pN .u64) sp:=by
 intro w h;have e:=start w;obtain⟨h1,h2⟩:=h;unfold sp;simp only
 by_cases hz:w=0
 ·rw[cC hz]at e;subst hz;rw[show(0:Int).toNat=0 from rfl,M6.bQ];exact⟨_,e,.cons (vV.nil _) .nil⟩
 ·rw[bP hz]at e;have:M6.dg w.toNat=[w]:=by
   rw[M6.mR (by omega),bWG (by omega),bRO (by omega),M6.bQ];congr 1;omega
  rw[this];exact⟨_,e,.cons (vV.own _ _ _) .nil⟩
def aG:cX:=orc1 (pN .u64) sp
theorem ok:OK 95 aG:=(eB E aE aD func95).aRQ rfl spec
end mM
namespace aGQ
def E:=mE [(189,aAG.aG),(225,mW.aG),(99,xJ.aG),(95,mM.aG),(100,qT.aG)] 39 [24,36] [] []
def aE:=bd f190
theorem aW:Nk E aE:=nk
theorem start a b c d e:aF E f190 aE [D.s (sc (int i64 a)),D.s (sc (bool b)),D.s (ints u64 c),D.s (sc (bool d)),D.s (sc (int i64 e))]=letI C:=M6.val c+M6.val (M6.dg 1);letI B:=bif bZ.kU C then(0:Int)else(5:Int);letI A:=bif bZ.kU C then M6.dg C else [];letI F:=bif B==0 then zs b (M6.val A)else(0:Int);aP (M6.cA c/\c.length<=1099511627776/\(-9223372036854775808:Int)<=(0:Int)/\(0:Int)<(9223372036854775808:Int)) (aP True (aB (!mW.mT a b (true&&decide (M6.val c/1%(2:Nat)=(1:Nat))) d e) (aP (M6.cD c/\c.length<=1099511627776) (some [D.agg [sc (bool (isNeg (zs b (M6.val c)))),ints u64 (M6.dg (zs b (M6.val c)).natAbs)],D.s (sc (int i64 0))])) (aP ((0:Int)<=(1:Int)/\(1:Int)<(18446744073709551616:Int)) (aP (M6.cD c/\M6.cD (M6.dg 1)/\c.length<=8192/\(M6.dg 1).length<=8192) (aP (M6.cD A/\A.length<=1099511627776) (some [D.agg [sc (bool (isNeg F)),ints u64 (M6.dg F.natAbs)],D.s (sc (int i64 B))])))))):=eJ aW
def sp(w:Int)(neg:Bool)(q:List Int)(rest:Bool)(half:Int):Prop×List D:=(M6.cD q/\q.length<=8192,
 wE (fit (M6.val q+bif mW.mT w neg (decide (M6.val q%2=1)) rest half then 1 else 0)) (zs neg (M6.val q+bif mW.mT w neg (decide (M6.val q%2=1)) rest half then 1 else 0)))
theorem spec(w:Int)(neg:Bool)(q:List Int)(rest:Bool)(half:Int)(h:(sp w neg q rest half).1):aF E f190 aE [(pN .i64).put w,pB.put neg,(pI .u64).put q,pB.put rest,(pN .i64).put half]=some (sp w neg q rest half).2:=by
 obtain⟨h1,h2⟩:=h;have hb:=uX h1.iP h2;refine(start w neg q rest half).trans ?_;unfold sp
 try dsimp only
 rw[gP ⟨h1.iP,by omega,by omega,by omega⟩,gP trivial,bXB,bOS];cases hm:mW.mT w neg (decide (M6.val q%2=1)) rest half with
 |false =>
  have hf:fit (M6.val q+0)=true:=decide_eq_true (by rw[bMS];omega);rw[bXN,bT,gP ⟨h1,by omega⟩,cond_false,hf];rfl
 |true =>
  have o1:=eQ (n:=1) (k:=1) (dP.2 (by omega));rw[bNR,bF,gP ⟨by omega,by omega⟩,gP ⟨h1,M6.aX _,h2,by omega⟩,M6.bN,gP (Ff (fun h=>by rw[show bZ.kU _=_ from xU]at h;exact wV h)),Eo,show bZ.kU _=_ from xU,cond_true]
def aG:cX:=orc5 (pN .i64) pB (pI .u64) pB (pN .i64) sp
theorem ok:OK 190 aG:=(eB E aE (aA aAG.ok (aA mW.ok (aA xJ.ok (aA mM.ok (aA qT.ok aD))))) func190).aXX rfl spec
end aGQ
namespace lY
def E:=mE [(96,gG.aG),(104,Bi.aG),(103,zN.aG),(189,aAG.aG),(190,aGQ.aG)] 61 [23,58] [(9,[0,2,4,6,8,10]),(14,[0,4,6,8,10,11])] [9,14]
def aE:=bd f149
theorem aW:Nk E aE:=nk
def J9 a b c d e f g:=kV E f149 aE 9 [bI a,bI b,dG 2 27 [cI c,eT d],dG 3 27 [cI e,sc (slice none 0 0)],fW f,Lq g]
def aKV a b c d e f g:=kV E f149 aE 14 [bI a,dG 1 27 [cI b,eT c],dG 2 27 [cI d,sc (slice none 0 0)],fW e,Lq f,bI g]
theorem start a b d c:aF E f149 aE [D.s (sc (int i64 a)),D.agg [sc (bool b),ints u64 d],D.s (sc (int i64 c))]=letI A:=M6.dg (M6.val d/(2:Nat)^c.toNat);aB (decide (c<0)) (some [D.agg [sc (bool false),sc (slice none 0 0)],D.s (sc (int i64 1))]) (aP (d.length<=1099511627776) (aB (!gG.qD (b,d)) (some [D.agg [sc (bool false),sc (slice none 0 0)],D.s (sc (int i64 2))]) (aP (M6.cD d/\d.length<=8192/\0<=c/\c<4611686018427387904) (aB (decide (0<(d.length:Int))) (aP (M6.cA d/\d.length<=1099511627776) (lY.J9 a c b d false A (decide ((↑(tz (M6.val d)):Int)<c)))) (lY.J9 a c b d false A false))))):=eJ aW
theorem Ir a b c d e f g:J9 a b c d e f g=aP (M6.cA d/\d.length<=1099511627776/\(-9223372036854775808:Int)<=i64.wrap (b-1)/\i64.wrap (b-1)<9223372036854775808) (aB (decide (0<=i64.wrap (b-1))&&decide (M6.val d/(2:Nat)^(i64.wrap (b-1)).toNat%2=(1:Nat))) (aP (M6.cA d/\d.length<=1099511627776) (aB ((↑(tz (M6.val d)):Int)==i64.wrap (b-1)) (lY.aKV a c d e f g 0) (lY.aKV a c d e f g 1))) (lY.aKV a c d e f g (-1:Int))):=cJ aW
theorem Oj a b c d e f g:aKV a b c d e f g=letI A:=M6.val e+bif mW.mT a b (decide (M6.val e%2=(1:Nat))) f g then(1:Nat)else(0:Nat);letI B:=bif fit A then zs b A else(0:Int);aP (M6.cD e/\e.length<=8192) (some [D.agg [sc (bool (isNeg B)),ints u64 (M6.dg B.natAbs)],D.s (sc (int i64 (bif fit A then(0:Int)else(5:Int))))]):=cJ aW
def Wf(v:Nat)(n:Int):Bool:=decide (v≠0)&&decide ((tz v:Int)<n)
def Qo(v:Nat)(n:Int):Int:=bif decide (0<=n-1)&&decide (v/2^(n-1).toNat%2=1)then(bif ((tz v:Int)==n-1)then 0 else 1)else -1
def sG(w:Int)(neg:Bool)(v:Nat)(n:Int):Nat:=v/2^n.toNat+bif mW.mT w neg (decide (v/2^n.toNat%2=1)) (Wf v n) (Qo v n)then 1 else 0
def sp(w:Int)(x:Bool×List Int)(n:Int):Prop×List D:=(jK x/\0<=n/\n<4611686018427387904,wE (fit (sG w x.1 (M6.val x.2) n)) (zs x.1 (sG w x.1 (M6.val x.2) n)))
theorem spec:qR E f149 aE (pN .i64) vI (pN .i64) sp:=by
 rintro w x n ⟨hx,h0,h1⟩;refine(start w x.1 x.2 n).trans ?_;have l1:=hx.len;have f1:=gG.nH hx;have b1:=hx.bl;obtain⟨p,a⟩:=x;have n1:M6.cD a:=hx.1
 try dsimp only at *
 unfold sp
 try dsimp only
 have hq:=eQ (n:=M6.val a/2^n.toNat) (k:=8192) (bMN (gD (bUE _ _)) b1);have j14:∀(r:Bool) (hf:Int),aKV w p a false (M6.dg (M6.val a/2^n.toNat)) r hf=some (wE (fit (M6.val a/2^n.toNat+bif mW.mT w p (decide (M6.val a/2^n.toNat%2=1)) r hf then 1 else 0)) (zs p (M6.val a/2^n.toNat+bif mW.mT w p (decide (M6.val a/2^n.toNat%2=1)) r hf then 1 else 0))):=by
  intro r hf;rw[Oj,gP ⟨M6.aX _,hq⟩,M6.bN];rfl
 have wn:i64.wrap (n-1)=n-1:=by rw[wrap_i64]
 have j9:∀r:Bool,J9 w n p a false (M6.dg (M6.val a/2^n.toNat)) r=some (wE (fit (M6.val a/2^n.toNat+bif mW.mT w p (decide (M6.val a/2^n.toNat%2=1)) r (Qo (M6.val a) n)then 1 else 0)) (zs p (M6.val a/2^n.toNat+bif mW.mT w p (decide (M6.val a/2^n.toNat%2=1)) r (Qo (M6.val a) n)then 1 else 0))):=by
  intro r;rw[Ir,wn,gP ⟨n1.iP,by omega,by omega,by omega⟩,j14,j14,j14,gP ⟨n1.iP,by omega⟩];unfold Qo aB;cases (decide (0<=n-1)&&decide (M6.val a/2^(n-1).toNat%2=1))with
  |false=>rfl
  |true=>cases ((tz (M6.val a):Int)==n-1) <;> rfl
 have hz:=M6.cO n1;rw[aI,gP,f1,bNR,bF,gP ⟨n1,l1,h0,h1⟩,j9,j9,gP ⟨n1.iP,by omega⟩];unfold sG Wf
 by_cases h:M6.val a=0
 ·rw[aI (by have:=hz.2 h;omega),decide_eq_false (show ¬(M6.val a≠0) by omega),bRA]
 ·rw[aO (by have:a.length≠0:=fun hl=>h (hz.1 hl);omega),decide_eq_true (show(M6.val a≠0) by omega),bOS]
def aG:cX:=orc3 (pN .i64) vI (pN .i64) sp
theorem ok:OK 149 aG:=(eB E aE (aA gG.ok (aA Bi.ok (aA zN.ok (aA aAG.ok (aA aGQ.ok aD))))) func149).zA rfl spec
end lY
namespace lZ
def E:=mE [(149,lY.aG)] 11 [8] [] []
def aE:=bd f192
theorem aW:Nk E aE:=nk
theorem start a c b:aF E f192 aE [D.agg [sc (bool a),ints u64 c],D.s (sc (int i64 b))]=letI A:=lY.sG 0 a (M6.val c) b;letI B:=bif fit A then zs a A else(0:Int);aP (jK (a,c)/\0<=b/\b<4611686018427387904) (some [D.agg [sc (bool (isNeg B)),ints u64 (M6.dg B.natAbs)],D.s (sc (int i64 (bif fit A then(0:Int)else(5:Int))))]):=eJ aW
theorem Pk{v:Nat}{n:Int}(h:0<=n):lY.Wf v n=decide (v%2^n.toNat≠0):=by
 unfold lY.Wf
 by_cases hv:v=0
 ·subst hv;rw[decide_eq_false (by omega),bRA,bTN];rfl
 ·rw[decide_eq_true hv,bOS];have hs:=oO v hv;obtain⟨k,rfl⟩:=bQT h;rw[bPN];generalize tz v=j at *
  by_cases hk:j<k
  ·have:v%2^k≠0:=by
    intro hm;have e1:v=2^k*(v/2^k):=by have:=bQX v (2^k);omega
    have e2:v/2^j=2*(2^(k-j-1)*(v/2^k)):=by
     have hp:2^k=2^j*(2*2^(k-j-1)):=by
      rw[<-Nat.pow_succ',<-bQS];congr 1;omega
     generalize v/2^k=t at e1 ⊢;rw[e1,hp,bQU,Nat.mul_div_cancel_left _ (bOQ (by decide)),bQU]
    omega
   rw[decide_eq_true (by omega),decide_eq_true this]
  ·have:v%2^k=0:=by
    have hp:2^j=2^k*2^(j-k):=by rw[<-bQS];congr 1;omega
    have e1:v=2^j*(v/2^j):=by have:=bQX v (2^j);omega
    rw[e1,hp,bQU,Nat.mul_mod_right]
   rw[decide_eq_false (by omega),decide_eq_false (by omega)]
theorem down{p:Bool}{v:Nat}{n:Int}(h:0<=n):zs p (lY.sG 0 p v n)=zs p v/((2^n.toNat:Nat):Int):=by
 unfold lY.sG mW.mT;rw[Pk h,show((0:Int)==0)=true from rfl,cond_true];have hp:0<2^n.toNat:=cN;have hd:=bQX v (2^n.toNat);have hm:=bNZ v hp;generalize 2^n.toNat=q at *;cases p with
 |false =>
  rw[bRA,cond_false,bMS];show((v/q:Nat):Int)=(v:Int)/(q:Int);rw[bRH]
 |true =>
  rw[bOS];show -(((v/q+bif decide (v%q≠0)then 1 else 0:Nat)):Int)=-(v:Int)/(q:Int)
  by_cases hz:v%q=0
  ·rw[decide_eq_false (by omega),cond_false,bMS];have e:-(v:Int)=(q:Int)*(-((v/q:Nat):Int)):=by
    rw[bUR,<-bRP];omega
   rw[e,Int.mul_ediv_cancel_left _ (by omega)]
  ·rw[decide_eq_true hz,cond_true];have e:-(v:Int)=((q-v%q:Nat):Int)+(q:Int)*(-((v/q+1:Nat):Int)):=by
    rw[bUR,<-bRP,bQR];omega
   rw[e,Int.add_mul_ediv_left _ _ (by omega),Int.ediv_eq_zero_of_lt (by omega) (by omega),Int.zero_add]
theorem small{p:Bool}{v:Nat}{n:Int}(h:0<=n)(hb:bl v<=524288):fit (lY.sG 0 p v n)=true:=by
 refine decide_eq_true (bMN (gD ?_) hb);unfold lY.sG mW.mT;rw[Pk h,show((0:Int)==0)=true from rfl,cond_true];have hp:0<2^n.toNat:=cN
 by_cases hz:v%2^n.toNat=0
 ·rw[decide_eq_false (by omega),bRD,cond_false];exact bUE _ _
 ·have h2:2<=2^n.toNat:=by
   refine bQO fun hc=>hz ?_
   rw[show 2^n.toNat=1 from by omega,Nat.mod_one]
  have:v/2^n.toNat<=v/2:=bWN h2 (by omega);have hv:v≠0:=fun h=>hz (by rw[h,bTN])
  have:(bif p&&decide (v%2^n.toNat≠0)then(1:Nat)else 0)<=1:=by cases p <;> cases decide (v%2^n.toNat≠0) <;> decide
  omega
def sp(x:Bool×List Int)(n:Int):Prop×List D:=(jK x/\0<=n/\n<4611686018427387904,[wD (wv x/((2^n.toNat:Nat):Int)),.s (.sc (.int .i64 0))])
theorem spec:fK E f192 aE vI (pN .i64) sp:=by
 intro x n h;have h':=h;obtain⟨hx,h0,h1⟩:=h;refine(start x.1 x.2 n).trans ((gP h').trans ?_);unfold sp
 try dsimp only
 rw[small h0 hx.bl];show some (wE true _)=_;rw[down h0];rfl
def aG:cX:=orc2 vI (pN .i64) sp
theorem ok:OK 192 aG:=(eB E aE (aA lY.ok aD) func192).lE rfl spec
end lZ
namespace Im
def E:=mE [(149,lY.aG)] 11 [8] [] []
def aE:=bd f191
theorem aW:Nk E aE:=nk
theorem start a c b:aF E f191 aE [D.agg [sc (bool a),ints u64 c],D.s (sc (int i64 b))]=letI A:=lY.sG 1 a (M6.val c) b;letI B:=bif fit A then zs a A else(0:Int);aP (jK (a,c)/\0<=b/\b<4611686018427387904) (some [D.agg [sc (bool (isNeg B)),ints u64 (M6.dg B.natAbs)],D.s (sc (int i64 (bif fit A then(0:Int)else(5:Int))))]):=eJ aW
theorem up{p:Bool}{v:Nat}{n:Int}(h:0<=n):zs p (lY.sG 1 p v n)=-(-(zs p v)/((2^n.toNat:Nat):Int)):=by
 have e1:zs p (lY.sG 1 p v n)=-(zs (!p) (lY.sG 0 (!p) v n)):=by
  unfold lY.sG mW.mT zs;cases p <;> simp
 have e2:-(zs p v)=zs (!p) v:=by unfold zs;cases p <;> simp
 rw[e1,e2,lZ.down h]
theorem small{p:Bool}{v:Nat}{n:Int}(h:0<=n)(hb:bl v<=524288):fit (lY.sG 1 p v n)=true:=by
 have e1:lY.sG 1 p v n=lY.sG 0 (!p) v n:=by
  unfold lY.sG mW.mT;cases p <;> simp
 rw[e1];exact lZ.small h hb
def sp(x:Bool×List Int)(n:Int):Prop×List D:=(jK x/\0<=n/\n<4611686018427387904,[wD (-(-(wv x)/((2^n.toNat:Nat):Int))),.s (.sc (.int .i64 0))])
theorem spec:fK E f191 aE vI (pN .i64) sp:=by
 intro x n h;have h':=h;obtain⟨hx,h0,h1⟩:=h;refine(start x.1 x.2 n).trans ((gP h').trans ?_);unfold sp
 try dsimp only
 rw[small h0 hx.bl];show some (wE true _)=_;rw[up h0];rfl
def aG:cX:=orc2 vI (pN .i64) sp
theorem ok:OK 191 aG:=(eB E aE (aA lY.ok aD) func191).lE rfl spec
end Im
namespace iQ
def E:=mE [(192,lZ.aG),(191,Im.aG)] 22 [] [] []
def aE:=bd f150
theorem aW:Nk E aE:=nk
theorem start a d b c:aF E f150 aE [D.agg [sc (bool a),ints u64 d],D.s (sc (int i64 b)),D.s (sc (bool c))]=letI B:=jK (a,d)/\0<=b/\b<4611686018427387904;letI A:=(↑((2:Nat)^b.toNat):Int);aB c (aP B (some [D.agg [sc (bool (isNeg (-(-wv (a,d)/A)))),ints u64 (M6.dg (-(-wv (a,d)/A)).natAbs)]])) (aP B (some [D.agg [sc (bool (isNeg (wv (a,d)/A))),ints u64 (M6.dg (wv (a,d)/A).natAbs)]])):=eJ aW
def nJ(up:Bool)(z:Int)(n:Nat):Int:=bif up then -(-z/((2^n:Nat):Int))else z/((2^n:Nat):Int)
theorem Xq(up:Bool)(z:Int)(n:Nat):(nJ up z n).natAbs<=z.natAbs:=by
 unfold nJ;cases up with
 |false=>exact Ar (bOQ (by decide))
 |true =>
  rw[cond_true,bSL];have:=Ar (z:=-z) (bOQ (n:=n) (show 0<2 by decide));rwa [bSL]at this
def sp(x:Bool×List Int)(n:Int)(up:Bool):Prop×List D:=(jK x/\(0<=n/\n<4611686018427387904),[wD (nJ up (wv x) n.toNat)])
theorem spec:qR E f150 aE vI (pN .i64) pB sp:=by
 rintro x n up ⟨h1,h2⟩;refine(start x.1 x.2 n up).trans ?_;cases up with
 |true=>rw[bT,gP ⟨h1,h2⟩];rfl
 |false=>rw[bF,gP ⟨h1,h2⟩];rfl
def aG:cX:=orc3 vI (pN .i64) pB sp
theorem ok:OK 150 aG:=(eB E aE (aA lZ.ok (aA Im.ok aD)) func150).zA rfl spec
end iQ
namespace bV
def E:=mE [(106,sA.aG),(50,iJ.aG),(150,iQ.aG)] 33 [20,30] [] []
def aE:=bd f240
theorem aW:Nk E aE:=nk
theorem start a e b c d:aF E f240 aE [D.agg [sc (bool a),ints u64 e],D.s (sc (int i64 b)),D.s (sc (int i64 c)),D.s (sc (bool d))]=letI H:=wv (a,e);letI C:=bif fR H b then aK H b else((0:Int),(0:Int));letI B:=(↑(bl (M6.val e)):Int);letI G:=iQ.nJ d H (i64.wrap (B-c)).toNat;letI F:=b+i64.wrap (B-c);letI I:=i64.wrap F;aP (M6.cA e/\e.length<=1099511627776) (aB (decide (i64.wrap (B-c)<=0)) (aP (jK (a,e)/\(-9223372036854775808:Int)<=b/\b<9223372036854775808) (aC (isNeg C.fst) fun f=>aC (M6.dg C.fst.natAbs) fun g=>aC C.snd fun h=>aC (bif fR H b then(0:Int)else(5:Int)) fun i=>some [D.agg [sc (bool f),ints u64 g,sc (int i64 h)],D.s (sc (int i64 i))])) (aP (jK (a,e)/\0<=i64.wrap (B-c)/\i64.wrap (B-c)<4611686018427387904) (aC (isNeg G) fun j=>aC (M6.dg G.natAbs) fun k=>letI A:=bif fR (wv (j,k)) I then aK (wv (j,k)) I else((0:Int),(0:Int));aP (jK (j,k)/\(-9223372036854775808:Int)<=i64.wrap F/\i64.wrap F<9223372036854775808) (aC (isNeg A.fst) fun l=>aC (M6.dg A.fst.natAbs) fun m=>aC A.snd fun n=>aC (bif fR (wv (j,k)) I then(0:Int)else(5:Int)) fun o=>some [D.agg [sc (bool l),ints u64 m,sc (int i64 n)],D.s (sc (int i64 o))])))):=eJ aW
def mA(up:Bool)(z e p:Int):Int×Int:=if(bl z.natAbs:Int)-p<=0 then(z,e)else(iQ.nJ up z ((bl z.natAbs:Int)-p).toNat,e+((bl z.natAbs:Int)-p))
def sp(x:Bool×List Int)(e p:Int)(up:Bool):Prop×List D:=(jK x/\(-4611686018427387904<=e/\e<4611686018427387904)/\1<=p/\p<=70000,dE (fR (mA up (wv x) e p).1 (mA up (wv x) e p).2) (aK (mA up (wv x) e p).1 (mA up (wv x) e p).2))
theorem spec:aGH E f240 aE vI (pN .i64) (pN .i64) pB sp:=by
 rintro x e p up ⟨hw,he,hp⟩;have hb:=hw.bl;have hl:=hw.len;have ha:=iO x;refine(start x.1 x.2 e p up).trans ?_;unfold sp mA
 try dsimp only
 rw[gP ⟨hw.1.iP,by omega⟩,aM,ha,wrap_i64 (n:=(bl (M6.val x.2):Int)-p) (by omega) (by omega)];have hx:wv (x.1,x.2)=wv x:=rfl
 by_cases hn:(bl (M6.val x.2):Int)-p<=0
 ·rw[aO hn,if_pos hn,gP ⟨hw,by omega,by omega⟩];simp only[aM];rfl
 ·have Zg:=iQ.Xq up (wv x) ((bl (M6.val x.2):Int)-p).toNat;have Kt:jK (isNeg (iQ.nJ up (wv x) ((bl (M6.val x.2):Int)-p).toNat),M6.dg (iQ.nJ up (wv x) ((bl (M6.val x.2):Int)-p).toNat).natAbs):=mP (bMN (gD Zg) (by rw[ha];exact hb));rw[aI hn,if_neg hn,gP ⟨hw,by omega,by omega⟩];simp only[aM];rw[wrap_i64 (n:=e+((bl (M6.val x.2):Int)-p)) (by omega) (by omega)];rw[gP ⟨Kt,by omega,by omega⟩,rD];rfl
def aG:cX:=orc4 vI (pN .i64) (pN .i64) pB sp
theorem ok:OK 240 aG:=(eB E aE (aA sA.ok (aA iJ.ok (aA iQ.ok aD))) func240).aSE rfl spec
end bV
end W
namespace M6
open Go M
def nS(n v:Nat):List Int:=dg v ++ bNU (n-(dg v).length) 0
theorem kE{n v:Nat}:val (nS n v)=v:=by
 unfold nS;rw[iA,iG,bN];omega
theorem kF{n v:Nat}:cA (nS n v):=oI.2 ⟨iE _,iI _⟩
theorem gB{n v:Nat}(h:v<18446744073709551616^n):(nS n v).length=n:=by
 have:=cQ h;unfold nS;rw[bMU,bXC];omega
theorem nI {a : List Int} {n v : Nat} (h : cA a) (hl : a.length = n) (hv : val a = v) : a = nS n v := by
  subst hl; subst hv
  obtain ⟨k, hk⟩ := Cr h
  unfold nS
  have : a.length = (dg (val a)).length + k := by conv => lhs; rw [hk]
                                                  simp
  rw [this, Nat.add_sub_cancel_left]
  exact hk
theorem aEN{n:Nat}:nS n 0=bNU n 0:=by simp[nS,bQ]
theorem aEO{n v:Nat}:(nS n v).take (dg v).length=dg v:=by
 unfold nS;exact List.take_left
theorem oN{a:List Int}{j:Nat}(hj:j<a.length)(d:Int):val (a.set j d)+18446744073709551616^j*(a.getD j 0).toNat=val a+18446744073709551616^j*d.toNat:=by
 have h1:=fX (a.set j d) (n:=j) (by simp;omega);have h2:=fX a (n:=j) (by omega);rw[qG hj,bWM (bLR j)]at h1;rw[fM (a:=a) j]at h2;rw[h1,h2,bQR,bQR];omega
theorem oB{m n:Nat}(h:m<=n):18446744073709551616^m<=18446744073709551616^n:=bOR (by omega) h
theorem Pv{a:List Int}(h:cD a):∀k,cD (a.drop k)
 |0=>h
 |k+1=>by
  match a,h with
  | [],h=>simpa using h
  |d :: a,h=>exact Pv (Pu h) k
theorem qF{a:List Int}(h:cA a)(k:Nat):val (a.take k)=val a%18446744073709551616^k:=by
 by_cases hk:k<=a.length
 ·rw[fX a hk,bXO,bWG (gJ h k)]
 ·rw[cE (by omega),bWG];exact bMR (cK h) (oB (by omega))
theorem jD{a:List Int}(h:cA a)(k:Nat):val (a.drop k)=val a/18446744073709551616^k:=by
 by_cases hk:k<=a.length
 ·have h1:=fX a hk;have h2:=gJ h k;rw[h1,bSH _ _ (cN),bRO h2,bLT]
 ·rw[bXD (by omega),bRO]
  ·rfl
  ·exact bMR (cK h) (oB (by omega))
theorem xN(v o n:Nat):v=v%18446744073709551616^o+18446744073709551616^o*(v/18446744073709551616^o%18446744073709551616^n)+18446744073709551616^(o+n)*(v/18446744073709551616^(o+n)):=by
 have h1:=bWI v (18446744073709551616^o);have h2:=bWI (v/18446744073709551616^o) (18446744073709551616^n);rw[bRI,<-bQS]at h2
 conv=>lhs;rw[<-h1,<-h2]
 rw[bQR,<-bQU,<-bQS];omega
theorem Ox{v v' o n X c:Nat}(h1:v'%18446744073709551616^o=v%18446744073709551616^o)(h2:v'/18446744073709551616^(o+n)=v/18446744073709551616^(o+n))(h:v'+18446744073709551616^o*X=v+18446744073709551616^(o+n)*c) :
  v'/18446744073709551616^o%18446744073709551616^n+X=v/18446744073709551616^o%18446744073709551616^n+18446744073709551616^n*c:=by
 have e1:=xN v o n;have e2:=xN v' o n;rw[h1,h2]at e2;apply Nat.eq_of_mul_eq_mul_left (bOQ (n:=o) (by omega:0<18446744073709551616));have e3:18446744073709551616^(o+n)*c=18446744073709551616^o*(18446744073709551616^n*c):=by rw[bQS,bQU]
 rw[e3]at h;rw[bQR,bQR];omega
theorem Sl(v o n:Nat):v/18446744073709551616^o%18446744073709551616^n<18446744073709551616^n:=bNZ _ (cN)
theorem Oy{z z':List Int}(hd:cA z)(Ds:cA z'){o n:Nat}(h1:z'.take o=z.take o)(h2:z'.drop (o+n)=z.drop (o+n)):val z'%18446744073709551616^o=val z%18446744073709551616^o/\val z'/18446744073709551616^(o+n)=val z/18446744073709551616^(o+n):=by
 rw[<-qF hd,<-qF Ds,h1,<-jD hd,<-jD Ds,h2];exact⟨rfl,rfl⟩
end M6
namespace W
open Go AI M
namespace lM
def E:=mE [] 8 [] [] []
def aE:=bd f252
theorem aW:Nk E aE:=nk
theorem start a:aF E f252 aE [D.s (ints u64 a)]=aB (decide (8192<(a.length:Int))) (some [D.s (sc (slice none 0 0)),D.s (sc (int i64 5))]) (some [D.s (ints u64 a),D.s (sc (int i64 0))]):=eJ aW
def can(a b:List Int):Prop:=Contract prog base.glob 253 [(pI .u64).put a,(pI .u64).put b] [.own eX .u64 (M6.dg (M6.val a*M6.val b))]
def less(n:Nat):Prop:=∀c d:List Int,M6.cD c->M6.cD d->c.length+d.length<n->can c d
def prec:cX:=orc2 (pI .u64) (pI .u64) fun a b=>(can a b,[.own eX .u64 (M6.dg (M6.val a*M6.val b))])
theorem Wk:kZ prog base.glob 253 prec:=by
 intro ds g rs hd hg;unfold prec orc2 at hd;split at hd
 ·split at hd
  ·rename_i x y hx hy;have hd:=Option.some.inj hd;have e1:g=can x y:=(Prod.mk.inj hd).1.symm;have e2:=(Prod.mk.inj hd).2;subst e1;rw[<-e2];exact⟨Contract.aXZ (show Contract _ _ _ _ _ from hg) ((pI .u64).le hx) ((pI .u64).le hy),uR (c:=(f253.body).getD .skip) func253 rfl rfl⟩
  ·cases hd
 ·cases hd
def jT(a:List Int):Bool:=decide (a.length<=8192)
def sp(a:List Int):Prop×List D:=(True,[.s (.ints .u64 (bif jT a then a else [])),.s (.sc (.int .i64 (bif jT a then 0 else 5)))])
theorem spec:aGG E f252 aE (pI .u64) sp:=by
 intro a _;have e:=start a;unfold sp jT;simp only
 by_cases hc:a.length<=8192
 ·rw[aI]at e;rw[decide_eq_true hc];exact⟨_,e,fT.refl _⟩
 ·rw[aO]at e;rw[decide_eq_false hc];exact⟨_,e,.cons (vV.nil _) (fT.refl _)⟩
def aG:cX:=orc1 (pI .u64) sp
theorem ok:OK 252 aG:=(eB E aE aD func252).aRQ rfl spec
end lM
namespace Ij
def E:=mE [] 51 [] [] []
def aE:=bd f250
theorem aW:Nk E aE:=nk
theorem start a b:aF E f250 aE [D.s (sc (int u64 a)),D.s (sc (int u64 b))]=letI A:=u64.wrap (a/4294967296*dX BinOp.and u64 b 4294967295)+u64.wrap (dX BinOp.and u64 a 4294967295*dX BinOp.and u64 b 4294967295)/4294967296;some [D.s (sc (int u64 (u64.wrap (u64.wrap (u64.wrap (a/4294967296*(b/4294967296))+u64.wrap A/4294967296)+u64.wrap (dX BinOp.and u64 (u64.wrap A) 4294967295+u64.wrap (dX BinOp.and u64 a 4294967295*(b/4294967296)))/4294967296)))),D.s (sc (int u64 (u64.wrap (a*b))))]:=eJ aW
def sp(a b:Int):Prop×List D:=(0<=a/\a<18446744073709551616/\0<=b/\b<18446744073709551616,[.s (.sc (.int .u64 (a*b/18446744073709551616))),.s (.sc (.int .u64 (a*b%18446744073709551616)))])
theorem spec:fK E f250 aE (pN .u64) (pN .u64) sp:=by
 rintro a b ⟨ha,aXA,hb,vL⟩;refine(start a b).trans ?_;simp only[sp];have m1:dX .and .u64 a 4294967295=a%4294967296:=oK ha aXA;have m2:dX .and .u64 b 4294967295=b%4294967296:=oK hb vL;rw[m1,m2];have bd:∀x y:Int,0<=x->x<=4294967295->0<=y->y<=4294967295->0<=x*y/\x*y<=18446744065119617025:=fun x y h1 h2 h3 h4 =>
  ⟨bXP h1 h3,by have:=Int.mul_le_mul h2 h4 h3 (by omega:(0:Int)<=4294967295);omega⟩
 have q11:=bd (a/4294967296) (b/4294967296) (by omega) (by omega) (by omega) (by omega);have aXQ:=bd (a/4294967296) (b%4294967296) (by omega) (by omega) (by omega) (by omega);have q01:=bd (a%4294967296) (b/4294967296) (by omega) (by omega) (by omega) (by omega);have bCX:=bd (a%4294967296) (b%4294967296) (by omega) (by omega) (by omega) (by omega);have e:a*b=(a/4294967296)*(b/4294967296)*18446744073709551616+((a/4294967296)*(b%4294967296)+(a%4294967296)*(b/4294967296))*4294967296+(a%4294967296)*(b%4294967296):=by
  conv=>lhs;rw[<-bUU a 4294967296,<-bUU b 4294967296]
  generalize a/4294967296=x;generalize a%4294967296=y;generalize b/4294967296=z;generalize b%4294967296=t;grind
 have e0:u64.wrap (a*b)=a*b%18446744073709551616:=eE _;rw[e0];generalize a*b=ab at *;generalize (a/4294967296)*(b/4294967296)=aXS at *;generalize (a/4294967296)*(b%4294967296)=aNO at *;generalize (a%4294967296)*(b/4294967296)=aXT at *;generalize (a%4294967296)*(b%4294967296)=aNP at *;rw[wrap_u64 (n:=aNP),wrap_u64 (n:=aXS),wrap_u64 (n:=aXT),wrap_u64 (n:=aNO)];rw[wrap_u64 (n:=aNO+aNP/4294967296),oK (w:=aNO+aNP/4294967296) (by omega) (by omega)];rw[wrap_u64 (n:=(aNO+aNP/4294967296)%4294967296+aXT),wrap_u64 (n:=aXS+(aNO+aNP/4294967296)/4294967296),wrap_u64];have:aXS+(aNO+aNP/4294967296)/4294967296+((aNO+aNP/4294967296)%4294967296+aXT)/4294967296=ab/18446744073709551616:=by omega
 rw[this]
def aG:cX:=orc2 (pN .u64) (pN .u64) sp
theorem ok:OK 250 aG:=(eB E aE aD func250).lE rfl spec
end Ij
namespace Ea
def E:Env:={ ({ base with C:=callsOf [(250,Ij.aG)],n0:=1,io:=[0] })with nt:=71,own:=[],keep:=fun k=>(tlook [(5,[0,1,2,6,7,13,14,18,19]),(1,[0,1,2,13,14])] k).getD [],cut:=tlook [] }
def aE:=bd f264
theorem aW:Nk E aE:=nk
def L1(a:List Int)(b:Nat)(c:Nat) d f g h:=nG E f264 aE 1 [(A.any,some { e:=(22:Nat),cont:=qU.ints u64 a }),(A.v (V.one (L.view 0 b c)),none),fW d,fW f,bI g,bI h]
def L5(a:List Int)(b:Nat)(c:Nat) d f g h i j k l:=nG E f264 aE 5 [(A.any,some { e:=(22:Nat),cont:=qU.ints u64 a }),(A.v (V.one (L.view 0 b c)),none),fW d,fW f,bI g,cG h,bI i,bI j,bI k,bI l]
theorem start al ao an b c:aF E f264 aE [D.io eX u64 al ao an,D.s (ints u64 b),D.s (ints u64 c)]=Ea.L1 al ao an b c (c.length:Int) 0:=eJ aW
theorem Ll a b c d e f g:L1 a b c d e f g=aB (decide (g<f)) (Ea.L5 a b c d e g 0 f g (d.length:Int) 0) (some [D.io 22 u64 a 0 0]):=lJ aW
theorem Yc a b c d e f g h i j k:L5 a b c d e f g h i j k=letI C:=(d.length:Int);letI B:=b+(i64.wrap (k+f)).toNat;letI A:=d.getD k.toNat 0*e.getD f.toNat 0%(18446744073709551616:Int)+g+0;letI F:=a.getD B 0+A%18446744073709551616+(0:Int);aB (decide (k<j)) (if 0<=k/\k<C then if 0<=f/\f<(e.length:Int)then aP (0<=d.getD k.toNat 0/\d.getD k.toNat 0<(18446744073709551616:Int)/\0<=e.getD f.toNat 0/\e.getD f.toNat 0<(18446744073709551616:Int)) (aP (0<=d.getD k.toNat 0*e.getD f.toNat 0%(18446744073709551616:Int)/\0<=g/\(0:Int)<=(0:Int)/\(0:Int)<=(1:Int)) (if 0<=i64.wrap (k+f)/\i64.wrap (k+f)<(c:Int)then aP (0<=a.getD B 0/\0<=A%18446744073709551616/\(0:Int)<=(0:Int)/\(0:Int)<=(1:Int)) (if 0<=i64.wrap (k+f)/\i64.wrap (k+f)<(c:Int)then Ea.L5 (a.set B (F%18446744073709551616)) b c d e f (u64.wrap (u64.wrap (d.getD k.toNat 0*e.getD f.toNat 0/(18446744073709551616:Int)+A/18446744073709551616)+F/18446744073709551616)) h i j (i64.wrap (k+1))else none)else none))else none else none) (if 0<=i64.wrap (f+C)/\i64.wrap (f+C)<(c:Int)then Ea.L1 (a.set (b+(i64.wrap (f+C)).toNat) g) b c d e h (i64.wrap (i+1))else none):=lJ aW
def sp(x:List Int×Nat×Nat)(a b:List Int):Prop×List D:=(M6.cA x.1/\x.2.1=0/\x.2.2=x.1.length/\M6.cA a/\M6.cA b/\x.1.length=a.length+b.length/\x.1.length<=1099511627776/\M6.val x.1=0,
 [.io eX .u64 (M6.nS x.1.length (M6.val a*M6.val b)) 0 0])
theorem aSK{x c:Int}{p:Nat}(hp:p<=340282366920938463426481119284349108225)(h0:0<=x)(h1:x<18446744073709551616)(h2:0<=c)(h3:c<18446744073709551616) :
  (0<=(p:Int)/18446744073709551616+((p:Int)%18446744073709551616+c+0)/18446744073709551616/\(p:Int)/18446744073709551616+((p:Int)%18446744073709551616+c+0)/18446744073709551616<18446744073709551616) /\
  (0<=(p:Int)/18446744073709551616+((p:Int)%18446744073709551616+c+0)/18446744073709551616+(x+((p:Int)%18446744073709551616+c+0)%18446744073709551616+0)/18446744073709551616/\(p:Int)/18446744073709551616+((p:Int)%18446744073709551616+c+0)/18446744073709551616+(x+((p:Int)%18446744073709551616+c+0)%18446744073709551616+0)/18446744073709551616<18446744073709551616) /\
  ((x+((p:Int)%18446744073709551616+c+0)%18446744073709551616+0)%18446744073709551616).toNat+18446744073709551616*((p:Int)/18446744073709551616+((p:Int)%18446744073709551616+c+0)/18446744073709551616+(x+((p:Int)%18446744073709551616+c+0)%18446744073709551616+0)/18446744073709551616).toNat=x.toNat+p+c.toNat:=by
 omega
theorem aYE{i j u X Y:Nat}:18446744073709551616^j*((u+18446744073709551616^i*X)*Y)=18446744073709551616^j*(u*Y)+18446744073709551616^(i+j)*(X*Y):=by
 rw[bML,bQR,bQS];congr 1;rw[bQU,<-bQU (18446744073709551616^j),bQP (18446744073709551616^j)]
theorem bLO{a b:List Int}{N j V:Nat}(hN:N<=1099511627776)(ha:M6.cA a)(hb:M6.cA b)(hj:j<b.length)(bAZ:a.length+b.length=N):∀(r i:Nat) (z:List Int) (c:Int),i+r=a.length->z.length=N->M6.cA z->0<=c->c<18446744073709551616->z.getD (a.length+j) 0=0 ->
  M6.val z+18446744073709551616^(i+j)*c.toNat=V+18446744073709551616^j*(M6.val (a.take i)*(b.getD j 0).toNat) ->
  ∃z',L5 z 0 N a b j c b.length j a.length i=L1 z' 0 N a b b.length ((j+1:Nat):Int)/\z'.length=N/\M6.cA z'/\M6.val z'=V+18446744073709551616^j*(M6.val a*(b.getD j 0).toNat):=by
 intro r
 induction r with
 |zero =>
  intro i z c hi hz hd h0 h1 aSQ hv;have w1:i64.wrap ((j:Int)+(a.length:Int))=((a.length+j:Nat):Int):=by rw[wrap_i64];omega
  have w2:i64.wrap ((j:Int)+1)=((j+1:Nat):Int):=by rw[wrap_i64];omega
  have aZX:i=a.length:=by omega
  subst aZX;refine⟨z.set (a.length+j) c,?_,by simp[hz],M6.lU hd ⟨h0,h1⟩,?_⟩
  ·rw[Yc,aI,w1,aU,bPN,bLT,w2]
  ·have hs:=M6.oN (a:=z) (j:=a.length+j) (by omega) c;rw[aSQ]at hs;rw[bSM]at hv;simp at hs;rw[hs];exact hv
 |succ r ih =>
  intro i z c hi hz hd h0 h1 aSQ hv;have g:=hd.get (i+j);have ga:=ha.get i;have gb:=hb.get j;have w1:i64.wrap ((i:Int)+(j:Int))=((i+j:Nat):Int):=by rw[wrap_i64];omega
  have w2:i64.wrap ((i:Int)+1)=((i+1:Nat):Int):=by rw[wrap_i64];omega
  obtain⟨X,hX⟩:=bQT ga.1;obtain⟨Y,hY⟩:=bQT gb.1;have bAX:X*Y<=340282366920938463426481119284349108225:=by
   have h2:X<=18446744073709551615:=by omega
   have h3:Y<=18446744073709551615:=by omega
   have:=bWF h2 h3;omega
  rw[Yc,aO,aU,aU,w1,w2];simp only[bPN,bLT];have hs:=fun d=>M6.oN (a:=z) (j:=i+j) (by omega) d
  rw[show a.getD i 0*b.getD j 0=((X*Y:Nat):Int)from by rw[hX,hY];simp];obtain⟨k1,k2,k3⟩:=aSK bAX g.1 g.2 h0 h1;rw[gP ⟨ga.1,ga.2,gb.1,gb.2⟩,gP ⟨by omega,by omega,by omega,by omega⟩,aU,gP ⟨by omega,by omega,by omega,by omega⟩,aU];rw[wrap_u64 k1.1 k1.2,wrap_u64 k2.1 k2.2];refine ih (i+1) _ _ (by omega) (by simp[hz]) (M6.lU hd (by omega)) k2.1 k2.2 (by
   rw[bQV,List.getElem?_set_ne (by omega),<-bQV];exact aSQ) ?_
  rw[M6.cB,aYE,show i+1+j=(i+j)+1 from by omega,bQQ,bQU];have hs:=hs ((z.getD (i+j) 0+(((X*Y:Nat):Int)%18446744073709551616+c+0)%18446744073709551616+0)%18446744073709551616);rw[hX,hY,bPN,bPN];rw[hY,bPN]at hv;generalize ((z.getD (i+j) 0+(((X*Y:Nat):Int)%18446744073709551616+c+0)%18446744073709551616+0)%18446744073709551616)=d at *;generalize ((X*Y:Nat):Int)/18446744073709551616+(((X*Y:Nat):Int)%18446744073709551616+c+0)/18446744073709551616+(z.getD (i+j) 0+(((X*Y:Nat):Int)%18446744073709551616+c+0)%18446744073709551616+0)/18446744073709551616=c' at *;generalize X*Y=q at *;generalize 18446744073709551616^(i+j)=B at *;generalize M6.val (z.set (i+j) d)=W at *;generalize (z.getD (i+j) 0).toNat=x at *;generalize 18446744073709551616^j*(M6.val (a.take i)*Y)=U at *;have e2:B*d.toNat+B*(18446744073709551616*c'.toNat)=B*x+B*q+B*c.toNat:=by
   rw[<-bQR,k3,bQR,bQR]
  omega
theorem aHW{z:List Int}(hd:M6.cA z){k:Nat}(h:M6.val z<18446744073709551616^k):z.getD k 0=0:=by
 have h1:=M6.jD hd k;rw[bRO h,M6.fM]at h1;have:=hd.get k;omega
theorem bCJ{a b:List Int}{N:Nat}(hN:N<=1099511627776)(ha:M6.cA a)(hb:M6.cA b)(bAZ:a.length+b.length=N):∀(r j:Nat) (z:List Int),j+r=b.length->z.length=N->M6.cA z->M6.val z=M6.val a*M6.val (b.take j) ->
  L1 z 0 N a b b.length j=some [.io eX .u64 (M6.nS N (M6.val a*M6.val b)) 0 0]:=by
 intro r
 induction r with
 |zero =>
  intro j z hj hz hd hv;rw[Ll,aI];rw[M6.cE (by omega)]at hv;rw[M6.nI hd hz hv]
 |succ r ih =>
  intro j z hj hz hd hv;rw[Ll,aO];have iN:M6.val z<18446744073709551616^(a.length+j):=by
   rw[hv,bQS];exact bUF (M6.cK ha) (M6.gJ hb j)
  obtain⟨z',h1,h2,h3,h4⟩:=bLO hN ha hb (show j<b.length by omega) bAZ a.length 0 z 0 (by omega) hz hd (by omega) (by omega) (aHW hd iN) (V:=M6.val z) (by simp[M6.val]);have h1:L5 z 0 N a b j 0 b.length j a.length 0=L1 z' 0 N a b b.length ((j+1:Nat):Int):=h1;rw[h1];refine ih (j+1) z' (by omega) h2 h3 ?_;rw[h4,hv,M6.cB,bQR];congr 1;rw[<-bQU,<-bQU,bQP (18446744073709551616^j)]
theorem spec(x:List Int×Nat×Nat)(a b:List Int)(h:(sp x a b).1):aF E f264 aE [(Ag eX .u64).put x,(pI .u64).put a,(pI .u64).put b]=some (sp x a b).2/\∃rs lC,(sp x a b).2=rs ++ [.io eX .u64 lC 0 0]/\lC.length=x.1.length:=by
 obtain⟨xl,xo,xn⟩:=x;obtain⟨hd,ho,hn,ha,hb,hl,hN,hv⟩:=h;simp only at hd ho hn hl hN hv;subst ho;subst hn;refine⟨(start xl 0 xl.length a b).trans ?_,[],_,rfl,M6.gB ?_⟩
 ·exact bCJ hN ha hb hl.symm b.length 0 xl (by omega) rfl hd (by simp[hv,M6.val])
 ·show _<18446744073709551616^xl.length;rw[hl,bQS];exact bUF (M6.cK ha) (M6.cK hb)
def aG:cX:=orc3 (Ag eX .u64) (pI .u64) (pI .u64) sp
theorem fnok:kK prog E 264 f264 aE:=sV oV mixed (kG _ rfl (aA Ij.ok aD) (mG)) func264 rfl rfl rfl rfl rfl
theorem ok:nW prog base.glob 264 aG:=fnok.zA rfl spec
end Ea
namespace xG
def E:=mE [] 22 [] [(2,[0,3])] []
def aE:=bd f261
theorem aW:Nk E aE:=nk
def L2 a b:=nG E f261 aE 2 [fW a,bI b]
theorem start a:aF E f261 aE [D.s (ints u64 a)]=xG.L2 a (a.length:Int):=eJ aW
theorem jY a b:L2 a b=letI B:=(a.length:Int);letI A:=ints u64 (bRN 0 (bRM b.toNat a));aB (decide (0<b)) (if 0<=i64.wrap (b-1)/\i64.wrap (b-1)<B then aB (a.getD (i64.wrap (b-1)).toNat 0==(0:Int)) (xG.L2 a (i64.wrap (b-1))) (if(0:Int)<=(0:Int)/\0<=b/\b<=b/\b<=B then some [D.s A]else none)else none) (if(0:Int)<=(0:Int)/\0<=b/\b<=b/\b<=B then some [D.s A]else none):=lJ aW
def sp(a:List Int):Prop×List D:=(M6.cA a/\a.length<=1099511627776,[.s (.ints .u64 (M6.dg (M6.val a)))])
theorem L{xs:List Int}(hd:M6.cA xs)(hl:xs.length<=4398046511104):∀n:Nat,n<=xs.length->L2 xs n=some [D.s (.ints .u64 (M6.dg (M6.val (xs.take n))))]
 |0,h=>by
  rw[jY,aI,aU];simp[M6.val,M6.bQ]
 |n+1,h=>by
  rw[jY];have e:i64.wrap (((n+1:Nat):Int)-1)=(n:Int):=by rw[wrap_i64];omega
  rw[e,aO,aU,bPN]
  by_cases hz:xs.getD n 0=0
  ·rw[cC hz,L hd hl n (by omega),M6.jL (by omega),hz];simp
  ·rw[bP hz,aU,bPN,bRY];have:M6.cD (xs.take (n+1)):=M6.wI (hd.take _) fun d hg=>by
    rw[M6.getLast_take (by omega)]at hg;cases hg;exact hz
   rw[<-this]
theorem spec:gI E f261 aE (pI .u64) sp:=by
 rintro a ⟨hd,hl⟩;refine(start a).trans ?_;rw[L hd (by omega) a.length (bLR _),bSM];rfl
def aG:cX:=orc1 (pI .u64) sp
theorem ok:OK 261 aG:=(eB E aE aD func261).nA rfl spec
end xG
namespace nO
def E:Env:={ ({ base with n0:=1,io:=[0] })with nt:=55,own:=[],keep:=fun k=>(tlook [(7,[0,6,8]),(2,[0,1,2,6,10,11])] k).getD [],cut:=tlook [] }
def aE:=bd f267
theorem aW:Nk E aE:=nk
def L2(a:List Int)(b:Nat)(c:Nat) d f g h i:=nG E f267 aE 2 [(A.any,some { e:=(22:Nat),cont:=qU.ints u64 a }),(A.v (V.one (L.view 0 b c)),none),fW d,bI f,cG g,bI h,bI i]
def L7(a:List Int)(b:Nat)(c:Nat) d f:=nG E f267 aE 7 [(A.any,some { e:=(22:Nat),cont:=qU.ints u64 a }),(A.v (V.one (L.view 0 b c)),none),cG d,bI f]
theorem start al ao an b c:aF E f267 aE [D.io eX u64 al ao an,D.s (ints u64 b),D.s (sc (int i64 c))]=nO.L2 al ao an b c 0 (b.length:Int) 0:=eJ aW
theorem jY a b c d e f g h:L2 a b c d e f g h=letI A:=b+(i64.wrap (e+h)).toNat;letI B:=a.getD A 0+d.getD h.toNat 0+f;aB (decide (h<g)) (if 0<=i64.wrap (e+h)/\i64.wrap (e+h)<(c:Int)then if 0<=h/\h<(d.length:Int)then aP (0<=a.getD A 0/\0<=d.getD h.toNat 0/\0<=f/\f<=1) (if 0<=i64.wrap (e+h)/\i64.wrap (e+h)<(c:Int)then nO.L2 (a.set A (B%18446744073709551616)) b c d e (B/18446744073709551616) g (i64.wrap (h+1))else none)else none else none) (nO.L7 a b c f (i64.wrap (e+(d.length:Int)))):=lJ aW
theorem tZ a b c d e:L7 a b c d e=letI B:=b+e.toNat;letI A:=a.getD B 0+(0:Int)+d;aB (decide (0<d)) (if 0<=e/\e<(c:Int)then aP (0<=a.getD B 0/\(0:Int)<=(0:Int)/\0<=d/\d<=1) (if 0<=e/\e<(c:Int)then nO.L7 (a.set B (A%18446744073709551616)) b c (A/18446744073709551616) (i64.wrap (e+1))else none)else none) (some [D.io 22 u64 a 0 0]):=lJ aW
def sp(x:List Int×Nat×Nat)(b:List Int)(k:Int):Prop×List D:=(M6.cA x.1/\x.2.1=0/\x.2.2=x.1.length/\M6.cA b/\0<=k/\k.toNat+b.length<=x.1.length/\x.1.length<=1099511627776/\M6.val x.1+M6.val b*18446744073709551616^k.toNat<18446744073709551616^x.1.length,
 [.io eX .u64 (M6.nS x.1.length (M6.val x.1+M6.val b*18446744073709551616^k.toNat)) 0 0])
theorem bCG{T N:Nat}(hN:N<=1099511627776)(hT:T<18446744073709551616^N):∀(r j:Nat) (z:List Int) (c:Int),j+r=N+1->z.length=N->M6.cA z->0<=c->c<=1->M6.val z+18446744073709551616^j*c.toNat=T ->
  L7 z 0 N c j=some [.io eX .u64 (M6.nS N T) 0 0]:=by
 intro r
 induction r with
 |zero =>
  intro j z c hj hz hd h0 h1 hv;have hc:c=0:=by
   have h2:=M6.oB (show N<=j by omega);rcases bXE 0 c with h3 |h3
   ·have:c=1:=by omega
    subst this;simp at hv;omega
   ·omega
  subst hc;rw[tZ,aI];simp at hv;rw[M6.nI hd hz hv]
 |succ r ih =>
  intro j z c hj hz hd h0 h1 hv
  by_cases hc:c=0
  ·subst hc;rw[tZ,aI];simp at hv;rw[M6.nI hd hz hv]
  ·have aRB:c=1:=by omega
   subst aRB;have bIU:j<N:=by
    rcases bMG j N with h |h
    ·exact h
    ·have h2:=M6.oB h;simp at hv;omega
   have g:=hd.get j;have w2:i64.wrap ((j:Int)+1)=((j+1:Nat):Int):=by rw[wrap_i64];omega
   rw[tZ,aO,aU,bLT,bPN,gP ⟨g.1,by omega,by omega,by omega⟩,aU,w2];refine ih (j+1) _ _ (by omega) (by simp[hz]) (M6.lU hd (by omega)) (by omega) (by omega) ?_;have hs:=M6.oN (a:=z) (j:=j) (by omega) ((z.getD j 0+0+1)%18446744073709551616);rw[bQQ,bQU];generalize z.getD j 0=x at *;generalize M6.val (z.set j _)=V at *;generalize 18446744073709551616^j=B at *;have e:((x+0+1)%18446744073709551616).toNat+18446744073709551616*((x+0+1)/18446744073709551616).toNat=x.toNat+1:=by omega
   have e2:B*((x+0+1)%18446744073709551616).toNat+B*(18446744073709551616*((x+0+1)/18446744073709551616).toNat)=B*x.toNat+B:=by
    rw[<-bQR,e,bQR,bMB]
   simp at hv;omega
theorem bCI{b:List Int}{V N k:Nat}(hN:N<=1099511627776)(hb:M6.cA b)(hk:k+b.length<=N)(hT:V+M6.val b*18446744073709551616^k<18446744073709551616^N):∀(r i:Nat) (z:List Int) (c:Int),i+r=b.length->z.length=N->M6.cA z->0<=c->c<=1 ->
  M6.val z+18446744073709551616^(k+i)*c.toNat=V+M6.val (b.take i)*18446744073709551616^k ->
  L2 z 0 N b k c b.length i=some [.io eX .u64 (M6.nS N (V+M6.val b*18446744073709551616^k)) 0 0]:=by
 intro r
 induction r with
 |zero =>
  intro i z c hi hz hd h0 h1 hv;have w1:i64.wrap ((k:Int)+(b.length:Int))=((k+b.length:Nat):Int):=by rw[wrap_i64];omega
  rw[jY,aI,w1];have aOL:i=b.length:=by omega
  subst aOL;rw[bSM]at hv;exact bCG hN hT (N+1-(k+b.length)) (k+b.length) z c (by omega) hz hd h0 h1 hv
 |succ r ih =>
  intro i z c hi hz hd h0 h1 hv;have g:=hd.get (k+i);have g2:=hb.get i;have w1:i64.wrap ((k:Int)+(i:Int))=((k+i:Nat):Int):=by rw[wrap_i64];omega
  have w2:i64.wrap ((i:Int)+1)=((i+1:Nat):Int):=by rw[wrap_i64];omega
  rw[jY,aO,w1,aU,aU,bLT,bPN,bPN,gP ⟨g.1,g2.1,h0,h1⟩,aU,w2];refine ih (i+1) _ _ (by omega) (by simp[hz]) (M6.lU hd (by omega)) (by omega) (by omega) ?_;have hs:=M6.oN (a:=z) (j:=k+i) (by omega) ((z.getD (k+i) 0+b.getD i 0+c)%18446744073709551616);have e0:M6.val (b.take (i+1))*18446744073709551616^k=M6.val (b.take i)*18446744073709551616^k+18446744073709551616^(k+i)*(b.getD i 0).toNat:=by
   rw[M6.cB,bML,bQS];congr 1;rw[bWQ,bQP (18446744073709551616^i)]
  rw[e0,show k+(i+1)=(k+i)+1 from by omega,bQQ,bQU];generalize z.getD (k+i) 0=x at *;generalize b.getD i 0=y at *;generalize M6.val (z.set (k+i) _)=W at *;generalize 18446744073709551616^(k+i)=B at *;generalize M6.val (b.take i)*18446744073709551616^k=U at *;have e:((x+y+c)%18446744073709551616).toNat+18446744073709551616*((x+y+c)/18446744073709551616).toNat=x.toNat+y.toNat+c.toNat:=by omega
  have e2:B*((x+y+c)%18446744073709551616).toNat+B*(18446744073709551616*((x+y+c)/18446744073709551616).toNat)=B*x.toNat+B*y.toNat+B*c.toNat:=by
   rw[<-bQR,e,bQR,bQR]
  omega
theorem spec(x:List Int×Nat×Nat)(b:List Int)(k:Int)(h:(sp x b k).1):aF E f267 aE [(Ag eX .u64).put x,(pI .u64).put b,(pN .i64).put k]=some (sp x b k).2/\∃rs lC,(sp x b k).2=rs ++ [.io eX .u64 lC 0 0]/\lC.length=x.1.length:=by
 obtain⟨xl,xo,xn⟩:=x;obtain⟨hd,ho,hn,hb,hk,aAT,hl,hT⟩:=h;simp only at hd ho hn hb hk aAT hl hT;subst ho;subst hn;obtain⟨k,rfl⟩:=bQT hk;rw[bPN]at aAT hT;refine⟨(start xl 0 xl.length b k).trans ?_,[],_,rfl,M6.gB hT⟩;have:=bCI hl hb aAT hT b.length 0 xl 0 (by omega) rfl hd (by omega) (by omega) (by simp[M6.val]);exact this
def aG:cX:=orc3 (Ag eX .u64) (pI .u64) (pN .i64) sp
theorem fnok:kK prog E 267 f267 aE:=sV oV mixed (kG _ rfl aD (mG)) func267 rfl rfl rfl rfl rfl
theorem ok:nW prog base.glob 267 aG:=fnok.zA rfl spec
end nO
namespace Dd
def E:Env:={ ({ base with C:=oS [(267,nO.aG)] (callsOf [(261,xG.aG),(253,lM.prec)]),ioF:=Ji [(267,nO.aG)],n0:=1,io:=[0] })with nt:=34,own:=[],keep:=fun k=>(tlook [(1,[0,1,2,6])] k).getD [],cut:=tlook [] }
def aE:=bd f265
theorem aW:Nk E aE:=nk
def L1(a:List Int)(b:Nat)(c:Nat) d f g:=nG E f265 aE 1 [(A.any,some { e:=(22:Nat),cont:=qU.ints u64 a }),(A.v (V.one (L.view 0 b c)),none),fW d,fW f,bI g]
theorem start al ao an b c:aF E f265 aE [D.io eX u64 al ao an,D.s (ints u64 b),D.s (ints u64 c)]=Dd.L1 al ao an b c 0:=eJ aW
theorem Ll a b c d e f:L1 a b c d e f=letI C:=(d.length:Int);letI B:=f+(e.length:Int);letI A:=bRN f.toNat (bRM (if C<i64.wrap B then C else i64.wrap B).toNat d);aB (decide (f<C)) (if 0<=f/\(f<=if C<i64.wrap B then C else i64.wrap B)/\((if C<i64.wrap B then C else i64.wrap B)<=if C<i64.wrap B then C else i64.wrap B)/\(if C<i64.wrap B then C else i64.wrap B)<=C then aP (M6.cA A/\A.length<=1099511627776) (aC (M6.dg (M6.val A)) fun g=>aP (lM.can g e) (aC (M6.dg (M6.val g*M6.val e)) fun h=>aP (M6.cA a/\b=0/\c=a.length/\M6.cA h/\0<=f/\f.toNat+h.length<=a.length/\a.length<=1099511627776/\M6.val a+M6.val h*(18446744073709551616:Nat)^f.toNat<(18446744073709551616:Nat)^a.length) (aC (M6.nS a.length (M6.val a+M6.val h*(18446744073709551616:Nat)^f.toNat)) fun i=>Dd.L1 i b c d e (i64.wrap B))))else none) (some [D.io 22 u64 a 0 0]):=lJ aW
def sp(x:List Int×Nat×Nat)(a b:List Int):Prop×List D:=(M6.cA x.1/\x.2.1=0/\x.2.2=x.1.length/\M6.cD a/\M6.cD b/\x.1.length=a.length+b.length/\x.1.length<=549755813888/\M6.val x.1=0/\0<b.length/\2*b.length<=a.length/\lM.less (a.length+b.length),
 [.io eX .u64 (M6.nS x.1.length (M6.val a*M6.val b)) 0 0])
theorem bCJ{a b:List Int}{N:Nat}(hN:N<=549755813888)(ha:M6.cD a)(hb:M6.cD b)(bAZ:N=a.length+b.length)(h0:0<b.length)(h2:2*b.length<=a.length)(hc:lM.less (a.length+b.length)):∀(r at_:Nat) (z:List Int),a.length<=at_+r->at_<=N->z.length=N->M6.cA z->M6.val z=M6.val (a.take at_)*M6.val b ->
  L1 z 0 N a b at_=some [.io eX .u64 (M6.nS N (M6.val a*M6.val b)) 0 0]:=by
 intro r
 induction r with
 |zero =>
  intro t z hr ht hz hd hv;rw[Ll,aI];rw[M6.cE (by omega)]at hv;rw[M6.nI hd hz hv]
 |succ r ih =>
  intro t z hr ht hz hd hv
  by_cases iN:t<a.length
  ·have w:i64.wrap ((t:Int)+(b.length:Int))=((t+b.length:Nat):Int):=by rw[wrap_i64];omega
   obtain⟨e,he⟩:∃e:Nat,e=min a.length (t+b.length):=⟨_,rfl⟩;have bIZ:(if(a.length:Int)<((t+b.length:Nat):Int)then(a.length:Int)else((t+b.length:Nat):Int))=(e:Int):=by split <;> omega
   have Sg:((a.take e).drop t).length=e-t:=by rw[List.length_drop,bOH];omega
   have bDZ:M6.cA ((a.take e).drop t):=(ha.iP.take _).drop _;have aZI:=M6.cK bDZ;rw[Sg]at aZI;have Iz:M6.val (a.take e)=M6.val (a.take t)+18446744073709551616^t*M6.val ((a.take e).drop t):=by
    have:=M6.fX (a.take e) (n:=t) (by rw[bOH];omega);rw[List.take_take,show min t e=t from by omega]at this;exact this
   have bEP:=M6.cK hb.iP;have gR:=M6.gJ ha.iP e;have h1:M6.val ((a.take e).drop t)*M6.val b<18446744073709551616^(e-t+b.length):=by
    rw[bQS];exact bUF aZI bEP
   have h3:M6.val (a.take e)*M6.val b<18446744073709551616^N:=by
    have:M6.val (a.take e)*M6.val b<18446744073709551616^(e+b.length):=by
     rw[bQS];exact bUF gR bEP
    exact bMR this (M6.oB (by omega))
   have h4:M6.val z+M6.val ((a.take e).drop t)*M6.val b*18446744073709551616^t=M6.val (a.take e)*M6.val b:=by
    rw[hv,Iz,bML];congr 1;rw[bQP (18446744073709551616^t),bWQ]
   rw[Ll,aO,w,bIZ,if_pos ⟨by omega,by omega,by omega,by omega⟩];simp only[bPN];rw[gP ⟨bDZ,by omega⟩,aM,gP (hc _ _ (M6.aX _) hb (by have:=M6.cQ aZI;omega)),aM,M6.bN,M6.bN];have Dr:=M6.cQ h1;rw[gP ⟨hd,by trivial,by omega,M6.iE _,by omega,by omega,by omega,by rw[h4,hz];exact h3⟩,aM,hz,h4];refine ih (t+b.length) _ (by omega) (by omega) (M6.gB h3) M6.kF ?_;rw[M6.kE];congr 1
   by_cases aUS:t+b.length<=a.length
   ·rw[he,Nat.min_eq_right aUS]
   ·rw[he,bRX (by omega),bSM,M6.cE (by omega)]
  ·rw[Ll,aI];rw[M6.cE (by omega)]at hv;rw[M6.nI hd hz hv]
theorem spec(x:List Int×Nat×Nat)(a b:List Int)(h:(sp x a b).1):aF E f265 aE [(Ag eX .u64).put x,(pI .u64).put a,(pI .u64).put b]=some (sp x a b).2/\∃rs lC,(sp x a b).2=rs ++ [.io eX .u64 lC 0 0]/\lC.length=x.1.length:=by
 obtain⟨xl,xo,xn⟩:=x;obtain⟨hd,ho,hn,ha,hb,hl,hN,hv,h0,h2,hc⟩:=h;simp only at hd ho hn hl hN hv;subst ho;subst hn;refine⟨(start xl 0 xl.length a b).trans ?_,[],_,rfl,M6.gB ?_⟩
 ·exact bCJ hN ha hb hl h0 h2 hc a.length 0 xl (by omega) (by omega) rfl hd (by simp[hv,M6.val])
 ·show _<18446744073709551616^xl.length;rw[hl,bQS];exact bUF (M6.cK ha.iP) (M6.cK hb.iP)
def aG:cX:=orc3 (Ag eX .u64) (pI .u64) (pI .u64) sp
theorem fnok:kK prog E 265 f265 aE:=sV oV mixed (kI _ _ rfl rfl (kR nO.ok uQ) (aA xG.ok (aA lM.Wk aD)) (mG)) func265 rfl rfl rfl rfl rfl
theorem ok:nW prog base.glob 265 aG:=fnok.zA rfl spec
end Dd
namespace aPV
def E:=mE [(261,xG.aG)] 29 [16,21] [] []
def aE:=bd f268
theorem aW:Nk E aE:=nk
theorem start a b:aF E f268 aE [D.s (ints u64 a),D.s (sc (int i64 b))]=letI C:=bRN 0 (bRM b.toNat a);letI A:=(a.length:Int);letI F:=bRM A.toNat a;letI B:=bRN 0 F;aB (decide (A<=b)) (if(0:Int)<=(0:Int)/\0<=A/\A<=A/\A<=A then aP (M6.cA B/\B.length<=1099511627776) (some [D.s (ints u64 (M6.dg (M6.val B))),D.s (sc (slice none 0 0))])else none) (if(0:Int)<=(0:Int)/\0<=b/\b<=b/\b<=A then aP (M6.cA C/\C.length<=1099511627776) (if 0<=b/\b<=A/\A<=A/\A<=A then some [D.s (ints u64 (M6.dg (M6.val C))),D.s (ints u64 (bRN b.toNat F))]else none)else none):=eJ aW
def sp(a:List Int)(k:Int):Prop×List D:=(M6.cD a/\a.length<=1099511627776/\0<=k,[.s (.ints .u64 (M6.dg (M6.val a%18446744073709551616^k.toNat))),.s (.ints .u64 (M6.dg (M6.val a/18446744073709551616^k.toNat)))])
theorem spec:El E f268 aE (pI .u64) (pN .i64) sp:=by
 rintro a k ⟨ha,hl,h0⟩;obtain⟨k,rfl⟩:=bQT h0;simp only[sp,bPN];have Za:=start a (k:Int)
 by_cases hk:a.length<=k
 ·rw[aO,aU,bPN,bSM,bRY,gP ⟨ha.iP,hl⟩]at Za;refine⟨_,Za,?_⟩;have h1:M6.val a<18446744073709551616^k:=bMR (M6.cK ha.iP) (M6.oB hk);rw[bWG h1,bRO h1,M6.bQ];exact .cons (.refl _) (.cons (.nil _) .nil)
 ·rw[aI,aU,bPN,bPN,bRY,gP ⟨ha.iP.take _,by rw[bOH];omega⟩,aU,bSM,M6.qF ha.iP]at Za;refine⟨_,Za,?_⟩;have h2:a.drop k=M6.dg (M6.val a/18446744073709551616^k):=by
   rw[<-M6.jD ha.iP];exact M6.Pv ha k
  rw[h2];exact .refl _
def aG:cX:=orc2 (pI .u64) (pN .i64) sp
theorem ok:OK 268 aG:=(eB E aE (aA xG.ok aD) func268).aAJ rfl spec
end aPV
namespace PSum
def E:Env:={ ({ base with C:=oS [(267,nO.aG)] (callsOf [(261,xG.aG)]),ioF:=Ji [(267,nO.aG)] })with nt:=25,own:=[24],keep:=fun k=>(tlook [] k).getD [],cut:=tlook [(3,[0,1])] }
def aE:=bd f269
theorem aW:Nk E aE:=nk
def J3 a b:=kV E f269 aE 3 [fW a,fW b]
theorem start a b:aF E f269 aE [D.s (ints u64 a),D.s (ints u64 b)]=aB (decide ((a.length:Int)<(b.length:Int))) (PSum.J3 b a) (PSum.J3 a b):=eJ aW
theorem gH a b:J3 a b=letI F:=(a.length:Int);letI G:=F+(1:Int);letI B:=i64.wrap G;letI A:=bRM B.toNat a ++ bRN (min a.length B.toNat) (bNU B.toNat (0:Int));letI C:=M6.nS A.length (M6.val A+M6.val b*1);if 0<=i64.wrap G/\i64.wrap G<=i64.wrap G/\i64.wrap G<=8796093022208 then aP (M6.cA A/\(0:Nat)=(0:Nat)/\B.toNat=A.length/\M6.cA b/\(0:Int)<=(0:Int)/\(0:Nat)+b.length<=A.length/\A.length<=1099511627776/\M6.val A+M6.val b*1<(18446744073709551616:Nat)^A.length) (aP (M6.cA C/\C.length<=1099511627776) (some [D.s (ints u64 (M6.dg (M6.val C)))]))else none:=cJ aW
def sp(a b:List Int):Prop×List D:=(M6.cD a/\M6.cD b/\a.length<=549755813888/\b.length<=549755813888,[.s (.ints .u64 (M6.dg (M6.val a+M6.val b)))])
theorem aKF{a:List Int}{n:Nat}:bRM (a.length+n) a ++ bRN (min a.length (a.length+n)) (bNU (a.length+n) (0:Int))=a ++ bNU n 0:=by
 rw[bTC (by omega),bXF];congr 2;omega
theorem J{a b:List Int}(ha:M6.cD a)(hb:M6.cD b)(hl:a.length<=549755813888)(aMG:b.length<=a.length):J3 a b=some [.s (.ints .u64 (M6.dg (M6.val a+M6.val b)))]:=by
 have w:i64.wrap ((a.length:Int)+1)=((a.length+1:Nat):Int):=by rw[wrap_i64];omega
 have h1:=M6.cK ha.iP;have h2:=M6.cK hb.iP;have h3:=M6.oB aMG;have aJG:M6.val a+M6.val b<18446744073709551616^(a.length+1):=by rw[bQQ];omega
 have hv:M6.val (a ++ bNU 1 0)=M6.val a:=by rw[M6.iA,M6.iG];omega
 rw[gH,w,bPN,aKF,aU,hv,bMB,bMU,bXC,
  gP ⟨M6.oI.2 ⟨ha.iP,M6.iI _⟩,rfl,rfl,hb.iP,by omega,by omega,by omega,aJG⟩,gP ⟨M6.kF,by rw[M6.gB aJG];omega⟩,M6.kE]
theorem spec:fK E f269 aE (pI .u64) (pI .u64) sp:=by
 rintro a b ⟨ha,hb,h1,h2⟩;refine(start a b).trans ?_
 by_cases hl:a.length<b.length
 ·rw[aO,J hb ha h2 (by omega),bRS];rfl
 ·rw[aI,J ha hb h1 (by omega)];rfl
def aG:cX:=orc2 (pI .u64) (pI .u64) sp
theorem fnok:qA prog E 269 f269 aE:=Zl oV mixed (kI _ _ rfl rfl (kR nO.ok uQ) (aA xG.ok aD) (mG)) func269 rfl rfl rfl
theorem ok:kZ prog base.glob 269 aG:=fnok.lE rfl spec
end PSum
namespace Dz
def E:Env:={ ({ base with n0:=1,io:=[0] })with nt:=47,own:=[],keep:=fun k=>(tlook [(7,[0,4,6]),(2,[0,1,4,8,9])] k).getD [],cut:=tlook [] }
def aE:=bd f270
theorem aW:Nk E aE:=nk
def L2(a:List Int)(b:Nat)(c:Nat) d f g h:=nG E f270 aE 2 [(A.any,some { e:=(22:Nat),cont:=qU.ints u64 a }),(A.v (V.one (L.view 0 b c)),none),fW d,cG f,bI g,bI h]
def L7(a:List Int)(b:Nat)(c:Nat) d f:=nG E f270 aE 7 [(A.any,some { e:=(22:Nat),cont:=qU.ints u64 a }),(A.v (V.one (L.view 0 b c)),none),cG d,bI f]
theorem start al ao an b:aF E f270 aE [D.io eX u64 al ao an,D.s (ints u64 b)]=Dz.L2 al ao an b 0 (b.length:Int) 0:=eJ aW
theorem jY a b c d e f g:L2 a b c d e f g=letI A:=b+g.toNat;aB (decide (g<f)) (if 0<=g/\g<(c:Int)then if 0<=g/\g<(d.length:Int)then aP (0<=a.getD A 0/\0<=d.getD g.toNat 0/\d.getD g.toNat 0<(18446744073709551616:Int)/\0<=e/\e<=1) (if 0<=g/\g<(c:Int)then Dz.L2 (a.set A ((a.getD A 0-d.getD g.toNat 0-e)%18446744073709551616)) b c d (if a.getD A 0<d.getD g.toNat 0+e then(1:Int)else(0:Int)) f (i64.wrap (g+1))else none)else none else none) (Dz.L7 a b c e (d.length:Int)):=lJ aW
theorem tZ a b c d e:L7 a b c d e=letI A:=b+e.toNat;aB (decide (0<d)) (if 0<=e/\e<(c:Int)then aP (0<=a.getD A 0/\(0:Int)<=(0:Int)/\(0:Int)<(18446744073709551616:Int)/\0<=d/\d<=1) (if 0<=e/\e<(c:Int)then Dz.L7 (a.set A ((a.getD A 0-(0:Int)-d)%18446744073709551616)) b c (if a.getD A 0<(0:Int)+d then(1:Int)else(0:Int)) (i64.wrap (e+1))else none)else none) (some [D.io 22 u64 a 0 0]):=lJ aW
def sp(x:List Int×Nat×Nat)(b:List Int):Prop×List D:=(M6.cA x.1/\x.2.1=0/\x.2.2=x.1.length/\M6.cA b/\b.length<=x.1.length/\x.1.length<=1099511627776/\M6.val b<=M6.val x.1,
 [.io eX .u64 (M6.nS x.1.length (M6.val x.1-M6.val b)) 0 0])
theorem bCG{V W N:Nat}(hN:N<=1099511627776)(hT:W<=V):∀(r j:Nat) (z:List Int) (c:Int),j+r=N+1->z.length=N->M6.cA z->0<=c->c<=1->M6.val z+W=V+18446744073709551616^j*c.toNat ->
  L7 z 0 N c j=some [.io eX .u64 (M6.nS N (V-W)) 0 0]:=by
 intro r
 induction r with
 |zero =>
  intro j z c hj hz hd h0 h1 hv;have hc:c=0:=by
   have h2:=M6.oB (show N<=j by omega);have h3:=M6.cK hd;rw[hz]at h3;rcases bXE 0 c with h4 |h4
   ·have:c=1:=by omega
    subst this;simp at hv;omega
   ·omega
  subst hc;rw[tZ,aI];simp at hv;rw[M6.nI hd hz (v:=V-W) (by omega)]
 |succ r ih =>
  intro j z c hj hz hd h0 h1 hv
  by_cases hc:c=0
  ·subst hc;rw[tZ,aI];simp at hv;rw[M6.nI hd hz (v:=V-W) (by omega)]
  ·have aRB:c=1:=by omega
   subst aRB;have bIU:j<N:=by
    rcases bMG j N with h |h
    ·exact h
    ·have h2:=M6.oB h;have h3:=M6.cK hd;rw[hz]at h3;simp at hv;omega
   have g:=hd.get j;have w2:i64.wrap ((j:Int)+1)=((j+1:Nat):Int):=by rw[wrap_i64];omega
   rw[tZ,aO,aU,bLT,bPN,gP ⟨g.1,by omega,by omega,by omega,by omega⟩,aU,w2];refine ih (j+1) _ _ (by omega) (by simp[hz]) (M6.lU hd (by omega)) (by split <;> omega) (by split <;> omega) ?_;have hs:=M6.oN (a:=z) (j:=j) (by omega) ((z.getD j 0-0-1)%18446744073709551616);rw[bQQ,bQU];generalize z.getD j 0=x at *;generalize M6.val (z.set j _)=U at *;generalize 18446744073709551616^j=B at *;have e:((x-0-1)%18446744073709551616).toNat+1=x.toNat+18446744073709551616*(if x<0+1 then(1:Int)else 0).toNat:=by split <;> omega
   have e2:B*((x-0-1)%18446744073709551616).toNat+B=B*x.toNat+B*(18446744073709551616*(if x<0+1 then(1:Int)else 0).toNat):=by
    rw[<-bQR,<-e,bQR,bMB]
   simp at hv;omega
theorem bCI{b:List Int}{V N:Nat}(hN:N<=1099511627776)(hb:M6.cA b)(hk:b.length<=N)(hT:M6.val b<=V):∀(r i:Nat) (z:List Int) (c:Int),i+r=b.length->z.length=N->M6.cA z->0<=c->c<=1 ->
  M6.val z+M6.val (b.take i)=V+18446744073709551616^i*c.toNat ->
  L2 z 0 N b c b.length i=some [.io eX .u64 (M6.nS N (V-M6.val b)) 0 0]:=by
 intro r
 induction r with
 |zero =>
  intro i z c hi hz hd h0 h1 hv;rw[jY,aI];have aOL:i=b.length:=by omega
  subst aOL;rw[bSM]at hv;exact bCG hN hT (N+1-b.length) b.length z c (by omega) hz hd h0 h1 hv
 |succ r ih =>
  intro i z c hi hz hd h0 h1 hv;have g:=hd.get i;have g2:=hb.get i;have w2:i64.wrap ((i:Int)+1)=((i+1:Nat):Int):=by rw[wrap_i64];omega
  rw[jY,aO,aU,aU,bLT,bPN,gP ⟨g.1,g2.1,g2.2,h0,h1⟩,aU,w2];refine ih (i+1) _ _ (by omega) (by simp[hz]) (M6.lU hd (by omega)) (by split <;> omega) (by split <;> omega) ?_;have hs:=M6.oN (a:=z) (j:=i) (by omega) ((z.getD i 0-b.getD i 0-c)%18446744073709551616);rw[M6.cB,bQQ,bQU];generalize z.getD i 0=x at *;generalize b.getD i 0=y at *;generalize M6.val (z.set i _)=W at *;generalize 18446744073709551616^i=B at *;generalize M6.val (b.take i)=U at *;have e:((x-y-c)%18446744073709551616).toNat+y.toNat+c.toNat=x.toNat+18446744073709551616*(if x<y+c then(1:Int)else 0).toNat:=by split <;> omega
  have e2:B*((x-y-c)%18446744073709551616).toNat+B*y.toNat+B*c.toNat=B*x.toNat+B*(18446744073709551616*(if x<y+c then(1:Int)else 0).toNat):=by
   rw[<-bQR,<-bQR,e,bQR]
  omega
theorem spec(x:List Int×Nat×Nat)(b:List Int)(h:(sp x b).1):aF E f270 aE [(Ag eX .u64).put x,(pI .u64).put b]=some (sp x b).2/\∃rs lC,(sp x b).2=rs ++ [.io eX .u64 lC 0 0]/\lC.length=x.1.length:=by
 obtain⟨xl,xo,xn⟩:=x;obtain⟨hd,ho,hn,hb,aAT,hl,hT⟩:=h;simp only at hd ho hn hb aAT hl hT;subst ho;subst hn;refine⟨(start xl 0 xl.length b).trans ?_,[],_,rfl,M6.gB (by have:=M6.cK hd;simp only;omega)⟩;have:=bCI hl hb aAT hT b.length 0 xl 0 (by omega) rfl hd (by omega) (by omega) (by simp[M6.val]);exact this
def aG:cX:=orc2 (Ag eX .u64) (pI .u64) sp
theorem fnok:kK prog E 270 f270 aE:=sV oV mixed (kG _ rfl aD (mG)) func270 rfl rfl rfl rfl rfl
theorem ok:nW prog base.glob 270 aG:=fnok.lE rfl spec
end Dz
namespace Fo
def E:Env:={ ({ base with C:=oS [(267,nO.aG),(270,Dz.aG)] (callsOf [(261,xG.aG),(268,aPV.aG),(269,PSum.aG),(253,lM.prec)]),ioF:=Ji [(267,nO.aG),(270,Dz.aG)],n0:=1,io:=[0] })with nt:=62,own:=[42],keep:=fun k=>(tlook [] k).getD [],cut:=tlook [] }
def aE:=bd f266
theorem aW:Nk E aE:=nk
theorem start al ao an b c:aF E f266 aE [D.io eX u64 al ao an,D.s (ints u64 b),D.s (ints u64 c)]=letI B:=i64.wrap ((b.length:Int)+(1:Int));letI H:=B.tdiv 2;letI F:=i64.wrap ((2:Int)*i64.wrap H);letI C:=i64.wrap H;aP (M6.cD b/\b.length<=1099511627776/\0<=i64.wrap H) (aC (M6.dg (M6.val b%(18446744073709551616:Nat)^C.toNat)) fun a=>aC (M6.dg (M6.val b/(18446744073709551616:Nat)^C.toNat)) fun d=>aP (M6.cD c/\c.length<=1099511627776/\0<=i64.wrap H) (aC (M6.dg (M6.val c%(18446744073709551616:Nat)^C.toNat)) fun e=>aC (M6.dg (M6.val c/(18446744073709551616:Nat)^C.toNat)) fun f=>aP (lM.can a e) (aC (M6.dg (M6.val a*M6.val e)) fun g=>letI A:=bRM ao al ++ (bRM an g ++ bRN (ao+min g.length an) al);aP (lM.can d f) (aC (M6.dg (M6.val d*M6.val f)) fun h=>aP (M6.cD a/\M6.cD d/\a.length<=549755813888/\d.length<=549755813888) (aC (M6.dg (M6.val a+M6.val d)) fun i=>aP (M6.cD e/\M6.cD f/\e.length<=549755813888/\f.length<=549755813888) (aC (M6.dg (M6.val e+M6.val f)) fun j=>aP (lM.can i j) (aC (M6.dg (M6.val i*M6.val j)) fun k=>aP (M6.cA k/\(0:Nat)=(0:Nat)/\k.length=k.length/\M6.cA g/\g.length<=k.length/\k.length<=1099511627776/\M6.val g<=M6.val k) (aC (M6.nS k.length (M6.val k-M6.val g)) fun l=>aP (M6.cA l/\(0:Nat)=(0:Nat)/\k.length=l.length/\M6.cA h/\h.length<=l.length/\l.length<=1099511627776/\M6.val h<=M6.val l) (aC (M6.nS l.length (M6.val l-M6.val h)) fun m=>letI G:=M6.dg (M6.val m);if u64=u64/\ao+an<=al.length then aP (M6.cA m/\m.length<=1099511627776) (aP (M6.cA A/\ao=0/\an=A.length/\M6.cA G/\0<=i64.wrap H/\C.toNat+G.length<=A.length/\A.length<=1099511627776/\M6.val A+M6.val G*(18446744073709551616:Nat)^C.toNat<(18446744073709551616:Nat)^A.length) (aC (M6.nS A.length (M6.val A+M6.val G*(18446744073709551616:Nat)^C.toNat)) fun n=>aP (M6.cA n/\ao=0/\an=n.length/\M6.cA h/\0<=i64.wrap ((2:Int)*i64.wrap H)/\F.toNat+h.length<=n.length/\n.length<=1099511627776/\M6.val n+M6.val h*(18446744073709551616:Nat)^F.toNat<(18446744073709551616:Nat)^n.length) (aC (M6.nS n.length (M6.val n+M6.val h*(18446744073709551616:Nat)^F.toNat)) fun o=>some [D.io 22 u64 o 0 0])))else none))))))))):=eJ aW
def sp(x:List Int×Nat×Nat)(a b:List Int):Prop×List D:=(M6.cA x.1/\x.2.1=0/\x.2.2=x.1.length/\M6.cD a/\M6.cD b/\x.1.length=a.length+b.length/\x.1.length<=274877906944/\M6.val x.1=0/\4<=b.length/\b.length<=a.length/\lM.less (a.length+b.length),
 [.io eX .u64 (M6.nS x.1.length (M6.val a*M6.val b)) 0 0])
theorem aYJ(a0 a1 b0 b1 K:Nat):(a0+K*a1)*(b0+K*b1)=a0*b0+(a0*b1+a1*b0)*K+a1*b1*(K*K):=by grind
theorem aYI(a0 a1 b0 b1:Nat):(a0+a1)*(b0+b1)=a0*b0+a1*b1+(a0*b1+a1*b0):=by grind
theorem Bp{v n k:Nat}(h:v<18446744073709551616^n):v/18446744073709551616^k<18446744073709551616^(n-k):=by
 apply bRL;rw[<-bQS];exact bMR h (M6.oB (by omega))
theorem Wm{v k N:Nat}(hk:k<=N)(h:v*18446744073709551616^k<18446744073709551616^N):v<18446744073709551616^(N-k):=by
 have e:18446744073709551616^N=18446744073709551616^(N-k)*18446744073709551616^k:=by rw[<-bQS];congr 1;omega
 rw[e]at h;exact Nat.lt_of_mul_lt_mul_right h
theorem spec(x:List Int×Nat×Nat)(a b:List Int)(h:(sp x a b).1):aF E f266 aE [(Ag eX .u64).put x,(pI .u64).put a,(pI .u64).put b]=some (sp x a b).2/\∃rs lC,(sp x a b).2=rs ++ [.io eX .u64 lC 0 0]/\lC.length=x.1.length:=by
 obtain⟨xl,xo,xn⟩:=x;obtain⟨hd,ho,hn,ha,hb,hl,hN,hv,h4,aMG,hc⟩:=h;simp only at hd ho hn hl hN hv;subst ho;subst hn;have aEH:=M6.cK ha.iP;have aXE:=M6.cK hb.iP;have aVB:M6.val a*M6.val b<18446744073709551616^xl.length:=by rw[hl,bQS];exact bUF aEH aXE
 refine⟨(start xl 0 xl.length a b).trans ?_,[],_,rfl,M6.gB aVB⟩;obtain⟨k,hk⟩:∃k:Nat,k=(a.length+1)/2:=⟨_,rfl⟩;have w:i64.wrap ((i64.wrap ((a.length:Int)+1)).tdiv 2)=(k:Int):=by
  rw[wrap_i64 (n:=(a.length:Int)+1),bTG (by omega),wrap_i64];omega
 have w2:i64.wrap (2*(k:Int))=((2*k:Nat):Int):=by rw[wrap_i64];omega
 have Sc:xl=bNU xl.length 0:=by
  have:=M6.nI hd rfl hv;rw[M6.aEN]at this;exact this
 rw[w,w2,gP ⟨ha,by omega,by omega⟩];simp only[aM,bPN];have a0l:=M6.cQ (bNZ (M6.val a) (bOQ (n:=k) (by omega:0<18446744073709551616)));have b0l:=M6.cQ (bNZ (M6.val b) (bOQ (n:=k) (by omega:0<18446744073709551616)));have a1l:=M6.cQ (Bp (k:=k) aEH);have b1l:=M6.cQ (Bp (k:=k) aXE);have hA:=bWI (M6.val a) (18446744073709551616^k);have hB:=bWI (M6.val b) (18446744073709551616^k);have ea0:M6.val a%18446744073709551616^k<18446744073709551616^k:=bNZ _ (cN);have eb0:M6.val b%18446744073709551616^k<18446744073709551616^k:=bNZ _ (cN);have ea1:M6.val a/18446744073709551616^k<18446744073709551616^k:=bMR (Bp aEH) (M6.oB (by omega));have eb1:M6.val b/18446744073709551616^k<18446744073709551616^k:=bMR (Bp aXE) (M6.oB (by omega));generalize M6.val a%18446744073709551616^k=a0 at *;generalize M6.val a/18446744073709551616^k=a1 at *;generalize M6.val b%18446744073709551616^k=b0 at *;generalize M6.val b/18446744073709551616^k=b1 at *;have s6:a0+a1<18446744073709551616^(k+1):=by rw[bQQ];omega
 have s7:b0+b1<18446744073709551616^(k+1):=by rw[bQQ];omega
 have s6l:=M6.cQ s6;have s7l:=M6.cQ s7;have Xa:=aYJ a0 a1 b0 b1 (18446744073709551616^k);rw[hA,hB]at Xa;have hmid:=aYI a0 a1 b0 b1;have s8:(a0+a1)*(b0+b1)<18446744073709551616^(2*(k+1)):=by
  rw[Nat.two_mul,bQS];exact bUF s6 s7
 have s8l:=M6.cQ s8;have bKL:18446744073709551616^k*18446744073709551616^k=18446744073709551616^(2*k):=by rw[<-bQS,Nat.two_mul]
 rw[bKL]at Xa;have low:a0*b0<=(a0+a1)*(b0+b1):=by omega
 have aZN:=M6.sK low;have aYF:a1*b1<=(a0+a1)*(b0+b1):=by omega
 have aZM:=M6.sK aYF;rw[gP ⟨hb,by omega,by omega⟩,gP (hc _ _ (M6.aX _) (M6.aX _) (by omega)),gP (hc _ _ (M6.aX _) (M6.aX _) (by omega)),gP ⟨M6.aX _,M6.aX _,by omega,by omega⟩,gP ⟨M6.aX _,M6.aX _,by omega,by omega⟩];simp only[M6.bN];have f9:(a0+a1)*(b0+b1)-a0*b0<18446744073709551616^(M6.dg ((a0+a1)*(b0+b1))).length:=by
  have:=M6.tI (n:=(a0+a1)*(b0+b1));omega
 have bKX:=M6.gB f9;rw[gP (hc _ _ (M6.aX _) (M6.aX _) (by omega)),gP ⟨M6.iE _,by trivial,by trivial,M6.iE _,aZN,by omega,low⟩,bKX,M6.kE,
  gP ⟨M6.kF,by trivial,by trivial,M6.iE _,aZM,by omega,by omega⟩]
 have bLF:(a0+a1)*(b0+b1)-a0*b0-a1*b1=a0*b1+a1*b0:=by omega
 rw[bLF];have f10:a0*b1+a1*b0<18446744073709551616^(M6.dg ((a0+a1)*(b0+b1))).length:=by
  have:=M6.tI (n:=(a0+a1)*(b0+b1));omega
 have Tp:a0*b0<18446744073709551616^xl.length:=by omega
 have bEF:=M6.cQ Tp;have aUR:bRM 0 xl ++ (bRM xl.length (M6.dg (a0*b0)) ++ bRN (0+min (M6.dg (a0*b0)).length xl.length) xl)=M6.nS xl.length (a0*b0):=by
  rw[List.take_zero,bPT,bTC bEF,bLT,bRX bEF]
  conv=>lhs;rw[Sc,bXF]
  rfl
 rw[aUR,if_pos ⟨by trivial,by omega⟩,gP ⟨M6.kF,by rw[M6.gB f10];omega⟩,M6.kE,M6.kE,M6.gB Tp];have bIH:(a0*b1+a1*b0)*18446744073709551616^k<18446744073709551616^xl.length:=by omega
 have aTW:=M6.cQ (Wm (by omega) bIH);have aTG:a0*b0+(a0*b1+a1*b0)*18446744073709551616^k<18446744073709551616^xl.length:=by omega
 rw[gP ⟨M6.kF,by trivial,by trivial,M6.iE _,by omega,by omega,by omega,aTG⟩,M6.gB aTG,M6.kE];have bJA:a1*b1*18446744073709551616^(2*k)<18446744073709551616^xl.length:=by omega
 have hhl:=M6.cQ (Wm (by omega) bJA);rw[gP ⟨M6.kF,by trivial,by trivial,M6.iE _,by omega,by omega,by omega,by rw[<-Xa];exact aVB⟩,<-Xa];rfl
def aG:cX:=orc3 (Ag eX .u64) (pI .u64) (pI .u64) sp
theorem fnok:kK prog E 266 f266 aE:=sV oV mixed (kI _ _ rfl rfl (kR nO.ok (kR Dz.ok uQ)) (aA xG.ok (aA aPV.ok (aA PSum.ok (aA lM.Wk aD)))) (mG)) func266 rfl rfl rfl rfl rfl
theorem ok:nW prog base.glob 266 aG:=fnok.zA rfl spec
end Fo
namespace Li
def E:Env:={ ({ base with C:=oS [(264,Ea.aG),(265,Dd.aG),(266,Fo.aG)] (callsOf []),ioF:=Ji [(264,Ea.aG),(265,Dd.aG),(266,Fo.aG)],n0:=1,io:=[0] })with nt:=36,own:=[],keep:=fun k=>(tlook [] k).getD [],cut:=tlook [(3,[0,1,2])] }
def aE:=bd f260
theorem aW:Nk E aE:=nk
def J3(a:List Int)(b:Nat)(c:Nat) d f:=kV E f260 aE 3 [(A.any,some { e:=(22:Nat),cont:=qU.ints u64 a }),(A.v (V.one (L.view 0 b c)),none),fW d,fW f]
theorem start al ao an b c:aF E f260 aE [D.io eX u64 al ao an,D.s (ints u64 b),D.s (ints u64 c)]=aB (decide ((b.length:Int)<(c.length:Int))) (Li.J3 al ao an c b) (Li.J3 al ao an b c):=eJ aW
theorem gH a b c d e:J3 a b c d e=letI B:=d.length+e.length;letI A:=some [D.io 22 u64 (M6.nS a.length (M6.val d*M6.val e)) 0 0];aB (decide ((e.length:Int)<(40:Int))) (aP (M6.cA a/\b=0/\c=a.length/\M6.cA d/\M6.cA e/\a.length=d.length+e.length/\a.length<=1099511627776/\M6.val a=0) A) (aB (decide (i64.wrap ((2:Int)*(e.length:Int))<=(d.length:Int))) (aP (M6.cA a/\b=0/\c=a.length/\M6.cD d/\M6.cD e/\a.length=d.length+e.length/\a.length<=549755813888/\M6.val a=0/\0<e.length/\(2:Nat)*e.length<=d.length/\lM.less B) A) (aP (M6.cA a/\b=0/\c=a.length/\M6.cD d/\M6.cD e/\a.length=d.length+e.length/\a.length<=274877906944/\M6.val a=0/\4<=e.length/\e.length<=d.length/\lM.less B) A)):=cJ aW
def sp(x:List Int×Nat×Nat)(a b:List Int):Prop×List D:=(M6.cA x.1/\x.2.1=0/\x.2.2=x.1.length/\M6.cD a/\M6.cD b/\x.1.length=a.length+b.length/\x.1.length<=274877906944/\M6.val x.1=0/\lM.less (a.length+b.length),
 [.io eX .u64 (M6.nS x.1.length (M6.val a*M6.val b)) 0 0])
theorem J{z a b:List Int}(hd:M6.cA z)(ha:M6.cD a)(hb:M6.cD b)(hl:z.length=a.length+b.length)(hN:z.length<=274877906944)(hv:M6.val z=0)(hc:lM.less (a.length+b.length))(aMG:b.length<=a.length) :
  J3 z 0 z.length a b=some [.io eX .u64 (M6.nS z.length (M6.val a*M6.val b)) 0 0]:=by
 have w:i64.wrap (2*(b.length:Int))=((2*b.length:Nat):Int):=by rw[wrap_i64];omega
 rw[gH,w]
 by_cases h1:b.length<40
 ·rw[aO,gP ⟨hd,rfl,rfl,ha.iP,hb.iP,hl,by omega,hv⟩]
 ·rw[aI]
  by_cases h2:2*b.length<=a.length
  ·rw[aO,gP ⟨hd,rfl,rfl,ha,hb,hl,by omega,hv,by omega,h2,hc⟩]
  ·rw[aI,gP ⟨hd,rfl,rfl,ha,hb,hl,by omega,hv,by omega,aMG,hc⟩]
theorem spec(x:List Int×Nat×Nat)(a b:List Int)(h:(sp x a b).1):aF E f260 aE [(Ag eX .u64).put x,(pI .u64).put a,(pI .u64).put b]=some (sp x a b).2/\∃rs lC,(sp x a b).2=rs ++ [.io eX .u64 lC 0 0]/\lC.length=x.1.length:=by
 obtain⟨xl,xo,xn⟩:=x;obtain⟨hd,ho,hn,ha,hb,hl,hN,hv,hc⟩:=h;simp only at hd ho hn hl hN hv;subst ho;subst hn;refine⟨(start xl 0 xl.length a b).trans ?_,[],_,rfl,M6.gB ?_⟩
 ·by_cases iN:a.length<b.length
  ·rw[aO,J hd hb ha (by omega) hN hv (by rw[bRS];exact hc) (by omega),bQP];rfl
  ·rw[aI,J hd ha hb hl hN hv hc (by omega)];rfl
 ·show _<18446744073709551616^xl.length;rw[hl,bQS];exact bUF (M6.cK ha.iP) (M6.cK hb.iP)
def aG:cX:=orc3 (Ag eX .u64) (pI .u64) (pI .u64) sp
theorem fnok:kK prog E 260 f260 aE:=sV oV mixed (kI _ _ rfl rfl (kR Ea.ok (kR Dd.ok (kR Fo.ok uQ))) aD (mG)) func260 rfl rfl rfl rfl rfl
theorem ok:nW prog base.glob 260 aG:=fnok.zA rfl spec
end Li
namespace Dc
def E:Env:={ ({ base with n0:=1,io:=[0] })with nt:=22,own:=[],keep:=fun k=>(tlook [(2,[0,3])] k).getD [],cut:=tlook [] }
def aE:=bd f261
theorem aW:Nk E aE:=nk
def L2(a:List Int)(b:Nat)(c:Nat) d:=nG E f261 aE 2 [(A.any,some { e:=(22:Nat),cont:=qU.ints u64 a }),(A.v (V.one (L.view 0 b c)),none),bI d]
theorem start al ao an:aF E f261 aE [D.io eX u64 al ao an]=Dc.L2 al ao an (an:Int):=eJ aW
theorem jY a b c d:L2 a b c d=aB (decide (0<d)) (if 0<=i64.wrap (d-1)/\i64.wrap (d-1)<(c:Int)then aB (a.getD (b+(i64.wrap (d-1)).toNat) 0==(0:Int)) (Dc.L2 a b c (i64.wrap (d-1))) (if(0:Int)<=(0:Int)/\0<=d/\d<=d/\d<=(c:Int)then some [D.back 0 (b+0) (d.toNat-0),D.io 22 u64 a 0 0]else none)else none) (if(0:Int)<=(0:Int)/\0<=d/\d<=d/\d<=(c:Int)then some [D.back 0 (b+0) (d.toNat-0),D.io 22 u64 a 0 0]else none):=lJ aW
def sp(x:List Int×Nat×Nat):Prop×List D:=(M6.cA x.1/\x.2.1=0/\x.2.2=x.1.length/\x.1.length<=1099511627776,[.back 0 0 (M6.dg (M6.val x.1)).length,.io eX .u64 x.1 0 0])
theorem L{xs:List Int}(hd:M6.cA xs)(hl:xs.length<=4398046511104):∀n:Nat,n<=xs.length->L2 xs 0 xs.length n=some [.back 0 0 (M6.dg (M6.val (xs.take n))).length,.io eX .u64 xs 0 0]
 |0,h=>by
  rw[jY,aI,aU];simp[M6.val,M6.bQ]
 |n+1,h=>by
  rw[jY];have e:i64.wrap (((n+1:Nat):Int)-1)=(n:Int):=by rw[wrap_i64];omega
  rw[e,aO,aU,bPN,bLT]
  by_cases hz:xs.getD n 0=0
  ·rw[cC hz,L hd hl n (by omega),M6.jL (by omega),hz];simp
  ·rw[bP hz,aU,bPN];have:M6.cD (xs.take (n+1)):=M6.wI (hd.take _) fun d hg=>by
    rw[M6.getLast_take (by omega)]at hg;cases hg;exact hz
   have hlen:(xs.take (n+1)).length=n+1:=by rw[bOH];omega
   rw[<-this,hlen];rfl
theorem spec(x:List Int×Nat×Nat)(h:(sp x).1):aF E f261 aE [(Ag eX .u64).put x]=some (sp x).2/\∃rs lC,(sp x).2=rs ++ [.io eX .u64 lC 0 0]/\lC.length=x.1.length:=by
 obtain⟨xl,xo,xn⟩:=x;obtain⟨hd,ho,hn,hl⟩:=h;simp only at hd ho hn hl;subst ho;subst hn;refine⟨(start xl 0 xl.length).trans ?_,[_],xl,rfl,rfl⟩;rw[L hd (by omega) xl.length (bLR _),bSM];rfl
def aG:cX:=orc1 (Ag eX .u64) sp
theorem fnok:kK prog E 261 f261 aE:=sV oV mixed (kG _ rfl aD (mG)) func261 rfl rfl rfl rfl rfl
theorem ok:nW prog base.glob 261 aG:=fnok.nA rfl spec
end Dc
namespace Ii
def E:Env:={ ({ base with C:=oS [(260,Li.aG),(261,Dc.aG)] (callsOf []),ioF:=Ji [(260,Li.aG),(261,Dc.aG)] })with nt:=18,own:=[17],keep:=fun k=>(tlook [] k).getD [],cut:=tlook [] }
def aE:=bd f253
theorem aW:Nk E aE:=nk
theorem start a b:aF E f253 aE [D.s (ints u64 a),D.s (ints u64 b)]=letI F:=(a.length:Int);letI G:=F+(b.length:Int);letI C:=i64.wrap G;letI A:=bNU C.toNat (0:Int);letI B:=M6.nS A.length (M6.val a*M6.val b);if 0<=i64.wrap G/\i64.wrap G<=i64.wrap G/\i64.wrap G<=8796093022208 then aP (M6.cA A/\(0:Nat)=(0:Nat)/\C.toNat=A.length/\M6.cD a/\M6.cD b/\A.length=a.length+b.length/\A.length<=274877906944/\M6.val A=0/\lM.less (a.length+b.length)) (aP (M6.cA B/\(0:Nat)=(0:Nat)/\C.toNat=B.length/\B.length<=1099511627776) (some [D.own 22 u64 (bRM (M6.dg (M6.val B)).length B)]))else none:=eJ aW
theorem eval{a b:List Int}(ha:M6.cD a)(hb:M6.cD b)(hN:a.length+b.length<=274877906944)(hc:lM.less (a.length+b.length)):aF E f253 aE [(pI .u64).put a,(pI .u64).put b]=some [.own eX .u64 (M6.dg (M6.val a*M6.val b))]:=by
 refine(start a b).trans ?_;have w:i64.wrap ((a.length:Int)+(b.length:Int))=((a.length+b.length:Nat):Int):=by rw[wrap_i64];omega
 have aVB:M6.val a*M6.val b<18446744073709551616^(a.length+b.length):=by rw[bQS];exact bUF (M6.cK ha.iP) (M6.cK hb.iP)
 rw[w,aU];simp only[bPN,bXC];rw[gP ⟨M6.iI _,by trivial,by trivial,ha,hb,by trivial,hN,M6.iG _,hc⟩,gP ⟨M6.kF,by trivial,(M6.gB aVB).symm,by rw[M6.gB aVB];omega⟩,M6.kE,M6.aEO]
theorem fnok:qA prog E 253 f253 aE:=Zl oV mixed (kI _ _ rfl rfl (kR Li.ok (kR Dc.ok uQ)) aD (mG)) func253 rfl rfl rfl
theorem all(n:Nat)(hn:n<=274877906944):lM.less (n+1):=by
 induction n with
 |zero =>
  intro a b ha hb hl;refine fn_contract fnok.ty fnok.calls fnok.mix fnok.fnc fnok.body fnok.nt fnok.io (by exact bNP rfl) (eval ha hb (by omega) fun c d _ _ h=>by omega)
 |succ n ih =>
  intro a b ha hb hl;have ih:=ih (by omega);refine fn_contract fnok.ty fnok.calls fnok.mix fnok.fnc fnok.body fnok.nt fnok.io (by exact bNP rfl) (eval ha hb (by omega) fun c d hc hd h=>ih c d hc hd (by omega))
def sp(a b:List Int):Prop×List D:=(M6.cD a/\M6.cD b/\a.length+b.length<=274877906944,[.own eX .u64 (M6.dg (M6.val a*M6.val b))])
theorem spec:fK E f253 aE (pI .u64) (pI .u64) sp:=by
 rintro a b ⟨ha,hb,hN⟩;exact eval ha hb hN fun c d hc hd h=>all (a.length+b.length) hN c d hc hd (by omega)
def aG:cX:=orc2 (pI .u64) (pI .u64) sp
theorem ok:kZ prog base.glob 253 aG:=fnok.lE rfl spec
end Ii
namespace aGL
def E:=mE [(144,fC.aG),(253,Ii.aG),(252,lM.aG)] 20 [17] [] []
def aE:=bd f233
theorem aW:Nk E aE:=nk
theorem start a b:aF E f233 aE [D.s (ints u64 a),D.s (ints u64 b)]=letI A:=some [D.s (sc (slice none 0 0)),D.s (sc (int i64 2))];aP (a.length<=1099511627776) (aB (!fC.mU a) A (aP (b.length<=1099511627776) (aB (!fC.mU b) A (aP (M6.cD a/\M6.cD b/\a.length+b.length<=274877906944) (aC (M6.dg (M6.val a*M6.val b)) fun c=>aP True (aC (bif lM.jT c then c else []) fun d=>aC (bif lM.jT c then(0:Int)else(5:Int)) fun e=>some [D.s (ints u64 d),D.s (sc (int i64 e))])))))):=eJ aW
def sp(a b:List Int):Prop×List D:=(M6.cD a/\M6.cD b/\a.length<=8192/\b.length<=8192,[.s (.ints .u64 (bif bZ.kU (M6.val a*M6.val b)then M6.dg (M6.val a*M6.val b)else [])),.s (.sc (.int .i64 (bif bZ.kU (M6.val a*M6.val b)then 0 else 5)))])
theorem spec:fK E f233 aE (pI .u64) (pI .u64) sp:=by
 rintro a b ⟨ha,hb,h1,h2⟩;refine(start a b).trans ?_;simp only[aM];rw[gP,gP,fC.lT ha h1,fC.lT hb h2,bNR,bF,bF,gP ⟨ha,hb,by omega⟩,gP trivial];rfl
def aG:cX:=orc2 (pI .u64) (pI .u64) sp
theorem ok:OK 233 aG:=(eB E aE (aA fC.ok (aA Ii.ok (aA lM.ok aD))) func233).lE rfl spec
end aGL
namespace aKS
def E:=mE [(96,gG.aG),(233,aGL.aG),(99,xJ.aG)] 35 [32] [(3,[2,3,4])] [3]
def aE:=bd f200
theorem aW:Nk E aE:=nk
def J3 a b c d e:=kV E f200 aE 3 [dG 0 27 [cI a,eT b],dG 1 27 [cI c,eT d],dG 2 27 [cI e,sc (slice none 0 0)]]
theorem start a b c d:aF E f200 aE [D.agg [sc (bool a),ints u64 b],D.agg [sc (bool c),ints u64 d]]=letI A:=some [D.agg [sc (bool false),sc (slice none 0 0)],D.s (sc (int i64 2))];aP (b.length<=1099511627776) (aB (!gG.qD (a,b)) A (aP (d.length<=1099511627776) (aB (!gG.qD (c,d)) A (aKS.J3 a b c d false)))):=eJ aW
theorem gH a b c d e:J3 a b c d e=letI F:=M6.val b*M6.val d;letI B:=bif bZ.kU F then(0:Int)else(5:Int);letI A:=bif bZ.kU F then M6.dg F else [];letI C:=bif B==0 then zs (a !=c) (M6.val A)else(0:Int);aP (M6.cD b/\M6.cD d/\b.length<=8192/\d.length<=8192) (aP (M6.cD A/\A.length<=1099511627776) (some [D.agg [sc (bool (isNeg C)),ints u64 (M6.dg C.natAbs)],D.s (sc (int i64 B))])):=cJ aW
def sp(x y:Bool×List Int):Prop×List D:=(jK x/\jK y,wE (fit (wv x*wv y).natAbs) (wv x*wv y))
theorem spec:fK E f200 aE vI vI sp:=by
 rintro x y ⟨hx,hy⟩;refine(start x.1 x.2 y.1 y.2).trans ?_;have l1:=hx.len;have l2:=hy.len;have f1:=gG.nH hx;have f2:=gG.nH hy;have hs:wv x*wv y=zs (x.1 !=y.1) (M6.val x.2*M6.val y.2):=by
  unfold wv zs;cases x.1 <;> cases y.1 <;> simp[Int.neg_mul,bUR]
 rw[gP,f1,bNR,bF,gP,f2,bNR,bF,gH,gP ⟨hx.1,hy.1,l1,l2⟩,gP (Ff (fun h=>by rw[show bZ.kU _=_ from xU]at h;exact wV h)),Eo,show bZ.kU _=_ from xU];unfold sp
 try dsimp only
 rw[hs,jR]
def aG:cX:=orc2 vI vI sp
theorem ok:OK 200 aG:=(eB E aE (aA gG.ok (aA aGL.ok (aA xJ.ok aD))) func200).lE rfl spec
end aKS
namespace dM
def E:=mE [(45,jZ.aG),(200,aKS.aG),(50,iJ.aG)] 38 [22,35] [(3,[2,3,4])] [3]
def aE:=bd f155
theorem aW:Nk E aE:=nk
def J3 a b c d e f g h:=kV E f155 aE 3 [dG 0 29 [cI a,eT b,cP c],dG 1 29 [cI d,eT e,cP f],dG 2 29 [cI g,sc (slice none 0 0),cP h]]
theorem start a b c d e f:aF E f155 aE [D.agg [sc (bool a),ints u64 b,sc (int i64 c)],D.agg [sc (bool d),ints u64 e,sc (int i64 f)]]=aP (aL (a,b,c)) (aP (aL (d,e,f)) (dM.J3 a b c d e f false 0)):=eJ aW
theorem gH a b c d e f g h:J3 a b c d e f g h=letI F:=wv (a,b)*wv (d,e);letI C:=i64.wrap (c+f);letI B:=bif fit F.natAbs then wv (a,b)*wv (d,e)else(0:Int);aP (jK (a,b)/\jK (d,e)) (aC (isNeg B) fun i=>aC (M6.dg B.natAbs) fun j=>letI A:=bif fR (wv (i,j)) C then aK (wv (i,j)) C else((0:Int),(0:Int));aC (bif fit F.natAbs then(0:Int)else(5:Int)) fun k=>aB (k !=0) (some [D.agg [sc (bool false),sc (slice none 0 0),sc (int i64 0)],D.s (sc (int i64 k))]) (aP (jK (i,j)/\(-9223372036854775808:Int)<=i64.wrap (c+f)/\i64.wrap (c+f)<9223372036854775808) (aC (isNeg A.fst) fun l=>aC (M6.dg A.fst.natAbs) fun m=>aC A.snd fun n=>aC (bif fR (wv (i,j)) C then(0:Int)else(5:Int)) fun o=>some [D.agg [sc (bool l),ints u64 m,sc (int i64 n)],D.s (sc (int i64 o))]))):=cJ aW
def jX(p q:Int×Int):Bool:=fit (p.1*q.1).natAbs&&fR (p.1*q.1) (p.2+q.2)
def eY(p q:Int×Int):Int×Int:=aK (p.1*q.1) (p.2+q.2)
def sp(x y:dR):Prop×List D:=(aL x/\aL y,dE (jX (dv x) (dv y)) (eY (dv x) (dv y)))
theorem spec:El E f155 aE gZ gZ sp:=by
 rintro x y ⟨hx,hy⟩;have ex:=hx.2.1;have ey:=hy.2.1;have s:=start x.1 x.2.1 x.2.2 y.1 y.2.1 y.2.2;have w:i64.wrap (x.2.2+y.2.2)=x.2.2+y.2.2:=wrap_i64;rw[gP hx,gP hy,gH]at s;simp only[aM]at s;have hz:wv (x.1,x.2.1)*wv (y.1,y.2.1)=(dv x).1*(dv y).1:=rfl;rw[gP ⟨hx.Dh,hy.Dh⟩,hz]at s;have h2:x.2.2+y.2.2=(dv x).2+(dv y).2:=rfl;unfold sp jX eY
 try dsimp only
 cases hf:fit ((dv x).1*(dv y).1).natAbs with
 |false =>
  rw[hf]at s;rw[bRA];refine⟨_,s,iJ.kC _⟩
 |true =>
  rw[hf,cond_true,cond_true,eN rfl,w,gP ⟨mP (wV hf),by omega,by omega⟩,rD,h2]at s;rw[bOS];exact⟨_,s,fT.refl _⟩
def aG:cX:=orc2 gZ gZ sp
theorem ok:OK 155 aG:=(eB E aE (aA jZ.ok (aA aKS.ok (aA iJ.ok aD))) func155).aAJ rfl spec
end dM
namespace xM
def E:=mE [] 9 [] [] []
def aE:=bd f239
theorem aW:Nk E aE:=nk
theorem start a:aF E f239 aE [D.s (sc (int i64 a))]=aB (decide (1<=a)) (some [D.s (sc (bool (decide (a<=70000))))]) (some [D.s (sc (bool false))]):=eJ aW
def sp(p:Int):Prop×List D:=(True,[.s (.sc (.bool (decide (1<=p)&&decide (p<=70000))))])
theorem spec:gI E f239 aE (pN .i64) sp:=by
 intro p h;refine(start p).trans ?_;unfold sp aB;cases (decide ((1:Int)<=p)) <;> cases (decide (p<=(70000:Int))) <;> rfl
def aG:cX:=orc1 (pN .i64) sp
theorem ok:OK 239 aG:=(eB E aE aD func239).nA rfl spec
end xM
namespace aGN
def E:=mE [(147,xH.aG)] 18 [] [] []
def aE:=bd f193
theorem aW:Nk E aE:=nk
theorem start a:aF E f193 aE [D.s (ints u64 a)]=letI B:=M6.dg (M6.val a);letI A:=(B.length:Int);aP (M6.cA a/\a.length<=1099511627776) (aB (decide (8192<A)) (some [D.s (sc (slice none 0 0)),D.s (sc (int i64 5))]) (if 0<=A/\A<=A/\A<=(8796093022208:Int)then some [D.own 22 u64 (bRM A.toNat B ++ bRN (min B.length A.toNat) (bNU A.toNat (0:Int))),D.s (sc (int i64 0))]else none)):=eJ aW
def sp(a:List Int):Prop×List D:=(M6.cA a/\a.length<=1099511627776,[.s (.ints .u64 (bif bZ.kU (M6.val a)then M6.dg (M6.val a)else [])),.s (.sc (.int .i64 (bif bZ.kU (M6.val a)then 0 else 5)))])
theorem spec:aGG E f193 aE (pI .u64) sp:=by
 intro a h;have hl:=M6.oP h.1;have h2:=h.2;have e:=(start a).trans (gP h);unfold sp bZ.kU;simp only;generalize M6.dg (M6.val a)=d at *
 by_cases hc:d.length<=8192
 ·rw[aI,if_pos ⟨by omega,by omega,by omega⟩]at e;rw[decide_eq_true hc];refine⟨_,e,.cons ?_ (fT.refl _)⟩;simp only[bPN,bSM,Nat.min_self,cond_true];have:bRN d.length (bNU d.length (0:Int))=[]:=List.drop_eq_nil_of_le (by simp);rw[this,bRR];exact vV.own _ _ _
 ·rw[aO]at e;rw[decide_eq_false hc];exact⟨_,e,.cons (vV.nil _) (fT.refl _)⟩
def aG:cX:=orc1 (pI .u64) sp
theorem ok:OK 193 aG:=(eB E aE (aA xH.ok aD) func193).aRQ rfl spec
end aGN
namespace aGR
def E:=mE [(137,xK.aG)] 6 [] [] []
def aE:=bd f195
theorem aW:Nk E aE:=nk
theorem start a:aF E f195 aE [D.s (sc (int u64 a))]=aP (0<=a/\a<18446744073709551616) (some [D.s (sc (int i64 (i64.wrap ((64:Int)-(↑(bl a.toNat):Int)))))]):=eJ aW
def sp(a:Int):Prop×List D:=(0<=a/\a<18446744073709551616,[.s (.sc (.int .i64 (64-(bl a.toNat:Int))))])
theorem spec:gI E f195 aE (pN .u64) sp:=by
 intro a h;refine(start a).trans ((gP h).trans ?_);obtain⟨h1,h2⟩:=h;have:bl a.toNat<=64:=dP.2 (by omega);rw[wrap_i64];rfl
def aG:cX:=orc1 (pN .u64) sp
theorem ok:OK 195 aG:=(eB E aE (aA xK.ok aD) func195).nA rfl spec
end aGR
namespace pE
def E:=mE [(195,aGR.aG)] 135 [] [(24,[2,8,9,10,14,15,16,17,18]),(17,[2,8,9,10,11,13,14,15,16]),(3,[0,1,2]),(5,[0,1,2]),(18,[2,8,9,10,11,13,14,15,16]),(21,[2,8,9,10,11,13,14,15]),(25,[2,8,9,10,14,15,16,17,18]),(28,[2,8,14,15,17,18])] [3,5,18,21,25,28]
def aE:=bd f226
theorem aW:Nk E aE:=nk
def J3 a b c:=kV E f226 aE 3 [cG a,cG b,cG c]
def J5 a b c:=kV E f226 aE 5 [cG a,cG b,cG c]
def aRL a b c d e f g h i:=nG E f226 aE 17 [cG a,cG b,cG c,cG d,cG e,cG f,cG g,cG h,cG i]
def bCN a b c d e f g h i:=kV E f226 aE 18 [cG a,cG b,cG c,cG d,cG e,cG f,cG g,cG h,cG i]
def aVZ a b c d e f g h:=kV E f226 aE 21 [cG a,cG b,cG c,cG d,cG e,cG f,cG g,cG h]
def aVV a b c d e f g h i:=nG E f226 aE 24 [cG a,cG b,cG c,cG d,cG e,cG f,cG g,cG h,cG i]
def bCL a b c d e f g h i:=kV E f226 aE 25 [cG a,cG b,cG c,cG d,cG e,cG f,cG g,cG h,cG i]
def aVY a b c d e f:=kV E f226 aE 28 [cG a,cG b,cG c,cG d,cG e,cG f]
theorem start a b c:aF E f226 aE [D.s (sc (int u64 a)),D.s (sc (int u64 b)),D.s (sc (int u64 c))]=aB (c==0) none (pE.J3 a b c):=eJ aW
theorem gH a b c:J3 a b c=aB (decide (c<=a)) none (pE.J5 a b c):=cJ aW
theorem Is a b c:J5 a b c=letI C:=(↑(bl c.toNat):Int);letI H:=u64.wrap ((64:Int)-C);letI B:=b/(↑((2:Nat)^min (u64.wrap ((64:Int)-u64.wrap ((64:Int)-C))).toNat 64):Int);letI A:=(↑((2:Nat)^min H.toNat 64):Int);letI G:=dX BinOp.or u64 (u64.wrap (a*A)) B;letI F:=u64.wrap (c*A)/4294967296;aB (a==0) (if c=0 then none else if c=0 then none else some [D.s (sc (int u64 (u64.wrap (b.tdiv c)))),D.s (sc (int u64 (b.tmod c)))]) (aP (0<=c/\c<18446744073709551616) (if u64.wrap ((64:Int)-C)<0 then none else if u64.wrap ((64:Int)-C)<0 then none else if u64.wrap ((64:Int)-u64.wrap ((64:Int)-C))<0 then none else if u64.wrap ((64:Int)-C)<0 then none else if u64.wrap (c*A)/4294967296=(0:Int)then none else pE.aRL (u64.wrap (c*A)) H F (dX BinOp.and u64 (u64.wrap (c*A)) 4294967295) G (u64.wrap (b*A)/4294967296) (dX BinOp.and u64 (u64.wrap (b*A)) 4294967295) (u64.wrap (G.tdiv F)) (u64.wrap (dX BinOp.or u64 (u64.wrap (a*A)) B-u64.wrap (u64.wrap (G.tdiv F)*F))))):=cJ aW
theorem aPY a b c d e f g h i:aRL a b c d e f g h i=letI A:=pE.bCN a b c d e f g h i;aB (decide (4294967296<=h)) A (aB (decide (u64.wrap (u64.wrap ((4294967296:Int)*i)+f)<u64.wrap (h*d))) A (pE.aVZ a b c d e f g h)):=lJ aW
theorem aQD a b c d e f g h i:bCN a b c d e f g h i=aB (decide (4294967296<=u64.wrap (i+c))) (pE.aVZ a b c d e f g (u64.wrap (h-1))) (pE.aRL a b c d e f g (u64.wrap (h-1)) (u64.wrap (i+c))):=cJ aW
theorem aQC a b c d e f g h:aVZ a b c d e f g h=letI A:=u64.wrap (u64.wrap (e*4294967296)+f)-u64.wrap (h*a);letI B:=u64.wrap A;if c=0 then none else pE.aVV a b c d g h (u64.wrap (u64.wrap A-u64.wrap (u64.wrap (B.tdiv c)*c))) B (u64.wrap (B.tdiv c)):=cJ aW
theorem aPX a b c d e f g h i:aVV a b c d e f g h i=letI A:=pE.bCL a b c d e f g h i;aB (decide (4294967296<=i)) A (aB (decide (u64.wrap (u64.wrap ((4294967296:Int)*g)+e)<u64.wrap (i*d))) A (pE.aVY a b e f h i)):=lJ aW
theorem aQB a b c d e f g h i:bCL a b c d e f g h i=aB (decide (4294967296<=u64.wrap (g+c))) (pE.aVY a b e f h (u64.wrap (i-1))) (pE.aVV a b c d e f (u64.wrap (g+c)) h (u64.wrap (i-1))):=cJ aW
theorem aQA a b c d e f:aVY a b c d e f=if b<0 then none else some [D.s (sc (int u64 (u64.wrap (u64.wrap (d*4294967296)+f)))),D.s (sc (int u64 (u64.wrap (u64.wrap (u64.wrap (e*4294967296)+c)-u64.wrap (f*a))/(↑((2:Nat)^min b.toNat 64):Int))))]:=cJ aW
theorem aBB{n:Nat}(h:n<18446744073709551616):u64.wrap (n:Int)=(n:Int):=wrap_u64 (bVK _) (Int.ofNat_lt.2 h)
theorem loop{y1 y0 u u1:Nat}(aDK:2147483648<=y1)(aNY:y1<4294967296)(aLT:y0<4294967296)(hu:u<y1*4294967296+y0)(aDM:u1<4294967296)
  (Lf Jf:Int->Int->Option (List D)) (Kf:Int->Option (List D))
  (hL:∀q r,Lf q r=aB (decide (4294967296<=q)) (Jf q r) (aB (decide (u64.wrap (u64.wrap (4294967296*r)+(u1:Int))<u64.wrap (q*(y0:Int)))) (Jf q r) (Kf q)))
  (hJ:∀q r,Jf q r=aB (decide (4294967296<=u64.wrap (r+(y1:Int)))) (Kf (u64.wrap (q-1))) (Lf (u64.wrap (q-1)) (u64.wrap (r+(y1:Int))))) :
  ∀(q r:Nat),u=q*y1+r->r<4294967296->u*4294967296+u1<(q+1)*(y1*4294967296+y0) ->
   Lf (q:Int) (r:Int)=Kf (((u*4294967296+u1)/(y1*4294967296+y0):Nat):Int):=by
 have hy:0<y1*4294967296+y0:=by omega
 intro q
 induction q with
 |zero =>
  intro r h1 h2 h3;have h0:(u*4294967296+u1)/(y1*4294967296+y0)=0:=bRO (by omega);rw[hL,aI,h0,show(((0:Nat):Int)*(y0:Int))=0 from by omega,wrap_u64 (n:=0),aI ?_];rw[wrap_u64 (n:=4294967296*(r:Int)),wrap_u64];omega
 |succ q ih =>
  intro r h1 h2 h3;have hq:q<=4294967296:=by
   refine bQO fun hc=>?_
   have:4294967297*y1<=q*y1:=bNE _ hc;rw[bML]at h1;omega
  have w1:u64.wrap (((q+1:Nat):Int)-1)=(q:Int):=by rw[wrap_u64];omega
  have w2:u64.wrap ((r:Int)+(y1:Int))=((r+y1:Nat):Int):=by rw[wrap_u64];omega
  have hle:(q+1)*y0<=4294967297*4294967295:=bWF (by omega) (by omega);have w3:u64.wrap (((q+1:Nat):Int)*(y0:Int))=(((q+1)*y0:Nat):Int):=by
   rw[<-bRP];exact wrap_u64
  have w4:u64.wrap (u64.wrap (4294967296*(r:Int))+(u1:Int))=((4294967296*r+u1:Nat):Int):=by
   rw[wrap_u64 (n:=4294967296*(r:Int)),wrap_u64];omega
  have ex:(q+1)*(y1*4294967296+y0)=(q*y1+y1)*4294967296+(q+1)*y0:=by
   rw[bQR,<-bQU,bML q 1 y1,bPU]
  have bLA:q*(y1*4294967296+y0)=(q*y1)*4294967296+q*y0:=by
   rw[bQR,<-bQU]
  have Zi:u=q*y1+(r+y1):=by rw[bML]at h1;omega
  have Zg:u*4294967296+u1<(q+1)*(y1*4294967296+y0)->Jf ((q+1:Nat):Int) r=Kf (((u*4294967296+u1)/(y1*4294967296+y0):Nat):Int):=by
   intro hT;rw[hJ,w1,w2]
   by_cases hc:4294967296<=r+y1
   ·have aQS:q*y0<=4294967296*4294967295:=bWF hq (by omega);have:(u*4294967296+u1)/(y1*4294967296+y0)=q:=by
     refine bWP ?_ hT;rw[bLA,Zi];omega
    rw[aO,this]
   ·rw[aI];exact ih (r+y1) Zi (by omega) hT
  rw[hL,w3,w4]
  by_cases hb:4294967296<=q+1
  ·rw[aO];apply Zg;have:4294967296*(y1*4294967296+y0)<=(q+1)*(y1*4294967296+y0):=bNE _ hb;omega
  ·rw[aI]
   by_cases hc:4294967296*r+u1<(q+1)*y0
   ·rw[aO];apply Zg;rw[ex];omega
   ·have:(u*4294967296+u1)/(y1*4294967296+y0)=q+1:=by
     refine bWP ?_ h3;rw[ex,Zi];rw[bML (q*y1)];omega
    rw[aI,this]
theorem aRP(P b Q:Int):u64.wrap (u64.wrap (u64.wrap P+b)-u64.wrap Q)=u64.wrap (P+b-Q):=by
 rw[eE,eE,eE,eE,eE];omega
theorem aSL{u u1 y:Nat}(hy:0<y)(aYP:y<=18446744073709551616):u64.wrap ((u:Int)*4294967296+(u1:Int)-(((u*4294967296+u1)/y:Nat):Int)*(y:Int))=(((u*4294967296+u1)%y:Nat):Int):=by
 have h:=bQX (u*4294967296+u1) y;have hm:=bNZ (u*4294967296+u1) hy;rw[<-bRP,bQP _ y];generalize y*((u*4294967296+u1)/y)=z at *;generalize (u*4294967296+u1)%y=m at *;rw[wrap_u64];omega
theorem aSN{y1 y0 u u1 u0 s:Nat}(aDK:2147483648<=y1)(aNY:y1<4294967296)(aLT:y0<4294967296)(hu:u<y1*4294967296+y0)(aDM:u1<4294967296)(aQR:u0<4294967296)(hs:s<=63) :
  aRL ((y1*4294967296+y0:Nat):Int) s y1 y0 u u1 u0 ((u/y1:Nat):Int) ((u%y1:Nat):Int) =
   some [D.s (.sc (.int .u64 (((u*18446744073709551616+(u1*4294967296+u0))/(y1*4294967296+y0):Nat):Int))),D.s (.sc (.int .u64 (((u*18446744073709551616+(u1*4294967296+u0))%(y1*4294967296+y0)/2^s:Nat):Int)))]:=by
 have hy:0<y1*4294967296+y0:=by omega
 have aBY:∀v:Nat,∀w:Nat,w<4294967296->v*4294967296+w<(v/y1+1)*(y1*4294967296+y0):=by
  intro v w hw;have h:=bQX v y1;have hm:=bNZ v (show 0<y1 by omega);have:(v/y1+1)*(y1*4294967296+y0)=(y1*(v/y1)+y1)*4294967296+(v/y1+1)*y0:=by
   rw[bQR,<-bQU,bML,bPU,bQP y1]
  rw[this];omega
 have dm:∀v:Nat,v=v/y1*y1+v%y1:=by
  intro v;rw[bQP];exact(bQX v y1).symm
 obtain⟨Y,hY⟩:∃Y:Int,Y=((y1*4294967296+y0:Nat):Int):=⟨_,rfl⟩;rw[<-hY];have l1:aRL Y s y1 y0 u u1 u0 ((u/y1:Nat):Int) ((u%y1:Nat):Int)=aVZ Y s y1 y0 u u1 u0 (((u*4294967296+u1)/(y1*4294967296+y0):Nat):Int) :=
  loop aDK aNY aLT hu aDM (aRL Y s y1 y0 u u1 u0) (bCN Y s y1 y0 u u1 u0) (aVZ Y s y1 y0 u u1 u0) (fun q r=>aPY ..) (fun q r=>aQD ..) (u/y1) (u%y1) (dm u) (by have:=bNZ u (show 0<y1 by omega);omega) (aBY u u1 aDM)
 refine l1.trans ?_;rw[aQC,aY,aRP];have m1:=aSL (u:=u) (u1:=u1) hy (by omega);rw[<-hY]at m1;rw[m1];obtain⟨q1,Mw⟩:∃q1,(u*4294967296+u1)/(y1*4294967296+y0)=q1:=⟨_,rfl⟩;rw[Mw];have hv:=bNZ (u*4294967296+u1) hy;have hT:=bQX (u*4294967296+u1) (y1*4294967296+y0);rw[Mw]at hT;obtain⟨v,bHK⟩:∃v,(u*4294967296+u1)%(y1*4294967296+y0)=v:=⟨_,rfl⟩;rw[bHK]at hv hT ⊢;have hd:v/y1<=v:=bUE _ _;have w5:u64.wrap ((v:Int).tdiv (y1:Int))=((v/y1:Nat):Int):=by
  rw[bTG (by omega),<-bRH];exact aBB (by omega)
 have w6:u64.wrap ((v:Int)-u64.wrap (((v/y1:Nat):Int)*(y1:Int)))=((v%y1:Nat):Int):=by
  have:=dm v;have hm:=bNZ v (show 0<y1 by omega);rw[<-bRP];generalize v/y1*y1=z at *;generalize v%y1=m at *;rw[wrap_u64 (n:=(z:Int)),wrap_u64];omega
 have l2:aVV Y s y1 y0 u0 q1 ((v%y1:Nat):Int) v ((v/y1:Nat):Int)=aVY Y s u0 q1 v (((v*4294967296+u0)/(y1*4294967296+y0):Nat):Int) :=
  loop aDK aNY aLT hv aQR (fun q r=>aVV Y s y1 y0 u0 q1 r v q) (fun q r=>bCL Y s y1 y0 u0 q1 r v q) (aVY Y s u0 q1 v) (fun q r=>aPX ..) (fun q r=>aQB ..) (v/y1) (v%y1) (dm v) (by have:=bNZ v (show 0<y1 by omega);omega) (aBY v u0 aQR)
 rw[w5,w6,l2];rw[aQA,aY,aRP];have m2:=aSL (u:=v) (u1:=u0) hy (by omega);rw[<-hY]at m2;rw[m2];have hw:=bNZ (v*4294967296+u0) hy;have hT0:=bQX (v*4294967296+u0) (y1*4294967296+y0);have aQS:(v*4294967296+u0)/(y1*4294967296+y0)<4294967296:=bRL (by omega);have hq1':q1<4294967296:=by rw[<-Mw];exact bRL (by omega)
 obtain⟨q0,bHX⟩:∃q0,(v*4294967296+u0)/(y1*4294967296+y0)=q0:=⟨_,rfl⟩;obtain⟨w,bHI⟩:∃w,(v*4294967296+u0)%(y1*4294967296+y0)=w:=⟨_,rfl⟩;rw[bHX]at hT0 aQS ⊢;rw[bHI]at hT0 hw ⊢;have key:u*18446744073709551616+(u1*4294967296+u0)=(y1*4294967296+y0)*(q1*4294967296+q0)+w:=by
  rw[bQR,<-bQU];generalize (y1*4294967296+y0)*q1=A at *;generalize (y1*4294967296+y0)*q0=C at *;omega
 rw[key,bVJ hy,bRO hw,bXR,bWG hw,bMS,bPN,show min s 64=s from by omega];have w7:u64.wrap (u64.wrap ((q1:Int)*4294967296)+(q0:Int))=((q1*4294967296+q0:Nat):Int):=by
  rw[wrap_u64 (n:=(q1:Int)*4294967296),wrap_u64];omega
 rw[w7,<-bRH]
def sp(a b c:Int):Prop×List D:=((0<=a/\a<c)/\(0<=b/\b<18446744073709551616)/\c<18446744073709551616,[.s (.sc (.int .u64 (((a.toNat*18446744073709551616+b.toNat)/c.toNat:Nat):Int))),.s (.sc (.int .u64 (((a.toNat*18446744073709551616+b.toNat)%c.toNat:Nat):Int)))])
theorem spec:qR E f226 aE (pN .u64) (pN .u64) (pN .u64) sp:=by
 rintro a b c ⟨⟨h1,h2⟩,⟨h3,h4⟩,h5⟩;refine(start a b c).trans ?_;obtain⟨x,rfl⟩:=bQT h1;obtain⟨l,rfl⟩:=bQT h3;obtain⟨y,rfl⟩:=bQT (show 0<=c by omega);show _=some [D.s (.sc (.int .u64 ((((x:Int).toNat*18446744073709551616+(l:Int).toNat)/(y:Int).toNat:Nat):Int))),D.s (.sc (.int .u64 ((((x:Int).toNat*18446744073709551616+(l:Int).toNat)%(y:Int).toNat:Nat):Int)))];rw[bPN,bPN,bPN,bP,gH,aI,Is]
 by_cases hx:x=0
 ·subst hx;have hd:l/y<=l:=bUE _ _;rw[cC (a:=((0:Nat):Int)) (b:=0) rfl,aY,aY,bTG (by omega),bTH (by omega),<-bRH,<-bSI,aBB (by omega),Nat.zero_mul,bLT]
 ·have aLT:y≠0:=by omega
  have bER:=rQ aLT;have hb64:bl y<=64:=dP.2 (by omega);have yL:=Xz aLT;have iN:=tJ y;obtain⟨s,hs⟩:∃s,s=64-bl y:=⟨_,rfl⟩;have aZE:s<=63:=by omega
  have w1:u64.wrap (64-(bl y:Int))=(s:Int):=by rw[wrap_u64];omega
  have w2:u64.wrap (64-(s:Int))=((64-s:Nat):Int):=by rw[wrap_u64];omega
  have aMM:2^(64-s)*2^s=18446744073709551616:=by rw[<-bQS,show 64-s+s=64 from by omega]
  have bLC:2^(bl y-1)*2^s=9223372036854775808:=by rw[<-bQS,show bl y-1+s=63 from by omega]
  have Qd:0<2^s:=cN;have hyp:y+1<=2^(64-s):=by rw[show 64-s=bl y from by omega];omega
  have aYO:(y+1)*2^s<=18446744073709551616:=by rw[<-aMM];exact bNE _ hyp
  have hyp2:9223372036854775808<=y*2^s:=by rw[<-bLC];exact bNE _ yL
  have aQQ:(x+1)*2^s<=y*2^s:=bNE _ (by omega);rw[bML,bPU]at aYO aQQ;have wy:u64.wrap ((y:Int)*((2^s:Nat):Int))=((y*2^s:Nat):Int):=by rw[<-bRP];exact wrap_u64
  have wx:u64.wrap ((x:Int)*((2^s:Nat):Int))=((x*2^s:Nat):Int):=by rw[<-bRP];exact wrap_u64
  have wl:u64.wrap ((l:Int)*((2^s:Nat):Int))=((l*2^s%18446744073709551616:Nat):Int):=by rw[<-bRP,eE];omega
  have Tq:l/2^(64-s)<2^s:=by
   apply bRL;rw[aMM];omega
  have aOC:=Bs l s (by omega);have bCO:dX .or .u64 ((x*2^s:Nat):Int) (((l/2^(64-s):Nat)):Int)=((x*2^s+l/2^(64-s):Nat):Int):=by
   have:=Cc (n:=x) Tq;rw[Pq (by omega) (by omega) (by omega) (by omega),bPN,bPN,Nat.or_comm,bQP x,this,bRS]
  have aRR:∀z:Nat,z<18446744073709551616->dX .and .u64 (z:Int) 4294967295=((z%4294967296:Nat):Int):=by
   intro z hz;rw[oK (by omega) (by omega)];omega
  rw[bP,gP ⟨by omega,by omega⟩,bPN,w1,w2,aY,aY,aY,aY,
   bPN,bPN,show min s 64=s from by omega,show min (64-s) 64=64-s from by omega,wy,wx,wl,<-bRH l,bCO]
  have hu:x*2^s+l/2^(64-s)<y*2^s:=by omega
  have hU:(x*18446744073709551616+l)*2^s=(x*2^s+l/2^(64-s))*18446744073709551616+l*2^s%18446744073709551616:=by
   rw[bML,aOC,bWQ];omega
  have bIK:l*2^s%18446744073709551616<18446744073709551616:=bNZ _ (by omega);have hdiv:(x*18446744073709551616+l)/y=((x*2^s+l/2^(64-s))*18446744073709551616+l*2^s%18446744073709551616)/(y*2^s):=by
   rw[<-hU,bUP _ _ Qd]
  have aTV:(x*18446744073709551616+l)%y=((x*2^s+l/2^(64-s))*18446744073709551616+l*2^s%18446744073709551616)%(y*2^s)/2^s:=by
   rw[<-hU,bUQ,bVU _ Qd]
  rw[hdiv,aTV];clear hdiv aTV hU bCO wl wx wy aOC Tq aQQ;generalize x*2^s+l/2^(64-s)=U at *;generalize y*2^s=Y at *;generalize l*2^s%18446744073709551616=V at *;have k:=aSN (y1:=Y/4294967296) (y0:=Y%4294967296) (u:=U) (u1:=V/4294967296) (u0:=V%4294967296) (s:=s) (by omega) (by omega) (by omega) (by omega) (by omega) (by omega) aZE;rw[show Y/4294967296*4294967296+Y%4294967296=Y from by omega,show V/4294967296*4294967296+V%4294967296=V from by omega]at k;have bJX:(Y:Int)/4294967296=((Y/4294967296:Nat):Int):=by omega
  have bEU:(V:Int)/4294967296=((V/4294967296:Nat):Int):=by omega
  have hd:U/(Y/4294967296)<=U:=bUE _ _;have aJM:=bQX U (Y/4294967296);have q1:u64.wrap ((U:Int).tdiv ((Y/4294967296:Nat):Int))=((U/(Y/4294967296):Nat):Int):=by
   rw[bTG (by omega),<-bRH];exact aBB (by omega)
  have r1:u64.wrap ((U:Int)-u64.wrap (((U/(Y/4294967296):Nat):Int)*((Y/4294967296:Nat):Int)))=((U%(Y/4294967296):Nat):Int):=by
   rw[<-bRP,bQP];generalize Y/4294967296*(U/(Y/4294967296))=z at *;generalize U%(Y/4294967296)=m at *;rw[wrap_u64 (n:=(z:Int)),wrap_u64];omega
  rw[bJX,bEU,aY,aRR _ (by omega),aRR _ bIK,q1,r1];exact k
def aG:cX:=orc3 (pN .u64) (pN .u64) (pN .u64) sp
theorem ok:OK 226 aG:=(eB E aE (aA aGR.ok aD) func226).zA rfl spec
end pE
namespace lN
def E:=mE [(144,fC.aG),(145,bZ.aG),(226,pE.aG)] 45 [34,40] [(8,[0,1,7,8,9])] []
def aE:=bd f194
theorem aW:Nk E aE:=nk
def L8 a b (c:Nat) (d:List Int) e f:=nG E f194 aE 8 [fW a,cG b,yD 2 c 22 d,cG e,bI f]
theorem start a b:aF E f194 aE [D.s (ints u64 a),D.s (sc (int u64 b))]=letI B:=sc (slice none 0 0);letI A:=(a.length:Int);aP (a.length<=1099511627776) (aB (!fC.mU a) (some [D.s B,D.s (sc (int u64 0)),D.s (sc (int i64 2))]) (aB (b==0) (some [D.s B,D.s (sc (int u64 0)),D.s (sc (int i64 4))]) (if 0<=A/\A<=A/\A<=(8796093022208:Int)then lN.L8 a b A.toNat (bNU A.toNat (0:Int)) 0 (i64.wrap (A-(1:Int)))else none))):=eJ aW
theorem Eb a b c d e f:L8 a b c d e f=letI A:=e.toNat*18446744073709551616+(a.getD f.toNat 0).toNat;aB (decide (0<=f)) (if 0<=f/\f<(a.length:Int)then aP ((0<=e/\e<b)/\(0<=a.getD f.toNat 0/\a.getD f.toNat 0<(18446744073709551616:Int))/\b<18446744073709551616) (if 0<=f/\f<(c:Int)then lN.L8 a b c (d.set f.toNat (↑(A/b.toNat):Int)) (↑(A%b.toNat):Int) (i64.wrap (f-1))else none)else none) (aP (M6.cA d/\d.length<=1099511627776) (some [D.s (ints u64 (bif bZ.kU (M6.val d)then M6.dg (M6.val d)else [])),D.s (sc (int u64 e)),D.s (sc (int i64 0))])):=lJ aW
theorem L{a:List Int}{b:Nat}(ha:M6.cD a)(hl:a.length<=8192)(hb0:0<b)(hb:b<18446744073709551616):∀(i:Nat) (Q:List Int),i+Q.length=a.length->M6.cA Q->M6.val Q=M6.val (a.drop i)/b ->
  L8 a b a.length (bNU i 0 ++ Q) ((M6.val (a.drop i)%b:Nat):Int) ((i:Int)-1)=some [D.s (.ints .u64 (M6.dg (M6.val a/b))),D.s (.sc (.int .u64 ((M6.val a%b:Nat):Int))),D.s (.sc (.int .i64 0))]:=by
 intro i
 induction i with
 |zero =>
  intro Q hi hd hv;have Kt:bZ.kU (M6.val a/b)=true:=by
   refine decide_eq_true ?_;rw[bRY]at hv;rw[<-hv];have:=M6.oP hd;omega
  rw[bRY]at hv ⊢;rw[List.replicate_zero,bPT,Eb,aI,gP ⟨hd,by omega⟩,hv,Kt];rfl
 |succ i ih =>
  intro Q hi hd hv;have g:=ha.iP.get i;have hm:=bNZ (M6.val (a.drop (i+1))) hb0;have aJM:=bQX (M6.val (a.drop (i+1))) b;have w:i64.wrap ((i:Int)-1)=(i:Int)-1:=by rw[wrap_i64]
  have hs:(bNU i (0:Int) ++ 0 :: Q).set i ((((M6.val (a.drop (i+1))%b)*18446744073709551616+(a.getD i 0).toNat)/b:Nat):Int)=bNU i 0 ++ (((((M6.val (a.drop (i+1))%b)*18446744073709551616+(a.getD i 0).toNat)/b:Nat):Int) :: Q):=Bu (by simp) _ _ _;have hN:M6.val (a.drop i)=b*(18446744073709551616*(M6.val (a.drop (i+1))/b))+((M6.val (a.drop (i+1))%b)*18446744073709551616+(a.getD i 0).toNat):=by
   rw[M6.fM,bTO];generalize b*(M6.val (a.drop (i+1))/b)=z at *;omega
  have hq:((M6.val (a.drop (i+1))%b)*18446744073709551616+(a.getD i 0).toNat)/b<18446744073709551616:=by
   apply bRL;have:(M6.val (a.drop (i+1))%b+1)*18446744073709551616<=b*18446744073709551616:=bNE _ hm;omega
  have aMC:(0:Int)<=((M6.val (a.drop (i+1))%b:Nat):Int)/\((M6.val (a.drop (i+1))%b:Nat):Int)<(b:Int):=⟨bVK _,Int.ofNat_lt.2 hm⟩;have aLY:=ih (((((M6.val (a.drop (i+1))%b)*18446744073709551616+(a.getD i 0).toNat)/b:Nat):Int) :: Q) (by rw[List.length_cons];omega) (M6.jJ.2 ⟨⟨bVK _,Int.ofNat_lt.2 hq⟩,hd⟩) (by
    show(((((M6.val (a.drop (i+1))%b)*18446744073709551616+(a.getD i 0).toNat)/b:Nat):Int)).toNat+18446744073709551616*M6.val Q=_;rw[bPN,hN,bVJ hb0,hv,bRS])
  rw[Eb,show(((i+1:Nat):Int)-1)=(i:Int)from by omega,aO,if_pos ⟨by omega,by omega⟩,bPN,gP ⟨aMC,g,by omega⟩,if_pos ⟨by omega,by omega⟩,bPN,bPN,w,List.replicate_succ',bNM,bSN,hs];rw[hN,bXR]at aLY;exact aLY
def sp(a:List Int)(n:Int):Prop×List D:=(M6.cD a/\a.length<=8192/\0<n/\n<18446744073709551616,[.s (.ints .u64 (M6.dg (M6.val a/n.toNat))),.s (.sc (.int .u64 ((M6.val a%n.toNat:Nat):Int))),.s (.sc (.int .i64 0))])
theorem spec:fK E f194 aE (pI .u64) (pN .u64) sp:=by
 rintro a n ⟨ha,hl,h0,h1⟩;obtain⟨b,rfl⟩:=bQT (show 0<=n by omega);refine(start a b).trans ?_;show _=some [D.s (.ints .u64 (M6.dg (M6.val a/(b:Int).toNat))),D.s (.sc (.int .u64 ((M6.val a%(b:Int).toNat:Nat):Int))),D.s (.sc (.int .i64 0))];have w:i64.wrap ((a.length:Int)-1)=(a.length:Int)-1:=by rw[wrap_i64]
 rw[bPN,bPN,gP,fC.lT ha hl,bNR,bF,bP,if_pos ⟨by omega,by omega,by omega⟩,w];have:=L (b:=b) ha hl (by omega) (by omega) a.length [] (by simp) M6.lV (by simp[M6.val]);rw[bRR,List.drop_length]at this;simp only[M6.val,bTN]at this;exact this
def aG:cX:=orc2 (pI .u64) (pN .u64) sp
theorem ok:OK 194 aG:=(eB E aE (aA fC.ok (aA bZ.ok (aA pE.ok aD))) func194).lE rfl spec
end lN
namespace xB
def E:=mE [] 43 [] [(7,[1,7,8,19,20])] []
def aE:=bd f196
theorem aW:Nk E aE:=nk
def L7 a (b:Nat) (c:List Int) d e f:=nG E f196 aE 7 [bI a,yD 1 b 22 c,cG d,bI e,bI f]
theorem start a b c:aF E f196 aE [D.s (ints u64 a),D.s (sc (int i64 b)),D.s (sc (int i64 c))]=letI A:=bRM c.toNat a ++ bRN (min a.length c.toNat) (bNU c.toNat (0:Int));if 0<=c/\c<=c/\c<=8796093022208 then aB (b==0) (some [D.own 22 u64 A]) (xB.L7 b c.toNat A 0 (c.toNat:Int) 0)else none:=eJ aW
theorem tZ a b c d e f:L7 a b c d e f=aB (decide (f<e)) (if 0<=f/\f<(b:Int)then if a<0 then none else if 0<=f/\f<(b:Int)then if i64.wrap ((64:Int)-a)<0 then none else if 0<=f/\f<(b:Int)then xB.L7 a b (c.set f.toNat (dX BinOp.or u64 (u64.wrap (c.getD f.toNat 0*(↑((2:Nat)^min a.toNat 64):Int))) d)) (c.getD f.toNat 0/(↑((2:Nat)^min (i64.wrap ((64:Int)-a)).toNat 64):Int)) e (i64.wrap (f+1))else none else none else none) (some [D.own 22 u64 c]):=lJ aW
def sp(a:List Int)(s n:Int):Prop×List D:=(M6.cA a/\0<=s/\s<64/\0<=n/\a.length<=n.toNat/\n<=549755813888/\M6.val a*2^s.toNat<18446744073709551616^n.toNat,[.own eX .u64 (M6.nS n.toNat (M6.val a*2^s.toNat))])
theorem L{A:List Int}{s n:Nat}(hA:M6.cA A)(bBH:A.length=n)(hn:n<=549755813888)(Jb:0<s)(hs:s<64)(hT:M6.val A*2^s<18446744073709551616^n):∀(r i:Nat) (P:List Int) (c:Int),i+r=n->P.length=i->M6.cA P->0<=c->c<((2^s:Nat):Int) ->
  M6.val P+18446744073709551616^i*c.toNat=M6.val (A.take i)*2^s ->
  L7 s n (P ++ A.drop i) c n i=some [.own eX .u64 (M6.nS n (M6.val A*2^s))]:=by
 have Qd:2^s<2^64:=bSK (by omega) hs;intro r
 induction r with
 |zero =>
  intro i P c hi hP hd h0 h1 hv;have Jc:i=n:=by omega
  subst Jc;rw[M6.cE (by omega)]at hv;have hc:c=0:=by
   rcases bXE 0 c with h |h
   ·have h2:18446744073709551616^i*1<=18446744073709551616^i*c.toNat:=bOF _ (by omega);omega
   ·omega
  subst hc;simp at hv;rw[tZ,aI,bXD (by omega),bRR,M6.nI hd hP hv]
 |succ r ih =>
  intro i P c hi hP hd h0 h1 hv;have g:=hA.get i;have w1:i64.wrap ((i:Int)+1)=((i+1:Nat):Int):=by rw[wrap_i64];omega
  have w3:i64.wrap (64-(s:Int))=((64-s:Nat):Int):=by rw[wrap_i64];omega
  have m1:min s 64=s:=by omega
  have m2:min (64-s) 64=64-s:=by omega
  have aEA:A.drop i=A.getD i 0 :: A.drop (i+1):=by
   rw[List.drop_eq_getElem_cons (by omega)];simp[bQV,List.getElem?_eq_getElem (show i<A.length by omega)]
  obtain⟨x,hx⟩:=bQT g.1;have iN:x*2^s%18446744073709551616<18446744073709551616:=bNZ _ (by omega);have Tq:u64.wrap ((x:Int)*((2^s:Nat):Int))=((x*2^s%18446744073709551616:Nat):Int):=by
   rw[eE,<-bRP,bSI];rfl
  have aJG:c.toNat+x*2^s%18446744073709551616<18446744073709551616:=by
   rw[Es x s hs];have hm:x%2^(64-s)<2^(64-s):=bNZ _ (cN);have e:(18446744073709551616:Nat)=2^s*2^(64-s):=by rw[<-bQS,show s+(64-s)=64 from by omega]
   have h3:2^s*(x%2^(64-s)+1)<=2^s*2^(64-s):=bOF _ hm;rw[<-e,bQR]at h3;omega
  have aTN:dX .or .u64 ((x*2^s%18446744073709551616:Nat):Int) c=c+((x*2^s%18446744073709551616:Nat):Int):=by
   rw[Pq (by omega) (by omega) h0 (by omega),bPN,Nat.or_comm,Es x s hs,Cc (by omega)];omega
  have Si:x/2^(64-s)<2^s:=by
   apply bRL;rw[<-bQS,show 64-s+s=64 from by omega];omega
  rw[aEA,tZ,aO,aU,aY,aU,w3,aY,aU,w1,bPN,bPN,bPN,m1,m2,Co hP,Bu hP,hx,Tq,aTN];have aOC:=Bs x s hs;have:=ih (i+1) (P ++ [c+((x*2^s%18446744073709551616:Nat):Int)]) ((x/2^(64-s):Nat):Int) (by omega) (by simp[hP]) (M6.lF hd ⟨by omega,by omega⟩) (by omega) (by omega) (by
   rw[M6.lD,hP,M6.cB,hx,bPN,bPN,bQQ,bQU,bML];have e1:(c+(((x*2^s%18446744073709551616:Nat)):Int)).toNat=c.toNat+x*2^s%18446744073709551616:=by omega
   rw[e1];have e2:18446744073709551616^i*(c.toNat+x*2^s%18446744073709551616)+18446744073709551616^i*(18446744073709551616*(x/2^(64-s)))=18446744073709551616^i*c.toNat+18446744073709551616^i*x*2^s:=by
    rw[bQU,<-bQR,<-bQR];congr 1;omega
   omega)
  rw[bNM,bSN,bRH]at this;exact this
theorem spec:qR E f196 aE (pI .u64) (pN .i64) (pN .i64) sp:=by
 rintro a s n ⟨hd,Jb,hs,Ef,hl,hn,hT⟩;obtain⟨s,rfl⟩:=bQT Jb;obtain⟨n,rfl⟩:=bQT Ef;simp only[sp,bPN]at hl hT ⊢;refine(start a s n).trans ?_;have hA:bRM n a ++ bRN (min a.length n) (bNU n (0:Int))=a ++ bNU (n-a.length) 0:=by
  rw[bTC hl,bXF,bRX hl]
 have aEH:M6.val (a ++ bNU (n-a.length) 0)=M6.val a:=by rw[M6.iA,M6.iG];omega
 have bEZ:M6.cA (a ++ bNU (n-a.length) 0):=M6.oI.2 ⟨hd,M6.iI _⟩;have bBH:(a ++ bNU (n-a.length) 0).length=n:=by simp;omega
 rw[aU,bPN,hA]
 by_cases hz:s=0
 ·subst hz;rw[cC (by rfl),bVS,bMB,M6.nI bEZ bBH aEH]
 ·rw[bP];have hp:0<((2^s:Nat):Int):=by
   have:0<2^s:=cN;omega
  have:=L (s:=s) bEZ bBH (by omega) (by omega) (by omega) (by rw[aEH];exact hT) n 0 [] 0 (by omega) rfl M6.lV (by omega) hp (by simp[M6.val]);rw[bPT,bRY,aEH]at this;exact this
def aG:cX:=orc3 (pI .u64) (pN .i64) (pN .i64) sp
theorem ok:OK 196 aG:=(eB E aE aD func196).zA rfl spec
end xB
namespace Uv
def E:=mE [(226,pE.aG)] 20 [16] [] []
def aE:=bd f227
theorem aW:Nk E aE:=nk
theorem start a b c:aF E f227 aE [D.s (sc (int u64 a)),D.s (sc (int u64 b)),D.s (sc (int u64 c))]=aB (decide (c<=a)) (some [D.s (sc (int u64 18446744073709551615))]) (aP ((0<=a/\a<c)/\(0<=b/\b<18446744073709551616)/\c<18446744073709551616) (some [D.s (sc (int u64 (↑((a.toNat*18446744073709551616+b.toNat)/c.toNat):Int)))])):=eJ aW
def sp(a b c:Int):Prop×List D:=(0<=a/\0<=b/\b<18446744073709551616/\c<18446744073709551616,[.s (.sc (.int .u64 (if c<=a then 18446744073709551615 else(((a.toNat*18446744073709551616+b.toNat)/c.toNat:Nat):Int))))])
theorem spec:qR E f227 aE (pN .u64) (pN .u64) (pN .u64) sp:=by
 rintro a b c ⟨h1,h2,h3,h4⟩;refine(start a b c).trans ?_;simp only[sp]
 by_cases hc:c<=a
 ·rw[aO hc,if_pos hc]
 ·rw[aI hc,if_neg hc,gP ⟨⟨h1,by omega⟩,⟨h2,h3⟩,h4⟩]
def aG:cX:=orc3 (pN .u64) (pN .u64) (pN .u64) sp
theorem ok:OK 227 aG:=(eB E aE (aA pE.ok aD) func227).zA rfl spec
end Uv
namespace qE
def E:Env:={ ({ base with C:=callsOf [(250,Ij.aG)],n0:=1,io:=[0] })with nt:=66,own:=[45,61],keep:=fun k=>(tlook [(3,[0,1,2,7,8,14,15])] k).getD [],cut:=tlook [] }
def aE:=bd f228
theorem aW:Nk E aE:=nk
def L3(a:List Int)(b:Nat)(c:Nat) d f g h i j:=nG E f228 aE 3 [(A.any,some { e:=(22:Nat),cont:=qU.ints u64 a }),(A.v (V.one (L.view 0 b c)),none),fW d,cG f,cG g,cG h,bI i,bI j]
theorem start al ao an b c:aF E f228 aE [D.io eX u64 al ao an,D.s (ints u64 b),D.s (sc (int u64 c))]=qE.L3 al ao an b c 0 0 (b.length:Int) 0:=eJ aW
theorem pD a b c d e f g h i:L3 a b c d e f g h i=letI C:=b+i.toNat;letI B:=(d.length:Int);letI F:=b+B.toNat;letI A:=d.getD i.toNat 0*e%18446744073709551616+f+0;aB (decide (i<h)) (if 0<=i/\i<B then aP (0<=d.getD i.toNat 0/\d.getD i.toNat 0<(18446744073709551616:Int)/\0<=e/\e<18446744073709551616) (aP (0<=d.getD i.toNat 0*e%18446744073709551616/\0<=f/\(0:Int)<=(0:Int)/\(0:Int)<=(1:Int)) (if 0<=i/\i<(c:Int)then aP (0<=a.getD C 0/\0<=A%18446744073709551616/\A%18446744073709551616<(18446744073709551616:Int)/\0<=g/\g<=1) (if 0<=i/\i<(c:Int)then qE.L3 (a.set C ((a.getD C 0-A%18446744073709551616-g)%18446744073709551616)) b c d e (u64.wrap (d.getD i.toNat 0*e/18446744073709551616+A/18446744073709551616)) (if a.getD C 0<A%18446744073709551616+g then(1:Int)else(0:Int)) h (i64.wrap (i+1))else none)else none))else none) (if 0<=B/\B<(c:Int)then aP (0<=a.getD F 0/\0<=f/\f<18446744073709551616/\0<=g/\g<=1) (if 0<=B/\B<(c:Int)then some [D.s (sc (int u64 (if a.getD F 0<f+g then(1:Int)else(0:Int)))),D.io 22 u64 (a.set F ((a.getD F 0-f-g)%18446744073709551616)) 0 0]else none)else none):=lJ aW
def Ou(v o n X:Nat):Nat:=if v/18446744073709551616^o%18446744073709551616^n<X then 1 else 0
def sp(x:List Int×Nat×Nat)(b:List Int)(w:Int):Prop×List D:=(M6.cA x.1/\x.2.2=b.length+1/\x.2.1+x.2.2<=x.1.length/\M6.cA b/\x.1.length<=1099511627776/\0<=w/\w<18446744073709551616,
 [.s (.sc (.int .u64 (Ou (M6.val x.1) x.2.1 x.2.2 (M6.val b*w.toNat)))),.io eX .u64 (M6.nS x.1.length (M6.val x.1+18446744073709551616^(x.2.1+x.2.2)*Ou (M6.val x.1) x.2.1 x.2.2 (M6.val b*w.toNat)-18446744073709551616^x.2.1*(M6.val b*w.toNat))) 0 0])
theorem fin{a z':List Int}{o n X c N:Nat}(aRB:c<=1)(hd:M6.cA a)(Ds:M6.cA z')(hl:z'.length=N)(h1:z'.take o=a.take o)(h2:z'.drop (o+n)=a.drop (o+n))(h:M6.val z'+18446744073709551616^o*X=M6.val a+18446744073709551616^(o+n)*c) :
  c=Ou (M6.val a) o n X/\z'=M6.nS N (M6.val a+18446744073709551616^(o+n)*Ou (M6.val a) o n X-18446744073709551616^o*X):=by
 obtain⟨k1,k2⟩:=M6.Oy hd Ds h1 h2;have e:=M6.Ox k1 k2 h;have iN:=M6.Sl (M6.val z') o n;have hc:c=Ou (M6.val a) o n X:=by
  unfold Ou;have:c=0\/c=1:=by omega
  rcases this with rfl |rfl
  ·rw[aY]
  ·rw[aU]
 subst hc;exact⟨rfl,M6.nI Ds hl (by omega)⟩
theorem aRV{x C s:Int}{p:Nat}(hp:p<=340282366920938463426481119284349108225)(h0:0<=x)(h1:x<18446744073709551616)(h2:0<=C)(h3:C<18446744073709551616)(h4:0<=s)(h5:s<=1) :
  (0<=(p:Int)/18446744073709551616+((p:Int)%18446744073709551616+C+0)/18446744073709551616/\(p:Int)/18446744073709551616+((p:Int)%18446744073709551616+C+0)/18446744073709551616<18446744073709551616) /\
  ((x-((p:Int)%18446744073709551616+C+0)%18446744073709551616-s)%18446744073709551616).toNat+p+C.toNat+s.toNat=x.toNat+18446744073709551616*(((p:Int)/18446744073709551616+((p:Int)%18446744073709551616+C+0)/18446744073709551616).toNat+(if x<((p:Int)%18446744073709551616+C+0)%18446744073709551616+s then(1:Int)else 0).toNat):=by
 split <;> omega
theorem L{a b:List Int}{o:Nat}{w:Int}(hN:a.length<=1099511627776)(ha:M6.cA a)(hb:M6.cA b)(ho:o+(b.length+1)<=a.length)(Yy:0<=w)(aYR:w<18446744073709551616):∀(r i:Nat) (z:List Int) (C s:Int),i+r=b.length->z.length=a.length->M6.cA z->0<=C->C<18446744073709551616->0<=s->s<=1->z.take o=a.take o->z.drop (o+(b.length+1))=a.drop (o+(b.length+1)) ->
  M6.val z+18446744073709551616^o*(M6.val (b.take i)*w.toNat)=M6.val a+18446744073709551616^(o+i)*(C.toNat+s.toNat) ->
  L3 z o (b.length+1) b w C s b.length i=some [.s (.sc (.int .u64 (Ou (M6.val a) o (b.length+1) (M6.val b*w.toNat)))),.io eX .u64 (M6.nS a.length (M6.val a+18446744073709551616^(o+(b.length+1))*Ou (M6.val a) o (b.length+1) (M6.val b*w.toNat)-18446744073709551616^o*(M6.val b*w.toNat))) 0 0]:=by
 intro r
 induction r with
 |zero =>
  intro i z C s hi hz hd h0 h1 h2 h3 ht aHP hv;have aOL:i=b.length:=by omega
  subst aOL;rw[bSM]at hv;have g:=hd.get (o+b.length);rw[pD,aI,aU,bPN,gP ⟨g.1,h0,h1,h2,h3⟩,aU];have hs:=M6.oN (a:=z) (j:=o+b.length) (by omega) ((z.getD (o+b.length) 0-C-s)%18446744073709551616);have hf:=fin (a:=a) (z':=z.set (o+b.length) ((z.getD (o+b.length) 0-C-s)%18446744073709551616)) (o:=o) (n:=b.length+1) (X:=M6.val b*w.toNat) (c:=(if z.getD (o+b.length) 0<C+s then(1:Int)else 0).toNat) (N:=a.length) (by split <;> omega) ha (M6.lU hd (by omega)) (by simp[hz]) (by rw[bWM (by omega)];exact ht) (by rw[bWS (by omega)];exact aHP) (by
   rw[<-bPH o,bQQ,bQU];generalize z.getD (o+b.length) 0=x at *;generalize M6.val (z.set (o+b.length) _)=W at *;generalize 18446744073709551616^(o+b.length)=P at *;have e:((x-C-s)%18446744073709551616).toNat+(C.toNat+s.toNat)=x.toNat+18446744073709551616*(if x<C+s then(1:Int)else 0).toNat:=by split <;> omega
   have e2:P*((x-C-s)%18446744073709551616).toNat+P*(C.toNat+s.toNat)=P*x.toNat+P*(18446744073709551616*(if x<C+s then(1:Int)else 0).toNat):=by
    rw[<-bQR,e,bQR]
   omega)
  rw[<-hf.2,<-hf.1,bXS (by split <;> omega)]
 |succ r ih =>
  intro i z C s hi hz hd h0 h1 h2 h3 ht aHP hv;have g:=hd.get (o+i);have g2:=hb.get i;have w2:i64.wrap ((i:Int)+1)=((i+1:Nat):Int):=by rw[wrap_i64];omega
  obtain⟨X,hX⟩:=bQT g2.1;obtain⟨Y,hY⟩:=bQT Yy;have bAX:X*Y<=340282366920938463426481119284349108225:=by
   have h2:X<=18446744073709551615:=by omega
   have h3:Y<=18446744073709551615:=by omega
   have:=bWF h2 h3;omega
  obtain⟨k1,k2⟩:=aRV bAX g.1 g.2 h0 h1 h2 h3;rw[pD,aO,aU,w2];simp only[bPN];have hq:b.getD i 0*w=((X*Y:Nat):Int):=by rw[hX,hY];simp
  rw[gP ⟨g2.1,g2.2,Yy,aYR⟩];simp only[hq];rw[gP ⟨by omega,by omega,by omega,by omega⟩,aU,gP ⟨g.1,by omega,by omega,h2,h3⟩,aU,wrap_u64 k1.1 k1.2];refine ih (i+1) _ _ (if z.getD (o+i) 0<(((X*Y:Nat):Int)%18446744073709551616+C+0)%18446744073709551616+s then(1:Int)else 0) (by omega) (by simp[hz]) (M6.lU hd (by omega)) k1.1 k1.2 (by split <;> omega) (by split <;> omega) (by rw[bWM (by omega)];exact ht) (by rw[bWS (by omega)];exact aHP) ?_;have hs:=M6.oN (a:=z) (j:=o+i) (by omega) ((z.getD (o+i) 0-(((X*Y:Nat):Int)%18446744073709551616+C+0)%18446744073709551616-s)%18446744073709551616);have e0:18446744073709551616^o*(M6.val (b.take (i+1))*w.toNat)=18446744073709551616^o*(M6.val (b.take i)*w.toNat)+18446744073709551616^(o+i)*(X*Y):=by
   rw[M6.cB,hX,hY,bPN,bPN,bML,bQR,bQS,bQU,bQU]
  rw[e0,show o+(i+1)=(o+i)+1 from by omega,bQQ,bQU];generalize ((z.getD (o+i) 0-(((X*Y:Nat):Int)%18446744073709551616+C+0)%18446744073709551616-s)%18446744073709551616)=d at *;generalize (((X*Y:Nat):Int)/18446744073709551616+(((X*Y:Nat):Int)%18446744073709551616+C+0)/18446744073709551616).toNat=C' at *;generalize (if z.getD (o+i) 0<(((X*Y:Nat):Int)%18446744073709551616+C+0)%18446744073709551616+s then(1:Int)else 0).toNat=s' at *;generalize X*Y=q at *;generalize 18446744073709551616^(o+i)=P at *;generalize M6.val (z.set (o+i) d)=W at *;generalize (z.getD (o+i) 0).toNat=x at *;generalize 18446744073709551616^o*(M6.val (b.take i)*w.toNat)=U at *;have e2:P*d.toNat+P*q+P*(C.toNat+s.toNat)=P*x+P*(18446744073709551616*(C'+s')):=by
   rw[<-bQR,<-bQR,<-bQR];congr 1;omega
  omega
theorem bound{v o n N X:Nat}(hv:v<18446744073709551616^N)(bID:o+n<=N)(hX:X<18446744073709551616^n):v+18446744073709551616^(o+n)*Ou v o n X-18446744073709551616^o*X<18446744073709551616^N:=by
 have e1:=M6.xN v o n;have hW:=M6.Sl v o n;have hT:v/18446744073709551616^(o+n)<18446744073709551616^(N-(o+n)):=by
  apply bRL;rw[<-bQS,show o+n+(N-(o+n))=N from by omega];exact hv
 have hL:v%18446744073709551616^o<18446744073709551616^o:=bNZ _ (cN);have s2:18446744073709551616^(o+n)*(v/18446744073709551616^(o+n)+1)<=18446744073709551616^N:=by
  have:=bOF (18446744073709551616^(o+n)) hT;rw[<-bQS,show o+n+(N-(o+n))=N from by omega]at this;exact this
 rw[bQR]at s2;unfold Ou;generalize v/18446744073709551616^o%18446744073709551616^n=W at *;generalize v%18446744073709551616^o=L at *;generalize v/18446744073709551616^(o+n)=T at *;split
 ·rename_i iN;have:18446744073709551616^o*(W+1)<=18446744073709551616^o*X:=bOF _ iN;rw[bQR]at this;omega
 ·omega
theorem spec(x:List Int×Nat×Nat)(b:List Int)(w:Int)(h:(sp x b w).1):aF E f228 aE [(Ag eX .u64).put x,(pI .u64).put b,(pN .u64).put w]=some (sp x b w).2/\∃rs lC,(sp x b w).2=rs ++ [.io eX .u64 lC 0 0]/\lC.length=x.1.length:=by
 obtain⟨xl,o,n⟩:=x;obtain⟨hd,hn,ho,hb,hN,Yy,aYR⟩:=h;simp only at hd hn ho hN;subst hn;refine⟨(start xl o (b.length+1) b w).trans ?_,[_],_,rfl,M6.gB (bound (M6.cK hd) ho ?_)⟩
 ·exact L hN hd hb ho Yy aYR b.length 0 xl 0 0 (by omega) rfl hd (by omega) (by omega) (by omega) (by omega) rfl rfl (by simp[M6.val])
 ·rw[bQQ];exact bUF (M6.cK hb) (by omega)
def aG:cX:=orc3 (Ag eX .u64) (pI .u64) (pN .u64) sp
theorem fnok:kK prog E 228 f228 aE:=sV oV mixed (kG _ rfl (aA Ij.ok aD) (mG)) func228 rfl rfl rfl rfl rfl
theorem ok:nW prog base.glob 228 aG:=fnok.zA rfl spec
end qE
namespace vM
def E:Env:={ ({ base with n0:=1,io:=[0] })with nt:=44,own:=[24,39],keep:=fun k=>(tlook [(3,[0,1,5,8,9])] k).getD [],cut:=tlook [] }
def aE:=bd f229
theorem aW:Nk E aE:=nk
def L3(a:List Int)(b:Nat)(c:Nat) d f g h:=nG E f229 aE 3 [(A.any,some { e:=(22:Nat),cont:=qU.ints u64 a }),(A.v (V.one (L.view 0 b c)),none),fW d,cG f,bI g,bI h]
theorem start al ao an b:aF E f229 aE [D.io eX u64 al ao an,D.s (ints u64 b)]=vM.L3 al ao an b 0 (b.length:Int) 0:=eJ aW
theorem pD a b c d e f g:L3 a b c d e f g=letI G:=b+g.toNat;letI B:=a.getD G 0+d.getD g.toNat 0+e;letI A:=(d.length:Int);letI F:=b+A.toNat;letI C:=a.getD F 0+(0:Int)+e;aB (decide (g<f)) (if 0<=g/\g<(c:Int)then if 0<=g/\g<A then aP (0<=a.getD G 0/\0<=d.getD g.toNat 0/\0<=e/\e<=1) (if 0<=g/\g<(c:Int)then vM.L3 (a.set G (B%18446744073709551616)) b c d (B/18446744073709551616) f (i64.wrap (g+1))else none)else none else none) (if 0<=A/\A<(c:Int)then aP (0<=a.getD F 0/\(0:Int)<=(0:Int)/\0<=e/\e<=1) (if 0<=A/\A<(c:Int)then some [D.s (sc (int u64 (C/18446744073709551616))),D.io 22 u64 (a.set F (C%18446744073709551616)) 0 0]else none)else none):=lJ aW
def Sj(v o n X:Nat):Nat:=(v/18446744073709551616^o%18446744073709551616^n+X)/18446744073709551616^n
def sp(x:List Int×Nat×Nat)(b:List Int):Prop×List D:=(M6.cA x.1/\x.2.2=b.length+1/\x.2.1+x.2.2<=x.1.length/\M6.cA b/\x.1.length<=1099511627776,
 [.s (.sc (.int .u64 (Sj (M6.val x.1) x.2.1 x.2.2 (M6.val b)))),.io eX .u64 (M6.nS x.1.length (M6.val x.1+18446744073709551616^x.2.1*M6.val b-18446744073709551616^(x.2.1+x.2.2)*Sj (M6.val x.1) x.2.1 x.2.2 (M6.val b))) 0 0])
theorem fin{a z':List Int}{o n X c N:Nat}(hd:M6.cA a)(Ds:M6.cA z')(hl:z'.length=N)(h1:z'.take o=a.take o)(h2:z'.drop (o+n)=a.drop (o+n))(h:M6.val z'+18446744073709551616^(o+n)*c=M6.val a+18446744073709551616^o*X) :
  c=Sj (M6.val a) o n X/\z'=M6.nS N (M6.val a+18446744073709551616^o*X-18446744073709551616^(o+n)*Sj (M6.val a) o n X):=by
 obtain⟨k1,k2⟩:=M6.Oy hd Ds h1 h2;have e:=M6.Ox k1.symm k2.symm h.symm;have iN:=M6.Sl (M6.val z') o n;have hc:c=Sj (M6.val a) o n X:=by
  unfold Sj;rw[e];rw[bSH _ _ (cN),bRO iN,bLT]
 subst hc;exact⟨rfl,M6.nI Ds hl (by omega)⟩
theorem L{a b:List Int}{o:Nat}(hN:a.length<=1099511627776)(ha:M6.cA a)(hb:M6.cA b)(ho:o+(b.length+1)<=a.length):∀(r i:Nat) (z:List Int) (c:Int),i+r=b.length->z.length=a.length->M6.cA z->0<=c->c<=1->z.take o=a.take o->z.drop (o+(b.length+1))=a.drop (o+(b.length+1)) ->
  M6.val z+18446744073709551616^(o+i)*c.toNat=M6.val a+18446744073709551616^o*M6.val (b.take i) ->
  L3 z o (b.length+1) b c b.length i=some [.s (.sc (.int .u64 (Sj (M6.val a) o (b.length+1) (M6.val b)))),.io eX .u64 (M6.nS a.length (M6.val a+18446744073709551616^o*M6.val b-18446744073709551616^(o+(b.length+1))*Sj (M6.val a) o (b.length+1) (M6.val b))) 0 0]:=by
 intro r
 induction r with
 |zero =>
  intro i z c hi hz hd h0 h1 ht aHP hv;have aOL:i=b.length:=by omega
  subst aOL;rw[bSM]at hv;have g:=hd.get (o+b.length);rw[pD,aI,aU,bPN,gP ⟨g.1,by omega,h0,h1⟩,aU];have hs:=M6.oN (a:=z) (j:=o+b.length) (by omega) ((z.getD (o+b.length) 0+0+c)%18446744073709551616);have hf:=fin (a:=a) (z':=z.set (o+b.length) ((z.getD (o+b.length) 0+0+c)%18446744073709551616)) (o:=o) (n:=b.length+1) (X:=M6.val b) (c:=((z.getD (o+b.length) 0+0+c)/18446744073709551616).toNat) (N:=a.length) ha (M6.lU hd (by omega)) (by simp[hz]) (by rw[bWM (by omega)];exact ht) (by rw[bWS (by omega)];exact aHP) (by
   rw[<-bPH o,bQQ,bQU];generalize z.getD (o+b.length) 0=x at *;generalize M6.val (z.set (o+b.length) _)=W at *;generalize 18446744073709551616^(o+b.length)=P at *;have e:((x+0+c)%18446744073709551616).toNat+18446744073709551616*((x+0+c)/18446744073709551616).toNat=x.toNat+c.toNat:=by omega
   have e2:P*((x+0+c)%18446744073709551616).toNat+P*(18446744073709551616*((x+0+c)/18446744073709551616).toNat)=P*x.toNat+P*c.toNat:=by
    rw[<-bQR,e,bQR]
   omega)
  rw[<-hf.2,<-hf.1,bXS (by omega)]
 |succ r ih =>
  intro i z c hi hz hd h0 h1 ht aHP hv;have g:=hd.get (o+i);have g2:=hb.get i;have w2:i64.wrap ((i:Int)+1)=((i+1:Nat):Int):=by rw[wrap_i64];omega
  rw[pD,aO,aU,aU,bPN,gP ⟨g.1,g2.1,h0,h1⟩,aU,w2];refine ih (i+1) _ _ (by omega) (by simp[hz]) (M6.lU hd (by omega)) (by omega) (by omega) (by rw[bWM (by omega)];exact ht) (by rw[bWS (by omega)];exact aHP) ?_;have hs:=M6.oN (a:=z) (j:=o+i) (by omega) ((z.getD (o+i) 0+b.getD i 0+c)%18446744073709551616);rw[M6.cB,bQR,<-bQU,<-bQS,show o+(i+1)=(o+i)+1 from by omega,bQQ,bQU];generalize z.getD (o+i) 0=x at *;generalize b.getD i 0=y at *;generalize M6.val (z.set (o+i) _)=W at *;generalize 18446744073709551616^(o+i)=P at *;generalize 18446744073709551616^o*M6.val (b.take i)=U at *;have e:((x+y+c)%18446744073709551616).toNat+18446744073709551616*((x+y+c)/18446744073709551616).toNat=x.toNat+y.toNat+c.toNat:=by omega
  have e2:P*((x+y+c)%18446744073709551616).toNat+P*(18446744073709551616*((x+y+c)/18446744073709551616).toNat)=P*x.toNat+P*y.toNat+P*c.toNat:=by
   rw[<-bQR,e,bQR,bQR]
  omega
theorem bound{v o n N X:Nat}(hv:v<18446744073709551616^N)(bID:o+n<=N):v+18446744073709551616^o*X-18446744073709551616^(o+n)*Sj v o n X<18446744073709551616^N:=by
 have e1:=M6.xN v o n;unfold Sj;generalize hW:v/18446744073709551616^o%18446744073709551616^n=W at *;have h2:=bWI (W+X) (18446744073709551616^n);have h3:(W+X)%18446744073709551616^n<18446744073709551616^n:=bNZ _ (cN);generalize (W+X)/18446744073709551616^n=c at *;generalize (W+X)%18446744073709551616^n=M at *;have hL:v%18446744073709551616^o<18446744073709551616^o:=bNZ _ (cN);have hT:v/18446744073709551616^(o+n)<18446744073709551616^(N-(o+n)):=by
  apply bRL;rw[<-bQS,show o+n+(N-(o+n))=N from by omega];exact hv
 generalize v%18446744073709551616^o=L at *;generalize v/18446744073709551616^(o+n)=T at *;have e3:18446744073709551616^(o+n)*c=18446744073709551616^o*(18446744073709551616^n*c):=by rw[bQS,bQU]
 have e4:18446744073709551616^o*(W+X)=18446744073709551616^o*M+18446744073709551616^o*(18446744073709551616^n*c):=by rw[<-h2,bQR]
 rw[bQR]at e4;have e5:v+18446744073709551616^o*X-18446744073709551616^(o+n)*c=L+18446744073709551616^o*M+18446744073709551616^(o+n)*T:=by omega
 rw[e5];have s1:L+18446744073709551616^o*M<18446744073709551616^(o+n):=by
  have:18446744073709551616^o*(M+1)<=18446744073709551616^o*18446744073709551616^n:=bOF _ h3;rw[<-bQS,bQR]at this;omega
 have s2:18446744073709551616^(o+n)*(T+1)<=18446744073709551616^N:=by
  have:=bOF (18446744073709551616^(o+n)) hT;rw[<-bQS,show o+n+(N-(o+n))=N from by omega]at this;exact this
 rw[bQR]at s2;omega
theorem spec(x:List Int×Nat×Nat)(b:List Int)(h:(sp x b).1):aF E f229 aE [(Ag eX .u64).put x,(pI .u64).put b]=some (sp x b).2/\∃rs lC,(sp x b).2=rs ++ [.io eX .u64 lC 0 0]/\lC.length=x.1.length:=by
 obtain⟨xl,o,n⟩:=x;obtain⟨hd,hn,ho,hb,hN⟩:=h;simp only at hd hn ho hN;subst hn;refine⟨(start xl o (b.length+1) b).trans ?_,[_],_,rfl,M6.gB (bound (M6.cK hd) ho)⟩;exact L hN hd hb ho b.length 0 xl 0 (by omega) rfl hd (by omega) (by omega) rfl rfl (by simp[M6.val])
def aG:cX:=orc2 (Ag eX .u64) (pI .u64) sp
theorem fnok:kK prog E 229 f229 aE:=sV oV mixed (kG _ rfl aD (mG)) func229 rfl rfl rfl rfl rfl
theorem ok:nW prog base.glob 229 aG:=fnok.lE rfl spec
end vM
namespace Bc
def E:Env:={ ({ base with C:=oS [(228,qE.aG),(229,vM.aG)] (callsOf [(227,Uv.aG)]),ioF:=Ji [(228,qE.aG),(229,vM.aG)],n0:=1,io:=[0] })with nt:=72,own:=[],keep:=fun k=>(tlook [(10,[0,1,5,6,7,8,9]),(4,[0,1,5,6,7])] k).getD [],cut:=tlook [] }
def aE:=bd f197
theorem aW:Nk E aE:=nk
def L4(a:List Int)(b:Nat)(c:Nat) d f (g:Nat) (h:List Int) i:=nG E f197 aE 4 [(A.any,some { e:=(22:Nat),cont:=qU.ints u64 a }),(A.v (V.one (L.view 0 b c)),none),fW d,bI f,yD 4 g 22 h,bI i]
def Ip(a:List Int)(b:Nat)(c:Nat) d f (g:Nat) (h:List Int) i j (k:Nat) (l:Nat):=nG E f197 aE 10 [(A.any,some { e:=(22:Nat),cont:=qU.ints u64 a }),(A.v (V.one (L.view 0 b c)),none),fW d,bI f,yD 4 g 22 h,bI i,cG j,(A.v (V.one (L.view 0 k l)),none)]
theorem start al ao an b:aF E f197 aE [D.io eX u64 al ao an,D.s (ints u64 b)]=letI B:=(an:Int);letI A:=(b.length:Int);if 0<=i64.wrap (B-A)/\i64.wrap (B-A)<=i64.wrap (B-A)/\i64.wrap (B-A)<=8796093022208 then Bc.L4 al ao an b A (i64.wrap (B-A)).toNat (bNU (i64.wrap (B-A)).toNat (0:Int)) (i64.wrap (i64.wrap (B-A)-1))else none:=eJ aW
theorem kS a b c d e f g h:L4 a b c d e f g h=letI N:=b+h.toNat;letI K:=i64.wrap (e-1);letI H:=i64.wrap (h+e)+1;letI G:=i64.wrap (h+e)-1;letI F:=b+(i64.wrap (h+e)).toNat;letI B:=b+(i64.wrap G).toNat;letI A:=i64.wrap H;letI C:=A.toNat-h.toNat;aB (decide (0<=h)) (if 0<=i64.wrap (h+e)/\i64.wrap (h+e)<(c:Int)then if 0<=i64.wrap G/\i64.wrap G<(c:Int)then if 0<=i64.wrap (e-1)/\i64.wrap (e-1)<(d.length:Int)then aP (0<=a.getD F 0/\0<=a.getD B 0/\a.getD B 0<(18446744073709551616:Int)/\d.getD K.toNat 0<(18446744073709551616:Int)) (aC (if d.getD K.toNat 0<=a.getD F 0 then(18446744073709551615:Int)else(↑(((a.getD F 0).toNat*18446744073709551616+(a.getD B 0).toNat)/(d.getD K.toNat 0).toNat):Int)) fun i=>letI I:=M6.val d*i.toNat;if 0<=h/\h<=i64.wrap H/\i64.wrap H<=(c:Int)then aP (M6.cA a/\A.toNat-h.toNat=d.length+1/\b+h.toNat+C<=a.length/\M6.cA d/\a.length<=1099511627776/\0<=i/\i<18446744073709551616) (aC (↑(qE.Ou (M6.val a) N C I):Int) fun j=>aC (M6.nS a.length (M6.val a+(18446744073709551616:Nat)^(b+h.toNat+C)*qE.Ou (M6.val a) N C I-(18446744073709551616:Nat)^N*I)) fun k=>aB (j==0) (if 0<=h/\h<(f:Int)then Bc.L4 k b c d e f (g.set h.toNat i) (i64.wrap (h-1))else none) (Bc.Ip k b c d e f g h i N C))else none)else none else none else none) (some [D.own 22 u64 g,D.io 22 u64 a 0 0]):=lJ aW
theorem sE a b c d e f g h i j k:Ip a b c d e f g h i j k=aP (M6.cA a/\k=d.length+1/\j+k<=a.length/\M6.cA d/\a.length<=1099511627776) (aC (↑(vM.Sj (M6.val a) j k (M6.val d)):Int) fun l=>aC (M6.nS a.length (M6.val a+(18446744073709551616:Nat)^j*M6.val d-(18446744073709551616:Nat)^(j+k)*vM.Sj (M6.val a) j k (M6.val d))) fun m=>aB (l==1) (if 0<=h/\h<(f:Int)then Bc.L4 m b c d e f (g.set h.toNat (u64.wrap (i-1))) (i64.wrap (h-1))else none) (Bc.Ip m b c d e f g h (u64.wrap (i-1)) j k)):=lJ aW
def sp(x:List Int×Nat×Nat)(b:List Int):Prop×List D:=(M6.cA x.1/\x.2.1=0/\x.2.2=x.1.length/\M6.cA b/\0<b.length/\b.length<=x.1.length/\x.1.length<=549755813888/\M6.val x.1/18446744073709551616^(x.1.length-b.length)<M6.val b,
 [.own eX .u64 (M6.nS (x.1.length-b.length) (M6.val x.1/M6.val b)),.io eX .u64 (M6.nS x.1.length (M6.val x.1%M6.val b)) 0 0])
theorem digit{z:List Int}(hd:M6.cA z)(k:Nat):(z.getD k 0).toNat=M6.val z/18446744073709551616^k%18446744073709551616:=by
 rw[<-M6.jD hd,M6.fM];have:=hd.get k;omega
theorem En{v j n:Nat}(h:v/18446744073709551616^j<18446744073709551616^n):v/18446744073709551616^j%18446744073709551616^n=v/18446744073709551616^j:=bWG h
theorem minus{v j R X:Nat}(hR:R=v/18446744073709551616^j)(hX:X<=R):(v-18446744073709551616^j*X)/18446744073709551616^j=R-X/\18446744073709551616^j*X<=v:=by
 have h1:=bWI v (18446744073709551616^j);have h2:v%18446744073709551616^j<18446744073709551616^j:=bNZ _ (cN);rw[<-hR]at h1;obtain⟨D,rfl⟩:=bMW hX;rw[bQR]at h1;have h3:v-18446744073709551616^j*X=v%18446744073709551616^j+18446744073709551616^j*D:=by omega
 rw[h3,bSH _ _ (cN),bRO h2];omega
theorem plus{v j n R X:Nat}(hR:R=v/18446744073709551616^j)(hX:R<X)(aRC:X<=18446744073709551616^n):(v+18446744073709551616^(j+n)-18446744073709551616^j*X)/18446744073709551616^j%18446744073709551616^n=R+18446744073709551616^n-X:=by
 have h1:=bWI v (18446744073709551616^j);have h2:v%18446744073709551616^j<18446744073709551616^j:=bNZ _ (cN);rw[<-hR]at h1;have h4:18446744073709551616^j*(R+18446744073709551616^n)=18446744073709551616^j*R+18446744073709551616^(j+n):=by rw[bQR,bQS]
 obtain⟨D,hD⟩:∃D,R+18446744073709551616^n=X+D:=bMW (by omega);rw[hD,bQR]at h4;have h3:v+18446744073709551616^(j+n)-18446744073709551616^j*X=v%18446744073709551616^j+18446744073709551616^j*D:=by omega
 rw[h3,bSH _ _ (cN),bRO h2,bLT,bWG (by omega)];omega
theorem aBI{R V n:Nat}{hi lo d:Int}(hn:0<n)(hV:V<18446744073709551616^n)(aXC:R<18446744073709551616*V)(Si:hi.toNat=R/18446744073709551616^n)(Tq:lo.toNat=R/18446744073709551616^(n-1)%18446744073709551616)(hd:d.toNat=V/18446744073709551616^(n-1))(h0:0<=hi) :
  R/V<=(if d<=hi then(18446744073709551615:Int)else(((hi.toNat*18446744073709551616+lo.toNat)/d.toNat:Nat):Int)).toNat/\(0<=if d<=hi then(18446744073709551615:Int)else(((hi.toNat*18446744073709551616+lo.toNat)/d.toNat:Nat):Int))/\(if d<=hi then(18446744073709551615:Int)else(((hi.toNat*18446744073709551616+lo.toNat)/d.toNat:Nat):Int))<18446744073709551616:=by
 by_cases hc:d<=hi
 ·rw[if_pos hc];refine⟨?_,by omega,by omega⟩;have:R/V<18446744073709551616:=by
   apply bRL;rw[bQP];exact aXC
  show R/V<=18446744073709551615;omega
 ·rw[if_neg hc];obtain⟨k,rfl⟩:∃k,n=k+1:=⟨n-1,by omega⟩;rw[Nat.add_sub_cancel]at Tq hd;have e1:hi.toNat*18446744073709551616+lo.toNat=R/18446744073709551616^k:=by
   rw[Si,Tq,bQQ,<-bRI];omega
  have bJO:0<d.toNat:=by omega
  have iN:hi.toNat<d.toNat:=by omega
  refine⟨?_,bVK _,?_⟩
  ·rw[bPN,e1,bRI];apply bWN
   ·rw[hd];exact bWO _ _
   ·exact Nat.mul_pos (cN) bJO
  ·have hlo2:lo.toNat<18446744073709551616:=by rw[Tq];exact bNZ _ (by omega)
   have:(hi.toNat*18446744073709551616+lo.toNat)/d.toNat<18446744073709551616:=by
    apply bRL;have:(hi.toNat+1)*18446744073709551616<=d.toNat*18446744073709551616:=bNE _ iN;omega
   exact Int.ofNat_lt.2 this
theorem bCK{u b qs:List Int}{L j R q:Nat}(hL:L<=549755813888)(hu:u.length=L)(hd:M6.cA u)(hb:M6.cA b)(hj:j+(b.length+1)<=L)(hR:R=M6.val u/18446744073709551616^j)(aMK:R<18446744073709551616^(b.length+1))(hV:0<M6.val b)(hq:q=R/M6.val b)(hqs:qs.length=L-b.length):∀(k w:Nat),w=q+(k+1)->w<18446744073709551616 ->
  Ip (M6.nS L (M6.val u+18446744073709551616^(j+(b.length+1))-18446744073709551616^j*(M6.val b*w))) 0 L b b.length (L-b.length) qs j w j (b.length+1)=L4 (M6.nS L (M6.val u-18446744073709551616^j*(M6.val b*q))) 0 L b b.length (L-b.length) (qs.set j (q:Int)) ((j:Int)-1):=by
 have aUZ:=M6.cK hb;have aWO:M6.val b*q<=R:=by rw[hq];exact bWO _ _
 have aOF:R<M6.val b*(q+1):=by rw[hq];exact bWY _ hV
 have aSY:=M6.cK hd;rw[hu]at aSY;intro k
 induction k with
 |zero =>
  intro w hw bHJ;subst hw;have aRC:M6.val b*(q+(0+1))<=18446744073709551616^(b.length+1):=by
   rw[bQQ];exact bWF (by omega) (by omega)
  have Sg:=plus (n:=b.length+1) hR (X:=M6.val b*(q+(0+1))) aOF aRC;have aUW:M6.val u+18446744073709551616^(j+(b.length+1))-18446744073709551616^j*(M6.val b*(q+(0+1)))<18446744073709551616^L:=by
   have:=qE.bound aSY hj (X:=M6.val b*(q+(0+1))) (by rw[bQQ];exact bUF aUZ (by omega));unfold qE.Ou at this;rw[En (by rw[<-hR];exact aMK),<-hR,if_pos aOF,bMB]at this;exact this
  have aOV:vM.Sj (M6.val u+18446744073709551616^(j+(b.length+1))-18446744073709551616^j*(M6.val b*(q+(0+1)))) j (b.length+1) (M6.val b)=1:=by
   unfold vM.Sj;rw[Sg];have e:R+18446744073709551616^(b.length+1)-M6.val b*(q+(0+1))+M6.val b=18446744073709551616^(b.length+1)*1+(R-M6.val b*q):=by
    rw[bQR]at aRC ⊢;omega
   have iN:R-M6.val b*q<18446744073709551616^(b.length+1):=by omega
   rw[e,bVJ (cN),bRO iN]
  have w1:u64.wrap (((q+(0+1):Nat):Int)-1)=(q:Int):=by rw[wrap_u64];omega
  have w2:i64.wrap ((j:Int)-1)=(j:Int)-1:=by rw[wrap_i64]
  rw[sE,aM,aM,M6.gB aUW,M6.kE,aOV,gP ⟨M6.kF,by trivial,hj,hb,by omega⟩,cC (by rfl),aU,w1,w2,bPN];congr 1;congr 1;have e1:18446744073709551616^j*(M6.val b*(q+(0+1)))=18446744073709551616^j*(M6.val b*q)+18446744073709551616^j*M6.val b:=by rw[bQR,bQR];simp
  have e2:=(minus hR aWO).2;have e3:18446744073709551616^j*M6.val b<=18446744073709551616^(j+(b.length+1)):=by
   rw[bQS,bQQ];exact bOF _ (by omega)
  omega
 |succ k ih =>
  intro w hw bHJ;subst hw;have aTZ:R<M6.val b*(q+(k+1)):=bMR aOF (bOF _ (by omega));have aDN:M6.val b*(q+(k+1+1))=M6.val b*(q+(k+1))+M6.val b:=by rw[<-bPH q,Nat.mul_succ]
  have aRC:M6.val b*(q+(k+1+1))<=18446744073709551616^(b.length+1):=by
   rw[bQQ];exact bWF (by omega) (by omega)
  have Sg:=plus (n:=b.length+1) hR (X:=M6.val b*(q+(k+1+1))) (by omega) aRC;have aUW:M6.val u+18446744073709551616^(j+(b.length+1))-18446744073709551616^j*(M6.val b*(q+(k+1+1)))<18446744073709551616^L:=by
   have:=qE.bound aSY hj (X:=M6.val b*(q+(k+1+1))) (by rw[bQQ];exact bUF aUZ (by omega));unfold qE.Ou at this;rw[En (by rw[<-hR];exact aMK),<-hR,aU,bMB]at this;exact this
  have aOV:vM.Sj (M6.val u+18446744073709551616^(j+(b.length+1))-18446744073709551616^j*(M6.val b*(q+(k+1+1)))) j (b.length+1) (M6.val b)=0:=by
   unfold vM.Sj;rw[Sg];exact bRO (by omega)
  have w1:u64.wrap (((q+(k+1+1):Nat):Int)-1)=((q+(k+1):Nat):Int):=by rw[wrap_u64];omega
  rw[sE,aM,aM,M6.gB aUW,M6.kE,aOV,gP ⟨M6.kF,by trivial,hj,hb,by omega⟩,bP (by decide),w1];have e4:M6.val u+18446744073709551616^(j+(b.length+1))-18446744073709551616^j*(M6.val b*(q+(k+1+1)))+18446744073709551616^j*M6.val b-18446744073709551616^(j+(b.length+1))*0=M6.val u+18446744073709551616^(j+(b.length+1))-18446744073709551616^j*(M6.val b*(q+(k+1))):=by
   have e1:18446744073709551616^j*(M6.val b*(q+(k+1+1)))=18446744073709551616^j*(M6.val b*(q+(k+1)))+18446744073709551616^j*M6.val b:=by rw[aDN,bQR]
   have e3:18446744073709551616^j*(M6.val b*(q+(k+1+1)))<=18446744073709551616^(j+(b.length+1)):=by
    rw[bQS];exact bOF _ aRC
   omega
  rw[e4];exact ih _ rfl (by omega)
theorem aHY{α R:Type}{x:α}{k:α->Option R}{r:Option R}(Q:α->Prop)(hx:Q x)(hk:∀w,Q w->k w=r):aC x k=r:=hk x hx
theorem bLP{b:List Int}{L U0:Nat}(hL:L<=549755813888)(hb:M6.cA b)(hn:0<b.length)(hbL:b.length<=L):∀(t:Nat) (u qs:List Int),t<=L-b.length->u.length=L->M6.cA u->qs.length=L-b.length->M6.cA qs->M6.val u/18446744073709551616^t<M6.val b->U0=M6.val u+M6.val b*(18446744073709551616^t*M6.val (qs.drop t)) ->
  L4 u 0 L b b.length (L-b.length) qs ((t:Int)-1)=some [.own eX .u64 (M6.nS (L-b.length) (U0/M6.val b)),.io eX .u64 (M6.nS L (U0%M6.val b)) 0 0]:=by
 have aUZ:=M6.cK hb;intro t
 induction t with
 |zero =>
  intro u qs _ hu hd hq bAF iN hU;rw[bVS,bXB]at iN;rw[bVS,bPU,bRY]at hU;rw[kS,aI];have e1:U0/M6.val b=M6.val qs:=by rw[hU,bSH _ _ (by omega),bRO iN,bLT]
  have e2:U0%M6.val b=M6.val u:=by rw[hU,bXO,bWG iN]
  rw[M6.nI hd hu e2.symm,M6.nI bAF hq e1.symm]
 |succ j ih =>
  intro u qs hj hu hd hq bAF iN hU;obtain⟨R,hR⟩:∃R,R=M6.val u/18446744073709551616^j:=⟨_,rfl⟩;have hV:0<M6.val b:=bSG (bRU _) iN;have aXC:R<18446744073709551616*M6.val b:=by
   rw[bQQ,<-bRI,<-hR]at iN;rw[bQP];exact(bWZ (by omega)).1 iN
  have aMK:R<18446744073709551616^(b.length+1):=by rw[bQQ];omega
  obtain⟨q,aWN⟩:∃q,q=R/M6.val b:=⟨_,rfl⟩;have aWO:M6.val b*q<=R:=by rw[aWN];exact bWO _ _
  have hqB:q<18446744073709551616:=by
   rw[aWN];apply bRL;rw[bQP];exact aXC
  have aSY:=M6.cK hd;rw[hu]at aSY;have bDB:L4 (M6.nS L (M6.val u-18446744073709551616^j*(M6.val b*q))) 0 L b b.length (L-b.length) (qs.set j (q:Int)) ((j:Int)-1)=some [.own eX .u64 (M6.nS (L-b.length) (U0/M6.val b)),.io eX .u64 (M6.nS L (U0%M6.val b)) 0 0]:=by
   obtain⟨m1,m2⟩:=minus hR aWO;refine ih _ _ (by omega) (M6.gB (by omega)) M6.kF (by simp[hq]) (M6.lU bAF ⟨by omega,by omega⟩) ?_ ?_
   ·rw[M6.kE,m1];have h1:=bWI R (M6.val b);have h2:=bNZ R hV;rw[<-aWN]at h1;omega
   ·rw[M6.kE,M6.qG (by omega),bPN,hU,bQQ];have e1:M6.val b*(18446744073709551616^j*(q+18446744073709551616*M6.val (qs.drop (j+1))))=18446744073709551616^j*(M6.val b*q)+M6.val b*(18446744073709551616^j*18446744073709551616*M6.val (qs.drop (j+1))):=by
     rw[bQR,bQR,bTO,bQU (18446744073709551616^j)]
    rw[e1];omega
  have hx:((j+1:Nat):Int)-1=(j:Int):=by omega
  have w1:i64.wrap ((j:Int)+(b.length:Int))=((j+b.length:Nat):Int):=by rw[wrap_i64];omega
  have w2:i64.wrap (((j+b.length:Nat):Int)-1)=((j+b.length-1:Nat):Int):=by rw[wrap_i64];omega
  have w3:i64.wrap ((b.length:Int)-1)=((b.length-1:Nat):Int):=by rw[wrap_i64];omega
  have w4:i64.wrap (((j+b.length:Nat):Int)+1)=((j+b.length+1:Nat):Int):=by rw[wrap_i64];omega
  have w5:i64.wrap ((j:Int)-1)=(j:Int)-1:=by rw[wrap_i64]
  have e5:j+b.length+1-j=b.length+1:=by omega
  have g1:=hd.get (j+b.length);have g2:=hd.get (j+b.length-1);have g3:=hb.get (b.length-1);have Si:(u.getD (j+b.length) 0).toNat=R/18446744073709551616^b.length:=by
   rw[digit hd,bQS,<-bRI,<-hR,bWG];apply bRL;rw[bQQ]at aMK;exact aMK
  have Tq:(u.getD (j+b.length-1) 0).toNat=R/18446744073709551616^(b.length-1)%18446744073709551616:=by
   rw[digit hd,show j+b.length-1=j+(b.length-1)from by omega,bQS,<-bRI,<-hR]
  have aMB:(b.getD (b.length-1) 0).toNat=M6.val b/18446744073709551616^(b.length-1):=by
   rw[digit hb,bWG];apply bRL;rw[<-bQQ,show(b.length-1).succ=b.length from by omega];exact aUZ
  have ht:=aBI hn aUZ aXC Si Tq aMB g1.1;rw[hx,kS,aO,w1,w2,w3,w4,aU,aU,aU,bPN,bPN,bPN,bLT,bLT,gP ⟨g1.1,g2.1,g2.2,g3.2⟩];refine aHY (fun w:Int=>R/M6.val b<=w.toNat/\0<=w/\w<18446744073709551616) ht ?_;rintro w ⟨yL,h0,h1⟩;obtain⟨w,rfl⟩:=bQT h0;rw[bPN]at yL;rw[aU];simp only[bPN,bLT,e5];rw[hu,gP ⟨hd,by trivial,by omega,hb,by omega,h0,h1⟩,aM,aM]
  by_cases hc:M6.val b*w<=R
  ·have ho:qE.Ou (M6.val u) j (b.length+1) (M6.val b*w)=0:=by
    unfold qE.Ou;rw[En (by rw[<-hR];exact aMK),<-hR,aY]
   have bDJ:w=q:=by
    have:w<=R/M6.val b:=by rw[bXL hV,bQP];exact hc
    omega
   subst bDJ;rw[ho,cC (by rfl),aU,Nat.mul_zero,bMS,w5];exact bDB
  ·have ho:qE.Ou (M6.val u) j (b.length+1) (M6.val b*w)=1:=by
    unfold qE.Ou;rw[En (by rw[<-hR];exact aMK),<-hR,aU]
   have bDJ:q<w:=by
    rcases bMG q w with h |h
    ·exact h
    ·exact absurd (bMN (bOF _ h) aWO) hc
   rw[ho,bP (by decide),bMB];rw[bCK hL hu hd hb (by omega) hR aMK hV aWN hq (w-q-1) w (by omega) (by omega)];exact bDB
theorem spec(x:List Int×Nat×Nat)(b:List Int)(h:(sp x b).1):aF E f197 aE [(Ag eX .u64).put x,(pI .u64).put b]=some (sp x b).2/\∃rs lC,(sp x b).2=rs ++ [.io eX .u64 lC 0 0]/\lC.length=x.1.length:=by
 obtain⟨xl,xo,xn⟩:=x;obtain⟨hd,ho,hn,hb,h0,aMF,hL,iN⟩:=h;simp only at hd ho hn aMF hL iN;subst ho;subst hn;refine⟨(start xl 0 xl.length b).trans ?_,[_],_,rfl,M6.gB ?_⟩
 ·have w1:i64.wrap ((xl.length:Int)-(b.length:Int))=((xl.length-b.length:Nat):Int):=by rw[wrap_i64];omega
  have w2:i64.wrap (((xl.length-b.length:Nat):Int)-1)=((xl.length-b.length:Nat):Int)-1:=by rw[wrap_i64]
  rw[w1,w2,aU,bPN];refine bLP hL hb h0 aMF (xl.length-b.length) xl _ (bLR _) rfl hd (by simp) (M6.iI _) iN ?_;rw[bXD (by simp)];simp[M6.val]
 ·show _<18446744073709551616^xl.length;exact bSG (Nat.mod_le _ _) (M6.cK hd)
def aG:cX:=orc2 (Ag eX .u64) (pI .u64) sp
theorem fnok:kK prog E 197 f197 aE:=sV oV mixed (kI _ _ rfl rfl (kR qE.ok (kR vM.ok uQ)) (aA Uv.ok aD) (mG)) func197 rfl rfl rfl rfl rfl
theorem ok:nW prog base.glob 197 aG:=fnok.lE rfl spec
end Bc
namespace Db
def E:Env:={ ({ base with C:=oS [(197,Bc.aG)] (callsOf [(144,fC.aG),(101,De.aG),(193,aGN.aG),(194,lN.aG),(95,mM.aG),(195,aGR.aG),(196,xB.aG),(104,Bi.aG)]),ioF:=Ji [(197,Bc.aG)] })with nt:=98,own:=[37,49,55,68,76,88,93],keep:=fun k=>(tlook [] k).getD [],cut:=tlook [(3,[0,1])] }
def aE:=bd f151
theorem aW:Nk E aE:=nk
def J3 a b:=kV E f151 aE 3 [fW a,fW b]
theorem start a b:aF E f151 aE [D.s (ints u64 a),D.s (ints u64 b)]=letI B:=sc (slice none 0 0);letI A:=some [D.s B,D.s B,D.s (sc (int i64 2))];aP (a.length<=1099511627776) (aB (!fC.mU a) A (aP (b.length<=1099511627776) (aB (!fC.mU b) A (Db.J3 a b)))):=eJ aW
theorem gH a b:J3 a b=letI K:=sc (int i64 0);letI H:=(a.length:Int);letI O:=H+(1:Int);letI G:=sc (slice none 0 0);letI C:=i64.wrap O;letI A:=(b.length:Int);letI N:=A-(1:Int);letI F:=i64.wrap N;aB (A==(0:Int)) (some [D.s G,D.s G,D.s (sc (int i64 4))]) (aP (M6.cA a/\M6.cA b/\a.length<=1099511627776/\b.length<=1099511627776) (aB (decide (mY (M6.val a) (M6.val b)<0)) (aP (M6.cA a/\a.length<=1099511627776) (aC (bif bZ.kU (M6.val a)then M6.dg (M6.val a)else []) fun c=>some [D.s G,D.s (ints u64 c),D.s K])) (aB (A==(1:Int)) (if(0:Int)<=(0:Int)/\0<A then aP (M6.cD a/\a.length<=8192/\0<b.getD 0 0/\b.getD 0 0<(18446744073709551616:Int)) (aC (M6.dg (M6.val a/(b.getD 0 0).toNat)) fun d=>aC (↑(M6.val a%(b.getD 0 0).toNat):Int) fun e=>aP (0<=e/\e<18446744073709551616) (some [D.s (ints u64 d),D.s (ints u64 (M6.dg e.toNat)),D.s K]))else none) (if 0<=i64.wrap N/\i64.wrap N<A then aP (0<=b.getD F.toNat 0/\b.getD F.toNat 0<(18446744073709551616:Int)) (aC ((64:Int)-(↑(bl (b.getD F.toNat 0).toNat):Int)) fun f=>aP (M6.cA a/\0<=f/\f<64/\0<=i64.wrap O/\a.length<=C.toNat/\i64.wrap O<=549755813888/\M6.val a*(2:Nat)^f.toNat<(18446744073709551616:Nat)^C.toNat) (aC (M6.nS C.toNat (M6.val a*(2:Nat)^f.toNat)) fun g=>aP (M6.cA b/\0<=f/\f<64/\0<=A/\b.length<=A.toNat/\A<=(549755813888:Int)/\M6.val b*(2:Nat)^f.toNat<(18446744073709551616:Nat)^A.toNat) (aC (M6.nS A.toNat (M6.val b*(2:Nat)^f.toNat)) fun h=>letI P:=g.length-h.length;letI I:=(h.length:Int);aP (M6.cA g/\(0:Nat)=(0:Nat)/\g.length=g.length/\M6.cA h/\0<h.length/\h.length<=g.length/\g.length<=549755813888/\M6.val g/(18446744073709551616:Nat)^P<M6.val h) (aC (M6.nS P (M6.val g/M6.val h)) fun i=>aC (M6.nS g.length (M6.val g%M6.val h)) fun j=>letI B:=bRM (I.toNat-0) (bRN 0 j);if(0:Int)<=(0:Int)/\0<=I/\I<=(g.length:Int)then aP (M6.cA B/\B.length<=1099511627776) (aC (bif bZ.kU (M6.val B)then M6.dg (M6.val B)else []) fun k=>aP (M6.cD k/\k.length<=8192/\0<=f/\f<4611686018427387904) (aC (M6.dg (M6.val k/(2:Nat)^f.toNat)) fun l=>aP (M6.cA i/\i.length<=1099511627776) (aC (bif bZ.kU (M6.val i)then M6.dg (M6.val i)else []) fun m=>some [D.s (ints u64 m),D.s (ints u64 l),D.s K])))else none))))else none)))):=cJ aW
def sp(a b:List Int):Prop×List D:=(M6.cD a/\a.length<=8192/\M6.cD b/\1<=b.length/\b.length<=8192,[.s (.ints .u64 (M6.dg (M6.val a/M6.val b))),.s (.ints .u64 (M6.dg (M6.val a%M6.val b))),.s (.sc (.int .i64 0))])
theorem Tb{n k:Nat}(h:n<18446744073709551616^k)(hk:k<=8192):bZ.kU n=true:=decide_eq_true (by have:=M6.cQ h;omega)
theorem spec:El E f151 aE (pI .u64) (pI .u64) sp:=by
 rintro a b ⟨ha,hl,hb,h1,aMF⟩;have e:=start a b;have g:=hb.iP.get 0;have hz:M6.val b≠0:=fun h=>by have:=(M6.cO hb).2 h;omega
 rw[gP,fC.lT ha hl,bNR,bF,gP,fC.lT hb (by omega),bNR,bF,gH,bP,gP ⟨ha.iP,hb.iP,by omega,by omega⟩]at e;unfold sp;simp only
 by_cases hc:M6.val a<M6.val b
 ·have Kt:bZ.kU (M6.val a)=true:=Tb (M6.cK ha.iP) hl;rw[aO (by unfold mY;rw[if_pos hc];omega),gP ⟨ha.iP,by omega⟩,aM,Kt]at e;rw[bRO hc,bWG hc,M6.bQ];exact⟨_,e,.cons (vV.nil _) (fT.refl _)⟩
 have hm:=bNZ (M6.val a) (show 0<M6.val b by omega);rw[aI (by unfold mY;rw[if_neg hc];split <;> omega)]at e
 by_cases Mx:b.length=1
 ·have hv:M6.val b=(b.getD 0 0).toNat:=by
   have:=M6.cB (a:=b) 0;rw[M6.cE (by omega)]at this;simpa [M6.val] using this
  rw[cC,if_pos ⟨by omega,by omega⟩,gP ⟨ha,by omega,by omega,by omega⟩,<-hv,aM,aM,gP ⟨bVK _,by generalize M6.val a%M6.val b=m at *;omega⟩,bPN]at e;exact⟨_,e,fT.refl _⟩
 ·have w1:i64.wrap ((b.length:Int)-1)=((b.length-1:Nat):Int):=by rw[wrap_i64];omega
  have w2:i64.wrap ((a.length:Int)+1)=((a.length+1:Nat):Int):=by rw[wrap_i64];omega
  have gt:=hb.iP.get (b.length-1);have htop:b.getD (b.length-1) 0≠0:=by
   have:=M6.getLast_take (a:=b) (n:=b.length-1) (by omega);rw[show b.length-1+1=b.length from by omega,bSM]at this;exact hb.top this
  have aYU:=M6.cB (a:=b) (b.length-1);rw[show b.length-1+1=b.length from by omega,bSM]at aYU;have bDN:=M6.gJ hb.iP (b.length-1);obtain⟨x,hx⟩:=bQT gt.1;have Ov:x≠0:=by omega
  have hbx:bl x<=64:=dP.2 (by omega);have bER:=rQ Ov;have bDI:=tJ x;obtain⟨s,hs⟩:∃s:Nat,s=64-bl x:=⟨_,rfl⟩;have ws:(64-(bl x:Int))=(s:Int):=by omega
  have aEH:=M6.cK ha.iP;have aXE:=M6.cK hb.iP;have Qd:2^s<18446744073709551616:=by
   have:2^s<2^64:=bSK (by omega) (by omega);omega
  have aDS:0<2^s:=cN;have bFA:M6.val a*2^s<18446744073709551616^(a.length+1):=by rw[bQQ];exact bUF aEH Qd
  have bBG:M6.val b*2^s<18446744073709551616^b.length:=by
   have h2:(x+1)*2^s<=2^bl x*2^s:=bNE _ bDI;rw[<-bQS,show bl x+s=64 from by omega]at h2;have h3:M6.val b+1<=18446744073709551616^(b.length-1)*(x+1):=by
    rw[aYU,hx,bPN,bQR];omega
   have h4:(M6.val b+1)*2^s<=18446744073709551616^(b.length-1)*(x+1)*2^s:=bNE _ h3;have h5:18446744073709551616^(b.length-1)*((x+1)*2^s)<=18446744073709551616^(b.length-1)*2^64:=bOF _ h2;have h6:18446744073709551616^(b.length-1)*2^64=18446744073709551616^b.length:=by
    conv=>rhs;rw[show b.length=(b.length-1)+1 from by omega,bQQ]
   rw[h6]at h5;rw[bQU]at h4;rw[bML]at h4;omega
  have hlab:b.length<=a.length:=by
   rcases bMG a.length b.length with h |h
   ·exact absurd (M6.rL ha.iP hb h) hc
   ·exact h
  have yL:18446744073709551616^(b.length-1)<=M6.val b:=by
   rw[aYU,hx,bPN];have:18446744073709551616^(b.length-1)*1<=18446744073709551616^(b.length-1)*x:=bOF _ (by omega);omega
  have Xc:M6.val a*2^s/18446744073709551616^(a.length+1-b.length)<M6.val b*2^s:=by
   apply bRL;have h1:18446744073709551616^(a.length+1-b.length)*18446744073709551616^(b.length-1)<=18446744073709551616^(a.length+1-b.length)*M6.val b:=bOF _ yL;rw[<-bQS,show a.length+1-b.length+(b.length-1)=a.length from by omega]at h1;rw[<-bQU];exact bXT (bMR aEH h1) aDS
  have hQ:M6.val a*2^s/(M6.val b*2^s)=M6.val a/M6.val b:=bUP _ _ aDS;have hR:M6.val a*2^s%(M6.val b*2^s)=M6.val a%M6.val b*2^s:=bUQ _ _ _;have aXB:M6.val a%M6.val b*2^s<18446744073709551616^b.length:=Nat.lt_trans (bXT hm aDS) bBG;have hRl2:M6.val a%M6.val b*2^s<18446744073709551616^(a.length+1):=bMR aXB (M6.oB (by omega));have bKI:M6.val a/M6.val b<18446744073709551616^a.length:=bSG (bUE _ _) aEH;have bAY:M6.val a/M6.val b<18446744073709551616^(a.length+1-b.length):=by
   apply bRL;have h1:18446744073709551616^(b.length-1)*18446744073709551616^(a.length+1-b.length)<=M6.val b*18446744073709551616^(a.length+1-b.length):=bNE _ yL;rw[<-bQS,show b.length-1+(a.length+1-b.length)=a.length from by omega]at h1;omega
  have aTD:M6.val ((M6.nS (a.length+1) (M6.val a%M6.val b*2^s)).take b.length)=M6.val a%M6.val b*2^s:=by
   rw[M6.qF M6.kF,M6.kE,bWG aXB]
  rw[bP,w1,w2,aU,bPN,bPN,bPN,gP gt,hx,bPN,ws,aM,bPN,
   gP ⟨ha.iP,by omega,by omega,by omega,by omega,by omega,bFA⟩,aM,gP ⟨hb.iP,by omega,by omega,by omega,bLR _,by omega,bBG⟩,aM,
   M6.gB bFA,M6.gB bBG,M6.kE,M6.kE,bPN,gP ⟨M6.kF,rfl,rfl,M6.kF,by omega,by omega,by omega,Xc⟩,aM,aM,hQ,hR,
   aU,bRY,Nat.sub_zero,aTD,gP ⟨M6.kF.take _,by rw[bOH];omega⟩,Tb aXB aMF,cond_true,aM,
   gP ⟨M6.aX _,by have:=M6.cQ aXB;omega,by omega,by omega⟩,M6.bN,bVU _ aDS,aM,gP ⟨M6.kF,by rw[M6.gB bAY];omega⟩,M6.kE,Tb bKI hl,cond_true,aM]at e
  exact⟨_,e,fT.refl _⟩
def aG:cX:=orc2 (pI .u64) (pI .u64) sp
theorem fnok:qA prog E 151 f151 aE:=Zl oV mixed (kI _ _ rfl rfl (kR Bc.ok uQ) (aA fC.ok (aA De.ok (aA aGN.ok (aA lN.ok (aA mM.ok (aA aGR.ok (aA xB.ok (aA Bi.ok aD)))))))) (mG)) func151 rfl rfl rfl
theorem ok:kZ prog base.glob 151 aG:=fnok.aAJ rfl spec
end Db
namespace bR
def E:=mE [(239,xM.aG),(45,jZ.aG),(46,kM.aG),(106,sA.aG),(98,iY.aG),(151,Db.aG),(95,mM.aG),(100,qT.aG),(240,bV.aG)] 122 [119] [(9,[2,3,4,5,8]),(15,[2,3,4,5,8,10,13]),(16,[2,3,4,5,8,10,16])] [9,15,16]
def aE:=bd f210
theorem aW:Nk E aE:=nk
def J9 a b c d e f g h i j:=kV E f210 aE 9 [bI a,Lq b,dG 2 29 [cI c,eT d,cP e],dG 3 29 [cI f,eT g,cP h],dG 4 29 [cI i,sc (slice none 0 0),cP j]]
def aQF a b c d e f g h i j k l:=kV E f210 aE 15 [bI a,Lq b,dG 2 29 [cI c,eT d,cP e],dG 3 29 [cI f,eT g,cP h],dG 4 29 [cI i,sc (slice none 0 0),cP j],bI k,fW l]
def aKU a b c d e f g h i j k l m:=kV E f210 aE 16 [bI a,Lq b,dG 2 29 [cI c,eT d,cP e],dG 3 29 [cI f,eT g,cP h],dG 4 29 [cI i,sc (slice none 0 0),cP j],bI k,dG 6 27 [cI l,eT m]]
theorem start a b e f g h c d:aF E f210 aE [D.agg [sc (bool a),ints u64 b,sc (int i64 e)],D.agg [sc (bool f),ints u64 g,sc (int i64 h)],D.s (sc (int i64 c)),D.s (sc (bool d))]=letI F:=int i64 0;letI C:=bool false;letI B:=slice none 0 0;letI A:=some [D.agg [sc C,sc B,sc F],D.s (sc (int i64 5))];aP True (aC (decide (1<=c)&&decide (c<=70000)) fun i=>aB (!i) (some [D.agg [sc C,sc B,sc F],D.s (sc (int i64 1))]) (aP (aL (a,b,e)) (aP (aL (f,g,h)) (aP True (aC ((g.length:Int)==(0:Int)) fun j=>aB j (some [D.agg [sc C,sc B,sc F],D.s (sc (int i64 4))]) (aB (decide (4096<(b.length:Int))) A (aB (decide (4096<(g.length:Int))) A (bR.J9 c d a b e f g h false 0)))))))):=eJ aW
theorem Ir a b c d e f g h i j:J9 a b c d e f g h i j=letI A:=i64.wrap (i64.wrap (a+2)+(↑(bl (M6.val g)):Int))-(↑(bl (M6.val d)):Int);aP (M6.cA g/\g.length<=1099511627776) (aP (M6.cA d/\d.length<=1099511627776) (aP (M6.cD d/\d.length<=8192/\(0<=if i64.wrap A>(0:Int)then i64.wrap A else(0:Int))/\(if i64.wrap A>(0:Int)then i64.wrap A else(0:Int))<4611686018427387904) (aC (bif iY.iB (M6.val d) (if i64.wrap A>(0:Int)then i64.wrap A else(0:Int)).toNat then M6.dg (M6.val d*(2:Nat)^(if i64.wrap A>(0:Int)then i64.wrap A else(0:Int)).toNat)else []) fun k=>aP (M6.cD k/\k.length<=8192/\M6.cD g/\1<=g.length/\g.length<=8192) (aC (M6.dg (M6.val k/M6.val g)) fun l=>aC (M6.dg (M6.val k%M6.val g)) fun m=>aP (M6.cD l/\l.length<=8192/\(0:Int)<=(1:Int)/\(1:Int)<(4611686018427387904:Int)) (aC (bif iY.iB (M6.val l) 1 then M6.dg (M6.val l*2)else []) fun n=>letI B:=M6.val n+M6.val (M6.dg 1);aB (decide (0<(m.length:Int))) (aP ((0:Int)<=(1:Int)/\(1:Int)<(18446744073709551616:Int)) (aP (M6.cD n/\M6.cD (M6.dg 1)/\n.length<=8192/\(M6.dg 1).length<=8192) (aC (bif bZ.kU B then M6.dg B else []) fun o=>bR.aQF a b c d e f g h i j (if i64.wrap A>(0:Int)then i64.wrap A else(0:Int)) o))) (bR.aQF a b c d e f g h i j (if i64.wrap A>(0:Int)then i64.wrap A else(0:Int)) n)))))):=cJ aW
theorem Vc a b c d e f g h i j k l:aQF a b c d e f g h i j k l=aB (c !=f) (bR.aKU a b c d e f g h i j k (decide (0<(l.length:Int))) l) (bR.aKU a b c d e f g h i j k false l):=cJ aW
theorem Vb a b c d e f g h i j k l m:aKU a b c d e f g h i j k l m=letI C:=i64.wrap (i64.wrap (e-h)-k)-1;letI A:=bV.mA b (wv (l,m)) (i64.wrap C) a;letI B:=bif fR A.fst A.snd then aK A.fst A.snd else((0:Int),(0:Int));aP (jK (l,m)/\((-4611686018427387904:Int)<=i64.wrap C/\i64.wrap C<4611686018427387904)/\1<=a/\a<=70000) (aC (isNeg B.fst) fun n=>aC (M6.dg B.fst.natAbs) fun o=>aC B.snd fun p=>aC (bif fR A.fst A.snd then(0:Int)else(5:Int)) fun q=>some [D.agg [sc (bool n),ints u64 o,sc (int i64 p)],D.s (sc (int i64 q))]):=cJ aW
def yK(p:Int)(a b:Nat):Nat:=(p+2+(bl b:Nat)-(bl a:Nat)).toNat
def Pn(a b s:Nat):Nat:=a*2^s/b*2+if a*2^s%b=0 then 0 else 1
def aSB(p:Int)(x y:Int×Int):Int×Int:=(zs (isNeg x.1 !=isNeg y.1) (Pn x.1.natAbs y.1.natAbs (yK p x.1.natAbs y.1.natAbs)),x.2-y.2-(yK p x.1.natAbs y.1.natAbs:Nat)-1)
def rI(up:Bool)(p:Int)(x y:Int×Int):Int×Int:=bV.mA up (aSB p x y).1 (aSB p x y).2 p
def sp(x y:dR)(p:Int)(up:Bool):Prop×List D:=(aL x/\aL y/\(dv y).1≠0/\x.2.1.length<=4096/\y.2.1.length<=4096/\1<=p/\p<=70000,dE (fR (rI up p (dv x) (dv y)).1 (rI up p (dv x) (dv y)).2) (aK (rI up p (dv x) (dv y)).1 (rI up p (dv x) (dv y)).2))
theorem aHX(n:Bool)(q:Nat):wv (n&&decide (0<((M6.dg q).length:Int)),M6.dg q)=zs n q/\(bl q<=524288->jK (n&&decide (0<((M6.dg q).length:Int)),M6.dg q)):=by
 have hz:=M6.fU (n:=q)
 by_cases h:q=0
 ·rw[decide_eq_false (by have:=hz.2 h;omega),bRD,h];refine⟨?_,fun _=>⟨M6.aX _,fun hf=>absurd hf (by simp),by rw[M6.bQ];simp⟩⟩;unfold wv zs;rw[M6.bN];cases n <;> rfl
 ·rw[decide_eq_true (by have:=fun hl=>h (hz.1 hl);omega),Bool.and_true];refine⟨?_,fun hb=>⟨M6.aX _,fun _=>by rw[M6.bN];exact h,eQ (k:=8192) (by omega)⟩⟩;unfold wv;rw[M6.bN]
theorem rP{a s n:Nat}(h:a≠0->bl a+s<=n):bl (a*2^s)<=n:=by
 by_cases h0:a=0
 ·subst h0;rw[Nat.zero_mul];exact bMN (by decide) (bRU n)
 ·rw[bQP,Cu h0];have:=h h0;omega
theorem spec:aGH E f210 aE gZ gZ (pN .i64) pB sp:=by
 rintro x y p up ⟨hx,hy,h0,bIJ,aZP,zF,tA⟩;have ex:=hx.2.1;have ey:=hy.2.1;refine(start x.1 x.2.1 x.2.2 y.1 y.2.1 y.2.2 p up).trans ?_;have hv0:M6.val y.2.1≠0:=fun h=>h0 (aHV.2 h)
 have aUB:y.2.1.length≠0:=fun h=>hv0 ((M6.cO hy.Fg).1 h)
 have bx:=uX hx.Fg.iP bIJ;have bLJ:=uX hy.Fg.iP aZP
 have ax:(dv x).1.natAbs=M6.val x.2.1:=iO (x.1,x.2.1);have ay:(dv y).1.natAbs=M6.val y.2.1:=iO (y.1,y.2.1);have sx:isNeg (dv x).1=x.1:=hx.Dh.cells.1;have sy:isNeg (dv y).1=y.1:=hy.Dh.cells.1;have w1:i64.wrap (i64.wrap (i64.wrap (p+2)+(bl (M6.val y.2.1):Int))-(bl (M6.val x.2.1):Int))=p+2+(bl (M6.val y.2.1):Int)-(bl (M6.val x.2.1):Int):=by
  rw[wrap_i64 (n:=p+2),wrap_i64 (n:=p+2+(bl (M6.val y.2.1):Int)) (by omega) (by omega),wrap_i64]
 simp only[aM];rw[gP trivial,decide_eq_true zF,decide_eq_true tA,bOS,bNR,bF,gP hx,gP hy,gP trivial,bP,aI,aI,Ir,w1];unfold sp rI aSB
 try dsimp only
 rw[ax,ay,sx,sy];have hs:(if p+2+(bl (M6.val y.2.1):Int)-(bl (M6.val x.2.1):Int)>0 then p+2+(bl (M6.val y.2.1):Int)-(bl (M6.val x.2.1):Int)else 0)=((yK p (M6.val x.2.1) (M6.val y.2.1):Nat):Int):=by
  unfold yK;split <;> omega
 rw[hs];have bHR:M6.val x.2.1≠0->bl (M6.val x.2.1)+yK p (M6.val x.2.1) (M6.val y.2.1)<=332200:=fun _=>by unfold yK;omega
 have hsl:yK p (M6.val x.2.1) (M6.val y.2.1)<=332200:=by unfold yK;omega
 generalize yK p (M6.val x.2.1) (M6.val y.2.1)=s at *;have vK:=rP bHR;have hX:iY.iB (M6.val x.2.1) s=true:=by rw[Il.Et];exact decide_eq_true (by omega)
 have lX:=eQ (n:=M6.val x.2.1*2^s) (k:=8192) (by omega);have Mw:bl (M6.val x.2.1*2^s/M6.val y.2.1)<=332200:=bMN (gD (bUE _ _)) vK;have lQ:=eQ (n:=M6.val x.2.1*2^s/M6.val y.2.1) (k:=8192) (by omega);have hQ:∀q,bl q<=332200->iY.iB q 1=true:=fun q hq=>by rw[Il.Et];exact decide_eq_true (by have:=rP (a:=q) (s:=1) (n:=332201) (fun _=>by omega);omega)
 rw[gP ⟨hy.Fg.iP,by omega⟩,gP ⟨hx.Fg.iP,by omega⟩,gP ⟨hx.Fg,hx.len,by omega,by omega⟩,bPN];simp only[aM];rw[hX,cond_true,gP ⟨M6.aX _,lX,hy.Fg,by omega,hy.len⟩,M6.bN,gP ⟨M6.aX _,lQ,by omega,by omega⟩,M6.bN];have bHS:decide (0<(((M6.dg (M6.val x.2.1*2^s%M6.val y.2.1)).length:Nat):Int))=decide (M6.val x.2.1*2^s%M6.val y.2.1≠0):=by
  have:=M6.fU (n:=M6.val x.2.1*2^s%M6.val y.2.1)
  by_cases h:M6.val x.2.1*2^s%M6.val y.2.1=0
  ·rw[decide_eq_false (by have:=this.2 h;omega),decide_eq_false (by omega)]
  ·rw[decide_eq_true (by have:=fun hl=>h (this.1 hl);omega),decide_eq_true h]
 rw[bHS];have j16:∀(aXF:Bool) (q:Nat),bl q<=332202->wv (aXF,M6.dg q)=zs (x.1 !=y.1) q->jK (aXF,M6.dg q)->aKU p up x.1 x.2.1 x.2.2 y.1 y.2.1 y.2.2 false 0 s aXF (M6.dg q)=some (dE (fR (bV.mA up (zs (x.1 !=y.1) q) (x.2.2-y.2.2-(s:Int)-1) p).1 (bV.mA up (zs (x.1 !=y.1) q) (x.2.2-y.2.2-(s:Int)-1) p).2) (aK (bV.mA up (zs (x.1 !=y.1) q) (x.2.2-y.2.2-(s:Int)-1) p).1 (bV.mA up (zs (x.1 !=y.1) q) (x.2.2-y.2.2-(s:Int)-1) p).2)):=by
  intro aXF q hq hw Kt;have w2:i64.wrap (i64.wrap (i64.wrap (x.2.2-y.2.2)-(s:Int))-1)=x.2.2-y.2.2-(s:Int)-1:=by
   rw[wrap_i64 (n:=x.2.2-y.2.2),wrap_i64 (n:=x.2.2-y.2.2-(s:Int)),wrap_i64]
  rw[Vb,w2,gP ⟨Kt,⟨by omega,by omega⟩,zF,tA⟩,hw];simp only[aM];rfl
 have j15:∀q,bl q<=332202->aQF p up x.1 x.2.1 x.2.2 y.1 y.2.1 y.2.2 false 0 s (M6.dg q)=some (dE (fR (bV.mA up (zs (x.1 !=y.1) q) (x.2.2-y.2.2-(s:Int)-1) p).1 (bV.mA up (zs (x.1 !=y.1) q) (x.2.2-y.2.2-(s:Int)-1) p).2) (aK (bV.mA up (zs (x.1 !=y.1) q) (x.2.2-y.2.2-(s:Int)-1) p).1 (bV.mA up (zs (x.1 !=y.1) q) (x.2.2-y.2.2-(s:Int)-1) p).2)):=by
  intro q hq;obtain⟨v1,v2⟩:=aHX (x.1 !=y.1) q;have v2:=v2 (by omega);rw[Vc];cases hn:x.1 !=y.1 with
  |true =>
   rw[hn]at v1 v2;rw[bT];have:=j16 _ q hq (by rw[hn];exact v1) v2;rw[hn]at this;exact this
  |false =>
   rw[hn]at v1 v2;rw[bF];have:=j16 _ q hq (by rw[hn];exact v1) v2;rw[hn]at this;exact this
 unfold Pn;generalize M6.val x.2.1*2^s/M6.val y.2.1=Q at *;have bKK:bl (Q*2)<=332201:=rP (s:=1) (fun _=>by omega);have bGW:=eQ (n:=Q*2) (k:=8192) (by omega);have bKJ:bl (Q*2+1)<=332202:=by
  rw[dP]at bKK ⊢;rw[bQQ];have:=bOQ (n:=332201) (show 0<2 by omega);omega
 have one:=eQ (n:=1) (k:=1) (dP.2 (by omega))
 by_cases hr:M6.val x.2.1*2^s%M6.val y.2.1=0
 ·rw[aI,if_pos hr,hQ _ Mw,cond_true,j15 _ (by omega)];rfl
 ·have bGO:bZ.kU (Q*2+1)=true:=by rw[show bZ.kU _=_ from xU];exact decide_eq_true (by omega)
  rw[aO,if_neg hr,hQ _ Mw,cond_true,gP ⟨by omega,by omega⟩,gP ⟨M6.aX _,M6.aX _,bGW,by omega⟩,M6.bN,M6.bN,bGO,cond_true,j15 _ bKJ];rfl
def aG:cX:=orc4 gZ gZ (pN .i64) pB sp
theorem ok:OK 210 aG:=(eB E aE (aA xM.ok (aA jZ.ok (aA kM.ok (aA sA.ok (aA iY.ok (aA Db.ok (aA mM.ok (aA qT.ok (aA bV.ok aD))))))))) func210).aSE rfl spec
end bR
end W
namespace M
open Go AI W
def shD(up:Bool)(p:Int×Int)(n:Int):Int×Int:=aK (bV.mA up p.1 p.2 n).1 (bV.mA up p.1 p.2 n).2
def vW(up:Bool)(p:Int×Int)(n:Int):Bool:=fR (bV.mA up p.1 p.2 n).1 (bV.mA up p.1 p.2 n).2
theorem Re{z:Int}{k:Nat}:((z/((2^k:Nat):Int):Int):Rat)*((2^k:Nat):Rat)<=(z:Rat)/\(z:Rat)<(((z/((2^k:Nat):Int):Int):Rat)+1)*((2^k:Nat):Rat):=by
 have hp:(0:Int)<((2^k:Nat):Int):=by have:=bOQ (n:=k) (show 0<2 by omega);omega
 have h1:=Int.ediv_mul_le z (show((2^k:Nat):Int)≠0 by omega);have h2:=Int.lt_ediv_add_one_mul_self z hp;constructor
 ·have:(((z/((2^k:Nat):Int))*((2^k:Nat):Int):Int):Rat)<=(z:Rat):=Rat.intCast_le_intCast.2 h1;rwa [bWL,bWJ]at this
 ·have:(z:Rat)<(((z/((2^k:Nat):Int)+1)*((2^k:Nat):Int):Int):Rat):=Rat.intCast_lt_intCast.2 h2;rwa [bWL,bWJ,bXM]at this
theorem Xp(up:Bool)(z:Int)(k:Nat):(up=false->(iQ.nJ up z k:Rat)*((2^k:Nat):Rat)<=(z:Rat)/\(z:Rat)<(iQ.nJ up z k:Rat)*((2^k:Nat):Rat)+((2^k:Nat):Rat))/\(up=true->(z:Rat)<=(iQ.nJ up z k:Rat)*((2^k:Nat):Rat)/\(iQ.nJ up z k:Rat)*((2^k:Nat):Rat)<(z:Rat)+((2^k:Nat):Rat)):=by
 constructor
 ·rintro rfl;obtain⟨h1,h2⟩:=Re (z:=z) (k:=k);unfold iQ.nJ;rw[cond_false];generalize ((z/((2^k:Nat):Int):Int):Rat)=q at *;constructor <;> grind
 ·rintro rfl;obtain⟨h1,h2⟩:=Re (z:=-z) (k:=k);unfold iQ.nJ;rw[cond_true,bWR];rw[bWR]at h1 h2;generalize ((-z/((2^k:Nat):Int):Int):Rat)=q at *;constructor <;> grind
theorem rE{p:Int×Int}(h:p.1≠0):R.pz (bC p)<=R.ab (R.qz p)/\R.ab (R.qz p)<R.pz (bC p+1):=by
 have hb:=rQ (n:=p.1.natAbs) (by omega);have h1:2^(bl p.1.natAbs-1)<=p.1.natAbs:=rA.1 (by omega);have h2:=tJ p.1.natAbs;have e:R.ab (R.qz p)=(p.1.natAbs:Rat)*R.pz p.2:=by
  unfold R.qz;rw[R.gQ,R.bS (bQY (R.dT p.2))];congr 1;unfold R.ab
  by_cases hz:0<=p.1
  ·rw[if_pos (by exact_mod_cast hz),<-bWJ];congr 1;omega
  ·rw[if_neg (by intro hc;exact hz (by exact_mod_cast hc)),<-bWJ,<-bWR];congr 1;omega
 have hp:=R.dT p.2;rw[e];unfold bC;constructor
 ·rw[show p.2+(bl p.1.natAbs:Int)-1=p.2+((bl p.1.natAbs-1:Nat):Int) by omega,R.dU];have Zi:((2^(bl p.1.natAbs-1):Nat):Rat)<=(p.1.natAbs:Rat):=by exact_mod_cast h1
  have:=R.aH (bQY hp) (show 0<=(p.1.natAbs:Rat)-((2^(bl p.1.natAbs-1):Nat):Rat) by grind);grind
 ·rw[show p.2+(bl p.1.natAbs:Int)-1+1=p.2+(bl p.1.natAbs:Int) by omega,R.dU];have aRF:(p.1.natAbs:Rat)<((2^bl p.1.natAbs:Nat):Rat):=by exact_mod_cast h2
  have:=bRK hp (show 0<((2^bl p.1.natAbs:Nat):Rat)-(p.1.natAbs:Rat) by grind);grind
theorem Bt(up:Bool)(p:Int×Int){n:Int}(Xb:1<=n):(up=false->R.qz (shD up p n)<=R.qz p/\R.qz p<=R.qz (shD up p n)+R.pz (1-n)*R.ab (R.qz p))/\(up=true->R.qz p<=R.qz (shD up p n)/\R.qz (shD up p n)<=R.qz p+R.pz (1-n)*R.ab (R.qz p)):=by
 have h0:0<=R.pz (1-n)*R.ab (R.qz p):=R.aH (bQY (R.dT _)) (R.aT _);unfold shD bV.mA;split
 ·have e:R.qz (aK p.1 p.2)=R.qz p:=mF p.1 p.2;dsimp only;rw[e];constructor <;> (intro _;constructor <;> grind)
 ·rename_i hn;obtain⟨k,hk⟩:=bQT (show 0<=(bl p.1.natAbs:Int)-n by omega);have aDS:p.1≠0:=by
   intro hz;rw[hz]at hn;have hb:bl (0:Int).natAbs=0:=rfl;rw[hb]at hn;omega
  obtain⟨c1,c2⟩:=Xp up p.1 k;dsimp only;rw[hk,bPN,mF,R.dU];have oY:=R.dT p.2;have ht:=(rE aDS).1;have e2:R.pz p.2*((2^k:Nat):Rat)<=R.pz (1-n)*R.ab (R.qz p):=by
   have e3:R.pz p.2*((2^k:Nat):Rat)=R.pz (1-n)*R.pz (bC p):=by
    rw[<-R.dU,<-R.kB];congr 1;unfold bC;omega
   rw[e3];have:=R.aH (bQY (R.dT (1-n))) (show 0<=R.ab (R.qz p)-R.pz (bC p) by grind);grind
  have eq:R.qz p=(p.1:Rat)*R.pz p.2:=rfl;generalize R.pz (1-n)*R.ab (R.qz p)=X at *;rw[eq];generalize (iQ.nJ up p.1 k:Rat)=c at *;generalize ((2^k:Nat):Rat)=K at *;constructor
  ·intro hu;obtain⟨d1,d2⟩:=c1 hu;have m1:=R.aH (bQY oY) (show 0<=(p.1:Rat)-c*K by grind);have m2:=R.aH (bQY oY) (show 0<=c*K+K-(p.1:Rat) by grind);constructor <;> grind
  ·intro hu;obtain⟨d1,d2⟩:=c2 hu;have m1:=R.aH (bQY oY) (show 0<=c*K-(p.1:Rat) by grind);have m2:=R.aH (bQY oY) (show 0<=(p.1:Rat)+K-c*K by grind);constructor <;> grind
theorem aFY(n:Nat):bl (2^n)=n+1:=by
 have h1:=dP (n:=2^n) (k:=n+1);have h2:=rA (n:=2^n) (k:=n);have:2^n<2^(n+1):=bSK (by omega) (by omega);have:=h1.2 this;have:=h2.2 (bLR _);omega
theorem qL(z e:Int):bl (aK z e).1.natAbs<=bl z.natAbs:=gD (Ai z e)
theorem Ub(up:Bool)(z:Int)(k n:Nat)(h:bl z.natAbs<=n+k):bl (iQ.nJ up z k).natAbs<=n+1:=by
 have hz:=dP.1 h;rw[bQS]at hz;have hp:=bOQ (n:=k) (show 0<2 by omega);have hn:=bOQ (n:=n) (show 0<2 by omega);refine dP.2 ?_;rw[bQQ];have fl:∀w:Int,w.natAbs<2^n*2^k->(w/((2^k:Nat):Int)).natAbs<=2^n:=by
  intro w hw;have h1:=bUU w ((2^k:Nat):Int);have h2:=Int.emod_nonneg w (show((2^k:Nat):Int)≠0 by omega);have h3:=Int.emod_lt_of_pos w (show(0:Int)<((2^k:Nat):Int) by omega);have aSX:(w.natAbs:Int)<((2^n:Nat):Int)*((2^k:Nat):Int):=by exact_mod_cast hw
  generalize w/((2^k:Nat):Int)=q at *;generalize ((2^k:Nat):Int)=K at *;generalize hN:2^n=N at *
  by_cases hq:0<=q
  ·have:q<(N:Int):=by
    refine Int.not_le.1 fun hc=>?_
    have:=bXU hc (show 0<=K by omega);rw[Int.mul_comm K (N:Int)]at this;omega
   omega
  ·have:-(N:Int)<=q:=by
    refine Int.not_lt.1 fun hc=>?_
    have:=bXU (show q<=-(N:Int)-1 by omega) (show 0<=K by omega);rw[Int.mul_sub,bUR,Int.mul_one,Int.mul_comm K (N:Int)]at this;omega
   omega
 unfold iQ.nJ;cases up with
 |false =>
  rw[cond_false];have:=fl z hz;omega
 |true =>
  rw[cond_true,bSL];have:=fl (-z) (by rw[bSL];exact hz);omega
def aXG(p:Int×Int):Prop:=iL p/\p.2+(bl p.1.natAbs:Nat)<=1048000
theorem Kh{up:Bool}{p:Int×Int}{n:Int}(hp:aXG p)(hn:1<=n):vW up p n=true/\iL (shD up p n):=by
 obtain⟨⟨h1,h2,h3,h4⟩,h5⟩:=hp;unfold vW shD bV.mA;split
 ·dsimp only;have hi:fR p.1 p.2=true:=by
   unfold fR
   by_cases hz:p.1=0
   ·rw[decide_eq_true hz,bRB]
   ·have ht:=yT (n:=p.1.natAbs) (by have:=h4 hz;omega);rw[ht,decide_eq_false hz,bNS,decide_eq_true (show -1048576<=p.2+((0:Nat):Int) by omega),decide_eq_true (show p.2+((0:Nat):Int)<=1048576 by omega)];rfl
  exact⟨hi,fF hi h1⟩
 ·rename_i hk;dsimp only;have hc:=iQ.Xq up p.1 ((bl p.1.natAbs:Int)-n).toNat;have bEM:=Ub up p.1 ((bl p.1.natAbs:Int)-n).toNat n.toNat (by omega);generalize iQ.nJ up p.1 ((bl p.1.natAbs:Int)-n).toNat=c at *;have bJS:bl c.natAbs<=bl p.1.natAbs:=gD hc;have bAL:c≠0->tz c.natAbs<bl c.natAbs:=fun h=>zS (by omega)
  have hi:fR c (p.2+((bl p.1.natAbs:Int)-n))=true:=by
   unfold fR
   by_cases hz:c=0
   ·rw[decide_eq_true hz,bRB]
   ·have:=bAL hz;rw[decide_eq_false hz,bNS,decide_eq_true (show -1048576<=p.2+((bl p.1.natAbs:Int)-n)+(tz c.natAbs:Int) by omega),decide_eq_true (show p.2+((bl p.1.natAbs:Int)-n)+(tz c.natAbs:Int)<=1048576 by omega)];rfl
  exact⟨hi,fF hi (bMN bJS h1)⟩
end M
namespace M
open Go AI W
theorem Mh{p q:Int×Int}(hp:iL p)(hq:iL q)(h:bJ.iV p q=true):iL (bJ.mL p q):=by
 unfold bJ.mL;split
 ·exact hq
 ·split
  ·exact hp
  ·rename_i h1 h2;unfold bJ.iV at h;rw[decide_eq_false h1,decide_eq_false h2,bNS,bNS,bLX,bLX,bLX]at h;exact fF h.2.2.2 (of_decide_eq_true h.2.2.1)
theorem iL.top{p:Int×Int}(h:iL p):-1048577<=bC p/\bC p<=1572864:=by
 obtain⟨h1,h2,_⟩:=h;unfold bC;omega
theorem Fj{p q:Int×Int}:cR p q=0↔R.qz p=R.qz q:=by
 obtain⟨h1,h2⟩:=Fm p q;have a:=R.Pm (p:=p) (q:=q) h1 h2;have b:=R.Pm (p:=q) (q:=p) h2 h1;unfold cR;rw[aKH];constructor
 ·intro h;exact bXV (a.2 (Int.le_of_eq h)) (b.2 (Int.le_of_eq h.symm))
 ·intro h;exact Int.le_antisymm (a.1 (by rw[h];exact bSF)) (b.1 (by rw[h];exact bSF))
theorem xZ{p q:Int×Int}:cR p q<0↔R.qz p<R.qz q:=by
 have h1:=kY (p:=p) (q:=q);have h3:=Fj (p:=p) (q:=q);constructor
 ·intro h;have:=h1.1 (by omega);refine Rat.not_le.1 fun hn=>?_
  have:=h3.2 (bXV this hn);omega
 ·intro h;have a:=h1.2 (bQY h);have b:cR p q≠0:=fun hn=>Rat.lt_irrefl ((h3.1 hn)▸h)
  omega
theorem Em{p:Int×Int}(h:p.1=0):cR p (0,0)=0:=by
 rw[Fj,R.lP h,R.lP rfl]
theorem iL.Aj{p:Int×Int}(h:iL p):iL (-p.1,p.2):=by
 obtain⟨x1,x2,x3,x4⟩:=h;exact⟨by dsimp only;rw[bSL];exact x1,x2,fun h=>x3 (by dsimp only at h;omega),fun h=>by dsimp only at h ⊢;have:=x4 (by omega);omega⟩
theorem aL.Cl{x:dR}(h:aL x)(hb:bl (dv x).1.natAbs<=262144):x.2.1.length<=4096:=by
 have e:M6.dg (dv x).1.natAbs=x.2.1:=h.Dh.cells.2;rw[<-e];exact eQ (k:=4096) (by omega)
def Bm(p q:Int×Int):Int×Int:=bif decide (cR q p<0)then q else p
def Bn(p q:Int×Int):Int×Int:=bif decide (0<cR q p)then q else p
theorem aDB(p q:Int×Int):Bm p q=p\/Bm p q=q:=by unfold Bm;cases decide (cR q p<0);exact Or.inl rfl;exact Or.inr rfl
theorem aEI(p q:Int×Int):Bn p q=p\/Bn p q=q:=by unfold Bn;cases decide (0<cR q p);exact Or.inl rfl;exact Or.inr rfl
theorem Tg(p q:Int×Int):R.qz (Bm p q)<=R.qz p/\R.qz (Bm p q)<=R.qz q:=by
 unfold Bm
 by_cases h:cR q p<0
 ·rw[decide_eq_true h,cond_true];exact⟨bQY (xZ.1 h),bSF⟩
 ·rw[decide_eq_false h,cond_false];exact⟨bSF,Rat.not_lt.1 fun hn=>h (xZ.2 hn)⟩
theorem Tv(p q:Int×Int):R.qz p<=R.qz (Bn p q)/\R.qz q<=R.qz (Bn p q):=by
 unfold Bn
 by_cases h:0<cR q p
 ·rw[decide_eq_true h,cond_true];exact⟨bQY (sL.1 h),bSF⟩
 ·rw[decide_eq_false h,cond_false];exact⟨bSF,Rat.not_lt.1 fun hn=>h (sL.2 hn)⟩
end M
namespace W
open Go AI M
namespace Da
def E:=mE [(158,Kc.aG)] 14 [10] [] []
def aE:=bd f120
theorem aW:Nk E aE:=nk
theorem start a b c d e f:aF E f120 aE [D.agg [sc (bool a),ints u64 b,sc (int i64 c)],D.agg [sc (bool d),ints u64 e,sc (int i64 f)]]=aP (aL (a,b,c)/\aL (d,e,f)) (some [D.s (sc (int i64 (lG (bJ.lK (dv (a,b,c)) (dv (d,e,f))) (bJ.lI (dv (a,b,c)) (dv (d,e,f))))))]):=eJ aW
def sp(x y:dR):Prop×List D:=(aL x/\aL y,[.s (.sc (.int .i64 (cR (dv x) (dv y))))])
theorem spec:fK E f120 aE gZ gZ sp:=by
 intro x y h;exact(start x.1 x.2.1 x.2.2 y.1 y.2.1 y.2.2).trans (gP h)
def aG:cX:=orc2 gZ gZ sp
theorem ok:OK 120 aG:=(eB E aE (aA Kc.ok aD) func120).lE rfl spec
end Da
namespace rZ
def E:=mE [(45,jZ.aG),(120,Da.aG)] 19 [] [] []
def aE:=bd f67
theorem aW:Nk E aE:=nk
theorem start a b c d e f:aF E f67 aE [D.agg [sc (bool a),ints u64 b,sc (int i64 c),sc (bool d),ints u64 e,sc (int i64 f)]]=aP (aL (a,b,c)) (aP (aL (d,e,f)) (aP (aL (a,b,c)/\aL (d,e,f)) (some [D.s (sc (bool (decide (cR (dv (a,b,c)) (dv (d,e,f))<=0))))]))):=eJ aW
def sp(s:rY):Prop×List D:=(eG s,[.s (.sc (.bool true))])
theorem spec:gI E f67 aE sZ sp:=by
 rintro s ⟨h1,h2,h3⟩;refine(start s.1 s.2.1 s.2.2.1 s.2.2.2.1 s.2.2.2.2.1 s.2.2.2.2.2).trans ((gP h1).trans ((gP h2).trans ((gP ⟨h1,h2⟩).trans ?_)));show some [D.s (.sc (.bool (decide (cR (dv (gN s)) (dv (gO s))<=0))))]=_;rw[decide_eq_true h3];rfl
def aG:cX:=orc1 sZ sp
theorem ok:OK 67 aG:=(eB E aE (aA jZ.ok (aA Da.ok aD)) func67).nA rfl spec
end rZ
namespace aGJ
def E:=mE [(97,Clone.aG)] 10 [] [] []
def aE:=bd f171
theorem aW:Nk E aE:=nk
theorem start a b c:aF E f171 aE [D.agg [sc (bool a),ints u64 b,sc (int i64 c)]]=aP (b.length<=1099511627776) (some [D.agg [sc (bool a),ints u64 b,sc (int i64 c)]]):=eJ aW
def sp(x:dR):Prop×List D:=(x.2.1.length<=1099511627776,[.agg [.sc (.bool x.1),.ints .u64 x.2.1,.sc (.int .i64 x.2.2)]])
theorem spec:gI E f171 aE gZ sp:=by
 intro x h;exact(start x.1 x.2.1 x.2.2).trans (gP h)
def aG:cX:=orc1 gZ sp
theorem ok:OK 171 aG:=(eB E aE (aA Clone.ok aD) func171).nA rfl spec
end aGJ
namespace Ic
def E:=mE [(171,aGJ.aG)] 10 [] [] []
def aE:=bd f123
theorem aW:Nk E aE:=nk
theorem start a b c d e f:aF E f123 aE [D.agg [sc (bool a),ints u64 b,sc (int i64 c),sc (bool d),ints u64 e,sc (int i64 f)]]=aP (b.length<=1099511627776) (aP (e.length<=1099511627776) (some [D.agg [sc (bool a),ints u64 b,sc (int i64 c),sc (bool d),ints u64 e,sc (int i64 f)]])):=eJ aW
def sp(s:rY):Prop×List D:=(s.2.1.length<=1099511627776/\s.2.2.2.2.1.length<=1099511627776,[.agg [.sc (.bool s.1),.ints .u64 s.2.1,.sc (.int .i64 s.2.2.1),.sc (.bool s.2.2.2.1),.ints .u64 s.2.2.2.2.1,.sc (.int .i64 s.2.2.2.2.2)]])
theorem spec:gI E f123 aE sZ sp:=by
 intro s h;exact(start s.1 s.2.1 s.2.2.1 s.2.2.2.1 s.2.2.2.2.1 s.2.2.2.2.2).trans ((gP h.1).trans (gP h.2))
def aG:cX:=orc1 sZ sp
theorem ok:OK 123 aG:=(eB E aE (aA aGJ.ok aD) func123).nA rfl spec
end Ic
namespace aGK
def E:=mE [(67,rZ.aG),(123,Ic.aG)] 16 [] [] []
def aE:=bd f154
theorem aW:Nk E aE:=nk
theorem start a b c d e f:aF E f154 aE [D.agg [sc (bool a),ints u64 b,sc (int i64 c)],D.agg [sc (bool d),ints u64 e,sc (int i64 f)]]=aP (eG (a,b,c,d,e,f)) (aP (b.length<=1099511627776/\e.length<=1099511627776) (some [D.agg [sc (bool a),ints u64 b,sc (int i64 c),sc (bool d),ints u64 e,sc (int i64 f)],D.s (sc (int i64 0))])):=eJ aW
def sp(x y:dR):Prop×List D:=(aL x/\aL y/\cR (dv x) (dv y)<=0,[.agg [.sc (.bool x.1),.ints .u64 x.2.1,.sc (.int .i64 x.2.2),.sc (.bool y.1),.ints .u64 y.2.1,.sc (.int .i64 y.2.2)],.s (.sc (.int .i64 0))])
theorem spec:fK E f154 aE gZ gZ sp:=by
 rintro x y ⟨h1,h2,h3⟩;have l1:=h1.len;have l2:=h2.len;exact(start x.1 x.2.1 x.2.2 y.1 y.2.1 y.2.2).trans ((gP ⟨h1,h2,h3⟩).trans (gP ⟨by omega,by omega⟩))
def aG:cX:=orc2 gZ gZ sp
theorem ok:OK 154 aG:=(eB E aE (aA rZ.ok (aA Ic.ok aD)) func154).lE rfl spec
end aGK
namespace Ig
def E:=mE [(154,aGK.aG)] 9 [6] [] []
def aE:=bd f113
theorem aW:Nk E aE:=nk
theorem start a b c:aF E f113 aE [D.agg [sc (bool a),ints u64 b,sc (int i64 c)]]=aP (aL (a,b,c)/\aL (a,b,c)/\cR (dv (a,b,c)) (dv (a,b,c))<=0) (some [D.agg [sc (bool a),ints u64 b,sc (int i64 c),sc (bool a),ints u64 b,sc (int i64 c)],D.s (sc (int i64 0))]):=eJ aW
def sp(x:dR):Prop×List D:=(aL x,[.agg [.sc (.bool x.1),.ints .u64 x.2.1,.sc (.int .i64 x.2.2),.sc (.bool x.1),.ints .u64 x.2.1,.sc (.int .i64 x.2.2)],.s (.sc (.int .i64 0))])
theorem spec:gI E f113 aE gZ sp:=by
 intro x h;exact(start x.1 x.2.1 x.2.2).trans (gP ⟨h,h,La _⟩)
def aG:cX:=orc1 gZ sp
theorem ok:OK 113 aG:=(eB E aE (aA aGK.ok aD) func113).nA rfl spec
end Ig
namespace aGP
def E:=mE [(95,mM.aG),(105,Ik.aG)] 14 [] [] []
def aE:=bd f51
theorem aW:Nk E aE:=nk
theorem start a:aF E f51 aE [D.s (sc (int i64 a))]=letI B:=M6.dg (u64.wrap a).toNat;letI C:=zs false (M6.val B);letI A:=M6.dg (u64.wrap ((0:Int)-u64.wrap a)).toNat;letI F:=zs true (M6.val A);aB (decide (a<0)) (aP (0<=u64.wrap ((0:Int)-u64.wrap a)/\u64.wrap ((0:Int)-u64.wrap a)<18446744073709551616) (aP (M6.cD A/\A.length<=1099511627776) (some [D.agg [sc (bool (isNeg F)),ints u64 (M6.dg F.natAbs)]]))) (aP (0<=u64.wrap a/\u64.wrap a<18446744073709551616) (aP (M6.cD B/\B.length<=1099511627776) (some [D.agg [sc (bool (isNeg C)),ints u64 (M6.dg C.natAbs)]]))):=eJ aW
def sp(a:Int):Prop×List D:=(-9223372036854775808<=a/\a<9223372036854775808,[wD a])
theorem spec:gI E f51 aE (pN .i64) sp:=by
 rintro a ⟨h1,h2⟩;refine(start a).trans ?_;show _=some [wD a]
 by_cases hn:a<0
 ·have w1:u64.wrap (0-u64.wrap a)=(a.natAbs:Int):=by rw[eE,eE];omega
  have hl:=eQ (n:=a.natAbs) (k:=1) (dP.2 (by omega));rw[aO hn,w1,bPN,gP ⟨by omega,by omega⟩,gP ⟨M6.aX _,by omega⟩,M6.bN];have:zs true a.natAbs=a:=by show -(a.natAbs:Int)=a;omega
  rw[this];rfl
 ·have w1:u64.wrap a=(a.natAbs:Int):=by rw[eE];omega
  have hl:=eQ (n:=a.natAbs) (k:=1) (dP.2 (by omega));rw[aI hn,w1,bPN,gP ⟨by omega,by omega⟩,gP ⟨M6.aX _,by omega⟩,M6.bN];have:zs false a.natAbs=a:=by show((a.natAbs:Nat):Int)=a;omega
  rw[this];rfl
def aG:cX:=orc1 (pN .i64) sp
theorem ok:OK 51 aG:=(eB E aE (aA mM.ok (aA Ik.ok aD)) func51).nA rfl spec
end aGP
namespace aHB
def E:=mE [(51,aGP.aG),(50,iJ.aG)] 12 [] [] []
def aE:=bd f14
theorem aW:Nk E aE:=nk
theorem start a:aF E f14 aE [D.s (sc (int i64 a))]=letI B:=(isNeg a,M6.dg a.natAbs);letI A:=bif fR (wv B) 0 then aK (wv B) 0 else((0:Int),(0:Int));aP ((-9223372036854775808:Int)<=a/\a<9223372036854775808) (aP (jK B/\(-9223372036854775808:Int)<=(0:Int)/\(0:Int)<(9223372036854775808:Int)) (some [D.agg [sc (bool (isNeg A.fst)),ints u64 (M6.dg A.fst.natAbs),sc (int i64 A.snd)]])):=eJ aW
def sp(n:Int):Prop×List D:=(-9223372036854775808<=n/\n<9223372036854775808,[dD (aK n 0)])
theorem aJD{n:Int}(h:bl n.natAbs<=524288):fR n 0=true:=by
 unfold fR
 by_cases hz:n=0
 ·rw[decide_eq_true hz,bRB]
 ·have:=zS (n:=n.natAbs) (by omega);rw[decide_eq_true (show(-1048576<=0+(tz n.natAbs:Int)) by omega),decide_eq_true (show(0+(tz n.natAbs:Int)<=1048576) by omega),bOS,bRQ]
theorem spec:gI E f14 aE (pN .i64) sp:=by
 rintro n ⟨h1,h2⟩;have hb:bl n.natAbs<=64:=dP.2 (by omega);refine(start n).trans ?_;rw[gP ⟨h1,h2⟩,gP ⟨mP (by omega),by omega,by omega⟩,rD,aJD (by omega)];rfl
def aG:cX:=orc1 (pN .i64) sp
theorem ok:OK 14 aG:=(eB E aE (aA aGP.ok (aA iJ.ok aD)) func14).nA rfl spec
end aHB
namespace Ib
def E:=mE [(113,Ig.aG),(14,aHB.aG)] 12 [] [] []
def aE:=bd f202
theorem aW:Nk E aE:=nk
theorem start a:aF E f202 aE [D.s (sc (int i64 a))]=letI A:=aK a 0;letI C:=M6.dg A.fst.natAbs;letI B:=bool (isNeg A.fst);aP ((-9223372036854775808:Int)<=a/\a<9223372036854775808) (aP (aL (isNeg A.fst,M6.dg A.fst.natAbs,A.snd)) (some [D.agg [sc B,ints u64 C,sc (int i64 A.snd),sc B,ints u64 C,sc (int i64 A.snd)]])):=eJ aW
def sp(n:Int):Prop×List D:=(-1000000<=n/\n<=1000000,[yE (aK n 0) (aK n 0)])
theorem spec:gI E f202 aE (pN .i64) sp:=by
 rintro n ⟨h1,h2⟩;have hb:bl n.natAbs<=20:=dP.2 (by have:(2:Nat)^20=1048576:=rfl;omega);exact(start n).trans ((gP ⟨by omega,by omega⟩).trans (gP (cF (fF (fJ (by decide) (by omega)) (by omega)))))
def aG:cX:=orc1 (pN .i64) sp
theorem ok:OK 202 aG:=(eB E aE (aA Ig.ok (aA aHB.ok aD)) func202).nA rfl spec
end Ib
namespace Bl
def E:=mE [(45,jZ.aG),(46,kM.aG),(234,aGZ.aG)] 13 [12] [] []
def aE:=bd f203
theorem aW:Nk E aE:=nk
theorem start a b c:aF E f203 aE [D.agg [sc (bool a),ints u64 b,sc (int i64 c)]]=aP (aL (a,b,c)) (aP True (aB ((b.length:Int)==(0:Int)) (some [D.s (sc (int i64 0)),D.s (sc (int i64 4))]) (aP (aL (a,b,c)) (some [D.s (sc (int i64 (c+(↑(bl (M6.val b)):Int)-(1:Int)))),D.s (sc (int i64 0))])))):=eJ aW
def sp(x:dR):Prop×List D:=(aL x,[.s (.sc (.int .i64 (if(dv x).1=0 then 0 else x.2.2+(bl (M6.val x.2.1):Nat)-1))),.s (.sc (.int .i64 (if(dv x).1=0 then 4 else 0)))])
theorem spec:gI E f203 aE gZ sp:=by
 intro x h;have h:aL x:=h;refine(start x.1 x.2.1 x.2.2).trans ?_;have hz:=M6.cO h.Fg;have ha:=iO (x.1,x.2.1)
 try dsimp only at ha
 have hd:(dv x).1=wv (x.1,x.2.1):=rfl;unfold sp
 try dsimp only
 rw[gP h,gP trivial]
 by_cases h0:x.2.1.length=0
 ·have:(dv x).1=0:=by rw[hd];have:=hz.1 h0;omega
  rw[cC,if_pos this,if_pos this]
 ·have:(dv x).1≠0:=by rw[hd];have:=fun hv=>h0 (hz.2 hv);omega
  rw[bP,if_neg this,if_neg this,gP h]
def aG:cX:=orc1 gZ sp
theorem ok:OK 203 aG:=(eB E aE (aA jZ.ok (aA kM.ok (aA aGZ.ok aD))) func203).nA rfl spec
end Bl
namespace aHC
def E:=mE [(45,jZ.aG),(47,Bk.aG),(46,kM.aG)] 22 [] [] []
def aE:=bd f68
theorem aW:Nk E aE:=nk
theorem start a b c:aF E f68 aE [D.agg [sc (bool a),ints u64 b,sc (int i64 c)]]=aP (aL (a,b,c)) (aP (b.length<=1099511627776) (aB (!a) (aP True (some [D.agg [sc (bool !(b.length:Int)==(0:Int)),ints u64 b,sc (int i64 c)],D.s (sc (int i64 0))])) (some [D.agg [sc (bool false),ints u64 b,sc (int i64 c)],D.s (sc (int i64 0))]))):=eJ aW
def sp(x:dR):Prop×List D:=(aL x,dE true (-(dv x).1,(dv x).2))
theorem spec:gI E f68 aE gZ sp:=by
 intro x h;have h:aL x:=h;have hl:=h.len;have hc:=h.Dh.cells;refine(start x.1 x.2.1 x.2.2).trans ?_;obtain⟨b,a,e⟩:=x
 try dsimp only at *
 unfold sp
 try dsimp only
 rw[gP h,gP];have hz:=M6.cO h.Fg;have ha:=iO (b,a)
 try dsimp only at ha hz
 have e1:dE true (-(dv (b,a,e)).1,(dv (b,a,e)).2)=[D.agg [.sc (.bool (isNeg (-(wv (b,a))))),.ints .u64 a,.sc (.int .i64 e)],.s (.sc (.int .i64 0))]:=by
  show [M.dD (-(wv (b,a)),e),_]=_;unfold M.dD
  try dsimp only
  rw[bSL,hc.2];rfl
 rw[e1];cases b with
 |true =>
  have:wv (true,a)=-(M6.val a:Int):=Lp (x:=(true,a)) rfl;rw[bNR,bF,jH.2 (by omega)]
 |false =>
  have hw:wv (false,a)=(M6.val a:Int):=Bo (x:=(false,a)) rfl;rw[bXN,bT,gP trivial]
  by_cases h0:a.length=0
  ·rw[beq_iff_eq.2 (show(a.length:Int)=0 by omega),jH.2 (by have:=hz.1 h0;omega)];rfl
  ·rw[beq_eq_false_iff_ne.2 (show(a.length:Int)≠0 by omega),lR.2 (by have:M6.val a≠0:=fun h=>h0 (hz.2 h);omega)];rfl
def aG:cX:=orc1 gZ sp
theorem ok:OK 68 aG:=(eB E aE (aA jZ.ok (aA Bk.ok (aA kM.ok aD))) func68).nA rfl spec
end aHC
namespace Vf
def E:=mE [(68,aHC.aG),(13,bJ.aG)] 22 [10,19] [] []
def aE:=bd f59
theorem aW:Nk E aE:=nk
theorem start a b c d e f:aF E f59 aE [D.agg [sc (bool a),ints u64 b,sc (int i64 c)],D.agg [sc (bool d),ints u64 e,sc (int i64 f)]]=letI G:=dv (a,b,c);letI F:=dv (d,e,f);letI C:=bif true then(-F.fst,F.snd)else((0:Int),(0:Int));letI A:=dv (isNeg C.fst,M6.dg C.fst.natAbs,C.snd);letI B:=bif bJ.iV G A then bJ.mL G A else((0:Int),(0:Int));aP (aL (d,e,f)) (aP (aL (a,b,c)/\aL (isNeg (-F.fst),M6.dg (-F.fst).natAbs,F.snd)) (some [D.agg [sc (bool (isNeg B.fst)),ints u64 (M6.dg B.fst.natAbs),sc (int i64 B.snd)],D.s (sc (int i64 (bif bJ.iV G A then(0:Int)else(5:Int))))])):=eJ aW
def sp(x y:dR):Prop×List D:=(aL x/\aL y,dE (bJ.iV (dv x) (-(dv y).1,(dv y).2)) (bJ.mL (dv x) (-(dv y).1,(dv y).2)))
theorem spec:fK E f59 aE gZ gZ sp:=by
 rintro x y ⟨hx,hy⟩;refine(start x.1 x.2.1 x.2.2 y.1 y.2.1 y.2.2).trans ?_;have hn:=cF hy.uK.neg;have hv:=cU (-(dv y).1,(dv y).2);rw[gP hy,gP ⟨hx,hn⟩]
 try dsimp only[cond_true]at hv ⊢
 rw[hv];rfl
def aG:cX:=orc2 gZ gZ sp
theorem ok:OK 59 aG:=(eB E aE (aA aHC.ok (aA bJ.ok aD)) func59).lE rfl spec
end Vf
end W
namespace W.Arctan
def rounds(k:Nat):Nat->Nat->Nat->Nat->Nat->Nat->Nat×Nat
 |0,_,p,m,_,n=>(p-m,n)
 |f+1,t,p,m,i,n=>if t=0 then(p-m,n)else if i%4=1 then rounds k f (t/k/k) (p+t/i) m (i+2) (n+1)else rounds k f (t/k/k) p (m+t/i) (i+2) (n+1)
theorem Ym{k Q:Nat}:∀(f t p m i n:Nat),t<2^Q->p<2^(Q+n+1)->(rounds k f t p m i n).1<2^(Q+n+f+1)/\(rounds k f t p m i n).2<=n+f:=by
 intro f
 induction f with
 |zero =>
  intro t p m i n ht hp;exact⟨bSG (bSP _ _) hp,by simp[rounds]⟩
 |succ f ih =>
  intro t p m i n ht hp;have aDR:2^(Q+n+1)<=2^(Q+n+(f+1)+1):=fD;have aTI:2^(Q+(n+1)+1)=2*2^(Q+n+1):=by rw[show Q+(n+1)+1=(Q+n+1)+1 from by omega,bQQ];omega
  have hd:t/i<2^(Q+n+1):=bSG (bUE _ _) (bMR ht (fD));have hk:t/k/k<2^Q:=bSG (bUE _ _) (bSG (bUE _ _) ht);unfold rounds;split
  ·refine⟨bMR (bSG (bSP _ _) hp) aDR,by simp⟩
  ·split
   ·have:=ih (t/k/k) (p+t/i) m (i+2) (n+1) hk (by rw[aTI];omega);rw[show Q+(n+1)+f+1=Q+n+(f+1)+1 from by omega]at this;exact⟨this.1,by omega⟩
   ·have:=ih (t/k/k) p (m+t/i) (i+2) (n+1) hk (by rw[aTI];omega);rw[show Q+(n+1)+f+1=Q+n+(f+1)+1 from by omega]at this;exact⟨this.1,by omega⟩
def atan(k q:Nat):Nat×Nat:=rounds k (q+2) (2^q/k) 0 0 1 0
theorem Ax(k q:Nat):(atan k q).1<2^(2*q+4)/\(atan k q).2<=q+2:=by
 have hb:2^q/k<2^(q+1):=bSG (bUE _ _) (bSK (by omega) (by omega));have:=Ym (k:=k) (Q:=q+1) (q+2) (2^q/k) 0 0 1 0 hb (cN);rw[show q+1+0+(q+2)+1=2*q+4 from by omega]at this;exact⟨this.1,by have:=this.2;unfold atan;omega⟩
end W.Arctan
namespace W
open Go AI M
namespace aGW
def E:=mE [(194,lN.aG)] 32 [12,20,27] [] []
def aE:=bd f251
theorem aW:Nk E aE:=nk
theorem start a b:aF E f251 aE [D.s (ints u64 a),D.s (sc (int u64 b))]=letI A:=M6.dg (M6.val a/b.toNat);aB (decide (b<4294967296)) (aP (M6.cD a/\a.length<=8192/\0<u64.wrap (b*b)/\u64.wrap (b*b)<18446744073709551616) (some [D.s (ints u64 (M6.dg (M6.val a/(u64.wrap (b*b)).toNat)))])) (aP (M6.cD a/\a.length<=8192/\0<b/\b<18446744073709551616) (aP (M6.cD A/\A.length<=8192/\0<b/\b<18446744073709551616) (some [D.s (ints u64 (M6.dg (M6.val A/b.toNat)))]))):=eJ aW
def sp(a:List Int)(b:Int):Prop×List D:=(M6.cD a/\a.length<=8192/\2<=b/\b<4294967296,[.s (.ints .u64 (M6.dg (M6.val a/b.toNat/b.toNat)))])
theorem spec:fK E f251 aE (pI .u64) (pN .u64) sp:=by
 rintro a b ⟨hn,hl,h0,h1⟩;obtain⟨k,rfl⟩:=bQT (show 0<=b by omega);have hk:k*k<4294967296*4294967296:=Nat.mul_lt_mul_of_lt_of_le (by omega) (by omega) (by omega);have bIQ:0<k*k:=Nat.mul_pos (by omega) (by omega);have e:u64.wrap ((k:Int)*(k:Int))=((k*k:Nat):Int):=by
  rw[<-bRP];exact wrap_u64
 refine(start a k).trans ?_;rw[aO h1,e,bPN,gP ⟨hn,hl,by omega,by omega⟩];unfold sp;rw[bPN,bRI]
def aG:cX:=orc2 (pI .u64) (pN .u64) sp
theorem ok:OK 251 aG:=(eB E aE (aA lN.ok aD) func251).lE rfl spec
end aGW
namespace dA
def E:=mE [(98,iY.aG),(95,mM.aG),(194,lN.aG),(100,qT.aG),(102,sH.aG),(251,aGW.aG)] 72 [67] [(6,[0,6,8,9,10,11])] []
def aE:=bd f230
theorem aW:Nk E aE:=nk
def L6 a b (c:Nat) (d:List Int) (e:Nat) (f:List Int) g h:=nG E f230 aE 6 [cG a,fW b,yD 2 c 22 d,yD 3 e 22 f,cG g,cG h]
def bCH a b c (d:Nat) (e:List Int) f g:=nG E f230 aE 6 [cG a,fW b,fW c,yD 3 d 22 e,cG f,cG g]
def bLN a b (c:Nat) (d:List Int) e f g:=nG E f230 aE 6 [cG a,fW b,yD 2 c 22 d,fW e,cG f,cG g]
def aVU a b c d e f:=nG E f230 aE 6 [cG a,fW b,fW c,fW d,cG e,cG f]
theorem start a b:aF E f230 aE [D.s (sc (int u64 a)),D.s (sc (int i64 b))]=letI B:=M6.dg 1;letI A:=bif iY.iB (M6.val B) b.toNat then M6.dg (M6.val B*(2:Nat)^b.toNat)else [];aP ((0:Int)<=(1:Int)/\(1:Int)<(18446744073709551616:Int)) (aP (M6.cD B/\B.length<=8192/\0<=b/\b<4611686018427387904) (aP (M6.cD A/\A.length<=8192/\0<a/\a<18446744073709551616) (dA.L6 a (M6.dg (M6.val A/a.toNat)) 0 [] 0 [] 2 1))):=eJ aW
theorem yS a b c d e f g h:L6 a b c d e f g h=letI C:=M6.dg (M6.val b/a.toNat/a.toNat);letI B:=M6.cD b/\b.length<=8192/\2<=a/\a<4294967296;letI A:=M6.dg (M6.val b/h.toNat);letI G:=M6.val f+M6.val A;letI F:=M6.val d+M6.val A;aB (decide (0<(b.length:Int))) (aP (M6.cD b/\b.length<=8192/\0<h/\h<18446744073709551616) (aB (h.tmod 4==(1:Int)) (aP (M6.cD d/\M6.cD A/\d.length<=8192/\A.length<=8192) (aP B (dA.bCH a C (bif bZ.kU F then M6.dg F else []) e f (u64.wrap (g+3)) (u64.wrap (h+2))))) (aP (M6.cD f/\M6.cD A/\f.length<=8192/\A.length<=8192) (aP B (dA.bLN a C c d (bif bZ.kU G then M6.dg G else []) (u64.wrap (g+3)) (u64.wrap (h+2))))))) (aP (M6.cD d/\M6.cD f/\d.length<=8192/\f.length<=8192) (some [D.s (ints u64 (M6.dg (M6.val d-M6.val f))),D.s (sc (int u64 g))])):=lJ aW
theorem aPW a b c d e f g:bCH a b c d e f g=letI C:=M6.dg (M6.val b/a.toNat/a.toNat);letI B:=M6.cD b/\b.length<=8192/\2<=a/\a<4294967296;letI A:=M6.dg (M6.val b/g.toNat);letI G:=M6.val e+M6.val A;letI F:=M6.val c+M6.val A;aB (decide (0<(b.length:Int))) (aP (M6.cD b/\b.length<=8192/\0<g/\g<18446744073709551616) (aB (g.tmod 4==(1:Int)) (aP (M6.cD c/\M6.cD A/\c.length<=8192/\A.length<=8192) (aP B (dA.bCH a C (bif bZ.kU F then M6.dg F else []) d e (u64.wrap (f+3)) (u64.wrap (g+2))))) (aP (M6.cD e/\M6.cD A/\e.length<=8192/\A.length<=8192) (aP B (dA.aVU a C c (bif bZ.kU G then M6.dg G else []) (u64.wrap (f+3)) (u64.wrap (g+2))))))) (aP (M6.cD c/\M6.cD e/\c.length<=8192/\e.length<=8192) (some [D.s (ints u64 (M6.dg (M6.val c-M6.val e))),D.s (sc (int u64 f))])):=lJ aW
theorem aGS a b c d e f:aVU a b c d e f=letI C:=M6.dg (M6.val b/a.toNat/a.toNat);letI B:=M6.cD b/\b.length<=8192/\2<=a/\a<4294967296;letI A:=M6.dg (M6.val b/f.toNat);letI G:=M6.val d+M6.val A;letI F:=M6.val c+M6.val A;aB (decide (0<(b.length:Int))) (aP (M6.cD b/\b.length<=8192/\0<f/\f<18446744073709551616) (aB (f.tmod 4==(1:Int)) (aP (M6.cD c/\M6.cD A/\c.length<=8192/\A.length<=8192) (aP B (dA.aVU a C (bif bZ.kU F then M6.dg F else []) d (u64.wrap (e+3)) (u64.wrap (f+2))))) (aP (M6.cD d/\M6.cD A/\d.length<=8192/\A.length<=8192) (aP B (dA.aVU a C c (bif bZ.kU G then M6.dg G else []) (u64.wrap (e+3)) (u64.wrap (f+2))))))) (aP (M6.cD c/\M6.cD d/\c.length<=8192/\d.length<=8192) (some [D.s (ints u64 (M6.dg (M6.val c-M6.val d))),D.s (sc (int u64 e))])):=lJ aW
open Arctan in
theorem jU {n k:Nat} (h:n<2^k) (hk:k<=524288):(M6.dg n).length<=8192:=eQ (k:=8192) (bMN (dP.2 h) (by omega))
theorem aLM{n k:Nat}(h:n<2^k)(hk:k<=524288):bZ.kU n=true:=decide_eq_true (jU h hk)
theorem Ld{k Q:Nat}(hk:2<=k)(Sh:k<4294967296)(hQ:Q<=200000):∀(f t p m n:Nat),t<2^Q->t<4^f->f+n<=250000->p<2^(Q+n+1)->m<2^(Q+n+1) ->
  aVU k (M6.dg t) (M6.dg p) (M6.dg m) ((2+3*n:Nat):Int) ((2*n+1:Nat):Int)=some [D.s (.ints .u64 (M6.dg (Arctan.rounds k f t p m (2*n+1) n).1)),D.s (.sc (.int .u64 ((2+3*(Arctan.rounds k f t p m (2*n+1) n).2:Nat):Int)))]:=by
 intro f
 induction f with
 |zero =>
  intro t p m n aXD ht hf hp hm;have:t=0:=by simpa using ht
  subst this;rw[aGS,M6.bQ,aI (by simp),gP ⟨M6.aX _,M6.aX _,jU hp (by omega),jU hm (by omega)⟩,M6.bN,M6.bN];rfl
 |succ f ih =>
  intro t p m n aXD ht hf hp hm;rw[aGS];unfold Arctan.rounds
  by_cases hz:t=0
  ·subst hz;rw[M6.bQ,aI (by simp),gP ⟨M6.aX _,M6.aX _,jU hp (by omega),jU hm (by omega)⟩,M6.bN,M6.bN,if_pos rfl]
  ·have aUB:(M6.dg t).length≠0:=fun h=>hz (M6.fU.1 h)
   have et:(((2*n+1:Nat):Int)).toNat=2*n+1:=bPN _;have ek:((k:Int)).toNat=k:=bPN _;have em:(((2*n+1:Nat):Int)).tmod 4=(((2*n+1)%4:Nat):Int):=by rw[bTH (by omega)];omega
   have w1:u64.wrap (((2+3*n:Nat):Int)+3)=((2+3*(n+1):Nat):Int):=by rw[wrap_u64];omega
   have w2:u64.wrap (((2*n+1:Nat):Int)+2)=((2*(n+1)+1:Nat):Int):=by rw[wrap_u64];omega
   have aWM:t/k/k<2^Q:=bSG (bUE _ _) (bSG (bUE _ _) aXD);have bDS:t/k/k<4^f:=by
    rw[bRI];apply bRL;have:4<=k*k:=bWF hk hk;rw[bQQ 4 f,bQP (4^f)]at ht;exact bMR ht (bNE _ this)
   have aDR:2^(Q+(n+1)+1)=2*2^(Q+n+1):=by rw[show Q+(n+1)+1=(Q+n+1)+1 from by omega,bQQ];omega
   have hd:t/(2*n+1)<2^(Q+n+1):=bSG (bUE _ _) (bMR aXD (fD));have lt:=jU aXD (by omega);have ld:=jU hd (by omega);rw[aO];simp only[et,ek,em,M6.bN,w1,w2];rw[gP ⟨M6.aX _,lt,by omega,by omega⟩,if_neg hz,show 2*n+1+2=2*(n+1)+1 by omega]
   by_cases hc:(2*n+1)%4=1
   ·have hs:p+t/(2*n+1)<2^(Q+(n+1)+1):=by rw[aDR];omega
    rw[cC,gP ⟨M6.aX _,M6.aX _,jU hp (by omega),ld⟩,gP ⟨M6.aX _,lt,by omega,by omega⟩,if_pos hc,aLM hs (by omega),cond_true];exact ih _ _ _ (n+1) aWM bDS (by omega) hs (by rw[aDR];omega)
   ·have hs:m+t/(2*n+1)<2^(Q+(n+1)+1):=by rw[aDR];omega
    rw[bP,gP ⟨M6.aX _,M6.aX _,jU hm (by omega),ld⟩,gP ⟨M6.aX _,lt,by omega,by omega⟩,if_neg hc,aLM hs (by omega),cond_true];exact ih _ _ _ (n+1) aWM bDS (by omega) (by rw[aDR];omega) hs
def sp(k q:Int):Prop×List D:=((2<=k/\k<4294967296)/\0<=q/\q<=150000,[.s (.ints .u64 (M6.dg (Arctan.atan k.toNat q.toNat).1)),.s (.sc (.int .u64 ((2+3*(Arctan.atan k.toNat q.toNat).2:Nat):Int)))])
theorem spec:fK E f230 aE (pN .u64) (pN .i64) sp:=by
 rintro k q ⟨⟨h1,h2⟩,h3,h4⟩;refine(start k q).trans ?_;unfold sp;obtain⟨k,rfl⟩:=bQT (show 0<=k by omega);obtain⟨q,rfl⟩:=bQT h3;have Mw:2^q<2^(q+1):=bSK (by omega) (by omega);have hb:2^q/k<2^(q+1):=bSG (bUE _ _) Mw;have so:iY.iB 1 q=true:=by
  unfold iY.iB;rw[show bl 1=1 from rfl,decide_eq_true (show 1+q<=524288 by omega),bRQ]
 have l1:(M6.dg 1).length<=8192:=jU (k:=1) (by decide) (by decide);have nn:M6.cD ([]:List Int):=by rw[<-M6.bQ];exact M6.aX 0
 have v0:M6.val ([]:List Int)=0:=rfl;simp only[M6.bN,bPN,so,cond_true,bPU];rw[gP ⟨by decide,by decide⟩,gP ⟨M6.aX _,l1,by omega,by omega⟩,gP ⟨M6.aX _,jU Mw (by omega),by omega,by omega⟩];unfold Arctan.atan;have bJH:2^q/k<4^(q+2):=bMR hb (by rw[show(4:Nat)=2^2 from rfl,<-bSJ];exact fD);generalize 2^q/k=t at *;have e4:4^(q+2)=16*4^q:=by rw[bQS];omega
 rw[e4]at bJH;have kk:4<=k*k:=bWF (show 2<=k by omega) (show 2<=k by omega);have step:∀a X:Nat,a<4*X->a/k/k<X:=fun a X ha=>by
  rw[bRI];exact bRL (bMR ha (bNE _ kk))
 have aFF:∀a:Nat,a/k/k<=a:=fun a=>bMN (bUE _ _) (bUE _ _)
 have ht:=jU hb (by omega);rw[yS,show q+2=(q+1)+1 by omega];unfold Arctan.rounds
 by_cases z:t=0
 ·subst z;rw[M6.bQ,aI (by simp),gP ⟨nn,nn,by decide,by decide⟩,if_pos rfl,v0];rfl
 ·have aUB:(M6.dg t).length≠0:=fun h=>z (M6.fU.1 h)
  rw[aO,if_neg z,if_pos (by decide)];simp only[M6.bN,v0,bLT,Int.toNat_one,bXB,bPN];have vK:=bSG (aFF t) hb;have bJI:=step t (4*4^q) (by omega);have l2:=jU vK (by omega);rw[gP ⟨M6.aX _,ht,by decide,by decide⟩,cC (by decide),gP ⟨nn,M6.aX _,by decide,ht⟩,gP ⟨M6.aX _,ht,by omega,by omega⟩,aLM hb (by omega),cond_true,aPW,show u64.wrap (2+3)=5 from wrap_u64 (by decide) (by decide),show u64.wrap (1+2)=3 from wrap_u64 (by decide) (by decide)];unfold Arctan.rounds;generalize t/k/k=u at *
  by_cases z1:u=0
  ·subst z1;rw[M6.bQ,aI (by simp),gP ⟨M6.aX _,nn,ht,by decide⟩,if_pos rfl,v0,M6.bN];rfl
  ·have Dr:(M6.dg u).length≠0:=fun h=>z1 (M6.fU.1 h)
   have bDQ:u/3<2^(q+1):=bSG (bUE _ _) vK;rw[aO,if_neg z1,if_neg (by decide)];simp only[M6.bN,v0,bLT,bPN,show((3:Int)).toNat=3 from rfl];rw[gP ⟨M6.aX _,l2,by decide,by decide⟩,bP (by decide),gP ⟨nn,M6.aX _,by decide,jU bDQ (by omega)⟩,gP ⟨M6.aX _,l2,by omega,by omega⟩,aLM bDQ (by omega),cond_true,show u64.wrap (5+3)=8 from wrap_u64 (by decide) (by decide),show u64.wrap (3+2)=5 from wrap_u64 (by decide) (by decide)];have up:2^(q+1)<=2^(q+1+2+1):=fD;exact Ld (k:=k) (Q:=q+1) (by omega) (by omega) (by omega) q (u/k/k) t (u/3) 2 (bSG (aFF u) vK) (step u (4^q) bJI) (by omega) (by omega) (by omega)
def aG:cX:=orc2 (pN .u64) (pN .i64) sp
theorem ok:OK 230 aG:=(eB E aE (aA iY.ok (aA mM.ok (aA lN.ok (aA qT.ok (aA sH.ok (aA aGW.ok aD)))))) func230).lE rfl spec
end dA
namespace THalvings
def E:=mE [] 13 [] [(2,[0,3])] []
def aE:=bd f235
theorem aW:Nk E aE:=nk
def L2 a b:=nG E f235 aE 2 [bI a,bI b]
theorem start a:aF E f235 aE [D.s (sc (int i64 a))]=THalvings.L2 a 4:=eJ aW
theorem jY a b:L2 a b=aB (decide (i64.wrap (i64.wrap ((4:Int)*b)*b)<a)) (THalvings.L2 a (i64.wrap (b+1))) (some [D.s (sc (int i64 b))]):=lJ aW
def hlv(w:Int):Nat->Nat->Nat
 |0,h=>h
 |f+1,h=>if 4*(h:Int)*h<w then hlv w f (h+1)else h
def sp(w:Int):Prop×List D:=(w<=150000,[.s (.sc (.int .i64 (hlv w 200 4:Nat)))])
theorem L{w:Int}(hw:w<=150000):∀f h:Nat,h+f=204->L2 w h=some [.s (.sc (.int .i64 (hlv w f h:Nat)))]:=by
 intro f
 induction f with
 |zero =>
  intro h hh;obtain rfl:h=204:=by omega
  have e:i64.wrap (i64.wrap (4*((204:Nat):Int))*((204:Nat):Int))=166464:=by decide +kernel
  rw[jY,e,aI];rfl
 |succ f ih =>
  intro h hh;have hb:(h:Int)*h<=41616:=Int.ofNat_le.2 (bWF (show h<=204 by omega) (show h<=204 by omega));have hb0:(0:Int)<=(h:Int)*h:=bXP (by omega) (by omega);have ea:4*(h:Int)*h=4*((h:Int)*h):=Int.mul_assoc _ _ _;have e:i64.wrap (i64.wrap (4*(h:Int))*(h:Int))=4*(h:Int)*h:=by rw[wrap_i64 (n:=4*(h:Int)),wrap_i64]
  have e2:i64.wrap ((h:Int)+1)=((h+1:Nat):Int):=by rw[wrap_i64];omega
  rw[jY,e,e2];unfold hlv
  by_cases c:4*(h:Int)*h<w
  ·rw[aO c,if_pos c];exact ih (h+1) (by omega)
  ·rw[aI c,if_neg c]
theorem spec:gI E f235 aE (pN .i64) sp:=fun w h=>(start w).trans (L h 200 4 rfl)
def aG:cX:=orc1 (pN .i64) sp
theorem ok:OK 235 aG:=(eB E aE aD func235).nA rfl spec
end THalvings
namespace rW
def E:=mE [(48,Il.aG),(192,lZ.aG)] 36 [] [] []
def aE:=bd f236
theorem aW:Nk E aE:=nk
theorem start a c d b:aF E f236 aE [D.agg [sc (bool a),ints u64 c,sc (int i64 d)],D.s (sc (int i64 b))]=letI A:=(false,c);aB (decide (0<=i64.wrap (d+b))) (aP (jK A/\0<=i64.wrap (d+b)/\i64.wrap (d+b)<4611686018427387904) (some [D.s (ints u64 (M6.dg (bif fit (M6.val c*(2:Nat)^(i64.wrap (d+b)).toNat)then wv A*(↑((2:Nat)^(i64.wrap (d+b)).toNat):Int)else(0:Int)).natAbs))])) (aP (jK A/\0<=i64.wrap ((0:Int)-i64.wrap (d+b))/\i64.wrap ((0:Int)-i64.wrap (d+b))<4611686018427387904) (some [D.s (ints u64 (M6.dg (wv A/(↑((2:Nat)^(i64.wrap ((0:Int)-i64.wrap (d+b))).toNat):Int)).natAbs))])):=eJ aW
def aHS(p:Int×Int)(n:Int):Nat:=if 0<=p.2+n then p.1.natAbs*2^(p.2+n).toNat else p.1.natAbs/2^(-(p.2+n)).toNat
def sp(x:dR)(n:Int):Prop×List D:=(aL x/\-1099511627776<=n/\n<=1099511627776/\(0<=x.2.2+n->fit ((dv x).1.natAbs*2^(x.2.2+n).toNat)=true),[.s (.ints .u64 (M6.dg (aHS (dv x) n)))])
theorem spec:fK E f236 aE gZ (pN .i64) sp:=by
 rintro x n ⟨hx,h1,h2,hf⟩;have he:=hx.2.1;refine(start x.1 x.2.1 x.2.2 n).trans ?_;have w1:i64.wrap (x.2.2+n)=x.2.2+n:=wrap_i64;have ha:(dv x).1.natAbs=M6.val x.2.1:=iO (x.1,x.2.1);have ok:jK (false,x.2.1):=⟨hx.1.1,fun hf=>(by cases hf),hx.1.len⟩;have vx:wv (false,x.2.1)=(M6.val x.2.1:Int):=rfl;rw[w1,vx];unfold sp aHS;dsimp only
 by_cases c:0<=x.2.2+n
 ·have aUP:=hf c;rw[ha]at aUP ⊢;rw[aO c,gP ⟨ok,c,by omega⟩,aUP,cond_true,if_pos (show 0<=(dv x).2+n from c),<-bRP,bRJ];rfl
 ·have w2:i64.wrap (0-(x.2.2+n))=-(x.2.2+n):=by rw[wrap_i64];omega
  rw[ha,w2,aI c,gP ⟨ok,by omega,by omega⟩,if_neg (show ¬0<=(dv x).2+n from c),<-bRH,bRJ];rfl
def aG:cX:=orc2 gZ (pN .i64) sp
theorem ok:OK 236 aG:=(eB E aE (aA Il.ok (aA lZ.ok aD)) func236).lE rfl spec
end rW
namespace Ia
def E:=mE [(233,aGL.aG),(104,Bi.aG)] 22 [12,18] [] []
def aE:=bd f238
theorem aW:Nk E aE:=nk
theorem start a b c:aF E f238 aE [D.s (ints u64 a),D.s (ints u64 b),D.s (sc (int i64 c))]=letI B:=M6.val a*M6.val b;letI A:=bif bZ.kU B then M6.dg B else [];aP (M6.cD a/\M6.cD b/\a.length<=8192/\b.length<=8192) (aP (M6.cD A/\A.length<=8192/\0<=c/\c<4611686018427387904) (some [D.s (ints u64 (M6.dg (M6.val A/(2:Nat)^c.toNat)))])):=eJ aW
def sp(a b:List Int)(n:Int):Prop×List D:=(M6.cD a/\M6.cD b/\a.length<=4096/\b.length<=4096/\0<=n/\n<4611686018427387904,[.s (.ints .u64 (M6.dg (M6.val a*M6.val b/2^n.toNat)))])
theorem spec:qR E f238 aE (pI .u64) (pI .u64) (pN .i64) sp:=by
 rintro a b n ⟨h1,h2,l1,l2,n1,n2⟩;have hl:(M6.dg (M6.val a*M6.val b)).length<=8192:=by
  refine M6.cQ (k:=8192) ?_;have va:=bMR (M6.cK h1.iP) (bOR (by decide) l1);have vb:=bMR (M6.cK h2.iP) (bOR (by decide) l2);rw[show(8192:Nat)=4096+4096 from rfl,bQS];generalize 18446744073709551616^4096=Q at *;exact bUF va vb
 have ok:bZ.kU (M6.val a*M6.val b)=true:=decide_eq_true hl;refine(start a b n).trans ?_;rw[gP ⟨h1,h2,by omega,by omega⟩,ok];simp only[cond_true,M6.bN];exact gP ⟨M6.aX _,hl,n1,n2⟩
def aG:cX:=orc3 (pI .u64) (pI .u64) (pN .i64) sp
theorem ok:OK 238 aG:=(eB E aE (aA aGL.ok (aA Bi.ok aD)) func238).zA rfl spec
end Ia
namespace TSums
def E:Env:={ ({ base with C:=callsOf [(98,iY.aG),(95,mM.aG),(100,qT.aG),(238,Ia.aG),(194,lN.aG),(102,sH.aG)],wide:=some .u64 })with nt:=63,own:=[50,58],keep:=fun k=>(tlook [(4,[0,1,6,7,9])] k).getD [],cut:=tlook [] }
def aE:=bd f237
theorem aW:Nk E aE:=nk
def L4 a b c d e f g h:=nG E f237 aE 4 [fW a,bI b,dG 2 298 [eT c,eT d,eT e,eT f],fW g,cG h]
theorem start a b:aF E f237 aE [D.s (ints u64 a),D.s (sc (int i64 b))]=letI A:=M6.dg 1;aP ((0:Int)<=(1:Int)/\(1:Int)<(18446744073709551616:Int)) (aP (M6.cD A/\A.length<=8192/\0<=b/\b<4611686018427387904) (aC (bif iY.iB (M6.val A) b.toNat then M6.dg (M6.val A*(2:Nat)^b.toNat)else []) fun c=>TSums.L4 a b [] [] [] [] c 0)):=eJ aW
theorem kS a b c d e f g h:L4 a b c d e f g h=letI P:=M6.val f+M6.val g;letI O:=M6.val e+M6.val g;letI N:=M6.val d+M6.val g;letI K:=M6.val c+M6.val g;letI I:=decide (h.tmod 4=(3:Int));letI H:=decide (h.tmod 4=(2:Int));letI G:=decide (h.tmod 4=(1:Int));letI F:=decide (h.tmod 4=(0:Int));letI C:=u64.wrap (h+1);letI B:=M6.dg (M6.val g*M6.val a/(2:Nat)^b.toNat);letI A:=M6.cD g/\M6.cD a/\g.length<=4096/\a.length<=4096/\0<=b/\b<4611686018427387904;aB (decide (0<(g.length:Int))) (aB F (aP (M6.cD c/\M6.cD g/\c.length<=8192/\g.length<=8192) (aC (bif bZ.kU K then M6.dg K else []) fun i=>aB F (aP A (aC B fun j=>aP (M6.cD j/\j.length<=8192/\0<u64.wrap (h+1)/\u64.wrap (h+1)<18446744073709551616) (aC (M6.dg (M6.val j/C.toNat)) fun k=>TSums.L4 a b i d e f k C))) (aB G (aP A (aC B fun l=>aP (M6.cD l/\l.length<=8192/\0<u64.wrap (h+1)/\u64.wrap (h+1)<18446744073709551616) (aC (M6.dg (M6.val l/C.toNat)) fun m=>TSums.L4 a b c i e f m C))) (aB H (aP A (aC B fun n=>aP (M6.cD n/\n.length<=8192/\0<u64.wrap (h+1)/\u64.wrap (h+1)<18446744073709551616) (aC (M6.dg (M6.val n/C.toNat)) fun o=>TSums.L4 a b c d i f o C))) (aB I (aP A (aC B fun p=>aP (M6.cD p/\p.length<=8192/\0<u64.wrap (h+1)/\u64.wrap (h+1)<18446744073709551616) (aC (M6.dg (M6.val p/C.toNat)) fun q=>TSums.L4 a b c d e i q C))) none))))) (aB G (aP (M6.cD d/\M6.cD g/\d.length<=8192/\g.length<=8192) (aC (bif bZ.kU N then M6.dg N else []) fun r=>aB F (aP A (aC B fun s=>aP (M6.cD s/\s.length<=8192/\0<u64.wrap (h+1)/\u64.wrap (h+1)<18446744073709551616) (aC (M6.dg (M6.val s/C.toNat)) fun t=>TSums.L4 a b r d e f t C))) (aB G (aP A (aC B fun u=>aP (M6.cD u/\u.length<=8192/\0<u64.wrap (h+1)/\u64.wrap (h+1)<18446744073709551616) (aC (M6.dg (M6.val u/C.toNat)) fun v=>TSums.L4 a b c r e f v C))) (aB H (aP A (aC B fun w=>aP (M6.cD w/\w.length<=8192/\0<u64.wrap (h+1)/\u64.wrap (h+1)<18446744073709551616) (aC (M6.dg (M6.val w/C.toNat)) fun x=>TSums.L4 a b c d r f x C))) (aB I (aP A (aC B fun y=>aP (M6.cD y/\y.length<=8192/\0<u64.wrap (h+1)/\u64.wrap (h+1)<18446744073709551616) (aC (M6.dg (M6.val y/C.toNat)) fun z=>TSums.L4 a b c d e r z C))) none))))) (aB H (aP (M6.cD e/\M6.cD g/\e.length<=8192/\g.length<=8192) (aC (bif bZ.kU O then M6.dg O else []) fun aa=>aB F (aP A (aC B fun ab=>aP (M6.cD ab/\ab.length<=8192/\0<u64.wrap (h+1)/\u64.wrap (h+1)<18446744073709551616) (aC (M6.dg (M6.val ab/C.toNat)) fun ac=>TSums.L4 a b aa d e f ac C))) (aB G (aP A (aC B fun ad=>aP (M6.cD ad/\ad.length<=8192/\0<u64.wrap (h+1)/\u64.wrap (h+1)<18446744073709551616) (aC (M6.dg (M6.val ad/C.toNat)) fun ae=>TSums.L4 a b c aa e f ae C))) (aB H (aP A (aC B fun af=>aP (M6.cD af/\af.length<=8192/\0<u64.wrap (h+1)/\u64.wrap (h+1)<18446744073709551616) (aC (M6.dg (M6.val af/C.toNat)) fun ag=>TSums.L4 a b c d aa f ag C))) (aB I (aP A (aC B fun ah=>aP (M6.cD ah/\ah.length<=8192/\0<u64.wrap (h+1)/\u64.wrap (h+1)<18446744073709551616) (aC (M6.dg (M6.val ah/C.toNat)) fun ai=>TSums.L4 a b c d e aa ai C))) none))))) (aB I (aP (M6.cD f/\M6.cD g/\f.length<=8192/\g.length<=8192) (aC (bif bZ.kU P then M6.dg P else []) fun aj=>aB F (aP A (aC B fun ak=>aP (M6.cD ak/\ak.length<=8192/\0<u64.wrap (h+1)/\u64.wrap (h+1)<18446744073709551616) (aC (M6.dg (M6.val ak/C.toNat)) fun al=>TSums.L4 a b aj d e f al C))) (aB G (aP A (aC B fun am=>aP (M6.cD am/\am.length<=8192/\0<u64.wrap (h+1)/\u64.wrap (h+1)<18446744073709551616) (aC (M6.dg (M6.val am/C.toNat)) fun an=>TSums.L4 a b c aj e f an C))) (aB H (aP A (aC B fun ao=>aP (M6.cD ao/\ao.length<=8192/\0<u64.wrap (h+1)/\u64.wrap (h+1)<18446744073709551616) (aC (M6.dg (M6.val ao/C.toNat)) fun ap=>TSums.L4 a b c d aj f ap C))) (aB I (aP A (aC B fun aq=>aP (M6.cD aq/\aq.length<=8192/\0<u64.wrap (h+1)/\u64.wrap (h+1)<18446744073709551616) (aC (M6.dg (M6.val aq/C.toNat)) fun ar=>TSums.L4 a b c d e aj ar C))) none))))) none)))) (aP (M6.cD c/\M6.cD e/\c.length<=8192/\e.length<=8192) (aC (M6.dg (M6.val c-M6.val e)) fun au=>aP (M6.cD d/\M6.cD f/\d.length<=8192/\f.length<=8192) (aC (M6.dg (M6.val d-M6.val f)) fun av=>some [D.s (ints u64 av),D.s (ints u64 au)]))):=lJ aW
def tay(u W:Nat):Nat->Nat->Nat->Nat->Nat->Nat->Nat×Nat×Nat×Nat
 |0,_,a,b,c,d=>(a,b,c,d)
 |f+1,k,a,b,c,d=>if R.sq u W k=0 then(a,b,c,d)else
  if k%4=0 then tay u W f (k+1) (a+R.sq u W k) b c d else if k%4=1 then tay u W f (k+1) a (b+R.sq u W k) c d
  else if k%4=2 then tay u W f (k+1) a b (c+R.sq u W k) d else tay u W f (k+1) a b c (d+R.sq u W k)
theorem Ga{u W:Nat}(h:u<=W):∀k,R.sq u W k<=W
 |0=>bLR _
 |k+1=>bMN (R.Fz h k) (Ga h k)
theorem L{w:Nat}{a0:List Int}(hn:M6.cD a0)(hl:a0.length<=4096)(hu:M6.val a0<=2^w)(hw:w<=150000):∀(f k a b c d:Nat),k+f<=200000->R.sq (M6.val a0) (2^w) (k+f)=0 ->
  a<=k*2^w->b<=k*2^w->c<=k*2^w->d<=k*2^w ->
  L4 a0 w (M6.dg a) (M6.dg b) (M6.dg c) (M6.dg d) (M6.dg (R.sq (M6.val a0) (2^w) k)) k=some [.s (.ints .u64 (M6.dg ((tay (M6.val a0) (2^w) f k a b c d).2.1-(tay (M6.val a0) (2^w) f k a b c d).2.2.2))),.s (.ints .u64 (M6.dg ((tay (M6.val a0) (2^w) f k a b c d).1-(tay (M6.val a0) (2^w) f k a b c d).2.2.1)))]:=by
 intro f
 induction f with
 |zero =>
  intro k a b c d hk h0 ha hb hc hd;have pw:k*2^w<2^(w+18):=by
   rw[bQS,bQP];exact bXG (by omega) (bOQ (by decide))
  rw[bMS]at h0;rw[kS,h0,M6.bQ,aI (by simp)];simp only[aM];rw[gP ⟨M6.aX _,M6.aX _,dA.jU (bSG ha pw) (by omega),dA.jU (bSG hc pw) (by omega)⟩,gP ⟨M6.aX _,M6.aX _,dA.jU (bSG hb pw) (by omega),dA.jU (bSG hd pw) (by omega)⟩];simp only[M6.bN];rfl
 |succ f ih =>
  intro k a b c d hk h0 ha hb hc hd;have pw:∀j,j<=200000->j*2^w<2^(w+18):=fun j hj=>by
   rw[bQS,bQP];exact bXG (by omega) (bOQ (by decide))
  have hs:(k+1)*2^w=k*2^w+2^w:=by rw[bML,bPU]
  have ht:=Ga hu k;have lt:(M6.dg (R.sq (M6.val a0) (2^w) k)).length<=4096:=eQ (k:=4096) (bMN (dP.2 (bSG ht (bSK (by decide) (bWT w)))) (by omega));rw[kS];unfold tay
  by_cases hz:R.sq (M6.val a0) (2^w) k=0
  ·rw[hz,M6.bQ,aI (by simp),if_pos rfl];simp only[aM];rw[gP ⟨M6.aX _,M6.aX _,dA.jU (bSG ha (pw k (by omega))) (by omega),dA.jU (bSG hc (pw k (by omega))) (by omega)⟩,gP ⟨M6.aX _,M6.aX _,dA.jU (bSG hb (pw k (by omega))) (by omega),dA.jU (bSG hd (pw k (by omega))) (by omega)⟩];simp only[M6.bN]
  ·have aUB:(M6.dg (R.sq (M6.val a0) (2^w) k)).length≠0:=fun h=>hz (M6.fU.1 h)
   have em:(k:Int).tmod 4=((k%4:Nat):Int):=by rw[bTH (by omega)];omega
   have w1:u64.wrap ((k:Int)+1)=((k+1:Nat):Int):=by rw[wrap_u64];omega
   have ew:(w:Int).toNat=w:=bPN _;have ek:(((k+1:Nat)):Int).toNat=k+1:=bPN _;have es:R.sq (M6.val a0) (2^w) k*M6.val a0/2^w/(k+1)=R.sq (M6.val a0) (2^w) (k+1):=rfl;have bGU:(M6.dg (R.sq (M6.val a0) (2^w) k*M6.val a0/2^w)).length<=8192:=by
    have:R.sq (M6.val a0) (2^w) k*M6.val a0/2^w<=R.sq (M6.val a0) (2^w) k:=bXJ (by rw[bQP (2^w)];exact bOF _ hu);exact dA.jU (bSG (bMN this ht) (bSK (by decide) (bWT w))) (by omega)
   rw[aO];simp only[aM,em,w1,ew,ek,M6.bN,es];rw[if_neg hz];have aOJ:k+1+f=k+(f+1):=by omega
   have Ly:∀x,x<=k*2^w->x+R.sq (M6.val a0) (2^w) k<=(k+1)*2^w/\bZ.kU (x+R.sq (M6.val a0) (2^w) k)=true/\(M6.dg x).length<=8192:=fun x hx=>by
    have h1:x+R.sq (M6.val a0) (2^w) k<=(k+1)*2^w:=by omega
    exact⟨h1,dA.aLM (bSG h1 (pw (k+1) (by omega))) (by omega),dA.jU (bSG hx (pw k (by omega))) (by omega)⟩
   have up:∀x,x<=k*2^w->x<=(k+1)*2^w:=fun x hx=>by omega
   have g1:M6.cD (M6.dg (R.sq (M6.val a0) (2^w) k))/\M6.cD a0/\(M6.dg (R.sq (M6.val a0) (2^w) k)).length<=4096/\a0.length<=4096/\(0:Int)<=w/\(w:Int)<4611686018427387904:=⟨M6.aX _,hn,lt,hl,by omega,by omega⟩;have g2:M6.cD (M6.dg (R.sq (M6.val a0) (2^w) k*M6.val a0/2^w))/\(M6.dg (R.sq (M6.val a0) (2^w) k*M6.val a0/2^w)).length<=8192/\(0:Int)<((k+1:Nat):Int)/\((k+1:Nat):Int)<18446744073709551616:=⟨M6.aX _,bGU,by omega,by omega⟩;have h4:k%4<4:=bNZ _ (by decide)
   by_cases c0:k%4=0
   ·obtain⟨x1,x2,x3⟩:=Ly a ha;rw[aO,gP ⟨M6.aX _,M6.aX _,x3,by omega⟩,aO,x2,cond_true,gP g1,gP g2,if_pos c0];exact ih (k+1) _ _ _ _ (by omega) (by rw[aOJ];exact h0) x1 (up b hb) (up c hc) (up d hd)
   ·rw[aI,if_neg c0]
    by_cases c1:k%4=1
    ·obtain⟨x1,x2,x3⟩:=Ly b hb;rw[aO,gP ⟨M6.aX _,M6.aX _,x3,by omega⟩,aI,aO,x2,cond_true,gP g1,gP g2,if_pos c1];exact ih (k+1) _ _ _ _ (by omega) (by rw[aOJ];exact h0) (up a ha) x1 (up c hc) (up d hd)
    ·rw[aI,if_neg c1]
     by_cases c2:k%4=2
     ·obtain⟨x1,x2,x3⟩:=Ly c hc;rw[aO,gP ⟨M6.aX _,M6.aX _,x3,by omega⟩,aI,aI,aO,x2,cond_true,gP g1,gP g2,if_pos c2];exact ih (k+1) _ _ _ _ (by omega) (by rw[aOJ];exact h0) (up a ha) (up b hb) x1 (up d hd)
     ·obtain⟨x1,x2,x3⟩:=Ly d hd;rw[aI,aO,gP ⟨M6.aX _,M6.aX _,x3,by omega⟩,aI,aI,aI,aO,x2,cond_true,gP g1,gP g2,if_neg c2];exact ih (k+1) _ _ _ _ (by omega) (by rw[aOJ];exact h0) (up a ha) (up b hb) (up c hc) x1
def Yh(u w:Nat):Nat:=(tay u (2^w) (w+1) 0 0 0 0 0).2.1-(tay u (2^w) (w+1) 0 0 0 0 0).2.2.2
def Yi(u w:Nat):Nat:=(tay u (2^w) (w+1) 0 0 0 0 0).1-(tay u (2^w) (w+1) 0 0 0 0 0).2.2.1
def sp(a:List Int)(w:Int):Prop×List D:=(M6.cD a/\0<=w/\w<=150000/\2*M6.val a<=2^w.toNat,[.s (.ints .u64 (M6.dg (Yh (M6.val a) w.toNat))),.s (.ints .u64 (M6.dg (Yi (M6.val a) w.toNat)))])
theorem spec:fK E f237 aE (pI .u64) (pN .i64) sp:=by
 rintro a w ⟨hn,w0,w1,hu⟩;refine(start a w).trans ?_;obtain⟨w,rfl⟩:=bQT w0;rw[bPN]at hu;have hl:a.length<=4096:=by
  have e:M6.dg (M6.val a)=a:=by first |exact hn |exact Eq.symm hn
  rw[<-e];exact eQ (k:=4096) (bMN (dP.2 (show M6.val a<2^(w+1) by rw[bQQ];have:0<2^w:=bOQ (by decide);omega)) (by omega))
 have so:iY.iB 1 w=true:=by
  unfold iY.iB;rw[show bl 1=1 from rfl,decide_eq_true (show 1+w<=524288 by omega),bRQ]
 have l1:(M6.dg 1).length<=8192:=dA.jU (k:=1) (by decide) (by decide);unfold sp;simp only[M6.bN,bPN,so,cond_true,bPU,aM];rw[gP ⟨by decide,by decide⟩,gP ⟨M6.aX _,l1,by omega,by omega⟩,<-M6.bQ];exact L hn hl (by omega) (by omega) (w+1) 0 0 0 0 0 (by omega) (by rw[bLT];exact R.Vs hu) (by omega) (by omega) (by omega) (by omega)
def aG:cX:=orc2 (pI .u64) (pN .i64) sp
theorem ok:OK 237 aG:=(eB E aE (aA iY.ok (aA mM.ok (aA qT.ok (aA Ia.ok (aA lN.ok (aA sH.ok aD)))))) func237).lE rfl spec
end TSums
namespace aQ
def E:=mE [(203,Bl.aG),(235,THalvings.aG),(236,rW.aG),(237,TSums.aG),(98,iY.aG),(95,mM.aG),(238,Ia.aG),(102,sH.aG)] 91 [41,56,59,74,84] [(10,[4,5,7,10,12,50,51])] []
def aE:=bd f205
theorem aW:Nk E aE:=nk
def Ip a b c d e f g:=nG E f205 aE 10 [fW a,fW b,bI c,bI d,fW e,bI f,bI g]
theorem start a c d b:aF E f205 aE [D.agg [sc (bool a),ints u64 c,sc (int i64 d)],D.s (sc (int i64 b))]=letI H:=dv (a,c,d);letI G:=M6.dg 1;aP (aL (a,c,d)) (aC (if H.fst=0 then(0:Int)else d+(↑(bl (M6.val c)):Int)-(1:Int)) fun e=>aP (i64.wrap (i64.wrap (b+80)-if 0<e then(0:Int)else e)<=150000) (aC (↑(THalvings.hlv (i64.wrap (i64.wrap (b+80)-if 0<e then(0:Int)else e)) 200 4):Int) fun f=>letI B:=i64.wrap (i64.wrap (b+80)-match BinOp.lss with |BinOp.gtr=>if(0:Int)>e then(0:Int)else e |x=>if 0<e then(0:Int)else e)+i64.wrap ((2:Int)*f);letI A:=i64.wrap (i64.wrap (b+80)-if 0<e then(0:Int)else e)+i64.wrap ((2:Int)*f);letI F:=i64.wrap A+f;letI C:=i64.wrap F;aP (aL (a,c,d)/\(-1099511627776:Int)<=i64.wrap A/\i64.wrap A<=1099511627776/\(0<=(a,c,d).snd.snd+i64.wrap B->fit (H.fst.natAbs*(2:Nat)^((a,c,d).snd.snd+i64.wrap B).toNat)=true)) (aC (M6.dg (rW.aHS H (i64.wrap A))) fun g=>aP (M6.cD g/\0<=i64.wrap F/\i64.wrap F<=150000/\(2:Nat)*M6.val g<=(2:Nat)^C.toNat) (aC (M6.dg (TSums.Yh (M6.val g) C.toNat)) fun h=>aC (M6.dg (TSums.Yi (M6.val g) C.toNat)) fun i=>aP ((0:Int)<=(1:Int)/\(1:Int)<(18446744073709551616:Int)) (aP (M6.cD G/\G.length<=8192/\0<=i64.wrap F/\i64.wrap F<4611686018427387904) (aC (bif iY.iB (M6.val G) C.toNat then M6.dg (M6.val G*(2:Nat)^C.toNat)else []) fun j=>aQ.Ip h i C f j f 0)))))):=eJ aW
theorem sE a b c d e f g:Ip a b c d e f g=letI B:=M6.dg 1;letI A:=i64.wrap ((2:Int)*d)+22;aB (decide (g<f)) (aP (M6.cD a/\M6.cD b/\a.length<=4096/\b.length<=4096/\0<=c/\c<4611686018427387904) (aC (M6.dg (M6.val a*M6.val b/(2:Nat)^c.toNat)) fun h=>aP (M6.cD h/\h.length<=8192/\(0:Int)<=(1:Int)/\(1:Int)<(4611686018427387904:Int)) (aC (bif iY.iB (M6.val h) 1 then M6.dg (M6.val h*2)else []) fun i=>aP (M6.cD a/\M6.cD a/\a.length<=4096/\a.length<=4096/\0<=c/\c<4611686018427387904) (aC (M6.dg (M6.val a*M6.val a/(2:Nat)^c.toNat)) fun j=>aP (M6.cD j/\j.length<=8192/\(0:Int)<=(1:Int)/\(1:Int)<(4611686018427387904:Int)) (aC (bif iY.iB (M6.val j) 1 then M6.dg (M6.val j*2)else []) fun k=>aP (M6.cD e/\M6.cD k/\e.length<=8192/\k.length<=8192) (aC (M6.dg (M6.val e-M6.val k)) fun l=>aQ.Ip i l c d e f (i64.wrap (g+1)))))))) (aP ((0:Int)<=(1:Int)/\(1:Int)<(18446744073709551616:Int)) (aP (M6.cD B/\B.length<=8192/\0<=i64.wrap A/\i64.wrap A<4611686018427387904) (aC (bif iY.iB (M6.val B) (i64.wrap A).toNat then M6.dg (M6.val B*(2:Nat)^(i64.wrap A).toNat)else []) fun m=>some [D.s (ints u64 a),D.s (ints u64 b),D.s (ints u64 m),D.s (sc (int i64 c))]))):=lJ aW
def gM(x:Int×Int):Int:=if x.1=0 then 0 else x.2+(bl x.1.natAbs:Nat)-1
def w0(x:Int×Int)(p:Int):Int:=p+80-if 0<gM x then 0 else gM x
def hv(x:Int×Int)(p:Int):Nat:=THalvings.hlv (w0 x p) 200 4
def w1(x:Int×Int)(p:Int):Int:=w0 x p+2*(hv x p:Nat)
def w2(x:Int×Int)(p:Int):Int:=w1 x p+(hv x p:Nat)
def bU(x:Int×Int)(p:Int):Nat:=rW.aHS x (w1 x p)
def yM(x:Int×Int)(p:Int):Nat×Nat:=R.Ej (2^(w2 x p).toNat) (hv x p) (TSums.Yh (bU x p) (w2 x p).toNat) (TSums.Yi (bU x p) (w2 x p).toNat)
def sp(x:dR)(p:Int):Prop×List D:=(aL x/\(1<=p/\p<=70000)/\(-70000<=gM (dv x)/\gM (dv x)<=100)/\bU (dv x) p<=2^(w1 (dv x) p).toNat,
 [.s (.ints .u64 (M6.dg (yM (dv x) p).1)),.s (.ints .u64 (M6.dg (yM (dv x) p).2)),.s (.ints .u64 (M6.dg (2^(2*hv (dv x) p+22)))),.s (.sc (.int .i64 (w2 (dv x) p)))])
theorem Tn(w:Int):∀f h,THalvings.hlv w f h<=h+f/\h<=THalvings.hlv w f h
 |0,h=>⟨bLR _,bLR _⟩
 |f+1,h=>by
  unfold THalvings.hlv;have:=Tn w f (h+1);split <;> omega
theorem aBR{u W:Nat}(hu:u<=W):∀f k a b c d,a<=k*W->b<=k*W->c<=k*W->d<=k*W ->
  (TSums.tay u W f k a b c d).1<=(k+f)*W/\(TSums.tay u W f k a b c d).2.1<=(k+f)*W
 |0,k,a,b,c,d,ha,hb,_,_=>⟨ha,hb⟩
 |f+1,k,a,b,c,d,ha,hb,hc,hd=>by
  have hs:=TSums.Ga hu k;have e:(k+1)*W=k*W+W:=by rw[bML,bPU]
  have e2:k*W<=(k+(f+1))*W:=bNE _ (by omega);have e3:k+1+f=k+(f+1):=by omega
  have r:=fun a b c d h1 h2 h3 h4=>e3▸aBR hu f (k+1) a b c d h1 h2 h3 h4
  unfold TSums.tay;split
  ·exact⟨bMN ha e2,bMN hb e2⟩
  ·split
   ·exact r _ _ _ _ (by omega) (by omega) (by omega) (by omega)
   ·split
    ·exact r _ _ _ _ (by omega) (by omega) (by omega) (by omega)
    ·split
     ·exact r _ _ _ _ (by omega) (by omega) (by omega) (by omega)
     ·exact r _ _ _ _ (by omega) (by omega) (by omega) (by omega)
theorem L{w:Nat}(hw:w<=150000)(x3:Nat)(h3:x3<=1000):∀(d k s c:Nat),k+d=x3->s<2^(w+20*(k+1))->c<2^(w+18)->k+d<=210 ->
  Ip (M6.dg s) (M6.dg c) w x3 (M6.dg (2^w)) x3 k=some [.s (.ints .u64 (M6.dg (R.Ej (2^w) d s c).1)),.s (.ints .u64 (M6.dg (R.Ej (2^w) d s c).2)),.s (.ints .u64 (M6.dg (2^(2*x3+22)))),.s (.sc (.int .i64 w))]
 |0,k,s,c,hk,hs,hc,hb=>by
  have e1:i64.wrap (2*(x3:Int))=2*(x3:Int):=wrap_i64;have e2:i64.wrap (2*(x3:Int)+22)=((2*x3+22:Nat):Int):=by rw[wrap_i64];omega
  have so:iY.iB 1 (2*x3+22)=true:=by
   unfold iY.iB;rw[show bl 1=1 from rfl,decide_eq_true (show 1+(2*x3+22)<=524288 by omega),bRQ]
  have l1:(M6.dg 1).length<=8192:=dA.jU (k:=1) (by decide) (by decide);rw[sE,aI,e1,e2];simp only[aM,M6.bN,bPN,so,cond_true,bPU];rw[gP ⟨by decide,by decide⟩,gP ⟨M6.aX _,l1,by omega,by omega⟩];rfl
 |d+1,k,s,c,hk,hs,hc,hb=>by
  have e:i64.wrap ((k:Int)+1)=((k+1:Nat):Int):=by rw[wrap_i64];omega
  have ls:(M6.dg s).length<=4096:=eQ (k:=4096) (bMN (dP.2 hs) (by omega));have lc:(M6.dg c).length<=4096:=eQ (k:=4096) (bMN (dP.2 hc) (by omega));have W0:0<2^w:=bOQ (by decide);have b1:s*c/2^w<2^(w+20*(k+1)+18):=by
   apply bRL;have:2^w*2^(w+20*(k+1)+18)=2^(w+20*(k+1))*2^(w+18):=by rw[<-bQS,<-bQS];congr 1;omega
   rw[this];exact bUF hs hc
  have b2:s*s/2^w<2^(w+40*(k+1)):=by
   apply bRL;have:2^w*2^(w+40*(k+1))=2^(w+20*(k+1))*2^(w+20*(k+1)):=by rw[<-bQS,<-bQS];congr 1;omega
   rw[this];exact bUF hs hs
  have so:∀n,bl n<=500000->iY.iB n 1=true:=fun n hn=>by
   unfold iY.iB;rw[decide_eq_true (show bl n+1<=524288 by omega),bRQ]
  have f1:=so _ (bMN (dP.2 b1) (by omega));have f2:=so _ (bMN (dP.2 b2) (by omega));have b3:s*s/2^w*2<2^(w+40*(k+1)+1):=by rw[bQQ];omega
  have b4:s*c/2^w*2<2^(w+20*(k+1+1)):=by
   have:2^(w+20*(k+1)+18)*2<=2^(w+20*(k+1+1)):=by rw[<-bQQ];exact bOR (by decide) (by omega)
   omega
  have b5:2^w-s*s/2^w*2<2^(w+18):=bSG (bSP _ _) (bSK (by decide) (by omega));rw[sE,aO];simp only[aM,M6.bN,bPN,f1,f2,cond_true,e];rw[gP ⟨M6.aX _,M6.aX _,ls,lc,by omega,by omega⟩,gP ⟨M6.aX _,dA.jU b1 (by omega),by decide,by decide⟩,gP ⟨M6.aX _,M6.aX _,ls,ls,by omega,by omega⟩,gP ⟨M6.aX _,dA.jU b2 (by omega),by decide,by decide⟩,
   gP ⟨M6.aX _,M6.aX _,dA.jU (bSK (by decide) (bWT w)) (by omega),dA.jU b3 (by omega)⟩]
  have r:=L hw x3 h3 d (k+1) (s*c/2^w*2) (2^w-s*s/2^w*2) (by omega) b4 b5 (by omega);rw[R.Kw,bQP 2 (s*c/2^w),bQP 2 (s*s/2^w)];exact r
theorem spec:fK E f205 aE gZ (pN .i64) sp:=by
 rintro x p ⟨hx,⟨p0,p1⟩,⟨t0,t1⟩,hu⟩;refine(start x.1 x.2.1 x.2.2 p).trans ?_;have he:=hx.2.1;have ha:(dv x).1.natAbs=M6.val x.2.1:=iO (x.1,x.2.1);have hT:(if(dv (x.1,x.2.1,x.2.2)).1=0 then 0 else x.2.2+(bl (M6.val x.2.1):Int)-1)=gM (dv x):=by rw[<-ha];rfl
 have aRD:w0 (dv x) p=p+80-if 0<gM (dv x)then 0 else gM (dv x):=rfl
 have r0:1<=w0 (dv x) p/\w0 (dv x) p<=140080:=by rw[aRD];split <;> omega
 have e1:i64.wrap (p+80)=p+80:=wrap_i64;have e2:i64.wrap (p+80-if 0<gM (dv x)then 0 else gM (dv x))=w0 (dv x) p:=by rw[<-aRD];exact wrap_i64
 have hh:=Tn (w0 (dv x) p) 200 4;have hv0:THalvings.hlv (w0 (dv x) p) 200 4=hv (dv x) p:=rfl;rw[hv0]at hh;have aUY:w1 (dv x) p=w0 (dv x) p+2*((hv (dv x) p:Nat):Int):=rfl;have bKA:w2 (dv x) p=w1 (dv x) p+((hv (dv x) p:Nat):Int):=rfl;have e3:i64.wrap (2*((hv (dv x) p:Nat):Int))=2*((hv (dv x) p:Nat):Int):=wrap_i64;have e4:i64.wrap (w0 (dv x) p+2*((hv (dv x) p:Nat):Int))=w1 (dv x) p:=by rw[aUY];exact wrap_i64
 have e5:i64.wrap (w1 (dv x) p+((hv (dv x) p:Nat):Int))=w2 (dv x) p:=by rw[bKA];exact wrap_i64
 have hU:rW.aHS (dv x) (w1 (dv x) p)=bU (dv x) p:=rfl;have aST:(x.1,x.2.1,x.2.2)=x:=rfl;simp only[hT,aM,e1,e2,hv0,e3,e4,e5,aST,M6.bN,hU];obtain⟨w,hw⟩:=bQT (show 0<=w2 (dv x) p by omega);have bKE:2*bU (dv x) p<=2^w:=by
  have:2^(w1 (dv x) p).toNat*2<=2^w:=by rw[<-bQQ];exact bOR (by decide) (by omega)
  omega
 have so:iY.iB 1 w=true:=by
  unfold iY.iB;rw[show bl 1=1 from rfl,decide_eq_true (show 1+w<=524288 by omega),bRQ]
 have l1:(M6.dg 1).length<=8192:=dA.jU (k:=1) (by decide) (by decide);have Jl:0<=x.2.2+w1 (dv x) p->fit ((dv x).1.natAbs*2^(x.2.2+w1 (dv x) p).toNat)=true:=fun hc=>by
  have:bU (dv x) p=(dv x).1.natAbs*2^(x.2.2+w1 (dv x) p).toNat:=by
   rw[<-hU];unfold rW.aHS;exact if_pos hc
  rw[<-this];exact decide_eq_true (bMN (dP.2 (bSG hu (bSK (by decide) (bWT _)))) (by omega))
 unfold sp yM;dsimp only;have hwb:w<=141000:=by omega
 rw[hw];rw[bPN,so,cond_true,bPU];rw[gP hx,gP,gP ⟨hx,by omega,by omega,Jl⟩,gP ⟨M6.aX _,by omega,by omega,bKE⟩,gP ⟨by decide,by decide⟩,gP ⟨M6.aX _,l1,by omega,by omega⟩];obtain⟨g1,g2⟩:=aBR (u:=bU (dv x) p) (W:=2^w) (by omega) (w+1) 0 0 0 0 0 (by omega) (by omega) (by omega) (by omega);have pw:(0+(w+1))*2^w<2^(w+18):=by
  rw[bQS,bQP];exact bXG (by omega) (bOQ (by decide))
 have hs:TSums.Yh (bU (dv x) p) w<2^(w+18):=bSG (bMN (bSP _ _) g2) pw;have hc:TSums.Yi (bU (dv x) p) w<2^(w+18):=bSG (bMN (bSP _ _) g1) pw;exact L (by omega) (hv (dv x) p) (by omega) (hv (dv x) p) 0 _ _ (by omega) (bMR hs (bOR (by decide) (by omega))) hc (by omega)
def aG:cX:=orc2 gZ (pN .i64) sp
theorem ok:OK 205 aG:=(eB E aE (aA Bl.ok (aA THalvings.ok (aA rW.ok (aA TSums.ok (aA iY.ok (aA mM.ok (aA Ia.ok (aA sH.ok aD)))))))) func205).lE rfl spec
end aQ
namespace Rz
def E:=mE [(239,xM.aG),(45,jZ.aG),(240,bV.aG)] 25 [22] [] []
def aE:=bd f209
theorem aW:Nk E aE:=nk
theorem start a d e b c:aF E f209 aE [D.agg [sc (bool a),ints u64 d,sc (int i64 e)],D.s (sc (int i64 b)),D.s (sc (bool c))]=letI A:=bV.mA c (wv (a,d)) e b;letI B:=bif fR A.fst A.snd then aK A.fst A.snd else((0:Int),(0:Int));aP True (aC (decide (1<=b)&&decide (b<=70000)) fun f=>aB (!f) (some [D.agg [sc (bool false),sc (slice none 0 0),sc (int i64 0)],D.s (sc (int i64 1))]) (aP (aL (a,d,e)) (aP (jK (a,d)/\((-4611686018427387904:Int)<=e/\e<4611686018427387904)/\1<=b/\b<=70000) (aC (isNeg B.fst) fun g=>aC (M6.dg B.fst.natAbs) fun h=>aC B.snd fun i=>aC (bif fR A.fst A.snd then(0:Int)else(5:Int)) fun j=>some [D.agg [sc (bool g),ints u64 h,sc (int i64 i)],D.s (sc (int i64 j))])))):=eJ aW
def sp(x:dR)(p:Int)(up:Bool):Prop×List D:=(aL x/\1<=p/\p<=70000,dE (fR (bV.mA up (dv x).1 (dv x).2 p).1 (bV.mA up (dv x).1 (dv x).2 p).2) (aK (bV.mA up (dv x).1 (dv x).2 p).1 (bV.mA up (dv x).1 (dv x).2 p).2))
theorem spec:qR E f209 aE gZ (pN .i64) pB sp:=by
 rintro x p up ⟨hx,h1,h2⟩;have he:=hx.2.1;refine(start x.1 x.2.1 x.2.2 p up).trans ?_;simp only[aM];rw[gP trivial,decide_eq_true h1,decide_eq_true h2,bOS,bNR,bF,gP hx,gP ⟨hx.Dh,⟨by omega,by omega⟩,h1,h2⟩];rfl
def aG:cX:=orc3 gZ (pN .i64) pB sp
theorem ok:OK 209 aG:=(eB E aE (aA xM.ok (aA jZ.ok (aA bV.ok aD))) func209).zA rfl spec
end Rz
namespace Iv
def E:=mE [(209,Rz.aG)] 11 [8] [] []
def aE:=bd f162
theorem aW:Nk E aE:=nk
theorem start a c d b:aF E f162 aE [D.agg [sc (bool a),ints u64 c,sc (int i64 d)],D.s (sc (int i64 b))]=letI A:=bV.mA false (dv (a,c,d)).fst (dv (a,c,d)).snd b;letI B:=bif fR A.fst A.snd then aK A.fst A.snd else((0:Int),(0:Int));aP (aL (a,c,d)/\1<=b/\b<=70000) (some [D.agg [sc (bool (isNeg B.fst)),ints u64 (M6.dg B.fst.natAbs),sc (int i64 B.snd)],D.s (sc (int i64 (bif fR A.fst A.snd then(0:Int)else(5:Int))))]):=eJ aW
def sp(x:dR)(p:Int):Prop×List D:=(aL x/\1<=p/\p<=70000,dE (fR (bV.mA false (dv x).1 (dv x).2 p).1 (bV.mA false (dv x).1 (dv x).2 p).2) (aK (bV.mA false (dv x).1 (dv x).2 p).1 (bV.mA false (dv x).1 (dv x).2 p).2))
theorem spec:fK E f162 aE gZ (pN .i64) sp:=by
 intro x p h;refine(start x.1 x.2.1 x.2.2 p).trans ((gP h).trans ?_);rfl
def aG:cX:=orc2 gZ (pN .i64) sp
theorem ok:OK 162 aG:=(eB E aE (aA Rz.ok aD) func162).lE rfl spec
end Iv
namespace aQN
def E:=mE [(209,Rz.aG)] 11 [8] [] []
def aE:=bd f163
theorem aW:Nk E aE:=nk
theorem start a c d b:aF E f163 aE [D.agg [sc (bool a),ints u64 c,sc (int i64 d)],D.s (sc (int i64 b))]=letI A:=bV.mA true (dv (a,c,d)).fst (dv (a,c,d)).snd b;letI B:=bif fR A.fst A.snd then aK A.fst A.snd else((0:Int),(0:Int));aP (aL (a,c,d)/\1<=b/\b<=70000) (some [D.agg [sc (bool (isNeg B.fst)),ints u64 (M6.dg B.fst.natAbs),sc (int i64 B.snd)],D.s (sc (int i64 (bif fR A.fst A.snd then(0:Int)else(5:Int))))]):=eJ aW
def sp(x:dR)(p:Int):Prop×List D:=(aL x/\1<=p/\p<=70000,dE (fR (bV.mA true (dv x).1 (dv x).2 p).1 (bV.mA true (dv x).1 (dv x).2 p).2) (aK (bV.mA true (dv x).1 (dv x).2 p).1 (bV.mA true (dv x).1 (dv x).2 p).2))
theorem spec:fK E f163 aE gZ (pN .i64) sp:=by
 intro x p h;refine(start x.1 x.2.1 x.2.2 p).trans ((gP h).trans ?_);rfl
def aG:cX:=orc2 gZ (pN .i64) sp
theorem ok:OK 163 aG:=(eB E aE (aA Rz.ok aD) func163).lE rfl spec
end aQN
namespace bB
def E:=mE [(102,sH.aG),(100,qT.aG),(50,iJ.aG),(162,Iv.aG),(163,aQN.aG),(158,Kc.aG),(14,aHB.aG)] 71 [] [] []
def aE:=bd f206
theorem aW:Nk E aE:=nk
theorem start a b c d:aF E f206 aE [D.s (ints u64 a),D.s (ints u64 b),D.s (sc (int i64 c)),D.s (sc (int i64 d))]=letI P:=M6.val a+M6.val b;letI N:=aK 1 0;letI O:=M6.dg N.fst.natAbs;letI K:=M6.cD a/\M6.cD b/\a.length<=8192/\b.length<=8192;letI I:=i64.wrap ((0:Int)-c);aP K (aC (M6.dg (M6.val a-M6.val b)) fun e=>letI C:=bif fR (wv (false,e)) I then aK (wv (false,e)) I else((0:Int),(0:Int));aP K (aC (bif bZ.kU P then M6.dg P else []) fun f=>letI F:=bif fR (wv (false,f)) I then aK (wv (false,f)) I else((0:Int),(0:Int));aP (jK (false,e)/\(-9223372036854775808:Int)<=i64.wrap ((0:Int)-c)/\i64.wrap ((0:Int)-c)<9223372036854775808) (aC (isNeg C.fst) fun g=>aC (M6.dg C.fst.natAbs) fun h=>aC C.snd fun i=>letI A:=bV.mA false (dv (g,h,i)).fst (dv (g,h,i)).snd d;letI G:=bif fR A.fst A.snd then aK A.fst A.snd else((0:Int),(0:Int));aP (jK (false,f)/\(-9223372036854775808:Int)<=i64.wrap ((0:Int)-c)/\i64.wrap ((0:Int)-c)<9223372036854775808) (aC (isNeg F.fst) fun j=>aC (M6.dg F.fst.natAbs) fun k=>aC F.snd fun l=>letI B:=bV.mA true (dv (j,k,l)).fst (dv (j,k,l)).snd d;letI H:=bif fR B.fst B.snd then aK B.fst B.snd else((0:Int),(0:Int));aP (aL (g,h,i)/\1<=d/\d<=70000) (aC (isNeg G.fst) fun m=>aC (M6.dg G.fst.natAbs) fun n=>aC G.snd fun o=>aP (aL (j,k,l)/\1<=d/\d<=70000) (aC (isNeg H.fst) fun p=>aC (M6.dg H.fst.natAbs) fun q=>aC H.snd fun r=>aP ((-9223372036854775808:Int)<=(1:Int)/\(1:Int)<(9223372036854775808:Int)) (aC (isNeg N.fst) fun s=>aC O fun t=>aC N.snd fun u=>aP (aL (p,q,r)/\aL (s,t,u)) (aC (lG (bJ.lK (dv (p,q,r)) (dv (s,t,u))) (bJ.lI (dv (p,q,r)) (dv (s,t,u)))) fun v=>aB (decide (0<v)) (aP ((-9223372036854775808:Int)<=(1:Int)/\(1:Int)<(9223372036854775808:Int)) (aC (isNeg N.fst) fun w=>aC O fun x=>aC N.snd fun y=>some [D.agg [sc (bool m),ints u64 n,sc (int i64 o),sc (bool w),ints u64 x,sc (int i64 y)]])) (some [D.agg [sc (bool m),ints u64 n,sc (int i64 o),sc (bool p),ints u64 q,sc (int i64 r)]]))))))))):=eJ aW
def Ek(a f:Nat)(w:Int):Int×Int:=aK ((a-f:Nat):Int) (-w)
def yR(a f:Nat)(w:Int):Int×Int:=aK ((a+f:Nat):Int) (-w)
def uW(p:Int×Int):Int×Int:=bif decide (0<cR p (1,0))then(1,0)else p
def sp(a f:List Int)(w q:Int):Prop×List D:=(M6.cD a/\M6.cD f/\bl (M6.val a)<=500000/\bl (M6.val f)<=500000/\(0<=w/\w<=500000)/\(1<=q/\q<=70000)/\vW false (Ek (M6.val a) (M6.val f) w) q=true/\vW true (yR (M6.val a) (M6.val f) w) q=true/\iL (shD true (yR (M6.val a) (M6.val f) w) q),
 [yE (shD false (Ek (M6.val a) (M6.val f) w) q) (uW (shD true (yR (M6.val a) (M6.val f) w) q))])
theorem spec:aGH E f206 aE (pI .u64) (pI .u64) (pN .i64) (pN .i64) sp:=by
 rintro a f w q ⟨ha,hf,ba,bf,⟨w0,w1⟩,⟨q0,q1⟩,i1,i2,pu⟩;refine(start a f w q).trans ?_;have la:a.length<=8192:=by
  have e:M6.dg (M6.val a)=a:=by first |exact ha |exact Eq.symm ha
  rw[<-e];exact eQ (k:=8192) (by omega)
 have lf:f.length<=8192:=by
  have e:M6.dg (M6.val f)=f:=by first |exact hf |exact Eq.symm hf
  rw[<-e];exact eQ (k:=8192) (by omega)
 have vN:∀n:Nat,wv (false,M6.dg n)=(n:Int):=fun n=>by show(M6.val (M6.dg n):Int)=n;rw[M6.bN]
 have wN:∀n:Nat,bl n<=524288->jK (false,M6.dg n):=fun n hn=>by
  have:=mP (z:=(n:Int)) (by rw[bRJ];exact hn);rw[jH.2 (by omega),bRJ]at this;exact this
 have bs:bl (M6.val a-M6.val f)<=500000:=bMN (gD (bSP _ _)) ba;have bt:bl (M6.val a+M6.val f)<=500001:=by
  have h1:=dP.1 ba;have h2:=dP.1 bf;refine dP.2 ?_;rw[bQQ 2 500000];generalize 2^500000=Q at *;omega
 have ok:bZ.kU (M6.val a+M6.val f)=true:=decide_eq_true (eQ (k:=8192) (by omega));have ew:i64.wrap (0-w)=-w:=by rw[wrap_i64];omega
 have j1:fR ((M6.val a-M6.val f:Nat):Int) (-w)=true:=fJ (by omega) (by rw[bRJ];omega);have j2:fR ((M6.val a+M6.val f:Nat):Int) (-w)=true:=fJ (by omega) (by rw[bRJ];omega);have p1:iL (Ek (M6.val a) (M6.val f) w):=fF j1 (by rw[bRJ];omega);have p2:iL (yR (M6.val a) (M6.val f) w):=fF j2 (by rw[bRJ];omega);have c1:=cU (Ek (M6.val a) (M6.val f) w);have c2:=cU (yR (M6.val a) (M6.val f) w);have n1:aK 1 0=(1,0):=by decide +kernel
 have pn:iL (1,0):=⟨by decide +kernel,⟨by decide,by decide⟩,fun h=>absurd h (by decide),fun _=>by decide⟩;have d1:=cF pn;have v1:=cU ((1,0):Int×Int);rw[gP ⟨ha,hf,la,lf⟩,aM,gP ⟨ha,hf,la,lf⟩];simp only[aM,ok,cond_true,vN,ew,j1,j2,n1];rw[gP ⟨wN _ (by omega),by omega,by omega⟩,gP ⟨wN _ (by omega),by omega,by omega⟩];have eL:aK ((M6.val a-M6.val f:Nat):Int) (-w)=Ek (M6.val a) (M6.val f) w:=rfl;have eH:aK ((M6.val a+M6.val f:Nat):Int) (-w)=yR (M6.val a) (M6.val f) w:=rfl;unfold sp uW;dsimp only;rw[eL,eH];generalize Ek (M6.val a) (M6.val f) w=L at *;generalize yR (M6.val a) (M6.val f) w=H at *;have aYL:fR (bV.mA false L.1 L.2 q).1 (bV.mA false L.1 L.2 q).2=true:=i1;have aYK:fR (bV.mA true H.1 H.2 q).1 (bV.mA true H.1 H.2 q).2=true:=i2;have cu:=cU (shD true H q);have du:=cF pu;have eU:aK (bV.mA true H.1 H.2 q).1 (bV.mA true H.1 H.2 q).2=shD true H q:=rfl;have eD:aK (bV.mA false L.1 L.2 q).1 (bV.mA false L.1 L.2 q).2=shD false L q:=rfl;simp only[c1,c2,aYL,aYK,cond_true,eU,eD,cu,v1];rw[gP ⟨cF p1,q0,q1⟩,gP ⟨cF p2,q0,q1⟩,gP ⟨by decide,by decide⟩,gP ⟨du,d1⟩];show aB (decide (0<cR (shD true H q) (1,0))) _ _=_
 by_cases g:0<cR (shD true H q) (1,0)
 ·rw[aO g,decide_eq_true g,cond_true,gP ⟨by decide,by decide⟩];rfl
 ·rw[aI g,decide_eq_false g,cond_false];rfl
def aG:cX:=orc4 (pI .u64) (pI .u64) (pN .i64) (pN .i64) sp
theorem ok:OK 206 aG:=(eB E aE (aA sH.ok (aA qT.ok (aA iJ.ok (aA Iv.ok (aA aQN.ok (aA Kc.ok (aA aHB.ok aD))))))) func206).aSE rfl spec
end bB
namespace bD
def E:=mE [(202,Ib.aG),(203,Bl.aG),(50,iJ.aG),(51,aGP.aG),(59,Vf.aG),(14,aHB.aG),(205,aQ.aG),(206,bB.aG)] 63 [] [] []
def aE:=bd f160
theorem aW:Nk E aE:=nk
theorem start a c d b:aF E f160 aE [D.agg [sc (bool a),ints u64 c,sc (int i64 d)],D.s (sc (int i64 b))]=letI Q:=wv (isNeg 1,M6.dg (bVT 1));letI N:=i64.wrap (b+32);letI I:=i64.wrap ((0:Int)-b)-3;letI H:=dv (a,c,d);letI G:=aK 1 0;letI T:=isNeg G.fst;letI K:=M6.dg G.fst.natAbs;letI A:=bif fR Q (i64.wrap I)then aK Q (i64.wrap I)else((0:Int),(0:Int));aB ((c.length:Int)==(0:Int)) (aP ((-1000000:Int)<=(1:Int)/\(1:Int)<=(1000000:Int)) (aC T fun e=>aC K fun f=>aC G.snd fun g=>aC T fun h=>aC K fun i=>aC G.snd fun j=>some [D.agg [sc (bool e),ints u64 f,sc (int i64 g),sc (bool h),ints u64 i,sc (int i64 j)]])) (aP (aL (a,c,d)) (aC (if H.fst=0 then(0:Int)else d+(↑(bl (M6.val c)):Int)-(1:Int)) fun k=>aB (decide (i64.wrap (i64.wrap ((2:Int)*k)+8)<i64.wrap ((0:Int)-b))) (aP ((-9223372036854775808:Int)<=(1:Int)/\(1:Int)<(9223372036854775808:Int)) (aP (jK (isNeg 1,M6.dg 1)/\(-9223372036854775808:Int)<=i64.wrap I/\i64.wrap I<9223372036854775808) (aC (isNeg A.fst) fun l=>aC (M6.dg A.fst.natAbs) fun m=>aC A.snd fun n=>letI U:=dv (l,m,n);aP ((-9223372036854775808:Int)<=(1:Int)/\(1:Int)<(9223372036854775808:Int)) (aC T fun o=>aC K fun p=>aC G.snd fun q=>letI B:=bif bJ.iV (dv (o,p,q)) (-U.fst,U.snd)then bJ.mL (dv (o,p,q)) (-U.fst,U.snd)else((0:Int),(0:Int));aP (aL (o,p,q)/\aL (l,m,n)) (aC (isNeg B.fst) fun r=>aC (M6.dg B.fst.natAbs) fun s=>aC B.snd fun t=>aP ((-9223372036854775808:Int)<=(1:Int)/\(1:Int)<(9223372036854775808:Int)) (aC T fun u=>aC K fun v=>aC G.snd fun w=>some [D.agg [sc (bool r),ints u64 s,sc (int i64 t),sc (bool u),ints u64 v,sc (int i64 w)]])))))) (aP (aL (a,c,d)/\(1<=b/\b<=70000)/\((-70000:Int)<=aQ.gM H/\aQ.gM H<=100)/\aQ.bU H b<=(2:Nat)^(aQ.w1 H b).toNat) (aC (M6.dg (aQ.yM H b).snd) fun x=>aC (M6.dg ((2:Nat)^((2:Nat)*aQ.hv H b+22))) fun y=>aC (aQ.w2 H b) fun z=>letI P:=bB.yR (M6.val x) (M6.val y) z;letI O:=bB.Ek (M6.val x) (M6.val y) z;letI F:=M.shD false O N;letI C:=M.shD true P N;letI W:=bB.uW C;aP (M6.cD x/\M6.cD y/\bl (M6.val x)<=500000/\bl (M6.val y)<=500000/\(0<=z/\z<=500000)/\(1<=i64.wrap (b+32)/\i64.wrap (b+32)<=70000)/\vW false O N=true/\vW true P N=true/\iL C) (aC (isNeg F.fst) fun aa=>aC (M6.dg F.fst.natAbs) fun ab=>aC F.snd fun ac=>aC (isNeg W.fst) fun ad=>aC (M6.dg W.fst.natAbs) fun ae=>aC W.snd fun af=>some [D.agg [sc (bool aa),ints u64 ab,sc (int i64 ac),sc (bool ad),ints u64 ae,sc (int i64 af)]]))))):=eJ aW
def qQ(x:Int×Int)(p:Int):Int×Int:=if x.1=0 then(1,0)else if 2*aQ.gM x+8 < -p then bJ.mL (1,0) (-1,-p-3)else shD false (bB.Ek (aQ.yM x p).2 (2^(2*aQ.hv x p+22)) (aQ.w2 x p)) (p+32)
def pU(x:Int×Int)(p:Int):Int×Int:=if x.1=0 then(1,0)else if 2*aQ.gM x+8 < -p then(1,0)else bB.uW (shD true (bB.yR (aQ.yM x p).2 (2^(2*aQ.hv x p+22)) (aQ.w2 x p)) (p+32))
def Nr(x:Int×Int)(p:Int):Prop:=(-70000<=aQ.gM x/\aQ.gM x<=100)/\aQ.bU x p<=2^(aQ.w1 x p).toNat
def aGD(a f:Nat)(w q:Int):Prop:=bl a<=500000/\bl f<=500000/\(0<=w/\w<=500000)/\vW false (bB.Ek a f w) q=true/\vW true (bB.yR a f w) q=true/\iL (shD true (bB.yR a f w) q)
def Zy(x:dR)(p:Int):Prop:=aL x/\(1<=p/\p<=67100)/\((dv x).1≠0->-600000<=aQ.gM (dv x)/\(2*aQ.gM (dv x)+8 < -p->bJ.iV (1,0) (-1,-p-3)=true) /\
 (¬2*aQ.gM (dv x)+8 < -p->Nr (dv x) p/\aGD (aQ.yM (dv x) p).2 (2^(2*aQ.hv (dv x) p+22)) (aQ.w2 (dv x) p) (p+32)))
def sp(x:dR)(p:Int):Prop×List D:=(Zy x p,
 [yE (qQ (dv x) p) (pU (dv x) p)])
theorem spec:fK E f160 aE gZ (pN .i64) sp:=by
 rintro x p ⟨hx,⟨p0,p1⟩,h⟩;refine(start x.1 x.2.1 x.2.2 p).trans ?_;have hz:=M6.cO hx.Fg;have hl:=hx.len;have he:=hx.2.1;have ha:(dv x).1.natAbs=M6.val x.2.1:=iO (x.1,x.2.1);have aST:(x.1,x.2.1,x.2.2)=x:=rfl;have n1:aK 1 0=(1,0):=by decide +kernel
 have v1:wv (isNeg 1,M6.dg (bVT 1))=1:=rD 1;have hT:(if(dv x).1=0 then 0 else x.2.2+(bl (M6.val x.2.1):Int)-1)=aQ.gM (dv x):=by rw[<-ha];rfl
 have k1:jK (isNeg 1,M6.dg 1):=mP (z:=1) (by decide +kernel);have pn:iL (1,0):=⟨by decide +kernel,⟨by decide,by decide⟩,fun h=>absurd h (by decide),fun _=>by decide⟩;unfold sp qQ pU;dsimp only
 by_cases c0:(dv x).1=0
 ·rw[cC (by have:=hz.2 (by omega);omega),gP ⟨by decide,by decide⟩,if_pos c0,if_pos c0];simp only[aM,n1];rfl
 ·obtain⟨t0,hA,hB⟩:=h c0;have tt:=hx.uK.top;have l0:x.2.1.length≠0:=fun hc=>c0 (by have:=hz.1 hc;omega)
  simp only[aST,hT,aM,n1,v1];rw[bP,if_neg c0,if_neg c0];have tU:aQ.gM (dv x)<=1572864:=by unfold aQ.gM;rw[if_neg c0];exact tt.2
  have w1:i64.wrap (i64.wrap (2*aQ.gM (dv x))+8)=2*aQ.gM (dv x)+8:=by rw[wrap_i64 (n:=2*aQ.gM (dv x)),wrap_i64]
  have w2:i64.wrap (0-p)=-p:=by rw[wrap_i64];omega
  have w3:i64.wrap (-p-3)=-p-3:=wrap_i64;have w4:i64.wrap (p+32)=p+32:=wrap_i64;simp only[w1,w2,w3,w4];rw[gP hx]
  by_cases c1:2*aQ.gM (dv x)+8 < -p
  ·have b1:bl (bVT 1)=1:=rfl;have i1:fR 1 (-p-3)=true:=fJ (by omega) (by rw[b1];omega);have m1:aK 1 (-p-3)=(1,-p-3):=by
    unfold aK;rw[if_neg (by decide),show tz (bVT 1)=0 from by decide +kernel];simp
   have pg:iL (1,-p-3):=m1▸fF i1 (by decide +kernel);have d1:=cF pn;have d2:=cF pg;have e1:=cU ((1,0):Int×Int);have e2:=cU ((1,-p-3):Int×Int);rw[aO c1,if_pos c1,if_pos c1];simp only[i1,m1,cond_true,e1,e2,hA c1];rw[gP ⟨by decide,by decide⟩,gP ⟨k1,by omega,by omega⟩,gP ⟨by decide,by decide⟩,gP ⟨d1,d2⟩,gP ⟨by decide,by decide⟩];rfl
  ·obtain⟨⟨b1,b2⟩,a1,a2,a3,a4,a5,a6⟩:=hB c1;rw[aI c1,if_neg c1,if_neg c1];simp only[M6.bN];rw[gP ⟨hx,⟨by omega,by omega⟩,b1,b2⟩,gP ⟨M6.aX _,M6.aX _,a1,a2,a3,⟨by omega,by omega⟩,a4,a5,a6⟩];rfl
def aG:cX:=orc2 gZ (pN .i64) sp
theorem ok:OK 160 aG:=(eB E aE (aA Ib.ok (aA Bl.ok (aA iJ.ok (aA aGP.ok (aA Vf.ok (aA aHB.ok (aA aQ.ok (aA bB.ok aD)))))))) func160).lE rfl spec
end bD
namespace iT
def E:=mE [(67,rZ.aG),(68,aHC.aG)] 27 [] [] []
def aE:=bd f20
theorem aW:Nk E aE:=nk
theorem start a b c d e f:aF E f20 aE [D.agg [sc (bool a),ints u64 b,sc (int i64 c),sc (bool d),ints u64 e,sc (int i64 f)]]=letI B:=dv (a,b,c);letI A:=dv (d,e,f);aP (eG (a,b,c,d,e,f)) (aP (aL (d,e,f)) (aC (isNeg (-A.fst)) fun g=>aC (M6.dg (-A.fst).natAbs) fun h=>aC A.snd fun i=>aP (aL (a,b,c)) (aC (isNeg (-B.fst)) fun j=>aC (M6.dg (-B.fst).natAbs) fun k=>aC B.snd fun l=>some [D.agg [sc (bool g),ints u64 h,sc (int i64 i),sc (bool j),ints u64 k,sc (int i64 l)],D.s (sc (int i64 0))]))):=eJ aW
def uM(p:Int×Int):Int×Int:=(-p.1,p.2)
def sp(s:rY):Prop×List D:=(eG s,[yE (uM (dv (gO s))) (uM (dv (gN s))),.s (.sc (.int .i64 0))])
theorem spec:gI E f20 aE sZ sp:=by
 intro s h;have h:eG s:=h;have hL:aL (s.1,s.2.1,s.2.2.1):=h.1;have hH:aL (s.2.2.2.1,s.2.2.2.2.1,s.2.2.2.2.2):=h.2.1;refine(start s.1 s.2.1 s.2.2.1 s.2.2.2.1 s.2.2.2.2.1 s.2.2.2.2.2).trans ?_;simp only[aM];rw[gP h,gP hH]
 (try simp only[aM])
 rw[gP hL];rfl
def aG:cX:=orc1 sZ sp
theorem ok:OK 20 aG:=(eB E aE (aA rZ.ok (aA aHC.ok aD)) func20).nA rfl spec
end iT
namespace Cz
def E:=mE [(20,iT.aG)] 12 [] [] []
def aE:=bd f204
theorem aW:Nk E aE:=nk
theorem start a c d e f g b:aF E f204 aE [D.agg [sc (bool a),ints u64 c,sc (int i64 d),sc (bool e),ints u64 f,sc (int i64 g)],D.s (sc (bool b))]=letI A:=(a,c,d,e,f,g);letI C:=dv (gN A);letI B:=dv (gO A);aB b (aP (eG A) (some [D.agg [sc (bool (isNeg (-B.fst))),ints u64 (M6.dg (-B.fst).natAbs),sc (int i64 B.snd),sc (bool (isNeg (-C.fst))),ints u64 (M6.dg (-C.fst).natAbs),sc (int i64 C.snd)]])) (some [D.agg [sc (bool a),ints u64 c,sc (int i64 d),sc (bool e),ints u64 f,sc (int i64 g)]]):=eJ aW
def sp(s:rY)(b:Bool):Prop×List D:=(eG s,[yE (bif b then iT.uM (dv (gO s))else dv (gN s)) (bif b then iT.uM (dv (gN s))else dv (gO s))])
theorem spec:fK E f204 aE sZ pB sp:=by
 intro s b h;have h:eG s:=id h;refine(start s.1 s.2.1 s.2.2.1 s.2.2.2.1 s.2.2.2.2.1 s.2.2.2.2.2 b).trans ?_;unfold sp;cases b with
 |true =>
  show aP _ _=_;have h':eG (s.1,s.2.1,s.2.2.1,s.2.2.2.1,s.2.2.2.2.1,s.2.2.2.2.2):=h;rw[gP h'];rfl
 |false =>
  dsimp only[cond_false];rw[h.yE]
def aG:cX:=orc2 sZ pB sp
theorem ok:OK 204 aG:=(eB E aE (aA iT.ok aD) func204).lE rfl spec
end Cz
end W
end Go.Proofs.YtplagoepbghhpaaGreatDoor
end
