/- Contracts. -/
import Derived.KernelRfl
import Derived.Test.YtplagoepbghhpaaGreatDoorBZivOdd2
set_option linter.unusedVariables false
set_option linter.unusedSimpArgs false
set_option exponentiation.threshold 10000000
noncomputable section
open Go.IntKind(i8 i16 i32 i64 u8 u16 u32 u64)
open Go.Proofs.Tryz
open Int renaming toNat_natCast->cFM,eq_ofNat_of_zero_le->cGR,natCast_mul->cHN,natCast_ediv->cHF,natCast_nonneg->cLI,tdiv_eq_ediv_of_nonneg->cJD,natCast_add->cMQ,mul_neg->cKP,tmod_eq_emod_of_nonneg->cJE,mul_nonneg->cND,le_refl->cNE,mul_one->cNF,mul_assoc->cIC,natAbs_neg->cIJ,natCast_emod->cIG,one_mul->cJZ,neg_mul->cLF,mul_neg_of_neg_of_pos->cLN,natAbs_natCast->cHH,mul_ediv_mul_of_pos_left->cNU,mul_ediv_add_emod->cKS,toNat_of_nonneg->cNY,min_le_left->cOA,min_le_right->cOB
open Nat renaming pow_add->cGP,mul_add->cGQ,mul_assoc->cGS,pow_succ->cGO,mul_comm->cGN,le_trans->cCL,mod_lt->cDX,mul_le_mul_right->cDE,mul_le_mul_left->cED,add_mul->cCJ,zero_add->cBR,div_lt_of_lt_mul->cHJ,div_add_mod->cGV,div_eq_of_lt->cHM,pow_pos->cEP,div_le_self->cKC,lt_of_lt_of_le->cCM,div_div_eq_div_mul->cHG,mod_eq_of_lt->cME,add_zero->cCN,beq->cBQ,eq_of_beq_eq_true->cCE,zero_le->cHS,mul_one->cBZ,one_mul->cFT,pow_le_pow_right->cEQ,le_of_not_lt->cEJ,add_mul_div_left->cIF,le_refl->cBP,mod_add_div->cMG,mul_le_mul->cMD,mul_lt_mul''->cKD,div_le_div_left->cMI,ble->cBS,pow_zero->cLQ,mul_left_comm->cJL,le_of_ble_eq_true->cDN,div_eq_of_lt_le->cMJ,mul_right_comm->cMK,testBit_lt_two_pow->cML,lt_of_le_of_lt->cIE,zero_div->cLJ,testBit_mod_two_pow->cMN,eq_of_testBit_eq->cMO,mul_div_le->cMP,add_assoc->cFG,lt_or_ge->cCF,or_comm->cKL,testBit_two_pow->cMR,testBit_and->cMT,testBit_div_two_pow->cMU,div_mul_le_self->cMV,lt_div_mul_add->cMW,lt_mul_div_succ->cMX,div_lt_iff_lt_mul->cMY,zero_mod->cJK,pow_lt_pow_right->cII,mul_add_div->cLH,add_comm->cHQ,eq_of_mul_eq_mul_right->cNH,testBit_two_pow_sub_one->cNK,testBit_two_pow_sub_succ->cNL,le_div_iff_mul_le->cNN,eq_zero_or_pos->cNP,two_pow_add_eq_or_of_lt->cKM,add_mul_mod_self_left->cNV,mul_add_mod->cNW,mul_div_mul_right->cKN,mul_mod_mul_right->cKO,mul_div_cancel->cLS,exists_eq_add_of_le->cCU,mul_lt_mul_of_pos_right->cKB,pow_lt_pow_iff_right->cNZ
open Rat renaming le_of_lt->cGW,natCast_mul->cIO,le_trans->cGU,mul_assoc->cMZ,intCast_mul->cNA,intCast_natCast->cNB,div_mul_cancel->cNM
open List renaming replicate->cDS,take_length->cIK,drop_zero->cHW,drop->cHL,take_set_of_le->cMM,take->cHK,drop_set_of_lt->cMS,drop_of_length_le->cNG,append_nil->cHP,getD_eq_getElem?_getD->cGT,nil_append->cFS,append_assoc->cDK,singleton_append->cIL
open Bool renaming not_true->cDP,true_and->cER,false_and->cGY,true_or->cGZ,false_or->cDQ,not_false->cNC,and_false->cHB,and_eq_false_iff->cNJ
namespace Go.Proofs.YtplagoepbghhpaaGreatDoor
namespace R
def iA{α:Type}(n:Nat)(k:Nat->α):α:=Nat.rec (motive:=fun _=>α) (k 0) (fun m _=>k (m+1)) n
theorem fJ{α:Type}(n:Nat)(k:Nat->α):iA n k=k n:=by cases n <;> rfl
def inner(q:Nat)(f:Nat):Nat->Nat->Nat->Nat×Nat:=Nat.rec (motive:=fun _=>Nat->Nat->Nat->Nat×Nat) (fun t s _=>(t,s))
 (fun _ ih t s i=>iA (t/q) fun u=>iA (u/q) fun v=>iA (s+t/i-u/(i+2)) fun s'=>iA (i+4) fun i'=>ih v s' i') f
def outer(q:Nat)(g:Nat)(f:Nat):Nat->Nat->Nat->Nat×Nat:=Nat.rec (motive:=fun _=>Nat->Nat->Nat->Nat×Nat) (fun t s _=>(t,s))
 (fun _ ih t s i=>Prod.rec (motive:=fun _=>Nat×Nat) (fun t' s'=>ih t' s' (i+4*g)) (inner q g t s i)) f
theorem aRE(n w:Nat){j:Nat}(hn:0<n):iU n w (j+1)<=iU n w j:=by
 unfold iU;refine cCL (cMI (show 2*j+1<=2*(j+1)+1 by omega) (by omega)) (Nat.div_le_div_right ?_);exact cMI (cEQ hn (by omega)) (cEP hn)
def At(n w:Nat)(j:Nat)(t s:Nat):Prop:=t=2^w/n^(2*j+1)/\(s:Rat)=sum (fun j=>sg j*(iU n w j:Rat)) j/\j%2=0
theorem aWI{n w j t s:Nat}(hn:0<n)(h:At n w j t s):At n w (j+2) (t/(n*n)/(n*n)) (s+t/(2*j+1)-t/(n*n)/(2*j+1+2)):=by
 obtain⟨h1,h2,h3⟩:=h;have e1:t/(n*n)=2^w/n^(2*(j+1)+1):=by
  rw[h1,cHG,show 2*(j+1)+1=2*j+1+2 by omega,cGP _ (2*j+1) 2,Nat.pow_two]
 have e2:t/(n*n)/(n*n)=2^w/n^(2*(j+2)+1):=by
  rw[e1,cHG,show 2*(j+2)+1=2*(j+1)+1+2 by omega,cGP _ (2*(j+1)+1) 2,Nat.pow_two]
 refine⟨e2,?_,by omega⟩;have a1:t/(2*j+1)=iU n w j:=by rw[h1];rfl
 have a2:t/(n*n)/(2*j+1+2)=iU n w (j+1):=by rw[e1];rfl
 rw[a1,a2,dX,dX,<-h2];have hle:=aRE n w (j:=j) hn;have:((s+iU n w j-iU n w (j+1):Nat):Rat)+(iU n w (j+1):Rat)=(s:Rat)+(iU n w j:Rat):=by
  exact_mod_cast(show s+iU n w j-iU n w (j+1)+iU n w (j+1)=s+iU n w j by omega)
 have g1:sg j=1:=by unfold sg;rw[if_pos h3]
 have g2:sg (j+1)=-1:=by unfold sg;rw[aP]
 rw[g1,g2];grind
theorem aCJ(q f t s i:Nat):inner q (f+1) t s i=iA (t/q) fun u=>iA (u/q) fun v=>iA (s+t/i-u/(i+2)) fun s'=>iA (i+4) fun i'=>inner q f v s' i':=rfl
theorem aBZ(q g f t s i:Nat):outer q g (f+1) t s i=outer q g f (inner q g t s i).1 (inner q g t s i).2 (i+4*g):=rfl
theorem aOA{n w:Nat}(hn:0<n):∀(f j t s:Nat),At n w j t s->At n w (j+2*f) (inner (n*n) f t s (2*j+1)).1 (inner (n*n) f t s (2*j+1)).2:=by
 intro f
 induction f with
 |zero=>intro j t s h;exact h
 |succ f ih =>
  intro j t s h;have e:inner (n*n) (f+1) t s (2*j+1)=inner (n*n) f (t/(n*n)/(n*n)) (s+t/(2*j+1)-t/(n*n)/(2*j+1+2)) (2*(j+2)+1):=by
   rw[aCJ,fJ,fJ,fJ,fJ];rfl
  rw[e,show j+2*(f+1)=(j+2)+2*f by omega];exact ih _ _ _ (aWI hn h)
theorem aNG{n w:Nat}(hn:0<n)(g:Nat):∀(f j t s:Nat),At n w j t s->At n w (j+2*(g*f)) (outer (n*n) g f t s (2*j+1)).1 (outer (n*n) g f t s (2*j+1)).2:=by
 intro f
 induction f with
 |zero=>intro j t s h;exact h
 |succ f ih =>
  intro j t s h;have e:outer (n*n) g (f+1) t s (2*j+1)=outer (n*n) g f (inner (n*n) g t s (2*j+1)).1 (inner (n*n) g t s (2*j+1)).2 (2*(j+2*g)+1):=by
   rw[aBZ,show 2*j+1+4*g=2*(j+2*g)+1 by omega]
  rw[e,show j+2*(g*(f+1))=(j+2*g)+2*(g*f) by rw[Nat.mul_succ];omega];exact ih _ _ _ (aOA hn g j t s h)
def aBG(n w g f:Nat):Nat×Nat:=outer (n*n) g f (2^w/n) 0 1
theorem Jd{n:Nat}(hn:2<=n)(w g f:Nat)(hJ:2*(g*f)<=1048576)(hz:(aBG n w g f).1=0):ab (((aBG n w g f).2:Rat)-((2^w:Nat):Rat)*aAD n)<=((2*(g*f):Nat):Rat)+2:=by
 have h:=aNG (n:=n) (w:=w) (by omega) g f 0 (2^w/n) 0 ⟨by rw[Nat.mul_zero,Nat.pow_one],by simp only[sum];norm_cast,rfl⟩;obtain⟨h1,h2,_⟩:=h;rw[cBR]at h1 h2;have h3:(aBG n w g f).2=(outer (n*n) g f (2^w/n) 0 (2*0+1)).2:=rfl;have h4:(aBG n w g f).1=(outer (n*n) g f (2^w/n) 0 (2*0+1)).1:=rfl;rw[h3,h2];rw[h4,h1]at hz;rw[cBR]at hz ⊢;refine aHM hn w hJ ?_;unfold iU;rw[hz,cLJ]
def Tv(u w:Nat)(f:Nat):Nat->Nat->Nat->Nat->Nat×Nat×Nat:=Nat.rec (motive:=fun _=>Nat->Nat->Nat->Nat->Nat×Nat×Nat) (fun t c s _=>(t,c,s))
 (fun _ ih t c s k=>iA (t*u/w/(k+1)) fun t1=>iA (t1*u/w/(k+2)) fun t2=>iA (t2*u/w/(k+3)) fun t3=>iA (t3*u/w/(k+4)) fun t4=>iA (c+t-t2) fun c'=>iA (s+t1-t3) fun s'=>iA (k+4) fun k'=>ih t4 c' s' k') f
def Is(w:Nat)(h:Nat):Nat->Nat->Nat×Nat:=Nat.rec (motive:=fun _=>Nat->Nat->Nat×Nat) (fun s c=>(s,c))
 (fun _ ih s c=>iA (2*(s*c/w)) fun s'=>iA (w-2*(s*s/w)) fun c'=>ih s' c') h
def aTG(x:Nat):Bool :=
 iA (x &&& (x >>> 1)) fun x=>iA (x &&& (x >>> 2)) fun x=>iA (x &&& (x >>> 4)) fun x=>iA (x &&& (x >>> 8)) fun x=>cBQ (x &&& (x >>> 8)) 0
def aYX(P w:Nat):Bool :=
 iA (P/2^102) fun u=>iA (2^w) fun W =>
 Prod.rec (motive:=fun _=>Bool) (fun t r=>Prod.rec (motive:=fun _=>Bool) (fun c s=>cBQ t 0 &&
  Prod.rec (motive:=fun _=>Bool) (fun s' c'=>cBS (2*s'*s') (W*W+2^(w+240))&&(cBS (W*W) (2*s'*s'+2^(w+240))&&cBS 1 c')) (Is W 100 s c)) r) (Tv u W 320 W 0 0 0)
def bCG(w:Nat):Bool :=
 Prod.rec (motive:=fun _=>Bool) (fun t5 s5=>Prod.rec (motive:=fun _=>Bool) (fun t239 nC=>Prod.rec (motive:=fun _=>Bool) (fun t18 aSI=>Prod.rec (motive:=fun _=>Bool) (fun t57 aSH =>
  cBQ t5 0&&(cBQ t239 0&&(cBQ t18 0&&(cBQ t57 0 &&
  iA (16*s5-4*nC) fun P=>iA (48*aSI+32*aSH-20*nC) fun G =>
  cBS P (G+2^24)&&(cBS G (P+2^24)&&iA (P/2^64) fun Q =>
  cBQ ((P+2^40)/2^64) Q&&(cBQ ((P-2^40)/2^64) Q&&(cBQ (Q/2^(w-104)) 3454217652357&&(aTG Q&&(aTG (2^(w-62)-1-Q)&&aYX P w)))))))))
  (aBG 57 w 78 78)) (aBG 18 w 92 92)) (aBG 239 w 66 66)) (aBG 5 w 122 122)
def Ni(x n:Nat):Prop:=∀p,∃i,i<n/\x.testBit (p+i)=false
theorem yA{x a n:Nat}(h:Ni (x &&& (x >>> a)) n):Ni x (n+a):=by
 intro p;obtain⟨i,hi,hb⟩:=h p;rw[cMT,Nat.testBit_shiftRight,cNJ]at hb;rcases hb with hb |hb
 ·exact⟨i,by omega,hb⟩
 ·exact⟨i+a,by omega,by rwa [show p+(i+a)=a+(p+i) by omega]⟩
theorem aFG{x:Nat}(h:aTG x=true):Ni x 24:=by
 unfold aTG at h;rw[fJ,fJ,fJ,fJ]at h;have h0:=cCE h;have n0:Ni ((((x &&& x >>> 1) &&& (x &&& x >>> 1) >>> 2) &&& ((x &&& x >>> 1) &&& (x &&& x >>> 1) >>> 2) >>> 4) &&& (((x &&& x >>> 1) &&& (x &&& x >>> 1) >>> 2) &&& ((x &&& x >>> 1) &&& (x &&& x >>> 1) >>> 2) >>> 4) >>> 8 &&& ((((x &&& x >>> 1) &&& (x &&& x >>> 1) >>> 2) &&& ((x &&& x >>> 1) &&& (x &&& x >>> 1) >>> 2) >>> 4) &&& (((x &&& x >>> 1) &&& (x &&& x >>> 1) >>> 2) &&& ((x &&& x >>> 1) &&& (x &&& x >>> 1) >>> 2) >>> 4) >>> 8) >>> 8) 1:=by
  rw[h0];exact fun p=>⟨0,by omega,by simp⟩
 exact yA (a:=1) (n:=23) (yA (a:=2) (n:=21) (yA (a:=4) (n:=17) (yA (a:=8) (n:=9) (yA (a:=8) (n:=1) n0))))
theorem Sj{x n:Nat}(h:Ni x n)(p:Nat):x/2^p%2^n≠2^n-1:=by
 intro hc;obtain⟨i,hi,hb⟩:=h p;have h1:(x/2^p%2^n).testBit i=true:=by
  rw[hc,cNK];exact decide_eq_true hi
 rw[cMN,cMU]at h1;rw[show p+i=i+p by omega]at hb;rw[hb]at h1;simp at h1
theorem aJN{x L n p:Nat}(hx:x<2^L)(hp:p+n<=L)(h:(2^L-1-x)/2^p%2^n≠2^n-1):x/2^p%2^n≠0:=by
 intro hc;apply h;apply cMO;intro i;rw[cNK,cMN,cMU,show 2^L-1-x=2^L-(x+1) by omega,cNL hx];have h1:(x/2^p%2^n).testBit i=false:=by rw[hc];simp
 rw[cMN,cMU]at h1
 by_cases hi:i<n
 ·simp[hi]at h1 ⊢;exact⟨by omega,h1⟩
 ·simp[hi]
theorem aFU(h:Nat):((4^(h+1):Nat):Rat)=4*((4^h:Nat):Rat):=by
 rw[cGO,cIO];grind
theorem Lk(h:Nat):((2^(h+1):Nat):Rat)=2*((2^h:Nat):Rat):=by
 rw[cGO,cIO];grind
theorem Nb(b h:Nat)(hb:0<b):(1:Rat)<=((b^h:Nat):Rat):=by exact_mod_cast cEP hb
theorem Sx(w h s c:Nat):Is w (h+1) s c=Is w h (2*(s*c/w)) (w-2*(s*s/w)):=by
 show iA _ (fun s'=>iA _ fun c'=>Is w h s' c')=_;rw[fJ,fJ]
theorem aQI{W s c:Nat}{x e:Rat}(hW:1<=W)(h0:0<=x)(h1:x<=1/2)(hs:ab ((s:Rat)-W*sn x)<=e)(hc:ab ((c:Rat)-W*cs x)<=e)(he:100*(e*e)<=(W:Rat))(bGE:(8*e+4*(W:Rat))*xR<=1/4) :
  ab (((2*(s*c/W):Nat):Rat)-W*sn (2*x))<=4*e+4/\ab (((W-2*(s*s/W):Nat):Rat)-W*cs (2*x))<=4*e+4/\2*(s*s/W)<=W:=by
 have bZN:(1:Rat)<=(W:Rat):=by exact_mod_cast hW
 have aUY:0<=e:=cGU (aO _) hs;have aUO:ab x<=1:=by rw[bS h0];grind
 have aIN:2*(s*s/W)<=W:=by
  have h2:=aEX h0 (by grind);have h3:=Mq h0 (by grind);rw[cK]at hs;have e1:e<=(W:Rat)/10:=by
   have:=Mn (a:=10*e) (b:=(W:Rat)) (by have:=aG (show 0<=(W:Rat)-1 by grind) (show 0<=(W:Rat) by grind);grind) (by grind);rw[bS (by grind)]at this;grind
  have e2:=aG (show 0<=(W:Rat) by grind) (show 0<=1/2-sn x by grind);have e3:(s:Rat)<=3/5*(W:Rat):=by grind
  have e4:(0:Rat)<=(s:Rat):=by exact_mod_cast cHS _
  have e5:=cB e4 e3 e4 e3;have d:=(zF (s*s) (b:=W) (by omega)).1;rw[cIO]at d;have e6:(W:Rat)*(2*((s*s/W:Nat):Rat))<=(W:Rat)*(W:Rat):=by
   have:=aG (show 0<=(W:Rat) by grind) (show 0<=(W:Rat) by grind);grind
  have e7:=cO (show 0<(W:Rat) by grind) e6;exact_mod_cast e7
 have aBC:ab ((W:Rat)*((2*(s*c/W):Nat):Rat)-2*((s:Rat)*(c:Rat)))<=2*(W:Rat):=by
  obtain⟨d1,d2⟩:=zF (s*c) (b:=W) (by omega);rw[cIO]at d1 d2;rw[cIO,cK];have:((2:Nat):Rat)=2:=by norm_cast
  rw[this];constructor <;> grind
 have aVG:ab ((W:Rat)*((W-2*(s*s/W):Nat):Rat)-((W:Rat)*(W:Rat)-2*((s:Rat)*(s:Rat))))<=2*(W:Rat):=by
  obtain⟨d1,d2⟩:=zF (s*s) (b:=W) (by omega);have aXW:((W-2*(s*s/W):Nat):Rat)+2*((s*s/W:Nat):Rat)=(W:Rat):=by
   exact_mod_cast(show W-2*(s*s/W)+2*(s*s/W)=W by omega)
  rw[cIO]at d1 d2;generalize ((W-2*(s*s/W):Nat):Rat)=z at *;generalize ((s*s/W:Nat):Rat)=y at *;have:z=(W:Rat)-2*y:=by grind
  subst this;rw[cK];constructor <;> grind
 obtain⟨r1,r2⟩:=qN bZN aUO hs hc (by have:=aG aUY aUY;grind) bGE aBC aVG;exact⟨r1,r2,aIN⟩
theorem aGZ{W:Nat}(hW:1<=W){E:Rat}(hE:100*(E*E)<=(W:Rat))(bGE:(8*E+4*(W:Rat))*xR<=1/4):∀(h:Nat) (x e:Rat) (s c:Nat),0<=x->((2^h:Nat):Rat)*x<=1->ab ((s:Rat)-W*sn x)<=e->ab ((c:Rat)-W*cs x)<=e->((4^h:Nat):Rat)*(e+2)<=E ->
  ab (((Is W h s c).1:Rat)-W*sn (((2^h:Nat):Rat)*x))<=((4^h:Nat):Rat)*(e+2)-2/\ab (((Is W h s c).2:Rat)-W*cs (((2^h:Nat):Rat)*x))<=((4^h:Nat):Rat)*(e+2)-2:=by
 intro h
 induction h with
 |zero =>
  intro x e s c h0 h1 hs hc bKZ;rw[cLQ,show((1:Nat):Rat)*x=x by grind];have:((1:Nat):Rat)=1:=by norm_cast
  rw[this];exact⟨by show ab ((s:Rat)-_)<=_;grind,by show ab ((c:Rat)-_)<=_;grind⟩
 |succ h ih =>
  intro x e s c h0 h1 hs hc bKZ;rw[Lk]at h1;rw[aFU]at bKZ;have aUY:0<=e:=cGU (aO _) hs;have g2:=Nb 2 h (by omega);have g4:=Nb 4 h (by omega);have aKO:x<=1/2:=by
   have:=aG (show 0<=((2^h:Nat):Rat)-1 by grind) h0;grind
  have aUW:e<=E:=by
   have:=aG (show 0<=((4^h:Nat):Rat)-1 by grind) (show 0<=e+2 by grind);grind
  have bSJ:=cB aUY aUW aUY aUW;have aUV:=vY;have hsm2:=aG (show 0<=E-e by grind) (cGW aUV);obtain⟨r1,r2,_⟩:=aQI hW h0 aKO hs hc (by grind) (by grind);have:=ih (2*x) (4*e+4) _ _ (by grind) (by grind) r1 r2 (by grind);rw[Sx,Lk,aFU,show 2*((2^h:Nat):Rat)*x=((2^h:Nat):Rat)*(2*x) by grind];refine⟨cGU this.1 ?_,cGU this.2 ?_⟩ <;> grind
theorem Ml{u W:Nat}(h:u<=W)(k:Nat):sq u W (k+1)<=sq u W k:=by
 rw[sq];refine cCL (cKC _ _) ?_
 by_cases hW:W=0
 ·rw[hW,Nat.div_zero];omega
 ·exact Nat.div_le_of_le_mul (by rw[cGN];exact cDE _ h)
theorem aHU(u w f t c s k:Nat):Tv u w (f+1) t c s k=iA (t*u/w/(k+1)) fun t1=>iA (t1*u/w/(k+2)) fun t2=>iA (t2*u/w/(k+3)) fun t3=>iA (t3*u/w/(k+4)) fun t4=>iA (c+t-t2) fun c'=>iA (s+t1-t3) fun s'=>iA (k+4) fun k'=>Tv u w f t4 c' s' k':=rfl
theorem aTC{u W:Nat}(hu:u<=W):∀(f k t c s:Nat),k%4=0->t=sq u W k->(c:Rat)=sum (fun k=>cc k*(sq u W k:Rat)) k->(s:Rat)=sum (fun k=>ss k*(sq u W k:Rat)) k ->
  (Tv u W f t c s k).1=sq u W (k+4*f)/\(((Tv u W f t c s k).2.1:Nat):Rat)=sum (fun k=>cc k*(sq u W k:Rat)) (k+4*f)/\(((Tv u W f t c s k).2.2:Nat):Rat)=sum (fun k=>ss k*(sq u W k:Rat)) (k+4*f):=by
 intro f
 induction f with
 |zero=>intro k t c s _ h1 h2 h3;exact⟨h1,h2,h3⟩
 |succ f ih =>
  intro k t c s hk h1 h2 h3;have e:Tv u W (f+1) t c s k=Tv u W f (sq u W (k+4)) (c+sq u W k-sq u W (k+2)) (s+sq u W (k+1)-sq u W (k+3)) (k+4):=by
   rw[aHU,fJ,fJ,fJ,fJ,fJ,fJ,fJ,h1];rfl
  have l1:sq u W (k+1)<=sq u W k:=Ml hu k;have l2:sq u W (k+2)<=sq u W (k+1):=Ml hu (k+1);have l3:sq u W (k+3)<=sq u W (k+2):=Ml hu (k+2);rw[e,show k+4*(f+1)=k+4+4*f by omega];have c0:cc k=1/\cc (k+1)=0/\cc (k+2)=-1/\cc (k+3)=0:=by
   unfold cc;refine⟨?_,?_,?_,?_⟩
   ·rw[if_pos hk]
   ·rw[aP,aP]
   ·rw[aP,aR]
   ·rw[aP,aP]
  have s0:ss k=0/\ss (k+1)=1/\ss (k+2)=0/\ss (k+3)=-1:=by
   unfold ss;refine⟨?_,?_,?_,?_⟩
   ·rw[aP,aP]
   ·rw[aR]
   ·rw[aP,aP]
   ·rw[aP,aR]
  refine ih (k+4) _ _ _ (by omega) rfl ?_ ?_
  ·rw[dX,dX,dX,dX,<-h2,c0.1,c0.2.1,c0.2.2.1,c0.2.2.2];have:((c+sq u W k-sq u W (k+2):Nat):Rat)+(sq u W (k+2):Rat)=(c:Rat)+(sq u W k:Rat):=by exact_mod_cast(show c+sq u W k-sq u W (k+2)+sq u W (k+2)=c+sq u W k by omega)
   grind
  ·rw[dX,dX,dX,dX,<-h3,s0.1,s0.2.1,s0.2.2.1,s0.2.2.2];have:((s+sq u W (k+1)-sq u W (k+3):Nat):Rat)+(sq u W (k+3):Rat)=(s:Rat)+(sq u W (k+1):Rat):=by exact_mod_cast(show s+sq u W (k+1)-sq u W (k+3)+sq u W (k+3)=s+sq u W (k+1) by omega)
   grind
set_option maxRecDepth 10000
def pi:Rat:=16*aAD 5-4*aAD 239
def bLP:Rat:=48*aAD 18+32*aAD 57-20*aAD 239
theorem fT{a b:Bool}(h:(a&&b)=true):a=true/\b=true:=by simpa using h
structure Wm(w:Nat)(Q:Nat):Prop where
 lo:(Q:Rat)<=((2^(w-64):Nat):Rat)*pi
 hi:((2^(w-64):Nat):Rat)*pi<(Q:Rat)+1
 gauss:ab (((2^w:Nat):Rat)*(pi-bLP))<=33554432
 top:Q/2^(w-104)=3454217652357
 bLT:Ni Q 24
 aUB:Ni (2^(w-62)-1-Q) 24
 cos:ab (((2^w:Nat):Rat)*cs (pi/2))<=((2^250:Nat):Rat)
theorem uX(w:Nat)(hw:64<=w):2^w=2^64*2^(w-64):=by rw[<-cGP];congr 1;omega
theorem aFX{u W:Nat}(hW:0<W):∃x:Rat,x*(W:Rat)=(u:Rat)/\0<=x:=by
 have h:(0:Rat)<(W:Rat):=by exact_mod_cast hW
 have h1:(W:Rat)≠0:=by grind
 refine⟨(u:Rat)/(W:Rat),cNM h1,?_⟩;have hu:(0:Rat)<=(u:Rat):=by exact_mod_cast cHS _
 refine Rat.not_lt.1 fun hn=>?_
 have:=Rat.mul_pos h (show 0 < -((u:Rat)/(W:Rat)) by grind);have e:(u:Rat)/(W:Rat)*(W:Rat)=u:=cNM h1;grind
theorem aGX{w:Nat}(hw:w<=1000000):((2^w:Nat):Rat)*xR<=1/1048576:=by
 have h1:=De (n:=w+20) (by omega);have h2:=Uz w;have h3:=Oc w 20;have h4:hf 20=1/1048576:=by simp only[hf];grind
 have h5:(0:Rat)<=((2^w:Nat):Rat):=by exact_mod_cast cHS _
 have h6:=aG h5 (show 0<=hf (w+20)-xR by grind);rw[h3,h4]at h6;generalize ((2^w:Nat):Rat)=W at *;generalize hf w=H at *;clear h1 h3 h4;grind
theorem Xo{W E:Rat}(h:E<=W)(aUV:W*xR<=1/1048576):(8*E+4*W)*xR<=1/4:=by
 have:=aG (show 0<=W-E by grind) (cGW vY);grind
theorem aVU{W u P p x y:Rat}(hx:x*W=u)(hy:y=1267650600228229401496703205376*x)(v1:u*5070602400912917605986812821504<=P)(v2:P<u*5070602400912917605986812821504+5070602400912917605986812821504)(hp:ab (P-W*p)<=524288):ab (W*(p/2-2*y))<=10141204801825835211973625643008:=by
 rw[cK]at hp ⊢;subst hy;have:W*(p/2-2*(1267650600228229401496703205376*x))=W*p/2-2535301200456458802993406410752*u:=by rw[<-hx];grind
 rw[this];grind
theorem bCA{w P:Nat}(hw:1000<=w)(aXO:w<=1000000)(hP:P<3454217652358*2^(w-40)){p:Rat}(hp:ab ((P:Rat)-((2^w:Nat):Rat)*p)<=524288)(h:aYX P w=true):ab (((2^w:Nat):Rat)*cs (p/2))<=((2^250:Nat):Rat):=by
 unfold aYX at h;rw[fJ,fJ]at h;have aSO:0<2^w:=dA;have aOH:P/2^102*2^102<=P:=cMV P (2^102);have bJX:P<P/2^102*2^102+2^102:=cMW (dA);have cAY:2^w=2^40*2^(w-40):=by rw[<-cGP];congr 1;omega
 have bSB:P/2^102*2^100<=2^w:=by
  rw[show 2^102=4*2^100 from rfl,show 2^40=1099511627776 from rfl]at *;generalize 2^100=b at *;generalize 2^(w-40)=q at *;generalize P/(4*b)=u at *;have:u*(4*b)=4*(u*b):=by rw[cJL]
  omega
 obtain⟨x,hx,Qv⟩:=aFX (u:=P/2^102) aSO;have ht:=aTC (u:=P/2^102) (W:=2^w) (by omega) 320 0 (2^w) 0 0 rfl rfl (by simp only[sum];norm_cast) (by simp only[sum];norm_cast);generalize Tv (P/2^102) (2^w) 320 (2^w) 0 0 0=T at *;obtain⟨t,c,s⟩:=T;dsimp only at h ht;rw[cBR,show 4*320=1280 from rfl]at ht;obtain⟨ht0,bSF,bJY⟩:=ht;obtain⟨z0,h⟩:=fT h;have z0:=cCE z0;rw[z0]at ht0;have hW:(0:Rat)<((2^w:Nat):Rat):=by exact_mod_cast aSO
 have bJV:((2^100:Nat):Rat)*x<=1:=by
  refine cO hW ?_;have h1:((P/2^102:Nat):Rat)*((2^100:Nat):Rat)<=((2^w:Nat):Rat):=by exact_mod_cast bSB
  grind
 have aKO:x<=1/2:=by
  have n1:((2^100:Nat):Rat)=1267650600228229401496703205376:=by norm_cast
  rw[n1]at bJV;grind
 have ec:=aMF aSO hx Qv aKO (n:=1280) (by omega) (by omega) ht0.symm;have es:=aME aSO hx Qv aKO (n:=1280) (by omega) (by omega) ht0.symm;rw[<-bSF]at ec;rw[<-bJY]at es;have aXH:((1280:Nat):Rat)=1280:=by norm_cast
 rw[aXH]at ec es;have aUV:=aGX aXO;have n4:((4^100:Nat):Rat)=1606938044258990275541962092341162602522202993782792835301376:=by norm_cast
 have bBE:(100000000000000000000000000000000000000000000000000000000000000000000000000000000000000000000000000000000000000000000000000000000000000000000000000000000000000000000000000000000000000000000000000000000:Rat)<=((2^w:Nat):Rat):=by
  have e:2^w=2^200*(2^200*(2^200*(2^200*2^(w-800)))):=by simp only[<-cGP];congr 1;omega
  have h1:100000000000000000000000000000000000000000000000000000000000000000000000000000000000000000000000000000000000000000000000000000000000000000000000000000000000000000000000000000000000000000000000000000000<=2^200*(2^200*(2^200*(2^200*1))):=cDN rfl;have h2:100000000000000000000000000000000000000000000000000000000000000000000000000000000000000000000000000000000000000000000000000000000000000000000000000000000000000000000000000000000000000000000000000000000<=2^w:=by
   rw[e];exact cCL h1 (cED _ (cED _ (cED _ (cED _ (dA)))))
  exact_mod_cast h2
 have hepp:=vY;have hept:=Gn;have hd:=aGZ (W:=2^w) aSO (E:=4499426523925172771517493858555255287062168382591819938843852800) (cGU (by grind) bBE) (Xo (cGU (by grind) bBE) aUV) 100 x 2564 s c Qv bJV (by grind) (by grind) (by rw[n4];grind);generalize Is (2^w) 100 s c=R at *;obtain⟨s',c'⟩:=R;dsimp only at h hd;obtain⟨k1,h⟩:=fT h;obtain⟨k2,k3⟩:=fT h;have k1:=cDN k1;have k2:=cDN k2;have rW:=hd.1;rw[n4]at rW;have bFM:((2^100:Nat):Rat)=1267650600228229401496703205376:=by norm_cast
 rw[bFM]at rW bJV;obtain⟨y,hy⟩:∃y:Rat,y=1267650600228229401496703205376*x:=⟨_,rfl⟩;rw[<-hy]at rW bJV;have aXN:0<=y:=by grind
 have bSZ:=It (x:=y) (by rw[bS aXN];grind);have bRR:2*(s':Rat)*(s':Rat)<=((2^w:Nat):Rat)*((2^w:Nat):Rat)+((2^w:Nat):Rat)*((2^240:Nat):Rat):=by
  rw[cGP]at k1;exact_mod_cast k1
 have bRQ:((2^w:Nat):Rat)*((2^w:Nat):Rat)<=2*(s':Rat)*(s':Rat)+((2^w:Nat):Rat)*((2^240:Nat):Rat):=by
  rw[cGP]at k2;exact_mod_cast k2
 have bFL:((2^240:Nat):Rat)=1766847064778384329583297500742918515827483896875618958121606201292619776:=by norm_cast
 have bFK:((2^250:Nat):Rat)=1809251394333065553493296640760748560207343510400633813116524750123642650624:=by norm_cast
 rw[bFL]at bRR bRQ;rw[bFK];have aGN:ab (((2^w:Nat):Rat)*(p/2-2*y))<=10141204801825835211973625643008:=by
  have v1:((P/2^102:Nat):Rat)*((2^102:Nat):Rat)<=(P:Rat):=by exact_mod_cast aOH
  have v2:(P:Rat)<((P/2^102:Nat):Rat)*((2^102:Nat):Rat)+((2^102:Nat):Rat):=by exact_mod_cast bJX
  have bMA:((2^102:Nat):Rat)=5070602400912917605986812821504:=by norm_cast
  rw[bMA]at v1 v2;exact aVU hx hy v1 v2 hp
 generalize ((2^w:Nat):Rat)=W at *;have Ny:(0:Rat)<=(s':Rat):=by exact_mod_cast cHS _
 generalize (s':Rat)=S at *;clear hd k1 k2 k3 ec es bSF bJY aXH Qv aKO aOH bJX bSB cAY hx n4 bFM bFL bFK;have bZT:S<=W:=by
  refine Rat.not_lt.1 fun hn=>?_
  have:=cB (cGW hW) (cGW hn) (cGW hW) (cGW hn);have:=aG (cGW hW) (show 0<=W-1000000000000000000000000000000000000000000000000000000000000000000000000000000000000000000 by grind);grind
 have aXX:ab (W*cs (2*y))<=56539106072908298546665520023773392506479484700019806659891398441363832832:=by
  obtain⟨a,ha⟩:∃a,a=S-W*sn y:=⟨_,rfl⟩;rw[<-ha]at rW;have eS:W*sn y=S-a:=by grind
  have q1:=cB (aO S) (show ab S<=W by rwa [bS Ny]) (aO a) rW;have q2:=cB (aO a) rW (aO a) rW;rw[<-fX]at q1 q2;have e2:W*(W*(1-2*(sn y*sn y)))=W*W-2*((S-a)*(S-a)):=by rw[<-eS];grind
  have w1:=aG (cGW hW) (cGW hW);rw[cK]at bSZ q1 q2 ⊢;have w2:=aG w1 (show 0<=2*xR-(cs (2*y)-(1-2*(sn y*sn y))) by grind);have w3:=aG w1 (show 0<=2*xR+(cs (2*y)-(1-2*(sn y*sn y))) by grind);have w4:=aG (cGW hW) (show 0<=1/1048576-W*xR by grind);generalize cs (2*y)=C2 at *;generalize sn y=Sy at *;constructor
  ·refine cO hW ?_;grind
  ·refine cO hW ?_;grind
 have aXV:ab (p/2-2*y)<=1:=by
  have e3:ab (W*(p/2-2*y))=W*ab (p/2-2*y):=by rw[fX,bS (cGW hW)]
  rw[e3]at aGN;refine cO hW ?_;grind
 have aZZ:ab (2*y)<=4:=by rw[bS (by grind)];grind
 have aVD:=Iu aZZ (show ab (p/2-2*y)<=4 by grind);rw[show 2*y+(p/2-2*y)=p/2 by grind]at aVD;have b1:=aBR aXV;have b2:=aHG (show ab (p/2-2*y)<=4 by grind);have b3:=aEZ aZZ;have m1:=cB (aO _) aXX (aO _) b2;have m2:=cB (aO _) b3 (aO _) b1;have m3:W*ab (p/2-2*y)<=10141204801825835211973625643008:=by
  rw[fX,bS (cGW hW)]at aGN;exact aGN
 rw[<-fX]at m1 m2;have m4:=aG (cGW hW) (show 0<=(1+xR)*ab (p/2-2*y)-ab (sn (2*y)*sn (p/2-2*y)) by grind);have m5:=aG (show 0<=1+xR by grind) (show 0<=10141204801825835211973625643008-W*ab (p/2-2*y) by grind);have l1:=Dz (sn (2*y)*sn (p/2-2*y));have l2:=oV (sn (2*y)*sn (p/2-2*y));have m6:=aG (cGW hW) (show 0<=ab (sn (2*y)*sn (p/2-2*y))-sn (2*y)*sn (p/2-2*y) by grind);have m7:=aG (cGW hW) (show 0<=ab (sn (2*y)*sn (p/2-2*y))+sn (2*y)*sn (p/2-2*y) by grind);rw[cK]at aVD m1 ⊢;have m8:=aG (cGW hW) (show 0<=xR-(cs (p/2)-(cs (2*y)*cs (p/2-2*y)-sn (2*y)*sn (p/2-2*y))) by grind);have m9:=aG (cGW hW) (show 0<=xR+(cs (p/2)-(cs (2*y)*cs (p/2-2*y)-sn (2*y)*sn (p/2-2*y))) by grind);generalize cs (2*y)=C2 at *;generalize sn (2*y)*sn (p/2-2*y)=SS at *;generalize ab SS=aS at *;generalize cs (p/2-2*y)=Cd at *;generalize ab (p/2-2*y)=dd at *;generalize cs (p/2)=X at *;clear bSZ rW bRR bRQ bZT aGN aXV b1 b2 b3 aZZ aXX;constructor <;> grind
theorem aPO{w:Nat}(hw:1000<=w)(aXO:w<=1000000)(h:bCG w=true):∃Q,Wm w Q:=by
 unfold bCG at h;have h5:=Jd (n:=5) (by omega) w 122 122 (by omega);have Vd:=Jd (n:=239) (by omega) w 66 66 (by omega);have bPW:=Jd (n:=18) (by omega) w 92 92 (by omega);have bPS:=Jd (n:=57) (by omega) w 78 78 (by omega);generalize aBG 5 w 122 122=A at *;generalize aBG 239 w 66 66=B at *;generalize aBG 18 w 92 92=C at *;generalize aBG 57 w 78 78=D at *;obtain⟨t5,s5⟩:=A;obtain⟨t239,nC⟩:=B;obtain⟨t18,aSI⟩:=C;obtain⟨t57,aSH⟩:=D;dsimp only at *;obtain⟨z5,h⟩:=fT h;obtain⟨aYK,h⟩:=fT h;obtain⟨bUQ,h⟩:=fT h;obtain⟨bUP,h⟩:=fT h;rw[fJ,fJ]at h;obtain⟨g1,h⟩:=fT h;obtain⟨g2,h⟩:=fT h;rw[fJ]at h;obtain⟨q1,h⟩:=fT h;obtain⟨q2,h⟩:=fT h;obtain⟨q3,h⟩:=fT h;obtain⟨r1,h⟩:=fT h;obtain⟨r2,bND⟩:=fT h;have g1:=cDN g1;have g2:=cDN g2;have q1:=cCE q1;have q2:=cCE q2;have q3:=cCE q3;have h5:=h5 (cCE z5);have Vd:=Vd (cCE aYK);have bPW:=bPW (cCE bUQ);have bPS:=bPS (cCE bUP);have aPF:ab (((16*s5-4*nC:Nat):Rat)-((2^w:Nat):Rat)*pi)<=524288:=by
  have pE:4*nC<=16*s5:=by
   refine cEJ fun hn=>?_
   rw[show 16*s5-4*nC=0 by omega]at q3;simp at q3
  have hc:((16*s5-4*nC:Nat):Rat)+4*(nC:Rat)=16*(s5:Rat):=by exact_mod_cast(show 16*s5-4*nC+4*nC=16*s5 by omega)
  have n1:((2*(122*122):Nat):Rat)=29768:=by norm_cast
  have n2:((2*(66*66):Nat):Rat)=8712:=by norm_cast
  rw[n1]at h5;rw[n2]at Vd;unfold pi;rw[cK]at *;generalize ((2^w:Nat):Rat)=W at *;grind
 have bPP:20*nC<=48*aSI+32*aSH->ab (((48*aSI+32*aSH-20*nC:Nat):Rat)-((2^w:Nat):Rat)*bLP)<=2097152:=by
  intro hle;have hc:((48*aSI+32*aSH-20*nC:Nat):Rat)+20*(nC:Rat)=48*(aSI:Rat)+32*(aSH:Rat):=by exact_mod_cast(show 48*aSI+32*aSH-20*nC+20*nC=48*aSI+32*aSH by omega)
  have n1:((2*(92*92):Nat):Rat)=16928:=by norm_cast
  have n3:((2*(78*78):Nat):Rat)=12168:=by norm_cast
  have n2:((2*(66*66):Nat):Rat)=8712:=by norm_cast
  rw[n1]at bPW;rw[n2]at Vd;rw[n3]at bPS;unfold bLP;rw[cK]at *;generalize ((2^w:Nat):Rat)=W at *;grind
 have hple:2^104<=16*s5-4*nC:=by
  refine cEJ fun hn=>?_
  have:(16*s5-4*nC)/2^64<2^40:=cHJ (by rw[<-cGP];exact hn);have h2:(16*s5-4*nC)/2^64/2^(w-104)<=(16*s5-4*nC)/2^64:=cKC _ _;omega
 have bPO:20*nC<=48*aSI+32*aSH:=by omega
 have bPP:=bPP bPO;generalize hP:16*s5-4*nC=P at *;generalize 48*aSI+32*aSH-20*nC=G at *;have aQD:=uX w (by omega);refine⟨P/2^64,?_,?_,?_,q3,aFG r1,aFG r2,?_⟩
 ·have:2^64*(P/2^64)<=P-2^40:=by
   have:=cMP (P-2^40) (2^64);rwa [q2]at this
  have h2:2^64*(P/2^64)+2^40<=P:=by omega
  have h3:((2^64:Nat):Rat)*((P/2^64:Nat):Rat)+((2^40:Nat):Rat)<=(P:Rat):=by exact_mod_cast h2
  rw[aQD,cIO,cK]at aPF;have n1:((2^64:Nat):Rat)=18446744073709551616:=by norm_cast
  have n2:((2^40:Nat):Rat)=1099511627776:=by norm_cast
  rw[n1]at aPF h3;rw[n2]at h3;refine cO (q:=18446744073709551616) (by grind) ?_;generalize ((2^(w-64):Nat):Rat)=W at *;grind
 ·have:P+2^40<2^64*(P/2^64+1):=by
   have:=cMX (P+2^40) (show 0<2^64 by omega);rwa [q1]at this
  have h3:(P:Rat)+((2^40:Nat):Rat)<((2^64:Nat):Rat)*(((P/2^64:Nat):Rat)+1):=by exact_mod_cast this
  rw[aQD,cIO,cK]at aPF;have n1:((2^64:Nat):Rat)=18446744073709551616:=by norm_cast
  have n2:((2^40:Nat):Rat)=1099511627776:=by norm_cast
  rw[n1]at aPF h3;rw[n2]at h3;refine sZ (q:=18446744073709551616) (by grind) ?_;generalize ((2^(w-64):Nat):Rat)=W at *;grind
 ·have c1:(P:Rat)<=(G:Rat)+((2^24:Nat):Rat):=by exact_mod_cast g1
  have c2:(G:Rat)<=(P:Rat)+((2^24:Nat):Rat):=by exact_mod_cast g2
  have n1:((2^24:Nat):Rat)=16777216:=by norm_cast
  rw[n1]at c1 c2;rw[cK]at *;generalize ((2^w:Nat):Rat)=W at *;grind
 ·refine bCA hw aXO ?_ aPF bND;have h1:P/2^64/2^(w-104)<3454217652358:=by omega
  have h2:P/2^64<2^(w-104)*3454217652358:=(cMY (dA)).1 h1 |> fun h=>by rwa [cGN]at h
  have h3:P<2^64*(2^(w-104)*3454217652358):=by
   have:=(cMY (show 0<2^64 by omega)).1 h2;rwa [cGN]at this
  have e:2^(w-40)=2^64*2^(w-104):=by rw[<-cGP];congr 1;omega
  rw[e,cGN,cGS];exact h3
theorem bEL:bCG 136064=true:=by kernel_rfl
theorem aFQ:∃w,w=136064/\∃Q,Wm w Q:=⟨136064,rfl,aPO (by omega) (by omega) bEL⟩
def pw:Nat:=Classical.choose aFQ
theorem Sc:pw=136064:=(Classical.choose_spec aFQ).1
def pq:Nat:=Classical.choose (Classical.choose_spec aFQ).2
theorem Ia:Wm pw pq:=Classical.choose_spec (Classical.choose_spec aFQ).2
theorem iH:314159/100000<pi/\pi<314160/100000:=by
 have h:=Ia;have h1:=h.lo;have h2:=h.hi;have h3:=h.top;have e:2^(pw-64)=2^40*2^(pw-104):=by have:=Sc;rw[<-cGP];congr 1;omega
 have hp:0<2^(pw-104):=dA;have l1:=cMV pq (2^(pw-104));have l2:=cMW hp (a:=pq);rw[h3]at l1 l2;have bWD:(3454217652357:Rat)*((2^(pw-104):Nat):Rat)<=(pq:Rat):=by exact_mod_cast l1
 have bWC:(pq:Rat)+1<=(3454217652357:Rat)*((2^(pw-104):Nat):Rat)+((2^(pw-104):Nat):Rat):=by exact_mod_cast l2
 rw[e,cIO]at h1 h2;have n40:((2^40:Nat):Rat)=1099511627776:=by norm_cast
 rw[n40]at h1 h2;have hq:(0:Rat)<((2^(pw-104):Nat):Rat):=by exact_mod_cast hp
 generalize ((2^(pw-104):Nat):Rat)=W at *;generalize (pq:Rat)=Q at *;clear h h3 e hp l1 l2 n40;constructor
 ·refine sZ hq ?_;grind
 ·refine sZ hq ?_;grind
def Du:Rat:=hf (pw-264)
theorem aGY:0<Du:=xO _
theorem Ls:1048576*xR<=Du:=by
 have h1:=Oc (pw-264) 20;have h4:hf 20=1/1048576:=by simp only[hf];grind
 have h2:=De (n:=pw-264+20) (by rw[Sc];omega);rw[h1,h4]at h2;unfold Du;grind
theorem Iq{n:Nat}(h:n<=135800):Du<=hf n:=aOW (by rw[Sc];exact h)
theorem aPU:Du<=1/1048576:=by
 have:=Iq (n:=20) (by omega);simp only[hf]at this;grind
theorem Gr:16384*ab (cs (pi/2))<=Du:=by
 have h:=Ia.cos;have e:2^pw=2^(pw-264)*(2^250*2^14):=by
  have:=Sc;have e0:pw=pw-264+250+14:=by omega
  conv=>lhs;rw[e0,cGP,cGP]
  exact cGS _ _ _
 rw[fX,bS (show(0:Rat)<=((2^pw:Nat):Rat) by exact_mod_cast cHS _),e,cIO,cIO]at h;have bRN:((2^14:Nat):Rat)=16384:=by norm_cast
 have h2:=Uz (pw-264);have hq:(0:Rat)<((2^250:Nat):Rat):=by exact_mod_cast(dA)
 rw[bRN]at h;unfold Du;have hp:=xO (pw-264);generalize hf (pw-264)=H at *;generalize ((2^(pw-264):Nat):Rat)=W at *;generalize ((2^250:Nat):Rat)=B at *;generalize ab (cs (pi/2))=X at *;clear bRN e;have h3:B*(16384*(W*X))<=B*1:=by grind
 have h4:=cO hq h3;have:=aG (cGW hp) (show 0<=1-16384*(W*X) by grind);have h5:H*W*X=X:=by rw[h2];grind
 grind
theorem Xr:1024*ab (sn (pi/2)-1)<=Du:=by
 obtain⟨p1,p2⟩:=iH;have a2:ab (pi/2)<=4:=by rw[cK];grind
 have h1:=aNB a2;have hc:=Gr;have he:=Ls;have het:=aPU;have hd:=Rw (x:=pi/4) (by rw[cK];grind);rw[show 2*(pi/4)=pi/2 by grind]at hd;have s1:=(xY (x:=pi/4) (by grind) (by grind)).1;have c1:=(Gq (x:=pi/4) (by grind) (by grind)).1;have bVA:=cB (a:=0) (b:=pi/4) (c:=pi/4) (d:=pi/4) (by grind) (by grind) (by grind) (by grind);have q1:=cB (a:=pi/4) (b:=4/5) (c:=pi/4) (d:=4/5) (by grind) (by grind) (by grind) (by grind);have q2:=cB (a:=pi/4*(pi/4)) (b:=16/25) (c:=pi/4) (d:=4/5) (by grind) (by grind) (by grind) (by grind);have s2:1/2<=sn (pi/4):=by grind
 have c2:1/2<=cs (pi/4):=by grind
 have m:=cB (by grind) s2 (by grind) c2;have pE:1/4<=sn (pi/2):=by rw[cK]at hd;have:=Gn;grind
 have bUA:=cB (aO (cs (pi/2))) (show ab (cs (pi/2))<=Du/16384 by grind) (aO (cs (pi/2))) (show ab (cs (pi/2))<=1/16384 by grind);rw[<-fX]at bUA;have l1:=Dz (cs (pi/2)*cs (pi/2));have bSJ:ab (sn (pi/2)*sn (pi/2)-1)<=Du/16384:=by
  have:=bLJ (cs (pi/2));rw[cK]at h1 ⊢;grind
 have e:sn (pi/2)*sn (pi/2)-1=(sn (pi/2)-1)*(sn (pi/2)+1):=by grind
 rw[e,fX,bS (show 0<=sn (pi/2)+1 by grind)]at bSJ;have m2:=aG (aO (sn (pi/2)-1)) (show 0<=sn (pi/2)+1-1 by grind);have m3:=aGY;clear e l1 bUA hd s1 c1 bVA q1 q2 m h1 hc a2;generalize ab (sn (pi/2)-1)=d at *;grind
theorem aYQ{x:Rat}(hx:ab x<=4):ab (sn (x+pi/2)-cs x)<=Du:=by
 obtain⟨p1,p2⟩:=iH;have h:=aMO hx (show ab (pi/2)<=4 by rw[cK];grind);have hc:=Gr;have hs:=Xr;have he:=Ls;have het:=Gn;have aUV:=vY;have m1:=cB (aO _) (aEZ hx) (aO _) (show ab (cs (pi/2))<=Du/16384 by grind);have m2:=cB (aO _) (aHG hx) (aO _) (show ab (sn (pi/2)-1)<=Du/1024 by grind);have m3:=aG (show 0<=Du by grind) (show 0<=1/1048576-xR by grind);rw[<-fX]at m1 m2;rw[cK]at *;grind
theorem aYR{x:Rat}(hx:ab x<=4):ab (cs (x+pi/2)+sn x)<=Du:=by
 obtain⟨p1,p2⟩:=iH;have h:=Iu hx (show ab (pi/2)<=4 by rw[cK];grind);have hc:=Gr;have hs:=Xr;have he:=Ls;have het:=Gn;have aUV:=vY;have m1:=cB (aO _) (aHG hx) (aO _) (show ab (cs (pi/2))<=Du/16384 by grind);have m2:=cB (aO _) (aEZ hx) (aO _) (show ab (sn (pi/2)-1)<=Du/1024 by grind);have m3:=aG (show 0<=Du by grind) (show 0<=1/1048576-xR by grind);rw[<-fX]at m1 m2;rw[cK]at *;grind
def rs(k:Int)(s c:Rat):Rat:=if k%4=0 then s else if k%4=1 then c else if k%4=2 then -s else -c
def rc(k:Int)(s c:Rat):Rat:=if k%4=0 then c else if k%4=1 then -s else if k%4=2 then -c else s
def Sf(x:Rat)(k:Int):Rat:=rs k (sn (x-(k:Rat)*(pi/2))) (cs (x-(k:Rat)*(pi/2)))
def Cf(x:Rat)(k:Int):Rat:=rc k (sn (x-(k:Rat)*(pi/2))) (cs (x-(k:Rat)*(pi/2)))
theorem aMK{x:Rat}{k:Int}(h:ab (x-(k:Rat)*(pi/2))<=2):ab (Sf x (k+1)-Sf x k)<=Du/\ab (Cf x (k+1)-Cf x k)<=Du:=by
 obtain⟨p1,p2⟩:=iH;obtain⟨y,hy⟩:∃y,y=x-((k+1:Int):Rat)*(pi/2):=⟨_,rfl⟩;have hk:((k+1:Int):Rat)=(k:Rat)+1:=by norm_cast
 have e:x-(k:Rat)*(pi/2)=y+pi/2:=by rw[hy,hk];grind
 have bRU:ab y<=4:=by rw[cK]at *;grind
 have h1:=aYQ bRU;have h2:=aYR bRU;unfold Sf Cf;rw[<-hy,e];unfold rs rc;have hm:k%4=0\/k%4=1\/k%4=2\/k%4=3:=by omega
 have bAN:(k+1)%4=(k%4+1)%4:=by omega
 rw[bAN];rw[cK]at h1 h2;rcases hm with hm |hm |hm |hm <;> rw[hm] <;> simp <;> rw[cK,cK] <;> grind
theorem aZB{x:Rat}{k l:Int}(hk:ab (x-(k:Rat)*(pi/2))<=1)(hl:ab (x-(l:Rat)*(pi/2))<=1):ab (Sf x k-Sf x l)<=Du/\ab (Cf x k-Cf x l)<=Du:=by
 obtain⟨p1,p2⟩:=iH;have he:=aGY;have h3:l=k\/l=k+1\/k=l+1:=by
  have h1:(k:Rat)-(l:Rat)<2:=by
   refine Rat.not_le.1 fun hn=>?_
   have:=cB (show(0:Rat)<=2 by grind) hn (show(0:Rat)<=3/2 by grind) (show 3/2<=pi/2 by grind);rw[cK]at *;grind
  have h2:(l:Rat)-(k:Rat)<2:=by
   refine Rat.not_le.1 fun hn=>?_
   have:=cB (show(0:Rat)<=2 by grind) hn (show(0:Rat)<=3/2 by grind) (show 3/2<=pi/2 by grind);rw[cK]at *;grind
  have aBC:k-l<2:=by exact_mod_cast h1
  have aVG:l-k<2:=by exact_mod_cast h2
  omega
 rcases h3 with rfl |rfl |rfl
 ·rw[show Sf x l-Sf x l=0 by grind,show Cf x l-Cf x l=0 by grind,bS (by grind)];grind
 ·obtain⟨a,b⟩:=aMK (x:=x) (k:=k) (by rw[cK]at *;grind);rw[cK]at a b;rw[cK,cK];grind
 ·exact aMK (x:=x) (k:=l) (by rw[cK]at *;grind)
end R
namespace R
def pF(q:Nat):Nat:=pq/2^(pw-64-q)
theorem aJC{x:Rat}{Q m:Nat}(h1:(Q:Rat)<=((2^m:Nat):Rat)*x)(h2:((2^m:Nat):Rat)*x<(Q:Rat)+1):((Q/2^m:Nat):Rat)<=x/\x<((Q/2^m:Nat):Rat)+1:=by
 have hp:0<2^m:=dA;obtain⟨d1,d2⟩:=zF Q hp;have hq:(0:Rat)<((2^m:Nat):Rat):=by exact_mod_cast hp
 have hs:(Q:Rat)+1<=((2^m:Nat):Rat)*((Q/2^m:Nat):Rat)+((2^m:Nat):Rat):=by
  have:=cMX Q hp;exact_mod_cast(show Q+1<=2^m*(Q/2^m)+2^m by rw[cGQ,cBZ]at this;omega)
 constructor
 ·exact cO hq (by grind)
 ·exact sZ hq (by grind)
theorem Bc{q:Nat}(hq:q<=136000):(pF q:Rat)<=((2^q:Nat):Rat)*pi/\((2^q:Nat):Rat)*pi<(pF q:Rat)+1:=by
 have h:=Ia;have h1:=h.lo;have h2:=h.hi;have hw:=Sc;have e:2^(pw-64)=2^(pw-64-q)*2^q:=by rw[<-cGP];congr 1;omega
 rw[e,cIO,cMZ]at h1 h2;exact aJC h1 h2
theorem aZH{q:Nat}(hq:q+24<=136000):16777216*(pF q:Rat)+1<=((2^(q+24):Nat):Rat)*pi/\((2^(q+24):Nat):Rat)*pi<16777216*(pF q:Rat)+16777215:=by
 obtain⟨h1,h2⟩:=Bc hq;have hw:=Sc;have e:pF q=pF (q+24)/2^24:=by
  unfold pF;rw[cHG,<-cGP];congr 2;omega
 have bKH:pF (q+24)%2^24≠2^24-1:=Sj Ia.bLT _;have hx:pq<2^(pw-62):=by
  have h3:=Ia.top;have hp:0<2^(pw-104):=dA;have l2:=cMW hp (a:=pq);rw[h3]at l2;have e:2^(pw-62)=4398046511104*2^(pw-104):=by
   rw[show 4398046511104=2^42 from rfl,<-cGP];congr 1;omega
  omega
 have Sp:pF (q+24)%2^24≠0:=aJN hx (by omega) (Sj Ia.aUB _);have hd:=cGV (pF (q+24)) (2^24);rw[<-e]at hd;have l1:16777216*pF q+1<=pF (q+24):=by omega
 have bDV:=cDX (pF (q+24)) (show 0<2^24 by omega);have l2:pF (q+24)+1<=16777216*pF q+16777215:=by omega
 have bWD:(16777216:Rat)*(pF q:Rat)+1<=(pF (q+24):Rat):=by exact_mod_cast l1
 have bWC:(pF (q+24):Rat)+1<=(16777216:Rat)*(pF q:Rat)+16777215:=by exact_mod_cast l2
 grind
theorem bFG{q g X off:Nat}(hq:q+24<=136000)(hg:24<=g)(bNP:2*off<=2^(g-24))(hX:ab ((X:Rat)-((2^(q+g):Nat):Rat)*pi)<=(off:Rat)):off<=X/\(X-off)/2^g=pF q/\(X+off)/2^g=pF q:=by
 obtain⟨h1,h2⟩:=aZH hq;have e:2^(q+g)=2^(g-24)*2^(q+24):=by rw[<-cGP];congr 1;omega
 have eg:2^g=2^(g-24)*16777216:=by rw[show 16777216=2^24 from rfl,<-cGP];congr 1;omega
 rw[e,cIO,cMZ,cK]at hX;have hG:(0:Rat)<=((2^(g-24):Nat):Rat):=by exact_mod_cast cHS _
 have ho:(2:Rat)*(off:Rat)<=((2^(g-24):Nat):Rat):=by exact_mod_cast bNP
 have m1:=aG hG (show 0<=((2^(q+24):Nat):Rat)*pi-(16777216*(pF q:Rat)+1) by grind);have cAD:(0:Rat)<((2^(g-24):Nat):Rat):=by exact_mod_cast dA
 have m2:=Rat.mul_pos cAD (show 0<16777216*(pF q:Rat)+16777215-((2^(q+24):Nat):Rat)*pi by grind);have r1:2^(g-24)*16777216*pF q+off<=X:=by
  have:((2^(g-24):Nat):Rat)*16777216*(pF q:Rat)+(off:Rat)<=(X:Rat):=by grind
  exact_mod_cast this
 have r2:X+off<2^(g-24)*16777216*(pF q+1):=by
  have:(X:Rat)+(off:Rat)<((2^(g-24):Nat):Rat)*16777216*((pF q:Rat)+1):=by grind
  exact_mod_cast this
 rw[eg];generalize 2^(g-24)*16777216=B at *;refine⟨by omega,?_,?_⟩
 ·refine cMJ ?_ ?_
  ·rw[cGN];omega
  ·rw[cGN];omega
 ·refine cMJ ?_ ?_
  ·rw[cGN];omega
  ·rw[cGN];omega
theorem aEU{u W:Nat}(h:2*u<=W)(hW:0<W):∀k,sq u W k*2^k<=W
 |0=>by simp[sq]
 |k+1=>by
  have ih:=aEU h hW k;have h1:sq u W (k+1)<=sq u W k/2:=by
   rw[sq];refine cCL (cKC _ _) ?_;rw[cNN (by omega)];have h2:=cMV (sq u W k*u) W;have h3:sq u W k*u*2<=sq u W k*W:=by
    rw[cGS];exact cED _ (by omega)
   generalize sq u W k*u/W=z at *;have h4:z*2*W<=sq u W k*W:=by
    rw[cMK];omega
   exact Nat.le_of_mul_le_mul_right h4 hW
  have h2:sq u W (k+1)*2<=sq u W k:=by omega
  rw[cGO,cGN (2^k) 2,<-cGS];exact cCL (cDE _ h2) ih
theorem aET{u w:Nat}(h:2*u<=2^w):sq u (2^w) (w+1)=0:=by
 have h1:=aEU h (dA) (w+1);refine Nat.eq_zero_of_not_pos fun hp=>?_
 have:1*2^(w+1)<=sq u (2^w) (w+1)*2^(w+1):=cDE _ hp;rw[cGO]at this h1;have:=cEP (n:=w) (show 0<2 by omega);omega
theorem Xl{u W m:Nat}(h:sq u W m=0):∀k,sq u W (m+k)=0
 |0=>h
 |k+1=>by rw[<-cFG,sq,Xl h k];simp
theorem Ol(h:Nat):4^h=2^(2*h):=by rw[Nat.pow_mul]
theorem aHK{T:Rat}(hT0:0<=T)(bZS:T<=1){w1 h u s0 c0:Nat}(aOH:(u:Rat)<=((2^w1:Nat):Rat)*T)(bJX:((2^w1:Nat):Rat)*T<(u:Rat)+1)(hh:1<=h)(hw:w1+h<=1000000)(bJU:4*h+50<=w1+h)
  (Ny:(s0:Rat)=sum (fun k=>ss k*(sq u (2^(w1+h)) k:Rat)) (w1+h+1)) (bHU:(c0:Rat)=sum (fun k=>cc k*(sq u (2^(w1+h)) k:Rat)) (w1+h+1)) :
  ab (((Is (2^(w1+h)) h s0 c0).1:Rat)-((2^(w1+h):Nat):Rat)*sn T)<=((4^h*(2*(w1+h)+10):Nat):Rat)/\ab (((Is (2^(w1+h)) h s0 c0).2:Rat)-((2^(w1+h):Nat):Rat)*cs T)<=((4^h*(2*(w1+h)+10):Nat):Rat):=by
 have aSO:0<2^(w1+h):=dA;have bIB:(0:Rat)<((2^w1:Nat):Rat):=by exact_mod_cast dA
 have eW:((2^(w1+h):Nat):Rat)=((2^w1:Nat):Rat)*((2^h:Nat):Rat):=by rw[cGP,cIO]
 have g2:=Nb 2 h (by omega);have g2':(2:Rat)<=((2^h:Nat):Rat):=by
  exact_mod_cast(show 2<=2^h from cEQ (n:=2) (by omega) hh)
 have bMX:u<=2^w1:=by
  have:=aG (cGW bIB) (show 0<=1-T by grind);have:(u:Rat)<=((2^w1:Nat):Rat):=by grind
  exact_mod_cast this
 have bMZ:2*u<=2^(w1+h):=by
  have e:2^(w1+h)=2^w1*2^h:=cGP _ _ _;have:2^w1*2<=2^w1*2^h:=cED _ (cEQ (n:=2) (by omega) hh);omega
 obtain⟨x,hx,Qv⟩:=aFX (u:=u) aSO;have bWN:((2^h:Nat):Rat)*x*((2^w1:Nat):Rat)=(u:Rat):=by rw[eW]at hx;grind
 have bFV:((2^h:Nat):Rat)*x<=1:=by
  have:(u:Rat)<=((2^w1:Nat):Rat):=by exact_mod_cast bMX
  refine cO bIB ?_;grind
 have aKO:x<=1/2:=by
  have:=aG (show 0<=((2^h:Nat):Rat)-2 by grind) Qv;grind
 have hz:=aET bMZ;have ec:=aMF aSO hx Qv aKO (n:=w1+h+1) (by omega) (by omega) hz;have es:=aME aSO hx Qv aKO (n:=w1+h+1) (by omega) (by omega) hz;rw[<-bHU]at ec;rw[<-Ny]at es;have hn:((w1+h+1:Nat):Rat)=((w1+h:Nat):Rat)+1:=by norm_cast
 have aCN:((w1+h:Nat):Rat)<=1000000:=by exact_mod_cast hw
 have Dr:(0:Rat)<=((w1+h:Nat):Rat):=by exact_mod_cast cHS _
 rw[hn]at ec es;have aUV:=aGX (w:=w1+h) (by omega);have e4:((4^h*(2*(w1+h)+10):Nat):Rat)=((4^h:Nat):Rat)*(2*((w1+h:Nat):Rat)+10):=by
  rw[cIO];congr 1;push_cast;grind
 have aPE:((4^h:Nat):Rat)*((4^h:Nat):Rat)*1125899906842624<=((2^(w1+h):Nat):Rat):=by
  have:4^h*4^h*2^50<=2^(w1+h):=by
   rw[Ol,<-cGP,<-cGP];exact eY
  have bVW:(2^50:Nat)=1125899906842624:=by rfl
  rw[bVW]at this;exact_mod_cast this
 have g4:=Nb 4 h (by omega);have g42:((2^h:Nat):Rat)<=((4^h:Nat):Rat):=by exact_mod_cast Nat.pow_le_pow_left (show 2<=4 by omega) h
 have hq4:=aG (show 0<=((4^h:Nat):Rat) by grind) (show 0<=((4^h:Nat):Rat)-1 by grind);have hE:((4^h:Nat):Rat)*(2*((w1+h:Nat):Rat)+8)<=((4^h:Nat):Rat)*2097152:=by
  have:=aG (show 0<=((4^h:Nat):Rat) by grind) (show 0<=2097152-(2*((w1+h:Nat):Rat)+8) by grind);grind
 have bTO:0<=((4^h:Nat):Rat)*(2*((w1+h:Nat):Rat)+8):=aG (by grind) (by grind);have xP:100*(((4^h:Nat):Rat)*(2*((w1+h:Nat):Rat)+8)*(((4^h:Nat):Rat)*(2*((w1+h:Nat):Rat)+8)))<=((2^(w1+h):Nat):Rat):=by
  refine cGU ?_ aPE;have:=cB bTO hE bTO hE;grind
 have Zf:((4^h:Nat):Rat)*(2*((w1+h:Nat):Rat)+8)<=((2^(w1+h):Nat):Rat):=by
  refine cGU (cGU hE ?_) aPE;grind
 have hd:=aGZ (W:=2^(w1+h)) aSO xP (Xo Zf aUV) h x (2*((w1+h:Nat):Rat)+6) s0 c0 Qv bFV (cGU es (by grind)) (cGU ec (by grind)) (by grind);have hT:ab T<=1:=by rw[bS hT0];exact bZS
 have hX:ab (((2^h:Nat):Rat)*x)<=1:=by rw[bS (aG (by grind) Qv)];exact bFV
 have l1:=aEW hX hT;have l2:=aQN hX hT;have hd0:0<=T-((2^h:Nat):Rat)*x:=by
  have:((2^w1:Nat):Rat)*(((2^h:Nat):Rat)*x)<=((2^w1:Nat):Rat)*T:=by grind
  have:=cO bIB this;grind
 have bKO:((2^(w1+h):Nat):Rat)*(T-((2^h:Nat):Rat)*x)<=((2^h:Nat):Rat):=by
  rw[eW];have:((2^w1:Nat):Rat)*(T-((2^h:Nat):Rat)*x)<=1:=by grind
  have:=aG (show 0<=((2^h:Nat):Rat) by grind) (show 0<=1-((2^w1:Nat):Rat)*(T-((2^h:Nat):Rat)*x) by grind);grind
 rw[bS hd0]at l1 l2;have hW:(0:Rat)<=((2^(w1+h):Nat):Rat):=by exact_mod_cast cHS _
 obtain⟨r1,r2⟩:=hd;rw[e4];clear aOH bJX xP Zf aPE bWN hx eW ec es Ny bHU hz;generalize ((2^(w1+h):Nat):Rat)=W at *;generalize ((w1+h:Nat):Rat)=wr at *;generalize ((4^h:Nat):Rat)=F at *;generalize ((2^h:Nat):Rat)*x=y at *;generalize ((2^h:Nat):Rat)=H at *;rw[cK]at l1 l2 r1 r2;have m1:=aG hW (show 0<=2*(T-y)-(sn T-sn y) by grind);have m2:=aG hW (show 0<=2*(T-y)+(sn T-sn y) by grind);have m3:=aG hW (show 0<=(T-y+2*xR)-(cs T-cs y) by grind);have m4:=aG hW (show 0<=(T-y+2*xR)+(cs T-cs y) by grind);rw[cK,cK];refine⟨⟨?_,?_⟩,?_,?_⟩ <;> grind
end R
namespace R
def pz(e:Int):Rat:=if 0<=e then((2^e.toNat:Nat):Rat)else hf (-e).toNat
theorem mI(k:Nat):pz (k:Int)=((2^k:Nat):Rat):=by unfold pz;rw[aR,cFM]
theorem yY(k:Nat):pz (-(k:Int))=hf k:=by
 unfold pz
 by_cases h:k=0
 ·subst h;simp[hf]
 ·rw[aP,Int.neg_neg,cFM]
theorem fM:pz 0=1:=by rw[show(0:Int)=((0:Nat):Int)from rfl,mI];norm_cast
theorem dU(e:Int):0<pz e:=by
 unfold pz;split
 ·exact_mod_cast dA
 ·exact xO _
theorem kF(e:Int):pz (e+1)=2*pz e:=by
 by_cases h:0<=e
 ·obtain⟨k,rfl⟩:=cGR h;rw[show(k:Int)+1=((k+1:Nat):Int) by omega,mI,mI,Lk]
 ·obtain⟨k,hk⟩:=cGR (show 0<=-e by omega);have e1:e=-(k:Int):=by omega
  subst e1;obtain⟨j,rfl⟩:∃j,k=j+1:=⟨k-1,by omega⟩;rw[show -((j+1:Nat):Int)+1=-(j:Int) by omega,yY,yY,hf];grind
theorem eN(a:Int):∀k:Nat,pz (a+k)=pz a*((2^k:Nat):Rat)
 |0=>by rw[show a+((0:Nat):Int)=a by omega,cLQ];grind
 |k+1=>by
  rw[show a+((k+1:Nat):Int)=(a+k)+1 by omega,kF,eN a k,Lk];grind
theorem jQ(a b:Int):pz (a+b)=pz a*pz b:=by
 by_cases h:0<=b
 ·obtain⟨k,rfl⟩:=cGR h;rw[eN,mI]
 ·obtain⟨k,hk⟩:=cGR (show 0<=-b by omega);have h1:=eN (a+b) k;rw[show a+b+(k:Int)=a by omega]at h1;have e1:b=-(k:Int):=by omega
  have h2:=Uz k;rw[show pz b=hf k by rw[e1,yY],h1];rw[cMZ,Rat.mul_comm ((2^k:Nat):Rat),h2];grind
theorem cY{a b:Int}(h:a<=b):pz a<=pz b:=by
 obtain⟨k,hk⟩:=cGR (show 0<=b-a by omega);rw[show b=a+(k:Int) by omega,eN];have h1:=dU a;have:=aG (cGW h1) (show 0<=((2^k:Nat):Rat)-1 by have:=Nb 2 k (by omega);grind);grind
theorem aXC(k:Nat):hf k=pz (-(k:Int)):=(yY k).symm
theorem Ue(e:Int):pz e*pz (-e)=1:=by rw[<-jQ,Int.add_right_neg,fM]
def qz(p:Int×Int):Rat:=(p.1:Rat)*pz p.2
theorem pV{p:Int×Int}(h:p.1=0):qz p=0:=by
 unfold qz;rw[h];have:((0:Int):Rat)=0:=by norm_cast
 rw[this];grind
theorem Ya{p q:Int×Int}{g:Int}(hp:g<=p.2)(hq:g<=q.2):qz p<=qz q↔p.1*((2^(p.2-g).toNat:Nat):Int)<=q.1*((2^(q.2-g).toNat:Nat):Int):=by
 unfold qz;have e1:pz p.2=pz g*((2^(p.2-g).toNat:Nat):Rat):=by
  rw[<-eN];congr 1;omega
 have e2:pz q.2=pz g*((2^(q.2-g).toNat:Nat):Rat):=by
  rw[<-eN];congr 1;omega
 have hg:=dU g;have c1:((p.1*((2^(p.2-g).toNat:Nat):Int):Int):Rat)=(p.1:Rat)*((2^(p.2-g).toNat:Nat):Rat):=by push_cast;rfl
 have c2:((q.1*((2^(q.2-g).toNat:Nat):Int):Int):Rat)=(q.1:Rat)*((2^(q.2-g).toNat:Nat):Rat):=by push_cast;rfl
 rw[<-Rat.intCast_le_intCast,c1,c2,e1,e2];generalize ((2^(p.2-g).toNat:Nat):Rat)=x;generalize ((2^(q.2-g).toNat:Nat):Rat)=y;constructor
 ·intro h;exact cO hg (by grind)
 ·intro h;have:=aG (cGW hg) (show 0<=(q.1:Rat)*y-(p.1:Rat)*x by grind);grind
end R
namespace M
open Go AI W
def eZ(p q:Int×Int):Int:=lF (bV.oD p q) (bV.oC p q)
def bA(p:Int×Int):Int:=p.2+(bl p.1.natAbs:Nat)-1
abbrev yM:=Bool×List Int×Int×Bool×List Int×Int
def iO(s:yM):gW:=(s.1,s.2.1,s.2.2.1)
def iP(s:yM):gW:=(s.2.2.2.1,s.2.2.2.2.1,s.2.2.2.2.2)
def fD(s:yM):Prop:=aU (iO s)/\aU (iP s)/\eZ (dv (iO s)) (dv (iP s))<=0
def wY(a b:Int×Int):D:=.agg [.sc (.bool (isNeg a.1)),.ints .u64 (M6.dg a.1.natAbs),.sc (.int .i64 a.2),.sc (.bool (isNeg b.1)),.ints .u64 (M6.dg b.1.natAbs),.sc (.int .i64 b.2)]
def nU(a b:Int×Int):yM:=(isNeg a.1,M6.dg a.1.natAbs,a.2,isNeg b.1,M6.dg b.1.natAbs,b.2)
theorem qF(a b:Int×Int):dv (iO (nU a b))=a:=dZ a
theorem qG(a b:Int×Int):dv (iP (nU a b))=b:=dZ b
theorem yW{a b:Int×Int}(ha:kQ a)(hb:kQ b)(h:eZ a b<=0):fD (nU a b):=by
 refine⟨dW ha,dW hb,?_⟩;rw[qF,qG];exact h
theorem fD.wY{s:yM}(h:fD s):M.wY (dv (iO s)) (dv (iP s))=.agg [.sc (.bool s.1),.ints .u64 s.2.1,.sc (.int .i64 s.2.2.1),.sc (.bool s.2.2.2.1),.ints .u64 s.2.2.2.2.1,.sc (.int .i64 s.2.2.2.2.2)]:=by
 have h1:=h.1.Fp.cells;have h2:=h.2.1.Fp.cells;unfold M.wY;have e1:(dv (iO s)).1=wv ((iO s).1,(iO s).2.1):=rfl;have e2:(dv (iP s)).1=wv ((iP s).1,(iP s).2.1):=rfl;rw[e1,e2,h1.1,h1.2,h2.1,h2.2];rfl
theorem aVZ{a b:Int}:lF a b<=0↔a<=b:=by unfold lF;split <;> (try split) <;> omega
theorem aWA{a b:Int}:lF a b=0↔a=b:=by unfold lF;split <;> (try split) <;> omega
theorem Lx(p q:Int×Int):bV.iM p q<=p.2/\bV.iM p q<=q.2:=Uo
theorem mD{p q:Int×Int}:eZ p q<=0↔R.qz p<=R.qz q:=by
 obtain⟨h1,h2⟩:=Lx p q;unfold eZ;rw[aVZ,R.Ya h1 h2];rfl
theorem zM{p q:Int×Int}:0<eZ p q↔R.qz q<R.qz p:=by
 have:=mD (p:=p) (q:=q);constructor
 ·intro h;refine Rat.not_le.1 fun hn=>?_;have:=this.2 hn;omega
 ·intro h;refine Int.not_le.1 fun hn=>?_;exact Rat.not_lt.2 (this.1 hn) h
theorem Tb(p:Int×Int):eZ p p<=0:=mD.2 Rat.le_refl
theorem pD(z e:Int):R.qz (aQ z e)=(z:Rat)*R.pz e:=by
 by_cases hz:z=0
 ·subst hz;rw[fR,R.pV rfl];have:((0:Int):Rat)=0:=by norm_cast
  rw[this];grind
 ·obtain⟨h1,h2⟩:=lW (e:=e) hz;unfold R.qz;rw[h2]
  conv=>rhs;rw[h1]
  rw[zB,R.eN,cNA,cNB];grind
theorem nV(p:Int×Int):R.qz (-p.1,p.2)=- R.qz p:=by
 unfold R.qz;rw[Rat.intCast_neg];grind
theorem Ud(p q:Int×Int):R.qz (bV.oP p q)=R.qz p+R.qz q:=by
 unfold bV.oP;split
 ·rename_i h;rw[R.pV h];grind
 ·split
  ·rename_i h;rw[R.pV h];grind
  ·obtain⟨h1,h2⟩:=Lx p q;rw[pD];unfold bV.oD bV.oC R.qz;have e1:R.pz p.2=R.pz (bV.iM p q)*((2^(p.2-bV.iM p q).toNat:Nat):Rat):=by rw[<-R.eN];congr 1;omega
   have e2:R.pz q.2=R.pz (bV.iM p q)*((2^(q.2-bV.iM p q).toNat:Nat):Rat):=by rw[<-R.eN];congr 1;omega
   rw[e1,e2,Rat.intCast_add,cNA,cNA,cNB,cNB];grind
end M
open Go.Value(int bool slice)
open AI.S(sc ints)
namespace W
open Go AI M
namespace Fm
def E:=mE [] 11 [] [] []
def aE:=bd f52
theorem aT:Nk E aE:=nk
theorem start a:aF E f52 aE [D.s (sc (int i64 a))]=letI A:=int i64 0;aB (a==32) (some [D.agg [sc (int i64 24),sc (int i64 (-149:Int)),sc (int i64 31)]]) (aB (a==64) (some [D.agg [sc (int i64 53),sc (int i64 (-1074:Int)),sc (int i64 63)]]) (some [D.agg [sc A,sc A,sc A]])):=eJ aT
def Gc(f:Int):Int×Int×Int:=if f=32 then(24,-149,31)else if f=64 then(53,-1074,63)else(0,0,0)
def sp(f:Int):Prop×List D:=(True,[.agg [.sc (.int .i64 (Gc f).1),.sc (.int .i64 (Gc f).2.1),.sc (.int .i64 (Gc f).2.2)]])
theorem spec:iS E f52 aE (pN .i64) sp:=by
 intro f h;refine(start f).trans ?_;unfold sp Gc
 by_cases h1:f=32
 ·rw[bJ h1,if_pos h1]
 ·rw[bB h1,if_neg h1]
  by_cases h2:f=64
  ·rw[bJ h2,if_pos h2]
  ·rw[bB h2,if_neg h2]
def aJ:dJ:=orc1 (pN .i64) sp
theorem ok:OK 52 aJ:=(dY E aE aC func52).oU rfl spec
end Fm
namespace mJ
def E:=mE [] 11 [] [] []
def aE:=bd f85
theorem aT:Nk E aE:=nk
theorem start a b c:aF E f85 aE [D.agg [sc (int i64 a),sc (int i64 b),sc (int i64 c)]]=if c<0 then none else if i64.wrap (a-1)<0 then none else some [D.s (sc (int u64 (u64.wrap (u64.wrap ((1:Int)*(↑((2:Nat)^min c.toNat 64):Int))-u64.wrap ((1:Int)*(↑((2:Nat)^min (i64.wrap (a-1)).toNat 64):Int))))))]:=eJ aT
def xC(w:Int×Int×Int):Prop:=w=(24,-149,31)\/w=(53,-1074,63)
def qB(w:Int×Int×Int):Int:=if w.1=24 then 2139095040 else 9218868437227405312
def sp(w:Int×Int×Int):Prop×List D:=(xC w,[.s (.sc (.int .u64 (qB w)))])
theorem spec:iS E f85 aE (pG (.pair (sN .i64) (.pair (sN .i64) (sN .i64)))) sp:=by
 intro w h;refine(start w.1 w.2.1 w.2.2).trans ?_;rcases(show xC w from h)with rfl |rfl <;> rfl
def aJ:dJ:=orc1 (pG (.pair (sN .i64) (.pair (sN .i64) (sN .i64)))) sp
theorem ok:OK 85 aJ:=(dY E aE aC func85).oU rfl spec
end mJ
namespace aJZ
def E:=mE [] 24 [] [(3,[0,1])] [3]
def aE:=bd f189
theorem aT:Nk E aE:=nk
def J3 a b:=lK E f189 aE 3 [jK a,bP b]
theorem start a b:aF E f189 aE [D.s (ints u64 a),D.s (sc (int i64 b))]=letI A:=some [D.s (sc (bool false))];aB (decide (b<0)) A (aB (decide ((a.length:Int)<=i64.wrap (b.tdiv 64))) A (aJZ.J3 a b)):=eJ aT
theorem iB a b:J3 a b=letI A:=b.tdiv 64;if 0<=i64.wrap A/\i64.wrap A<(a.length:Int)then if b.tmod 64<(0:Int)then none else some [D.s (sc (bool (fC BinOp.and u64 (a.getD (i64.wrap A).toNat 0/(↑((2:Nat)^min (b.tmod 64).toNat 64):Int)) 1==(1:Int))))]else none:=cJ aT
def sp(a:List Int)(i:Int):Prop×List D:=(M6.cA a/\a.length<=1099511627776/\-9223372036854775808<=i/\i<9223372036854775808,[.s (.sc (.bool (decide (0<=i)&&decide (M6.val a/2^i.toNat%2=1))))])
theorem aWJ{x:Int}(h:0<=x)(h':x<18446744073709551616):fC .and .u64 x 1=x%2:=by
 rw[aAK h h' (by omega) (by omega)];have:x.toNat &&& 1=x.toNat%2:=Nat.and_one_is_mod _;show((x.toNat &&& 1:Nat):Int)=_;rw[this];omega
theorem spec:fN E f189 aE (pI .u64) (pN .i64) sp:=by
 rintro a i ⟨ha,hl,h1,h2⟩;refine(start a i).trans ?_;show _=some [D.s (.sc (.bool (decide (0<=i)&&decide (M6.val a/2^i.toNat%2=1))))]
 by_cases hn:i<0
 ·rw[aM hn,decide_eq_false (show ¬0<=i by omega),cGY]
 ·have t1:i.tdiv 64=i/64:=cJD (by omega);have t2:i.tmod 64=i%64:=cJE (by omega);have e1:(i/64).toNat=i.toNat/64:=by omega
  have e2:(i%64).toNat=i.toNat%64:=by omega
  have ps:2^i.toNat=18446744073709551616^(i.toNat/64)*2^(i.toNat%64):=by
   rw[show(18446744073709551616:Nat)=2^64 from rfl,<-Nat.pow_mul,<-cGP];congr 1;omega
  rw[aL hn,decide_eq_true (show 0<=i by omega),cER,t1,wrap_i64 (n:=i/64),ps,<-cHG]
  by_cases hz:(a.length:Int)<=i/64
  ·have hv:M6.val a/18446744073709551616^(i.toNat/64)=0:=by
    apply cHM;exact cCM (M6.dT ha) (eY)
   rw[aM hz,hv,cLJ];rfl
  ·have g:=ha.get (i.toNat/64);have hv:=M6.iJ a (n:=i.toNat/64) (by omega);have hq:M6.val a/18446744073709551616^(i.toNat/64)=M6.val (a.drop (i.toNat/64)):=by
    rw[hv,cIF _ _ (dA),cHM (M6.iG ha _),cBR]
   rw[aL hz,iB,t1,t2,wrap_i64 (n:=i/64),aR,aP,e1,e2,hq,M6.iK];have em:min (i.toNat%64) 64=i.toNat%64:=by omega
   have kD:i.toNat%64<64:=cDX _ (by omega);rw[em];generalize i.toNat%64=k at *;generalize a.getD (i.toNat/64) 0=x at *;generalize M6.val (a.drop (i.toNat/64+1))=r at *;have hp:0<2^k:=dA;have e3:(x.toNat+18446744073709551616*r)/2^k%2=x.toNat/2^k%2:=by
    have:18446744073709551616*r=2^k*(2*(2^(63-k)*r)):=by
     rw[show(18446744073709551616:Nat)=2^64 from rfl,show 64=k+(1+(63-k))from by omega,cGP,cGP,cGS,cGS]
    rw[this,cIF _ _ hp];omega
   rw[e3];have ex:x/((2^k:Nat):Int)=((x.toNat/2^k:Nat):Int):=by
    obtain⟨n,rfl⟩:=cGR g.1;rw[<-cHF];rfl
   have hle:x.toNat/2^k<=x.toNat:=cKC _ _;rw[ex];clear ex e3 hq hv ps;generalize x.toNat/2^k=q at *;rw[aWJ (by omega) (by omega)];congr 4
   by_cases h:q%2=1
   ·rw[decide_eq_true h];have:((q:Int)%2)=1:=by omega
    rw[this];rfl
   ·rw[decide_eq_false h];have:((q:Int)%2)=0:=by omega
    rw[this];rfl
def aJ:dJ:=orc2 (pI .u64) (pN .i64) sp
theorem ok:OK 189 aJ:=(dY E aE aC func189).lD rfl spec
end aJZ
namespace oB
def E:=mE [] 34 [] [] []
def aE:=bd f225
theorem aT:Nk E aE:=nk
theorem start a b c d e:aF E f225 aE [D.s (sc (int i64 a)),D.s (sc (bool b)),D.s (sc (bool c)),D.s (sc (bool d)),D.s (sc (int i64 e))]=letI B:=some [D.s (sc (bool d))];letI A:=some [D.s (sc (bool false))];aB (a==0) (aB b B A) (aB (a==1) (aB (!b) B A) (aB (decide (0<e)) (some [D.s (sc (bool true))]) (aB (e==0) (some [D.s (sc (bool c))]) A))):=eJ aT
def oA(w:Int)(neg bVQ rest:Bool)(half:Int):Bool:=bif w==0 then neg&&rest else bif w==1 then !neg&&rest else(decide (0<half)||(half==0&&bVQ))
def sp(a:Int)(b c d:Bool)(e:Int):Prop×List D:=(True,[.s (.sc (.bool (oA a b c d e)))])
theorem spec(a:Int)(b c d:Bool)(e:Int)(h:(sp a b c d e).1):aF E f225 aE [(pN .i64).put a,pB.put b,pB.put c,pB.put d,(pN .i64).put e]=some (sp a b c d e).2:=by
 refine(start a b c d e).trans ?_;show _=some [D.s (.sc (.bool (oA a b c d e)))];unfold oA aB;cases (a==0) <;> cases (a==1) <;> cases b <;> cases c <;> cases d <;> cases (decide (0<e)) <;> cases (e==0) <;> rfl
def aJ:dJ:=orc5 (pN .i64) pB pB pB (pN .i64) sp
theorem ok:OK 225 aJ:=(dY E aE aC func225).bLW rfl spec
end oB
namespace pQ
def E:=mE [] 7 [] [] []
def aE:=bd f95
theorem aT:Nk E aE:=nk
theorem start a:aF E f95 aE [D.s (sc (int u64 a))]=aB (a==0) (some [D.s (sc (slice none 0 0))]) (some [D.own 22 u64 [a]]):=eJ aT
def sp(w:Int):Prop×List D:=(0<=w/\w<18446744073709551616,[.s (.ints .u64 (M6.dg w.toNat))])
theorem spec:aRJ E f95 aE (pN .u64) sp:=by
 intro w h;have e:=start w;obtain⟨h1,h2⟩:=h;unfold sp;simp only
 by_cases hz:w=0
 ·rw[bJ hz]at e;subst hz;rw[show(0:Int).toNat=0 from rfl,M6.cD];exact⟨_,e,.cons (Ap.nil _) .nil⟩
 ·rw[bB hz]at e;have:M6.dg w.toNat=[w]:=by
   rw[M6.oL (by omega),cME (by omega),cHM (by omega),M6.cD];congr 1;omega
  rw[this];exact⟨_,e,.cons (Ap.own _ _ _) .nil⟩
def aJ:dJ:=orc1 (pN .u64) sp
theorem ok:OK 95 aJ:=(dY E aE aC func95).bET rfl spec
end pQ
namespace aAR
def E:=mE [(189,aJZ.aJ),(225,oB.aJ),(99,Cm.aJ),(95,pQ.aJ),(100,wF.aJ)] 39 [24,36] [] []
def aE:=bd f190
theorem aT:Nk E aE:=nk
theorem start a b c d e:aF E f190 aE [D.s (sc (int i64 a)),D.s (sc (bool b)),D.s (ints u64 c),D.s (sc (bool d)),D.s (sc (int i64 e))]=letI C:=M6.val c+M6.val (M6.dg 1);letI B:=bif dK.nS C then(0:Int)else(5:Int);letI A:=bif dK.nS C then M6.dg C else [];letI F:=bif B==0 then zs b (M6.val A)else(0:Int);aN (M6.cA c/\c.length<=1099511627776/\(-9223372036854775808:Int)<=(0:Int)/\(0:Int)<(9223372036854775808:Int)) (aN True (aB (!oB.oA a b (true&&decide (M6.val c/1%(2:Nat)=(1:Nat))) d e) (aN (M6.cN c/\c.length<=1099511627776) (some [D.agg [sc (bool (isNeg (zs b (M6.val c)))),ints u64 (M6.dg (zs b (M6.val c)).natAbs)],D.s (sc (int i64 0))])) (aN ((0:Int)<=(1:Int)/\(1:Int)<(18446744073709551616:Int)) (aN (M6.cN c/\M6.cN (M6.dg 1)/\c.length<=8192/\(M6.dg 1).length<=8192) (aN (M6.cN A/\A.length<=1099511627776) (some [D.agg [sc (bool (isNeg F)),ints u64 (M6.dg F.natAbs)],D.s (sc (int i64 B))])))))):=eJ aT
def sp(w:Int)(neg:Bool)(q:List Int)(rest:Bool)(half:Int):Prop×List D:=(M6.cN q/\q.length<=8192,
 wE (fit (M6.val q+bif oB.oA w neg (decide (M6.val q%2=1)) rest half then 1 else 0)) (zs neg (M6.val q+bif oB.oA w neg (decide (M6.val q%2=1)) rest half then 1 else 0)))
theorem spec(w:Int)(neg:Bool)(q:List Int)(rest:Bool)(half:Int)(h:(sp w neg q rest half).1):aF E f190 aE [(pN .i64).put w,pB.put neg,(pI .u64).put q,pB.put rest,(pN .i64).put half]=some (sp w neg q rest half).2:=by
 obtain⟨h1,h2⟩:=h;have hb:=zQ h1.jA h2;refine(start w neg q rest half).trans ?_;unfold sp
 try dsimp only
 rw[gP ⟨h1.jA,by omega,by omega,by omega⟩,gP trivial,Nat.div_one,cER];cases hm:oB.oA w neg (decide (M6.val q%2=1)) rest half with
 |false =>
  have hf:fit (M6.val q+0)=true:=decide_eq_true (by rw[cCN];omega);rw[cNC,bT,gP ⟨h1,by omega⟩,cond_false,hf];rfl
 |true =>
  have o1:=gA (n:=1) (k:=1) (dP.2 (by omega));rw[cDP,bF,gP ⟨by omega,by omega⟩,gP ⟨h1,M6.aY _,h2,by omega⟩,M6.bD,gP (Lo (fun h=>by rw[show dK.nS _=_ from Db]at h;exact zI h)),Kw,show dK.nS _=_ from Db,cond_true]
def aJ:dJ:=orc5 (pN .i64) pB (pI .u64) pB (pN .i64) sp
theorem ok:OK 190 aJ:=(dY E aE (aA aJZ.ok (aA oB.ok (aA Cm.ok (aA pQ.ok (aA wF.ok aC))))) func190).bLW rfl spec
end aAR
namespace nW
def E:=mE [(96,fW.aJ),(104,Hj.aJ),(103,Fg.aJ),(189,aJZ.aJ),(190,aAR.aJ)] 61 [23,58] [(9,[0,2,4,6,8,10]),(14,[0,4,6,8,10,11])] [9,14]
def aE:=bd f149
theorem aT:Nk E aE:=nk
def J9 a b c d e f g:=lK E f149 aE 9 [bP a,bP b,dR 2 27 [dG c,gM d],dR 3 27 [dG e,sc (slice none 0 0)],jK f,sE g]
def aWM a b c d e f g:=lK E f149 aE 14 [bP a,dR 1 27 [dG b,gM c],dR 2 27 [dG d,sc (slice none 0 0)],jK e,sE f,bP g]
theorem start a b d c:aF E f149 aE [D.s (sc (int i64 a)),D.agg [sc (bool b),ints u64 d],D.s (sc (int i64 c))]=letI A:=M6.dg (M6.val d/(2:Nat)^c.toNat);aB (decide (c<0)) (some [D.agg [sc (bool false),sc (slice none 0 0)],D.s (sc (int i64 1))]) (aN (d.length<=1099511627776) (aB (!fW.oZ (b,d)) (some [D.agg [sc (bool false),sc (slice none 0 0)],D.s (sc (int i64 2))]) (aN (M6.cN d/\d.length<=8192/\0<=c/\c<4611686018427387904) (aB (decide (0<(d.length:Int))) (aN (M6.cA d/\d.length<=1099511627776) (nW.J9 a c b d false A (decide ((↑(tz (M6.val d)):Int)<c)))) (nW.J9 a c b d false A false))))):=eJ aT
theorem aAS a b c d e f g:J9 a b c d e f g=aN (M6.cA d/\d.length<=1099511627776/\(-9223372036854775808:Int)<=i64.wrap (b-1)/\i64.wrap (b-1)<9223372036854775808) (aB (decide (0<=i64.wrap (b-1))&&decide (M6.val d/(2:Nat)^(i64.wrap (b-1)).toNat%2=(1:Nat))) (aN (M6.cA d/\d.length<=1099511627776) (aB ((↑(tz (M6.val d)):Int)==i64.wrap (b-1)) (nW.aWM a c d e f g 0) (nW.aWM a c d e f g 1))) (nW.aWM a c d e f g (-1:Int))):=cJ aT
theorem Wr a b c d e f g:aWM a b c d e f g=letI A:=M6.val e+bif oB.oA a b (decide (M6.val e%2=(1:Nat))) f g then(1:Nat)else(0:Nat);letI B:=bif fit A then zs b A else(0:Int);aN (M6.cN e/\e.length<=8192) (some [D.agg [sc (bool (isNeg B)),ints u64 (M6.dg B.natAbs)],D.s (sc (int i64 (bif fit A then(0:Int)else(5:Int))))]):=cJ aT
def aFI(v:Nat)(n:Int):Bool:=decide (v≠0)&&decide ((tz v:Int)<n)
def Oh(v:Nat)(n:Int):Int:=bif decide (0<=n-1)&&decide (v/2^(n-1).toNat%2=1)then(bif ((tz v:Int)==n-1)then 0 else 1)else -1
def wJ(w:Int)(neg:Bool)(v:Nat)(n:Int):Nat:=v/2^n.toNat+bif oB.oA w neg (decide (v/2^n.toNat%2=1)) (aFI v n) (Oh v n)then 1 else 0
def sp(w:Int)(x:Bool×List Int)(n:Int):Prop×List D:=(iE x/\0<=n/\n<4611686018427387904,wE (fit (wJ w x.1 (M6.val x.2) n)) (zs x.1 (wJ w x.1 (M6.val x.2) n)))
theorem spec:oG E f149 aE (pN .i64) pW (pN .i64) sp:=by
 rintro w x n ⟨hx,h0,h1⟩;refine(start w x.1 x.2 n).trans ?_;have l1:=hx.len;have f1:=fW.lY hx;have b1:=hx.bl;obtain⟨p,a⟩:=x;have n1:M6.cN a:=hx.1
 try dsimp only at *
 unfold sp
 try dsimp only
 have hq:=gA (n:=M6.val a/2^n.toNat) (k:=8192) (cCL (gF (cKC _ _)) b1);have j14:∀(r:Bool) (hf:Int),aWM w p a false (M6.dg (M6.val a/2^n.toNat)) r hf=some (wE (fit (M6.val a/2^n.toNat+bif oB.oA w p (decide (M6.val a/2^n.toNat%2=1)) r hf then 1 else 0)) (zs p (M6.val a/2^n.toNat+bif oB.oA w p (decide (M6.val a/2^n.toNat%2=1)) r hf then 1 else 0))):=by
  intro r hf;rw[Wr,gP ⟨M6.aY _,hq⟩,M6.bD];rfl
 have wn:i64.wrap (n-1)=n-1:=by rw[wrap_i64]
 have j9:∀r:Bool,J9 w n p a false (M6.dg (M6.val a/2^n.toNat)) r=some (wE (fit (M6.val a/2^n.toNat+bif oB.oA w p (decide (M6.val a/2^n.toNat%2=1)) r (Oh (M6.val a) n)then 1 else 0)) (zs p (M6.val a/2^n.toNat+bif oB.oA w p (decide (M6.val a/2^n.toNat%2=1)) r (Oh (M6.val a) n)then 1 else 0))):=by
  intro r;rw[aAS,wn,gP ⟨n1.jA,by omega,by omega,by omega⟩,j14,j14,j14,gP ⟨n1.jA,by omega⟩];unfold Oh aB;cases (decide (0<=n-1)&&decide (M6.val a/2^(n-1).toNat%2=1))with
  |false=>rfl
  |true=>cases ((tz (M6.val a):Int)==n-1) <;> rfl
 have hz:=M6.cZ n1;rw[aL,gP,f1,cDP,bF,gP ⟨n1,l1,h0,h1⟩,j9,j9,gP ⟨n1.jA,by omega⟩];unfold wJ aFI
 by_cases h:M6.val a=0
 ·rw[aL (by have:=hz.2 h;omega),decide_eq_false (show ¬(M6.val a≠0) by omega),cGY]
 ·rw[aM (by have:a.length≠0:=fun hl=>h (hz.1 hl);omega),decide_eq_true (show(M6.val a≠0) by omega),cER]
def aJ:dJ:=orc3 (pN .i64) pW (pN .i64) sp
theorem ok:OK 149 aJ:=(dY E aE (aA fW.ok (aA Hj.ok (aA Fg.ok (aA aJZ.ok (aA aAR.ok aC))))) func149).xN rfl spec
end nW
namespace pT
def E:=mE [(149,nW.aJ)] 11 [8] [] []
def aE:=bd f107
theorem aT:Nk E aE:=nk
theorem start a c b:aF E f107 aE [D.agg [sc (bool a),ints u64 c],D.s (sc (int i64 b))]=letI A:=nW.wJ 2 a (M6.val c) b;letI B:=bif fit A then zs a A else(0:Int);aN (iE (a,c)/\0<=b/\b<4611686018427387904) (some [D.agg [sc (bool (isNeg B)),ints u64 (M6.dg B.natAbs)],D.s (sc (int i64 (bif fit A then(0:Int)else(5:Int))))]):=eJ aT
def Be(v:Nat)(n:Int):Nat:=nW.wJ 2 false v n
theorem aUD(p:Bool)(v:Nat)(n:Int):nW.wJ 2 p v n=Be v n:=rfl
theorem small{v:Nat}{n:Int}(h:0<=n)(hb:bl v<=524288):fit (Be v n)=true:=by
 refine decide_eq_true (cCL (gF ?_) hb);unfold Be nW.wJ oB.oA;rw[show((2:Int)==0)=false from rfl,show((2:Int)==1)=false from rfl,cond_false,cond_false];unfold nW.Oh
 by_cases hc:0<=n-1/\v/2^(n-1).toNat%2=1
 ·have hv:v≠0:=fun hz=>by rw[hz,cLJ]at hc;omega
  have hn:2^n.toNat=2^(n-1).toNat*2:=by rw[<-cGO];congr 1;omega
  have hp:=cEP (n:=(n-1).toNat) (show 0<2 by omega);have h1:v/2^n.toNat<=v/2:=cMI (by omega) (by omega);have h2:∀b:Bool,(bif b then(1:Nat)else 0)<=1:=by intro b;cases b <;> decide
  by_cases cAI:v=1
  ·subst cAI;have Ao:2^(n-1).toNat=1:=by
    rcases cCF 1 (2^(n-1).toNat)with h |h
    ·rw[cHM h]at hc;omega
    ·omega
   have ht:tz 1=0:=by simp[tz]
   have aCN:n=1:=by
    rcases cNP (n-1).toNat with h |h
    ·omega
    ·have:=cEQ (n:=2) (by omega) h;omega
   subst aCN;rw[ht];decide
  ·exact cCL (Nat.add_le_add h1 (h2 _)) (by omega)
 ·have:(decide (0<=n-1)&&decide (v/2^(n-1).toNat%2=1))=false:=by
   rw[cNJ]
   by_cases h0:0<=n-1
   ·exact .inr (decide_eq_false fun h=>hc ⟨h0,h⟩)
   ·exact .inl (decide_eq_false h0)
  rw[this];exact cCL (Nat.le_of_eq (cCN _)) (cKC _ _)
def sp(x:Bool×List Int)(n:Int):Prop×List D:=(iE x/\0<=n/\n<4611686018427387904,[wD (zs x.1 (Be (M6.val x.2) n)),.s (.sc (.int .i64 0))])
theorem spec:fN E f107 aE pW (pN .i64) sp:=by
 intro x n h;have h':=h;obtain⟨hx,h0,h1⟩:=h;refine(start x.1 x.2 n).trans ((gP h').trans ?_);unfold sp
 try dsimp only
 rw[aUD,small h0 hx.bl];rfl
def aJ:dJ:=orc2 pW (pN .i64) sp
theorem ok:OK 107 aJ:=(dY E aE (aA nW.ok aC) func107).lD rfl spec
end pT
namespace kM
def E:=mE [(106,uB.aJ),(85,mJ.aJ),(107,pT.aJ),(48,Cn.aJ)] 71 [19] [(9,[3,8,9]),(12,[3,8,10])] [9,12]
def aE:=bd f54
theorem aT:Nk E aE:=nk
def J9 a b c d e f:=lK E f54 aE 9 [dR 0 98 [cF a,cF b,cF c],bP d,dR 2 27 [dG e,gM f]]
def bDE a b c d e:=lK E f54 aE 12 [dR 0 98 [cF a,cF b,cF c],bP d,dM e]
theorem start a d e b c:aF E f54 aE [D.agg [sc (int i64 a),sc (int i64 d),sc (int i64 e)],D.s (ints u64 b),D.s (sc (int i64 c))]=letI G:=i64.wrap (c+(↑(bl (M6.val b)):Int))-1;letI A:=i64.wrap (i64.wrap G-a)+1;letI F:=zs false (pT.Be (M6.val b) (i64.wrap ((if d>i64.wrap A then d else i64.wrap A)-c)));letI B:=c-if d>i64.wrap A then d else i64.wrap A;letI C:=bif fit (M6.val b*(2:Nat)^(i64.wrap B).toNat)then wv (false,b)*(↑((2:Nat)^(i64.wrap B).toNat):Int)else(0:Int);aN (M6.cA b/\b.length<=1099511627776) (aB (decide (1100<i64.wrap G)) (aN (mJ.xC (a,d,e)) (aD (mJ.qB (a,d,e)) fun f=>some [D.s (sc (int u64 f))])) (aB (decide (c<=if d>i64.wrap A then d else i64.wrap A)) (aN (iE (false,b)/\0<=i64.wrap ((if d>i64.wrap A then d else i64.wrap A)-c)/\i64.wrap ((if d>i64.wrap A then d else i64.wrap A)-c)<4611686018427387904) (aD (isNeg F) fun g=>aD (M6.dg F.natAbs) fun h=>kM.J9 a d e (if d>i64.wrap A then d else i64.wrap A) g h)) (aN (iE (false,b)/\0<=i64.wrap B/\i64.wrap B<4611686018427387904) (aD (isNeg C) fun i=>aD (M6.dg C.natAbs) fun j=>kM.J9 a d e (if d>i64.wrap A then d else i64.wrap A) i j)))):=eJ aT
theorem aAS a b c d e f:J9 a b c d e f=aB (decide (0<(f.length:Int))) (if(0:Int)<=(0:Int)/\0<(f.length:Int)then kM.bDE a b c d (f.getD 0 0)else none) (kM.bDE a b c d 0):=cJ aT
theorem aEC a b c d e:bDE a b c d e=letI A:=u64.wrap (u64.wrap (i64.wrap (d-b))*(↑((2:Nat)^min (i64.wrap (a-1)).toNat 64):Int))+e;if i64.wrap (a-1)<0 then none else aN (mJ.xC (a,b,c)) (aD (mJ.qB (a,b,c)) fun f=>some [D.s (sc (int u64 (if f<u64.wrap A then f else u64.wrap A)))]):=cJ aT
def gT(w:Int×Int×Int)(v:Nat)(e:Int):Int:=if w.2.1>e+(bl v:Nat)-1-w.1+1 then w.2.1 else e+(bl v:Nat)-1-w.1+1
def yU(w:Int×Int×Int)(v:Nat)(e:Int):Nat:=if e<=gT w v e then pT.Be v (gT w v e-e)else v*2^(e-gT w v e).toNat
def Ay(w:Int×Int×Int)(v:Nat)(e:Int):Int:=if 1100<e+(bl v:Nat)-1 then mJ.qB w else(if mJ.qB w<(gT w v e-w.2.1)*((2^(w.1-1).toNat:Nat):Int)+(yU w v e:Nat)then mJ.qB w else(gT w v e-w.2.1)*((2^(w.1-1).toNat:Nat):Int)+(yU w v e:Nat))
theorem tF(v:Nat)(n:Int):pT.Be v n<=v/2^n.toNat+1:=by
 unfold pT.Be nW.wJ;generalize oB.oA _ _ _ _ _=b;cases b
 ·exact Nat.le_succ _
 ·exact cBP _
theorem aLL{w:Int×Int×Int}(h:mJ.xC w){v:Nat}(e:Int):yU w v e<=2^53:=by
 have hm:w.1<=53:=by rcases h with rfl |rfl <;> decide
 have Sp:1<=w.1:=by rcases h with rfl |rfl <;> decide
 have hu:e+(bl v:Nat)-1-w.1+1<=gT w v e:=by unfold gT;split <;> omega
 have hv:=wM v;unfold yU;split
 ·rename_i he;refine cCL (tF _ _) ?_;have:v/2^(gT w v e-e).toNat<2^53:=by
   apply cHJ;rw[<-cGP];exact cCM hv (eY)
  omega
 ·rename_i he;have h1:v*2^(e-gT w v e).toNat<=2^bl v*2^(e-gT w v e).toNat:=cDE _ (Nat.le_of_lt hv);rw[<-cGP]at h1;exact cCL h1 (eY)
def sp(w:Int×Int×Int)(b:List Int)(e:Int):Prop×List D:=(mJ.xC w/\M6.cN b/\M6.val b≠0/\b.length<=8192/\-2000000<=e/\e<=2000000,[.s (.sc (.int .u64 (Ay w (M6.val b) e)))])
theorem spec:oG E f54 aE (pG (.pair (sN .i64) (.pair (sN .i64) (sN .i64)))) (pI .u64) (pN .i64) sp:=by
 rintro w b e ⟨ht,hn,hv,hl,aGM,aUX⟩;have hb:=zQ hn.jA hl;have hm:w.1=24\/w.1=53:=by rcases ht with rfl |rfl <;> decide
 have bSR:-1074<=w.2.1/\w.2.1<=-149:=by rcases ht with rfl |rfl <;> decide
 refine(start w.1 w.2.1 w.2.2 b e).trans ?_;have w1:i64.wrap (i64.wrap (e+(bl (M6.val b):Int))-1)=e+(bl (M6.val b):Int)-1:=by
  rw[wrap_i64 (n:=e+_),wrap_i64]
 have w2:i64.wrap (i64.wrap (e+(bl (M6.val b):Int)-1-w.1)+1)=e+(bl (M6.val b):Int)-1-w.1+1:=by
  rw[wrap_i64 (n:=e+(bl (M6.val b):Int)-1-w.1) (by omega) (by omega),wrap_i64]
 have Qj:iE (false,b):=⟨hn,fun h=>(by cases h),hl⟩;have hu:(if w.2.1>e+(bl (M6.val b):Int)-1-w.1+1 then w.2.1 else e+(bl (M6.val b):Int)-1-w.1+1)=gT w (M6.val b) e:=rfl;unfold sp Ay
 try dsimp only
 rw[gP ⟨hn.jA,by omega⟩,w1,w2,hu];have bSD:gT w (M6.val b) e<=3000000/\-3000000<=gT w (M6.val b) e:=by unfold gT;split <;> omega
 by_cases hc:1100<e+(bl (M6.val b):Int)-1
 ·rw[aM hc,if_pos hc,gP ht];simp only[aI]
 ·rw[aL hc,if_neg hc];have Nw:=aLL ht (v:=M6.val b) e;have bGA:w.2.1<=gT w (M6.val b) e/\gT w (M6.val b) e-w.2.1<=2122/\(w.1=24->gT w (M6.val b) e-w.2.1<=2122):=by
   unfold gT;rcases ht with rfl |rfl <;> ((try dsimp only);split <;> omega)
  have hU:yU w (M6.val b) e=if e<=gT w (M6.val b) e then pT.Be (M6.val b) (gT w (M6.val b) e-e)else M6.val b*2^(e-gT w (M6.val b) e).toNat:=rfl
  have j9:∀(p:Bool) (m:Nat),m<=2^53->J9 w.1 w.2.1 w.2.2 (gT w (M6.val b) e) p (M6.dg m)=some [D.s (.sc (.int .u64 (if mJ.qB w<(gT w (M6.val b) e-w.2.1)*((2^(w.1-1).toNat:Nat):Int)+(m:Nat)then mJ.qB w else(gT w (M6.val b) e-w.2.1)*((2^(w.1-1).toNat:Nat):Int)+(m:Nat))))]:=by
   intro p m bXT;have hd0:(M6.dg m).getD 0 0=(m:Int):=by
    have h1:=M6.iK (a:=M6.dg m) 0;rw[cHW,M6.bD]at h1;have h2:=(M6.gG m).get 0;generalize M6.val ((M6.dg m).drop (0+1))=r at *;have:r=0:=by
     rcases cNP r with h |h
     ·exact h
     ·omega
    omega
   have j12:bDE w.1 w.2.1 w.2.2 (gT w (M6.val b) e) (m:Int)=some [D.s (.sc (.int .u64 (if mJ.qB w<(gT w (M6.val b) e-w.2.1)*((2^(w.1-1).toNat:Nat):Int)+(m:Nat)then mJ.qB w else(gT w (M6.val b) e-w.2.1)*((2^(w.1-1).toNat:Nat):Int)+(m:Nat))))]:=by
    rw[aEC,wrap_i64 (n:=w.1-1),aP,gP ht,wrap_i64 (n:=gT w (M6.val b) e-w.2.1),wrap_u64 (n:=gT w (M6.val b) e-w.2.1)];simp only[aI];have bDT:0<=gT w (M6.val b) e-w.2.1/\gT w (M6.val b) e-w.2.1<=2122:=by omega
    generalize gT w (M6.val b) e-w.2.1=u at *;have hmul:u64.wrap (u64.wrap (u*((2^min (w.1-1).toNat 64:Nat):Int))+(m:Int))=u*((2^(w.1-1).toNat:Nat):Int)+(m:Int):=by
     rcases hm with h |h
     ·rw[h];show u64.wrap (u64.wrap (u*8388608)+(m:Int))=u*8388608+(m:Int);rw[wrap_u64 (n:=u*8388608),wrap_u64]
     ·rw[h];show u64.wrap (u64.wrap (u*4503599627370496)+(m:Int))=u*4503599627370496+(m:Int);rw[wrap_u64 (n:=u*4503599627370496),wrap_u64]
    rw[hmul]
   have hz:=M6.gJ (n:=m);rw[aAS]
   by_cases Sp:m=0
   ·rw[aL (by have:=hz.2 Sp;omega)];subst Sp;exact j12
   ·rw[aM (by have:=fun h=>Sp (hz.1 h);omega),if_pos ⟨by omega,by have:=fun h=>Sp (hz.1 h);omega⟩,hd0,j12]
  rw[hU]at Nw ⊢
  by_cases hle:e<=gT w (M6.val b) e
  ·rw[if_pos hle]at Nw ⊢;rw[aM hle,wrap_i64 (n:=gT w (M6.val b) e-e),gP ⟨Qj,by omega,by omega⟩];simp only[aI];rw[kS,j9 _ _ Nw]
  ·rw[if_neg hle]at Nw ⊢;have bGE:fit (M6.val b*2^(e-gT w (M6.val b) e).toNat)=true:=decide_eq_true (by
    have:bl (M6.val b*2^(e-gT w (M6.val b) e).toNat)<=54:=dP.2 (by omega);omega)
   rw[aL hle,wrap_i64 (n:=e-gT w (M6.val b) e),gP ⟨Qj,by omega,by omega⟩];simp only[aI];have bWP:wv (false,b)=(M6.val b:Int):=rfl;rw[bGE,cond_true,bWP,<-cHN,cHH,j9 _ _ Nw]
def aJ:dJ:=orc3 (pG (.pair (sN .i64) (.pair (sN .i64) (sN .i64)))) (pI .u64) (pN .i64) sp
theorem ok:OK 54 aJ:=(dY E aE (aA uB.ok (aA mJ.ok (aA pT.ok (aA Cn.ok aC)))) func54).xN rfl spec
end kM
namespace zZ
def E:=mE [] 14 [] [] []
def aE:=bd f53
theorem aT:Nk E aE:=nk
theorem start a d e b c:aF E f53 aE [D.agg [sc (int i64 a),sc (int i64 d),sc (int i64 e)],D.s (sc (bool b)),D.s (sc (int u64 c))]=aB b (if e<0 then none else some [D.s (sc (int u64 (fC BinOp.or u64 c (u64.wrap ((1:Int)*(↑((2:Nat)^min e.toNat 64):Int))))))]) (some [D.s (sc (int u64 c))]):=eJ aT
def bDP(w:Int×Int×Int)(b:Bool)(c:Int):Int:=bif b then c+(if w.1=24 then 2147483648 else 9223372036854775808)else c
def sp(w:Int×Int×Int)(b:Bool)(c:Int):Prop×List D:=(mJ.xC w/\0<=c/\c<=mJ.qB w,[.s (.sc (.int .u64 (bDP w b c)))])
theorem spec:oG E f53 aE (pG (.pair (sN .i64) (.pair (sN .i64) (sN .i64)))) pB (pN .u64) sp:=by
 rintro w b c ⟨ht,h0,h1⟩;refine(start w.1 w.2.1 w.2.2 b c).trans ?_;unfold sp bDP;obtain⟨n,rfl⟩:=cGR h0;rcases ht with rfl |rfl
 ·have h1:(n:Int)<=2139095040:=h1;have e:=cKM (i:=31) (b:=n) (by omega) 1;cases b with
  |false=>rfl
  |true =>
   rw[bT,if_neg (by decide)];show some [D.s (.sc (.int .u64 (fC .or .u64 (n:Int) 2147483648)))]=_;rw[Yf (by omega) (by omega) (by omega) (by omega),cFM,cKL];rw[cBZ]at e;rw[show(2147483648:Int).toNat=2^31 from rfl,<-e];show some [D.s (.sc (.int .u64 ((2^31+n:Nat):Int)))]=some [D.s (.sc (.int .u64 ((n:Int)+2147483648)))];rw[cMQ,Int.add_comm];rfl
 ·have h1:(n:Int)<=9218868437227405312:=h1;have e:=cKM (i:=63) (b:=n) (by omega) 1;cases b with
  |false=>rfl
  |true =>
   rw[bT,if_neg (by decide)];show some [D.s (.sc (.int .u64 (fC .or .u64 (n:Int) 9223372036854775808)))]=_;rw[Yf (by omega) (by omega) (by omega) (by omega),cFM,cKL];rw[cBZ]at e;rw[show(9223372036854775808:Int).toNat=2^63 from rfl,<-e];show some [D.s (.sc (.int .u64 ((2^63+n:Nat):Int)))]=some [D.s (.sc (.int .u64 ((n:Int)+9223372036854775808)))];rw[cMQ,Int.add_comm];rfl
def aJ:dJ:=orc3 (pG (.pair (sN .i64) (.pair (sN .i64) (sN .i64)))) pB (pN .u64) sp
theorem ok:OK 53 aJ:=(dY E aE aC func53).xN rfl spec
end zZ
namespace jJ
def E:=mE [(52,Fm.aJ),(45,mZ.aJ),(54,kM.aJ),(53,zZ.aJ)] 35 [34] [] []
def aE:=bd f15
theorem aT:Nk E aE:=nk
theorem start a b c d:aF E f15 aE [D.s (sc (int i64 a)),D.agg [sc (bool b),ints u64 c,sc (int i64 d)]]=letI A:=Fm.Gc a;aN True (aD A.snd.fst fun e=>aD A.snd.snd fun f=>letI B:=(A.fst,e,f);aB (A.fst==0&&(e==0&&(f==0&&true))) (some [D.s (sc (int u64 0)),D.s (sc (int i64 1))]) (aN (aU (b,c,d)) (aB ((c.length:Int)==(0:Int)) (some [D.s (sc (int u64 0)),D.s (sc (int i64 0))]) (aN (mJ.xC B/\M6.cN c/\M6.val c≠0/\c.length<=8192/\(-2000000:Int)<=d/\d<=2000000) (aD (kM.Ay B (M6.val c) d) fun g=>aN (mJ.xC B/\0<=g/\g<=mJ.qB B) (aD (zZ.bDP B b g) fun h=>some [D.s (sc (int u64 h)),D.s (sc (int i64 0))])))))):=eJ aT
def kG(f:Int)(p:Int×Int):Int:=if p.1=0 then 0 else zZ.bDP (Fm.Gc f) (isNeg p.1) (kM.Ay (Fm.Gc f) p.1.natAbs p.2)
theorem Tt{f:Int}(h:f=32\/f=64):mJ.xC (Fm.Gc f):=by
 rcases h with rfl |rfl
 ·exact .inl rfl
 ·exact .inr rfl
theorem aFC{w:Int×Int×Int}(h:mJ.xC w)(v:Nat)(e:Int):0<=kM.Ay w v e/\kM.Ay w v e<=mJ.qB w:=by
 have hi:0<=mJ.qB w:=by unfold mJ.qB;split <;> omega
 have hu:0<=kM.gT w v e-w.2.1:=by unfold kM.gT;split <;> omega
 have hm:=cND hu (cLI (2^(w.1-1).toNat));unfold kM.Ay;split
 ·omega
 ·split <;> omega
def sp(f:Int)(x:gW):Prop×List D:=((f=32\/f=64)/\aU x,[.s (.sc (.int .u64 (kG f (dv x)))),.s (.sc (.int .i64 0))])
theorem spec:fN E f15 aE (pN .i64) kA sp:=by
 rintro f x ⟨hf,hx⟩;have ht:=Tt hf;have he:=hx.2.1;refine(start f x.1 x.2.1 x.2.2).trans ?_;have h0:((Fm.Gc f).1==0)=false:=by rcases hf with rfl |rfl <;> rfl
 simp only[aI];rw[gP trivial,h0,cGY,bF,gP hx];have hz:=M6.cZ hx.Kl;have hd:(dv x).1=wv (x.1,x.2.1):=rfl;have ha:(dv x).1.natAbs=M6.val x.2.1:=iY (x.1,x.2.1);have hs:isNeg (dv x).1=x.1:=hx.Fp.cells.1;unfold sp kG
 try dsimp only
 rw[ha,hs]
 by_cases hl:x.2.1.length=0
 ·rw[bJ,if_pos (by have:=hz.1 hl;omega)]
 ·have hv:M6.val x.2.1≠0:=fun h=>hl (hz.2 h)
  have hb:=aFC ht (M6.val x.2.1) x.2.2;rw[bB,aP,gP ⟨ht,hx.Kl,hv,hx.len,by omega,by omega⟩,gP ⟨ht,hb⟩];rfl
def aJ:dJ:=orc2 (pN .i64) kA sp
theorem ok:OK 15 aJ:=(dY E aE (aA Fm.ok (aA mZ.ok (aA kM.ok (aA zZ.ok aC)))) func15).lD rfl spec
end jJ
namespace jY
def E:=mE [(149,nW.aJ)] 11 [8] [] []
def aE:=bd f192
theorem aT:Nk E aE:=nk
theorem start a c b:aF E f192 aE [D.agg [sc (bool a),ints u64 c],D.s (sc (int i64 b))]=letI A:=nW.wJ 0 a (M6.val c) b;letI B:=bif fit A then zs a A else(0:Int);aN (iE (a,c)/\0<=b/\b<4611686018427387904) (some [D.agg [sc (bool (isNeg B)),ints u64 (M6.dg B.natAbs)],D.s (sc (int i64 (bif fit A then(0:Int)else(5:Int))))]):=eJ aT
theorem Xz{v:Nat}{n:Int}(h:0<=n):nW.aFI v n=decide (v%2^n.toNat≠0):=by
 unfold nW.aFI
 by_cases hv:v=0
 ·subst hv;rw[decide_eq_false (by omega),cGY,cJK];rfl
 ·rw[decide_eq_true hv,cER];have hs:=pU v hv;obtain⟨k,rfl⟩:=cGR h;rw[cFM];generalize tz v=j at *
  by_cases hk:j<k
  ·have:v%2^k≠0:=by
    intro hm;have e1:v=2^k*(v/2^k):=by have:=cGV v (2^k);omega
    have e2:v/2^j=2*(2^(k-j-1)*(v/2^k)):=by
     have hp:2^k=2^j*(2*2^(k-j-1)):=by
      rw[<-Nat.pow_succ',<-cGP];congr 1;omega
     generalize v/2^k=t at e1 ⊢;rw[e1,hp,cGS,Nat.mul_div_cancel_left _ (cEP (by decide)),cGS]
    omega
   rw[decide_eq_true (by omega),decide_eq_true this]
  ·have:v%2^k=0:=by
    have hp:2^j=2^k*2^(j-k):=by rw[<-cGP];congr 1;omega
    have e1:v=2^j*(v/2^j):=by have:=cGV v (2^j);omega
    rw[e1,hp,cGS,Nat.mul_mod_right]
   rw[decide_eq_false (by omega),decide_eq_false (by omega)]
theorem down{p:Bool}{v:Nat}{n:Int}(h:0<=n):zs p (nW.wJ 0 p v n)=zs p v/((2^n.toNat:Nat):Int):=by
 unfold nW.wJ oB.oA;rw[Xz h,show((0:Int)==0)=true from rfl,cond_true];have hp:0<2^n.toNat:=dA;have hd:=cGV v (2^n.toNat);have hm:=cDX v hp;generalize 2^n.toNat=q at *;cases p with
 |false =>
  rw[cGY,cond_false,cCN];show((v/q:Nat):Int)=(v:Int)/(q:Int);rw[cHF]
 |true =>
  rw[cER];show -(((v/q+bif decide (v%q≠0)then 1 else 0:Nat)):Int)=-(v:Int)/(q:Int)
  by_cases hz:v%q=0
  ·rw[decide_eq_false (by omega),cond_false,cCN];have e:-(v:Int)=(q:Int)*(-((v/q:Nat):Int)):=by
    rw[cKP,<-cHN];omega
   rw[e,Int.mul_ediv_cancel_left _ (by omega)]
  ·rw[decide_eq_true hz,cond_true];have e:-(v:Int)=((q-v%q:Nat):Int)+(q:Int)*(-((v/q+1:Nat):Int)):=by
    rw[cKP,<-cHN,cGQ];omega
   rw[e,Int.add_mul_ediv_left _ _ (by omega),Int.ediv_eq_zero_of_lt (by omega) (by omega),Int.zero_add]
theorem small{p:Bool}{v:Nat}{n:Int}(h:0<=n)(hb:bl v<=524288):fit (nW.wJ 0 p v n)=true:=by
 refine decide_eq_true (cCL (gF ?_) hb);unfold nW.wJ oB.oA;rw[Xz h,show((0:Int)==0)=true from rfl,cond_true];have hp:0<2^n.toNat:=dA
 by_cases hz:v%2^n.toNat=0
 ·rw[decide_eq_false (by omega),cHB,cond_false];exact cKC _ _
 ·have h2:2<=2^n.toNat:=by
   refine cEJ fun hc=>hz ?_
   rw[show 2^n.toNat=1 from by omega,Nat.mod_one]
  have:v/2^n.toNat<=v/2:=cMI h2 (by omega);have hv:v≠0:=fun h=>hz (by rw[h,cJK])
  have:(bif p&&decide (v%2^n.toNat≠0)then(1:Nat)else 0)<=1:=by cases p <;> cases decide (v%2^n.toNat≠0) <;> decide
  omega
def sp(x:Bool×List Int)(n:Int):Prop×List D:=(iE x/\0<=n/\n<4611686018427387904,[wD (wv x/((2^n.toNat:Nat):Int)),.s (.sc (.int .i64 0))])
theorem spec:fN E f192 aE pW (pN .i64) sp:=by
 intro x n h;have h':=h;obtain⟨hx,h0,h1⟩:=h;refine(start x.1 x.2 n).trans ((gP h').trans ?_);unfold sp
 try dsimp only
 rw[small h0 hx.bl];show some (wE true _)=_;rw[down h0];rfl
def aJ:dJ:=orc2 pW (pN .i64) sp
theorem ok:OK 192 aJ:=(dY E aE (aA nW.ok aC) func192).lD rfl spec
end jY
namespace bDL
def E:=mE [(192,jY.aJ)] 22 [] [] []
def aE:=bd f150
theorem aT:Nk E aE:=nk
theorem start a d b c:aF E f150 aE [D.agg [sc (bool a),ints u64 d],D.s (sc (int i64 b)),D.s (sc (bool c))]=letI A:=wv (a,d)/(↑((2:Nat)^b.toNat):Int);aB c none (aN (iE (a,d)/\0<=b/\b<4611686018427387904) (some [D.agg [sc (bool (isNeg A)),ints u64 (M6.dg A.natAbs)]])):=eJ aT
def sp(x:Bool×List Int)(n:Int)(up:Bool):Prop×List D:=(iE x/\(0<=n/\n<4611686018427387904)/\up=false,[wD (wv x/((2^n.toNat:Nat):Int))])
theorem spec:oG E f150 aE pW (pN .i64) pB sp:=by
 rintro x n up ⟨h1,h2,rfl⟩;refine(start x.1 x.2 n false).trans ?_;rw[bF,gP ⟨h1,h2⟩];rfl
def aJ:dJ:=orc3 pW (pN .i64) pB sp
theorem ok:OK 150 aJ:=(dY E aE (aA jY.ok aC) func150).xN rfl spec
end bDL
namespace rI
def E:=mE [(45,mZ.aJ),(46,nM.aJ),(47,Hl.aJ),(106,uB.aJ),(150,bDL.aJ),(50,kB.aJ)] 49 [46] [(5,[1,2,3,6]),(8,[1,2,3,6,8])] [5,8]
def aE:=bd f108
theorem aT:Nk E aE:=nk
def J5 a b c d e f g:=lK E f108 aE 5 [bP a,sE b,dR 2 29 [dG c,gM d,cF e],dR 3 29 [dG f,sc (slice none 0 0),cF g]]
def J8 a b c d e f g h:=lK E f108 aE 8 [bP a,sE b,dR 2 29 [dG c,gM d,cF e],dR 3 29 [dG f,sc (slice none 0 0),cF g],bP h]
theorem start a d e b c:aF E f108 aE [D.agg [sc (bool a),ints u64 d,sc (int i64 e)],D.s (sc (int i64 b)),D.s (sc (bool c))]=letI A:=aN (d.length<=1099511627776) (some [D.agg [sc (bool a),ints u64 d,sc (int i64 e)],D.s (sc (int i64 0))]);aN (aU (a,d,e)) (aN True (aB ((d.length:Int)==(0:Int)) A (aB (decide (b<=e)) A (rI.J5 b c a d e false 0)))):=eJ aT
theorem aAT a b c d e f g:J5 a b c d e f g=letI A:=(↑(bl (M6.val d)):Int);aN (M6.cA d/\d.length<=1099511627776) (aB (decide (a<i64.wrap (e+i64.wrap (A+(1:Int))))) (rI.J8 a b c d e f g (i64.wrap (a-e))) (rI.J8 a b c d e f g (i64.wrap (A+(1:Int))))):=cJ aT
theorem Aj a b c d e f g h:J8 a b c d e f g h=letI C:=wv (c,d)/(↑((2:Nat)^h.toNat):Int);letI A:=(isNeg C,M6.dg C.natAbs);letI B:=bif iN (wv A) a then aQ (wv A) a else((0:Int),(0:Int));aN (iE (c,d)/\(0<=h/\h<4611686018427387904)/\b=false) (aN (iE A/\(-9223372036854775808:Int)<=a/\a<9223372036854775808) (some [D.agg [sc (bool (isNeg B.fst)),ints u64 (M6.dg B.fst.natAbs),sc (int i64 B.snd)],D.s (sc (int i64 (bif iN (wv A) a then(0:Int)else(5:Int))))])):=cJ aT
def Bs(p:Int×Int)(b:Int):Int×Int:=if p.1=0\/b<=p.2 then p else aQ (p.1/((2^(b-p.2).toNat:Nat):Int)) b
def uP(p:Int×Int)(b:Int):Bool:=decide (p.1=0\/b<=p.2)||iN (p.1/((2^(b-p.2).toNat:Nat):Int)) b
def sp(x:gW)(b:Int)(up:Bool):Prop×List D:=(aU x/\(-4611686018427387904<=b/\b<4611686018427387904)/\up=false,dE (uP (dv x) b) (Bs (dv x) b))
theorem spec:oG E f108 aE kA (pN .i64) pB sp:=by
 rintro x k up ⟨h,hk,rfl⟩;refine(start x.1 x.2.1 x.2.2 k false).trans ?_;have hl:=h.len;have hd:=h.dD;have hr:=h.2.1;have hb:=h.Fp.bl;have hw:=h.Fp;have hn:=h.Kl;obtain⟨b,a,e⟩:=x
 try dsimp only at *
 unfold sp
 try dsimp only
 have hz:=M6.cZ hn;have ha:=iY (b,a)
 try dsimp only at ha hz
 rw[gP h,gP trivial];have same:((dv (b,a,e)).1=0\/k<=(dv (b,a,e)).2)->dE (uP (dv (b,a,e)) k) (Bs (dv (b,a,e)) k)=[D.agg [.sc (.bool b),.ints .u64 a,.sc (.int .i64 e)],.s (.sc (.int .i64 0))]:=by
  intro hc;unfold uP Bs;rw[decide_eq_true hc,cGZ,if_pos hc];show [M.dD (dv (b,a,e)),_]=_;rw[hd];rfl
 by_cases h0:a.length=0
 ·rw[bJ,gP,same (.inl (by have:=hz.1 h0;show wv (b,a)=0;omega))]
 ·rw[bB]
  by_cases h1:k<=e
  ·rw[aM h1,gP,same (.inr h1)]
  ·have aIK:wv (b,a)≠0:=by have:M6.val a≠0:=fun h=>h0 (hz.2 h);omega
   have Am:¬((dv (b,a,e)).1=0\/k<=(dv (b,a,e)).2):=by
    rintro (hc |hc)
    ·exact aIK hc
    ·exact h1 hc
   have j8:∀n:Int,0<=n->n<4611686018427387904->wv (b,a)/((2^n.toNat:Nat):Int)=wv (b,a)/((2^(k-e).toNat:Nat):Int)->J8 k false b a e false 0 n=some (dE (uP (dv (b,a,e)) k) (Bs (dv (b,a,e)) k)):=by
    intro n Dr aCN he;have hq:bl (wv (b,a)/((2^(k-e).toNat:Nat):Int)).natAbs<=524288:=cCL (gF (tJ (cEP (by decide)))) (by rw[ha];exact hb);rw[Aj,gP ⟨hw,⟨Dr,aCN⟩,rfl⟩,he,gP ⟨gL hq,by omega,by omega⟩,oI];unfold uP Bs;rw[decide_eq_false Am,cDQ,if_neg Am];rfl
   rw[aL h1,aAT,gP ⟨hn.jA,by omega⟩,wrap_i64 (n:=(bl (M6.val a):Int)+1) (by omega) (by omega),wrap_i64 (n:=e+((bl (M6.val a):Int)+1)) (by omega) (by omega),wrap_i64 (n:=k-e)]
   by_cases h2:k<e+((bl (M6.val a):Int)+1)
   ·rw[aM h2,j8 _ (by omega) (by omega) rfl]
   ·rw[aL h2,j8 _ (by omega) (by omega) (cAO (by rw[ha];omega) (by rw[ha];omega))]
def aJ:dJ:=orc3 kA (pN .i64) pB sp
theorem ok:OK 108 aJ:=(dY E aE (aA mZ.ok (aA nM.ok (aA Hl.ok (aA uB.ok (aA bDL.ok (aA kB.ok aC)))))) func108).xN rfl spec
end rI
end W
namespace M
open Go AI W
theorem aIY{z e b:Int}(h:e<=b):rI.Bs (aQ z e) b=aQ (z/p2 (b-e)) b:=by
 unfold rI.Bs
 by_cases hz:z=0
 ·subst hz;rw[fR,if_pos (.inl rfl),Int.zero_ediv,fR]
 ·obtain⟨h1,h2⟩:=lW (e:=e) hz;have hn:(aQ z e).1≠0:=fun h=>hz (eF.1 h)
  by_cases hb:b<=(aQ z e).2
  ·rw[if_pos (.inr hb)];have g:=wH (e:=e) hz (cNE e);rw[Int.sub_self,aFV,cNF]at g;have e1:p2 ((aQ z e).2-e)=p2 ((aQ z e).2-b)*p2 (b-e):=by rw[<-uK (by omega) (by omega)];congr 1;omega
   rw[e1,<-cIC]at g;have hp:=Eo (b-e);have:z/p2 (b-e)=(aQ z e).1*p2 ((aQ z e).2-b):=by
    generalize aQ z e=p at *;rw[<-g,Int.mul_ediv_cancel _ (by omega)]
   rw[this,zE _ _ (by omega),show b+((aQ z e).2-b)=(aQ z e).2 by omega,Si Ep Ge]
  ·rw[aP];have e1:p2 (b-e)=p2 (b-(aQ z e).2)*p2 (tz z.natAbs:Int):=by rw[<-uK (by omega) (by omega)];congr 1;omega
   rw[e1];have hp:=Eo (tz z.natAbs:Int);have:z/(p2 (b-(aQ z e).2)*p2 (tz z.natAbs:Int))=(aQ z e).1/p2 (b-(aQ z e).2):=by
    generalize aQ z e=p at *;generalize p2 (tz z.natAbs:Int)=q at *;rw[h1,cNU _ _ hp]
   rw[this];rfl
theorem aCX{z e b:Int}(_:e<=b)(hb0:-1048576<=b)(hb:b+((bl (z/p2 (b-e)).natAbs:Nat):Int)<=1048577):rI.uP (aQ z e) b=true:=by
 unfold rI.uP
 by_cases hc:(aQ z e).1=0\/b<=(aQ z e).2
 ·rw[decide_eq_true hc,cGZ]
 ·have hz:z≠0:=fun h=>hc (.inl (eF.2 h))
  obtain⟨h1,h2⟩:=lW (e:=e) hz;have e1:p2 (b-e)=p2 (b-(aQ z e).2)*p2 (tz z.natAbs:Int):=by rw[<-uK (by omega) (by omega)];congr 1;omega
  have hp:=Eo (tz z.natAbs:Int);have:z/p2 (b-e)=(aQ z e).1/p2 (b-(aQ z e).2):=by
   rw[e1];generalize aQ z e=p at *;generalize p2 (tz z.natAbs:Int)=q at *;rw[h1,cNU _ _ hp]
  rw[this]at hb;rw[decide_eq_false hc,cDQ];exact iL hb0 hb
end M
namespace W
open Go AI M
namespace aH
def E:=mE [] 11 [] [] []
def aE:=bd f78
theorem aT:Nk E aE:=nk
theorem start a:aF E f78 aE [D.s (sc (int i64 a))]=letI A:=int i64 0;aB (a==32) (some [D.agg [sc (int i64 32),sc (int i64 24),sc (int i64 (-149:Int)),sc (int u64 2143289345)]]) (aB (a==64) (some [D.agg [sc (int i64 64),sc (int i64 53),sc (int i64 (-1074:Int)),sc (int u64 9221120237041090561)]]) (some [D.agg [sc A,sc A,sc A,sc (int u64 0)]])):=eJ aT
def fF(f:Int):Int×Int×Int×Int:=if f=32 then(32,24,-149,2143289345)else if f=64 then(64,53,-1074,9221120237041090561)else(0,0,0,0)
def bJM(s:Int×Int×Int×Int):D:=.agg [.sc (.int .i64 s.1),.sc (.int .i64 s.2.1),.sc (.int .i64 s.2.2.1),.sc (.int .u64 s.2.2.2)]
def xC(s:Int×Int×Int×Int):Prop:=s=(32,24,-149,2143289345)\/s=(64,53,-1074,9221120237041090561)
theorem two32:xC (32,24,-149,2143289345):=.inl rfl
theorem uX:xC (64,53,-1074,9221120237041090561):=.inr rfl
def sp(f:Int):Prop×List D:=(True,[bJM (fF f)])
theorem spec:iS E f78 aE (pN .i64) sp:=by
 intro f h;refine(start f).trans ?_;unfold sp fF
 try dsimp only
 by_cases h1:f=32
 ·rw[bJ h1,if_pos h1];rfl
 ·rw[bB h1,if_neg h1]
  by_cases h2:f=64
  ·rw[bJ h2,if_pos h2];rfl
  ·rw[bB h2,if_neg h2];rfl
def aJ:dJ:=orc1 (pN .i64) sp
theorem ok:OK 78 aJ:=(dY E aE aC func78).oU rfl spec
end aH
namespace bR
def E:=mE [] 7 [] [] []
def aE:=bd f135
theorem aT:Nk E aE:=nk
theorem start a b c d:aF E f135 aE [D.agg [sc (int i64 a),sc (int i64 b),sc (int i64 c),sc (int u64 d)]]=if i64.wrap (a-1)<0 then none else some [D.s (sc (int u64 (u64.wrap ((1:Int)*(↑((2:Nat)^min (i64.wrap (a-1)).toNat 64):Int)))))]:=eJ aT
def cC(s:Int×Int×Int×Int):Int:=if s.1=32 then 2147483648 else 9223372036854775808
def sp(s:Int×Int×Int×Int):Prop×List D:=(aH.xC s,[.s (.sc (.int .u64 (cC s)))])
theorem spec:iS E f135 aE (pG (.pair (sN .i64) (.pair (sN .i64) (.pair (sN .i64) (sN .u64))))) sp:=by
 intro s h;refine(start s.1 s.2.1 s.2.2.1 s.2.2.2).trans ?_;rcases h with rfl |rfl
 ·rfl
 ·rfl
def aJ:dJ:=orc1 (pG (.pair (sN .i64) (.pair (sN .i64) (.pair (sN .i64) (sN .u64))))) sp
theorem ok:OK 135 aJ:=(dY E aE aC func135).oU rfl spec
end bR
namespace cR
def E:=mE [(78,aH.aJ),(135,bR.aJ)] 36 [] [(6,[1,4,8])] [6]
def aE:=bd f77
theorem aT:Nk E aE:=nk
def J6 a b c d e f g h i:=lK E f77 aE 6 [dM a,dR 1 84 [cF b,cF c,cF d,oT e],dR 2 84 [cF f,cF g,cF h,oT i]]
theorem start a b:aF E f77 aE [D.s (sc (int i64 a)),D.s (sc (int u64 b))]=letI A:=aH.fF a;letI G:=int i64 A.snd.fst;letI F:=int u64 A.snd.snd.snd;letI C:=int i64 A.snd.snd.fst;letI B:=cR.J6 b 0 0 0 0 A.fst A.snd.fst A.snd.snd.fst A.snd.snd.snd;aN True (aB (A.fst==0&&(A.snd.fst==0&&(A.snd.snd.fst==0&&(A.snd.snd.snd==0&&true)))) (some [D.agg [sc (int i64 A.fst),sc G,sc C,sc F],D.s (sc (bool false)),D.s (sc (int u64 0)),D.s (sc (int i64 1))]) (aB (decide (A.fst<64)) (if A.fst<0 then none else aB (b/(↑((2:Nat)^min A.fst.toNat 64):Int) !=(0:Int)) (some [D.agg [sc (int i64 A.fst),sc G,sc C,sc F],D.s (sc (bool false)),D.s (sc (int u64 0)),D.s (sc (int i64 2))]) B) B)):=eJ aT
theorem vJ a b c d e f g h i:J6 a b c d e f g h i=letI A:=(f,g,h,i);aN (aH.xC A) (aN (aH.xC A) (some [D.agg [sc (int i64 f),sc (int i64 g),sc (int i64 h),sc (int u64 i)],D.s (sc (bool (fC BinOp.and u64 a (bR.cC A) !=0))),D.s (sc (int u64 (fC BinOp.andNot u64 a (bR.cC A)))),D.s (sc (int i64 0))])):=cJ aT
theorem aAJ{a b:Int}(ha:0<=a)(bKS:a<18446744073709551616)(hb:0<=b)(tR:b<18446744073709551616):fC .andNot .u64 a b=((a.toNat &&& (2^64-(b.toNat+1)):Nat):Int):=by
 obtain⟨n,rfl⟩:=cGR ha;obtain⟨m,rfl⟩:=cGR hb;rw[tY];unfold bitsI0;simp only;have e:(BitVec.ofInt u64.bits (n:Int) &&& ~~~ BitVec.ofInt u64.bits (m:Int)).toNat=n &&& (2^64-(m+1)):=by
  show(BitVec.ofInt 64 (n:Int) &&& ~~~ BitVec.ofInt 64 (m:Int)).toNat=_;rw[BitVec.toNat_and,BitVec.toNat_not];have e1:(BitVec.ofInt 64 (n:Int)).toNat=n:=by simp;omega
  have e2:(BitVec.ofInt 64 (m:Int)).toNat=m:=by simp;omega
  rw[e1,e2];congr 1;omega
 have hle:n &&& (2^64-(m+1))<=n:=Nat.and_le_left;rw[e,wrap_u64];rfl
theorem Tc{n k:Nat}(hk:k<64)(h:n<2^(k+1)):n &&& (2^64-(2^k+1))=n%2^k:=by
 refine cMO fun i=>?_
 have hp:2^k<2^64:=cII (by decide) hk;rw[cMT,cNL hp,cMN,cMR]
 by_cases h1:i<k
 ·have:¬k=i:=by omega
  have bTS:i<64:=by omega
  simp[h1,this,bTS]
 ·by_cases h2:i=k
  ·subst h2;simp
  ·have:n<2^i:=cCM h (cEQ (by decide) (by omega));rw[cML this];simp
theorem aEM{n k:Nat}(h:n<2^(k+1)):(n &&& 2^k)=if 2^k<=n then 2^k else 0:=by
 refine cMO fun i=>?_
 rw[cMT,cMR]
 by_cases h1:2^k<=n
 ·have ht:n.testBit k=true:=by
   rw[Nat.testBit_eq_decide_div_mod_eq];have:=cMJ (k:=1) (show 1*2^k<=n by omega) (show n<(1+1)*2^k by rw[cGO]at h;omega);rw[this];rfl
  rw[if_pos h1,cMR]
  by_cases hi:k=i
  ·subst hi;simp[ht]
  ·simp[hi]
 ·rw[if_neg h1,Nat.zero_testBit]
  by_cases hi:k=i
  ·subst hi;rw[cML (by omega)];rfl
  ·simp[hi]
def fH(f b:Int):Bool:=decide (f=64)||decide (b<4294967296)
def sp(f b:Int):Prop×List D:=((f=32\/f=64)/\0<=b/\b<18446744073709551616,[aH.bJM (aH.fF f),.s (.sc (.bool (fH f b&&decide (bR.cC (aH.fF f)<=b)))),.s (.sc (.int .u64 (bif fH f b then b%bR.cC (aH.fF f)else 0))),.s (.sc (.int .i64 (bif fH f b then 0 else 2)))])
theorem spec:fN E f77 aE (pN .i64) (pN .u64) sp:=by
 rintro f b ⟨hf,h0,h1⟩;obtain⟨n,rfl⟩:=cGR h0;refine(start f n).trans ((gP trivial).trans ?_);unfold sp
 try dsimp only
 rcases hf with rfl |rfl
 ·rw[show aH.fF 32=(32,24,-149,2143289345)from rfl]
  try dsimp only
  rw[Pf (by decide),aM (by decide),if_neg (by decide),show min (32:Int).toNat 64=32 from rfl,show bR.cC (32,24,-149,2143289345)=2147483648 from rfl]
  by_cases hc:(n:Int)<4294967296
  ·have hp:fH 32 n=true:=by unfold fH;rw[decide_eq_true hc,Bool.or_true]
   have a1:fC .and .u64 (n:Int) 2147483648=if(2147483648:Int)<=n then 2147483648 else 0:=by
    rw[aAK (by omega) (by omega) (by omega) (by omega),cFM];have:=aEM (n:=n) (k:=31) (by omega);rw[show(2147483648:Int).toNat=2^31 from rfl,this];split <;> split <;> first |rfl |omega
   have a2:fC .andNot .u64 (n:Int) 2147483648=(n:Int)%2147483648:=by
    rw[aAJ (by omega) (by omega) (by omega) (by omega),cFM,show(2147483648:Int).toNat=2^31 from rfl,Tc (by omega) (by omega)];omega
   rw[gR,vJ,gP aH.two32,gP aH.two32,show bR.cC (32,24,-149,2143289345)=2147483648 from rfl,a1,a2,hp]
   by_cases hd:(2147483648:Int)<=n
   ·rw[if_pos hd,decide_eq_true hd];rfl
   ·rw[if_neg hd,decide_eq_false hd];rfl
  ·have hp:fH 32 n=false:=by unfold fH;rw[decide_eq_false hc];rfl
   rw[oM,hp];rfl
 ·rw[show aH.fF 64=(64,53,-1074,9221120237041090561)from rfl]
  try dsimp only
  have hp:fH 64 n=true:=rfl;have a1:fC .and .u64 (n:Int) 9223372036854775808=if(9223372036854775808:Int)<=n then 9223372036854775808 else 0:=by
   rw[aAK (by omega) (by omega) (by omega) (by omega),cFM];have:=aEM (n:=n) (k:=63) (by omega);rw[show(9223372036854775808:Int).toNat=2^63 from rfl,this];split <;> split <;> first |rfl |omega
  have a2:fC .andNot .u64 (n:Int) 9223372036854775808=(n:Int)%9223372036854775808:=by
   rw[aAJ (by omega) (by omega) (by omega) (by omega),cFM,show(9223372036854775808:Int).toNat=2^63 from rfl,Tc (by omega) (by omega)];omega
  rw[Pf (by decide),aL (by decide),vJ,gP aH.uX,gP aH.uX,show bR.cC (64,53,-1074,9221120237041090561)=9223372036854775808 from rfl,a1,a2,hp]
  by_cases hd:(9223372036854775808:Int)<=n
  ·rw[if_pos hd,decide_eq_true hd];rfl
  ·rw[if_neg hd,decide_eq_false hd];rfl
def aJ:dJ:=orc2 (pN .i64) (pN .u64) sp
theorem ok:OK 77 aJ:=(dY E aE (aA aH.ok (aA bR.ok aC)) func77).lD rfl spec
end cR
namespace cP
def E:=mE [] 7 [] [] []
def aE:=bd f94
theorem aT:Nk E aE:=nk
theorem start a b c d:aF E f94 aE [D.agg [sc (int i64 a),sc (int i64 b),sc (int i64 c),sc (int u64 d)]]=if i64.wrap (b-1)<0 then none else some [D.s (sc (int u64 (u64.wrap ((1:Int)*(↑((2:Nat)^min (i64.wrap (b-1)).toNat 64):Int)))))]:=eJ aT
def lA(s:Int×Int×Int×Int):Int:=if s.1=32 then 8388608 else 4503599627370496
def sp(s:Int×Int×Int×Int):Prop×List D:=(aH.xC s,[.s (.sc (.int .u64 (lA s)))])
theorem spec:iS E f94 aE (pG (.pair (sN .i64) (.pair (sN .i64) (.pair (sN .i64) (sN .u64))))) sp:=by
 intro s h;refine(start s.1 s.2.1 s.2.2.1 s.2.2.2).trans ?_;rcases h with rfl |rfl
 ·rfl
 ·rfl
def aJ:dJ:=orc1 (pG (.pair (sN .i64) (.pair (sN .i64) (.pair (sN .i64) (sN .u64))))) sp
theorem ok:OK 94 aJ:=(dY E aE aC func94).oU rfl spec
end cP
namespace lC
def E:=mE [(135,bR.aJ),(94,cP.aJ)] 8 [] [] []
def aE:=bd f81
theorem aT:Nk E aE:=nk
theorem start a b c d:aF E f81 aE [D.agg [sc (int i64 a),sc (int i64 b),sc (int i64 c),sc (int u64 d)]]=letI A:=(a,b,c,d);aN (aH.xC A) (aN (aH.xC A) (some [D.s (sc (int u64 (u64.wrap (bR.cC A-cP.lA A))))])):=eJ aT
def mV(s:Int×Int×Int×Int):Int:=if s.1=32 then 2139095040 else 9218868437227405312
def sp(s:Int×Int×Int×Int):Prop×List D:=(aH.xC s,[.s (.sc (.int .u64 (mV s)))])
theorem spec:iS E f81 aE (pG (.pair (sN .i64) (.pair (sN .i64) (.pair (sN .i64) (sN .u64))))) sp:=by
 intro s h;refine(start s.1 s.2.1 s.2.2.1 s.2.2.2).trans ((gP h).trans ((gP h).trans ?_));rcases h with rfl |rfl
 ·rfl
 ·rfl
def aJ:dJ:=orc1 (pG (.pair (sN .i64) (.pair (sN .i64) (.pair (sN .i64) (sN .u64))))) sp
theorem ok:OK 81 aJ:=(dY E aE (aA bR.ok (aA cP.ok aC)) func81).oU rfl spec
end lC
namespace cT
def E:=mE [(77,cR.aJ),(81,lC.aJ)] 33 [15] [] []
def aE:=bd f42
theorem aT:Nk E aE:=nk
theorem start a b:aF E f42 aE [D.s (sc (int i64 a)),D.s (sc (int u64 b))]=letI F:=bif cR.fH a b then(0:Int)else(2:Int);letI B:=aH.fF a;letI I:=int i64 B.snd.fst;letI H:=int u64 B.snd.snd.snd;letI G:=int i64 B.snd.snd.fst;letI C:=(B.fst,B.snd.fst,B.snd.snd.fst,B.snd.snd.snd);letI A:=some [D.agg [sc (int i64 B.fst),sc I,sc G,sc H],D.s (sc (bool (cR.fH a b&&decide (bR.cC B<=b)))),D.s (sc (int u64 (bif cR.fH a b then b%bR.cC B else(0:Int)))),D.s (sc (int i64 F))];aN ((a=32\/a=64)/\0<=b/\b<18446744073709551616) (aB (F==0) (aN (aH.xC C) (aB (decide (lC.mV C<=bif cR.fH a b then b%bR.cC B else(0:Int))) (some [D.agg [sc (int i64 B.fst),sc I,sc G,sc H],D.s (sc (bool false)),D.s (sc (int u64 0)),D.s (sc (int i64 6))]) A)) A):=eJ aT
def jL(f b:Int):Bool:=decide (b%bR.cC (aH.fF f)<lC.mV (aH.fF f))
theorem Ft{f:Int}(h:f=32\/f=64):aH.xC (aH.fF f):=by
 rcases h with rfl |rfl
 ·exact .inl rfl
 ·exact .inr rfl
def sp(f b:Int):Prop×List D:=((f=32\/f=64)/\0<=b/\b<18446744073709551616,[aH.bJM (aH.fF f),.s (.sc (.bool (cR.fH f b&&(jL f b&&decide (bR.cC (aH.fF f)<=b))))),.s (.sc (.int .u64 (bif cR.fH f b&&jL f b then b%bR.cC (aH.fF f)else 0))),.s (.sc (.int .i64 (bif cR.fH f b then(bif jL f b then 0 else 6)else 2)))])
theorem spec:fN E f42 aE (pN .i64) (pN .u64) sp:=by
 intro f b h;refine(start f b).trans ((gP h).trans ?_);unfold sp jL
 try dsimp only
 have ht:=Ft h.1;generalize aH.fF f=s at *;obtain⟨s1,s2,s3,s4⟩:=s;cases hp:cR.fH f b with
 |false=>rfl
 |true =>
  try dsimp only[cond_true,cER]
  rw[bJ rfl,gP ht]
  by_cases hc:b%bR.cC (s1,s2,s3,s4)<lC.mV (s1,s2,s3,s4)
  ·rw[aL,decide_eq_true hc];rfl
  ·rw[aM,decide_eq_false hc];rfl
def aJ:dJ:=orc2 (pN .i64) (pN .u64) sp
theorem ok:OK 42 aJ:=(dY E aE (aA cR.ok (aA lC.ok aC)) func42).lD rfl spec
end cT
namespace dV
def E:=mE [(94,cP.aJ)] 31 [] [] []
def aE:=bd f43
theorem aT:Nk E aE:=nk
theorem start a c d e b:aF E f43 aE [D.agg [sc (int i64 a),sc (int i64 c),sc (int i64 d),sc (int u64 e)],D.s (sc (int u64 b))]=letI B:=(a,c,d,e);letI C:=aH.xC B;letI A:=cP.lA B;aN C (if cP.lA B=0 then none else aN C (if cP.lA B=0 then none else aB (u64.wrap (b.tdiv A)==0) (some [D.s (sc (int u64 (b.tmod A))),D.s (sc (int i64 d))]) (aN C (some [D.s (sc (int u64 (u64.wrap (cP.lA B+b.tmod A)))),D.s (sc (int i64 (i64.wrap (i64.wrap (d+i64.wrap (u64.wrap (b.tdiv A)))-1))))])))):=eJ aT
def qM(s:Int×Int×Int×Int)(n:Int):Int:=if n/cP.lA s=0 then n%cP.lA s else cP.lA s+n%cP.lA s
def tT(s:Int×Int×Int×Int)(n:Int):Int:=if n/cP.lA s=0 then s.2.2.1 else s.2.2.1+n/cP.lA s-1
def sp(s:Int×Int×Int×Int)(n:Int):Prop×List D:=(aH.xC s/\0<=n/\n<9223372036854775808,[.s (.sc (.int .u64 (qM s n))),.s (.sc (.int .i64 (tT s n)))])
theorem spec:fN E f43 aE (pG (.pair (sN .i64) (.pair (sN .i64) (.pair (sN .i64) (sN .u64))))) (pN .u64) sp:=by
 rintro s n ⟨ht,h0,h1⟩;obtain⟨s1,s2,s3,s4⟩:=s;refine(start s1 s2 s3 s4 n).trans ?_;have hh:cP.lA (s1,s2,s3,s4)=8388608\/cP.lA (s1,s2,s3,s4)=4503599627370496:=by
  unfold cP.lA;split <;> simp
 have hs:-1074<=s3/\s3<=0:=by rcases ht with ht |ht <;> (cases ht;omega)
 unfold sp qM tT
 try dsimp only
 rw[gP ht,gP ht,gP ht];generalize cP.lA (s1,s2,s3,s4)=d at *;have t1:n.tdiv d=n/d:=cJD h0;have t2:n.tmod d=n%d:=cJE h0;have b1:0<=n/d/\n/d<9223372036854775808:=by rcases hh with rfl |rfl <;> omega
 have b2:0<=n%d/\n%d<4503599627370496:=by rcases hh with rfl |rfl <;> omega
 rw[t1,t2,aP,aP,wrap_u64 (n:=n/d)]
 by_cases hz:n/d=0
 ·rw[bJ hz,if_pos hz,if_pos hz]
 ·rw[bB hz,if_neg hz,if_neg hz,wrap_u64,wrap_i64 (n:=n/d),wrap_i64 (n:=s3+n/d),wrap_i64]
def aJ:dJ:=orc2 (pG (.pair (sN .i64) (.pair (sN .i64) (.pair (sN .i64) (sN .u64))))) (pN .u64) sp
theorem ok:OK 43 aJ:=(dY E aE (aA cP.ok aC) func43).lD rfl spec
end dV
namespace Wz
def E:=mE [(95,pQ.aJ),(50,kB.aJ)] 20 [17] [] []
def aE:=bd f44
theorem aT:Nk E aE:=nk
theorem start a b c:aF E f44 aE [D.s (sc (bool a)),D.s (sc (int u64 b)),D.s (sc (int i64 c))]=letI G:=(b !=0,M6.dg b.toNat);letI F:=wv (bif true then b !=0 else false,M6.dg b.toNat);letI C:=(false,M6.dg b.toNat);letI B:=bif iN (wv C) c then aQ (wv C) c else((0:Int),(0:Int));letI A:=bif iN F c then aQ F c else((0:Int),(0:Int));aB a (aN (0<=b/\b<18446744073709551616) (aN (iE G/\(-9223372036854775808:Int)<=c/\c<9223372036854775808) (some [D.agg [sc (bool (isNeg A.fst)),ints u64 (M6.dg A.fst.natAbs),sc (int i64 A.snd)],D.s (sc (int i64 (bif iN (wv G) c then(0:Int)else(5:Int))))]))) (aN (0<=b/\b<18446744073709551616) (aN (iE C/\(-9223372036854775808:Int)<=c/\c<9223372036854775808) (some [D.agg [sc (bool (isNeg B.fst)),ints u64 (M6.dg B.fst.natAbs),sc (int i64 B.snd)],D.s (sc (int i64 (bif iN (wv C) c then(0:Int)else(5:Int))))]))):=eJ aT
def sp(a:Bool)(b c:Int):Prop×List D:=((0<=b/\b<18446744073709551616)/\-9223372036854775808<=c/\c<9223372036854775808,dE (iN (zs a b.toNat) c) (aQ (zs a b.toNat) c))
theorem spec:oG E f44 aE pB (pN .u64) (pN .i64) sp:=by
 rintro a b c ⟨hb,hc⟩;refine(start a b c).trans ?_;have hl:=gA (n:=b.toNat) (k:=1) (dP.2 (by omega));have aWQ:∀s:Bool,wv (s,M6.dg b.toNat)=zs s b.toNat:=fun s=>by show zs s (M6.val (M6.dg b.toNat))=_;rw[M6.bD]
 have h0:iE (false,M6.dg b.toNat):=⟨M6.aY _,fun h=>Bool.noConfusion h,(by omega:(M6.dg b.toNat).length<=8192)⟩;cases a with
 |false =>
  rw[bF,gP hb,gP ⟨h0,hc⟩,aWQ];rfl
 |true =>
  have h1:iE (b !=0,M6.dg b.toNat):=⟨M6.aY _,fun h=>by
   have hb0:b≠0:=bne_iff_ne.1 h;show M6.val (M6.dg b.toNat)≠0;rw[M6.bD];omega,by show(M6.dg b.toNat).length<=8192;omega⟩
  have e:zs (b !=0) b.toNat=zs true b.toNat:=by
   by_cases hb0:b=0
   ·subst hb0;rfl
   ·rw[bne_iff_ne.2 hb0]
  rw[bT]
  try dsimp only[cond_true]
  rw[gP hb,gP ⟨h1,hc⟩,aWQ,e];rfl
def aJ:dJ:=orc3 pB (pN .u64) (pN .i64) sp
theorem ok:OK 44 aJ:=(dY E aE (aA pQ.ok (aA kB.ok aC)) func44).xN rfl spec
end Wz
namespace bI
def E:=mE [(42,cT.aJ),(43,dV.aJ),(44,Wz.aJ)] 36 [15,33] [] []
def aE:=bd f12
theorem aT:Nk E aE:=nk
theorem start a b:aF E f12 aE [D.s (sc (int i64 a)),D.s (sc (int u64 b))]=letI H:=bif cR.fH a b then bif cT.jL a b then(0:Int)else(6:Int)else(2:Int);letI C:=aH.fF a;letI F:=(C.fst,C.snd.fst,C.snd.snd.fst,C.snd.snd.snd);letI B:=bif cR.fH a b&&cT.jL a b then b%bR.cC C else(0:Int);letI I:=dV.tT F B;letI G:=zs (cR.fH a b&&(cT.jL a b&&decide (bR.cC C<=b))) (dV.qM F B).toNat;letI A:=bif iN G I then aQ G I else((0:Int),(0:Int));aN ((a=32\/a=64)/\0<=b/\b<18446744073709551616) (aB (H !=0) (some [D.agg [sc (bool false),sc (slice none 0 0),sc (int i64 0)],D.s (sc (int i64 H))]) (aN (aH.xC F/\(0<=bif cR.fH a b&&cT.jL a b then b%bR.cC C else(0:Int))/\B<9223372036854775808) (aN ((0<=dV.qM F B/\dV.qM F B<18446744073709551616)/\(-9223372036854775808:Int)<=dV.tT F B/\dV.tT F B<9223372036854775808) (some [D.agg [sc (bool (isNeg A.fst)),ints u64 (M6.dg A.fst.natAbs),sc (int i64 A.snd)],D.s (sc (int i64 (bif iN G I then(0:Int)else(5:Int))))])))):=eJ aT
def lL(f b:Int):Int:=zs (decide (bR.cC (aH.fF f)<=b)) (dV.qM (aH.fF f) (b%bR.cC (aH.fF f))).toNat
def nA(f b:Int):Int:=dV.tT (aH.fF f) (b%bR.cC (aH.fF f))
def sp(f b:Int):Prop×List D:=((f=32\/f=64)/\0<=b/\b<18446744073709551616,[dD (bif cR.fH f b&&cT.jL f b then aQ (lL f b) (nA f b)else(0,0)),.s (.sc (.int .i64 (bif cR.fH f b then(bif cT.jL f b then 0 else 6)else 2)))])
theorem Ur{s:Int×Int×Int×Int}{n:Int}(_:aH.xC s)(_:0<=n):0<=dV.qM s n/\dV.qM s n<9007199254740992:=by
 unfold dV.qM cP.lA;split <;> split <;> omega
theorem Vi{s:Int×Int×Int×Int}{n:Int}(ht:aH.xC s)(h0:0<=n)(h1:n<lC.mV s):-1074<=dV.tT s n/\dV.tT s n<1024:=by
 rcases ht with rfl |rfl
 ·unfold dV.tT;have:n<2139095040:=h1;rw[show cP.lA (32,24,-149,2143289345)=8388608 from rfl]
  try dsimp only
  split <;> omega
 ·unfold dV.tT;have:n<9218868437227405312:=h1;rw[show cP.lA (64,53,-1074,9221120237041090561)=4503599627370496 from rfl]
  try dsimp only
  split <;> omega
theorem aZW{z e:Int}(hz:z.natAbs<9007199254740992)(h0:-1074<=e)(h1:e<1024):iN z e=true:=by
 unfold iN
 by_cases hc:z=0
 ·rw[decide_eq_true hc,cGZ]
 ·have h2:=Dw (n:=z.natAbs) (by omega);have h3:bl z.natAbs<=53:=dP.2 (by omega);rw[decide_eq_true (show -1048576<=e+(tz z.natAbs:Int) by omega),decide_eq_true (show e+(tz z.natAbs:Int)<=1048576 by omega),cER,Bool.or_true]
theorem spec:Ro E f12 aE (pN .i64) (pN .u64) sp:=by
 intro f b h;have e:=(start f b).trans (gP h);have ht:=cT.Ft h.1;have hb0:0<=b:=h.2.1;unfold sp
 try dsimp only
 cases hp:cR.fH f b with
 |false =>
  rw[hp]at e;refine⟨_,e,.cons ?_ (iX.refl _)⟩;unfold dD;rw[cGY,cond_false,show((0,0):Int×Int).1.natAbs=0 from rfl,M6.cD];exact Ap.agg (.cons (Fc.refl _) (.cons (Fc.nil _) (Ab.refl _)))
 |true =>
  rw[hp]at e;cases hq:cT.jL f b with
  |false =>
   rw[hq]at e;refine⟨_,e,.cons ?_ (iX.refl _)⟩;unfold dD;rw[cHB,cond_false,show((0,0):Int×Int).1.natAbs=0 from rfl,M6.cD];exact Ap.agg (.cons (Fc.refl _) (.cons (Fc.nil _) (Ab.refl _)))
  |true =>
   rw[hq]at e;have Dr:0<=b%bR.cC (aH.fF f):=by
    unfold bR.cC;split <;> omega
   have qU:b%bR.cC (aH.fF f)<lC.mV (aH.fF f):=of_decide_eq_true hq;have hinf:lC.mV (aH.fF f)<=9218868437227405312:=by unfold lC.mV;split <;> omega
   have hm:=Ur ht Dr;have hx:=Vi ht Dr qU;rw[show(true&&true)=true from rfl]at e
   try dsimp only[cond_true]at e
   rw[show((aH.fF f).1,(aH.fF f).2.1,(aH.fF f).2.2.1,(aH.fF f).2.2.2)=aH.fF f from rfl]at e;rw[gR rfl,gP ⟨ht,Dr,by omega⟩,gP ⟨⟨hm.1,by omega⟩,by omega,by omega⟩]at e;refine⟨_,e,?_⟩;have hi:iN (lL f b) (nA f b)=true:=aZW (by unfold lL;rw[kS];omega) hx.1 hx.2;unfold lL nA at hi;unfold lL nA;rw[show(true&&(true&&decide (bR.cC (aH.fF f)<=b)))=decide (bR.cC (aH.fF f)<=b)from rfl,hi];exact iX.refl _
def aJ:dJ:=orc2 (pN .i64) (pN .u64) sp
theorem ok:OK 12 aJ:=(dY E aE (aA cT.ok (aA dV.ok (aA Wz.ok aC))) func12).aSE rfl spec
end bI
namespace aKB
def E:=mE [(95,pQ.aJ),(105,Fh.aJ)] 14 [] [] []
def aE:=bd f51
theorem aT:Nk E aE:=nk
theorem start a:aF E f51 aE [D.s (sc (int i64 a))]=letI B:=M6.dg (u64.wrap a).toNat;letI C:=zs false (M6.val B);letI A:=M6.dg (u64.wrap ((0:Int)-u64.wrap a)).toNat;letI F:=zs true (M6.val A);aB (decide (a<0)) (aN (0<=u64.wrap ((0:Int)-u64.wrap a)/\u64.wrap ((0:Int)-u64.wrap a)<18446744073709551616) (aN (M6.cN A/\A.length<=1099511627776) (some [D.agg [sc (bool (isNeg F)),ints u64 (M6.dg F.natAbs)]]))) (aN (0<=u64.wrap a/\u64.wrap a<18446744073709551616) (aN (M6.cN B/\B.length<=1099511627776) (some [D.agg [sc (bool (isNeg C)),ints u64 (M6.dg C.natAbs)]]))):=eJ aT
def sp(a:Int):Prop×List D:=(-9223372036854775808<=a/\a<9223372036854775808,[wD a])
theorem spec:iS E f51 aE (pN .i64) sp:=by
 rintro a ⟨h1,h2⟩;refine(start a).trans ?_;show _=some [wD a]
 by_cases hn:a<0
 ·have w1:u64.wrap (0-u64.wrap a)=(a.natAbs:Int):=by rw[fY,fY];omega
  have hl:=gA (n:=a.natAbs) (k:=1) (dP.2 (by omega));rw[aM hn,w1,cFM,gP ⟨by omega,by omega⟩,gP ⟨M6.aY _,by omega⟩,M6.bD];have:zs true a.natAbs=a:=by show -(a.natAbs:Int)=a;omega
  rw[this];rfl
 ·have w1:u64.wrap a=(a.natAbs:Int):=by rw[fY];omega
  have hl:=gA (n:=a.natAbs) (k:=1) (dP.2 (by omega));rw[aL hn,w1,cFM,gP ⟨by omega,by omega⟩,gP ⟨M6.aY _,by omega⟩,M6.bD];have:zs false a.natAbs=a:=by show((a.natAbs:Nat):Int)=a;omega
  rw[this];rfl
def aJ:dJ:=orc1 (pN .i64) sp
theorem ok:OK 51 aJ:=(dY E aE (aA pQ.ok (aA Fh.ok aC)) func51).oU rfl spec
end aKB
namespace aAO
def E:=mE [(51,aKB.aJ),(50,kB.aJ)] 15 [] [] []
def aE:=bd f57
theorem aT:Nk E aE:=nk
theorem start a b:aF E f57 aE [D.s (sc (int i64 a)),D.s (sc (int i64 b))]=letI B:=(isNeg a,M6.dg a.natAbs);letI A:=bif iN (wv B) b then aQ (wv B) b else((0:Int),(0:Int));aN ((-9223372036854775808:Int)<=a/\a<9223372036854775808) (aN (iE B/\(-9223372036854775808:Int)<=b/\b<9223372036854775808) (some [D.agg [sc (bool (isNeg A.fst)),ints u64 (M6.dg A.fst.natAbs),sc (int i64 A.snd)]])):=eJ aT
def sp(m e:Int):Prop×List D:=((-9223372036854775808<=m/\m<9223372036854775808)/\-9223372036854775808<=e/\e<9223372036854775808,[dD (bif iN m e then aQ m e else(0,0))])
theorem spec:fN E f57 aE (pN .i64) (pN .i64) sp:=by
 rintro m e ⟨h1,h2⟩;refine(start m e).trans ?_;have hb:bl m.natAbs<=64:=dP.2 (by omega);rw[gP h1,gP ⟨gL (by omega),h2⟩,oI];rfl
def aJ:dJ:=orc2 (pN .i64) (pN .i64) sp
theorem ok:OK 57 aJ:=(dY E aE (aA aKB.ok (aA kB.ok aC)) func57).lD rfl spec
end aAO
namespace Wv
def E:=mE [(108,rI.aJ)] 11 [8] [] []
def aE:=bd f58
theorem aT:Nk E aE:=nk
theorem start a c d b:aF E f58 aE [D.agg [sc (bool a),ints u64 c,sc (int i64 d)],D.s (sc (int i64 b))]=letI B:=dv (a,c,d);letI A:=bif rI.uP B b then rI.Bs B b else((0:Int),(0:Int));aN (aU (a,c,d)/\((-4611686018427387904:Int)<=b/\b<4611686018427387904)/\false=false) (some [D.agg [sc (bool (isNeg A.fst)),ints u64 (M6.dg A.fst.natAbs),sc (int i64 A.snd)],D.s (sc (int i64 (bif rI.uP B b then(0:Int)else(5:Int))))]):=eJ aT
def sp(x:gW)(b:Int):Prop×List D:=(aU x/\-4611686018427387904<=b/\b<4611686018427387904,dE (rI.uP (dv x) b) (rI.Bs (dv x) b))
theorem spec:fN E f58 aE kA (pN .i64) sp:=fun x b h =>
 (start x.1 x.2.1 x.2.2 b).trans (gP ⟨h.1,h.2,rfl⟩)
def aJ:dJ:=orc2 kA (pN .i64) sp
theorem ok:OK 58 aJ:=(dY E aE (aA rI.ok aC) func58).lD rfl spec
end Wv
namespace aSB
def E:=mE [(45,mZ.aJ),(47,Hl.aJ),(46,nM.aJ)] 22 [] [] []
def aE:=bd f68
theorem aT:Nk E aE:=nk
theorem start a b c:aF E f68 aE [D.agg [sc (bool a),ints u64 b,sc (int i64 c)]]=aN (aU (a,b,c)) (aN (b.length<=1099511627776) (aB (!a) (aN True (some [D.agg [sc (bool !(b.length:Int)==(0:Int)),ints u64 b,sc (int i64 c)],D.s (sc (int i64 0))])) (some [D.agg [sc (bool false),ints u64 b,sc (int i64 c)],D.s (sc (int i64 0))]))):=eJ aT
def sp(x:gW):Prop×List D:=(aU x,dE true (-(dv x).1,(dv x).2))
theorem spec:iS E f68 aE kA sp:=by
 intro x h;have h:aU x:=h;have hl:=h.len;have hc:=h.Fp.cells;refine(start x.1 x.2.1 x.2.2).trans ?_;obtain⟨b,a,e⟩:=x
 try dsimp only at *
 unfold sp
 try dsimp only
 rw[gP h,gP];have hz:=M6.cZ h.Kl;have ha:=iY (b,a)
 try dsimp only at ha hz
 have e1:dE true (-(dv (b,a,e)).1,(dv (b,a,e)).2)=[D.agg [.sc (.bool (isNeg (-(wv (b,a))))),.ints .u64 a,.sc (.int .i64 e)],.s (.sc (.int .i64 0))]:=by
  show [M.dD (-(wv (b,a)),e),_]=_;unfold M.dD
  try dsimp only
  rw[cIJ,hc.2];rfl
 rw[e1];cases b with
 |true =>
  have:wv (true,a)=-(M6.val a:Int):=Tp (x:=(true,a)) rfl;rw[cDP,bF,gH.2 (by omega)]
 |false =>
  have hw:wv (false,a)=(M6.val a:Int):=Hp (x:=(false,a)) rfl;rw[cNC,bT,gP trivial]
  by_cases h0:a.length=0
  ·rw[beq_iff_eq.2 (show(a.length:Int)=0 by omega),gH.2 (by have:=hz.1 h0;omega)];rfl
  ·rw[beq_eq_false_iff_ne.2 (show(a.length:Int)≠0 by omega),kJ.2 (by have:M6.val a≠0:=fun h=>h0 (hz.2 h);omega)];rfl
def aJ:dJ:=orc1 kA sp
theorem ok:OK 68 aJ:=(dY E aE (aA mZ.ok (aA Hl.ok (aA nM.ok aC))) func68).oU rfl spec
end aSB
namespace Wu
def E:=mE [(68,aSB.aJ),(13,bV.aJ)] 22 [10,19] [] []
def aE:=bd f59
theorem aT:Nk E aE:=nk
theorem start a b c d e f:aF E f59 aE [D.agg [sc (bool a),ints u64 b,sc (int i64 c)],D.agg [sc (bool d),ints u64 e,sc (int i64 f)]]=letI G:=dv (a,b,c);letI F:=dv (d,e,f);letI C:=bif true then(-F.fst,F.snd)else((0:Int),(0:Int));letI A:=dv (isNeg C.fst,M6.dg C.fst.natAbs,C.snd);letI B:=bif bV.kY G A then bV.oP G A else((0:Int),(0:Int));aN (aU (d,e,f)) (aN (aU (a,b,c)/\aU (isNeg (-F.fst),M6.dg (-F.fst).natAbs,F.snd)) (some [D.agg [sc (bool (isNeg B.fst)),ints u64 (M6.dg B.fst.natAbs),sc (int i64 B.snd)],D.s (sc (int i64 (bif bV.kY G A then(0:Int)else(5:Int))))])):=eJ aT
def sp(x y:gW):Prop×List D:=(aU x/\aU y,dE (bV.kY (dv x) (-(dv y).1,(dv y).2)) (bV.oP (dv x) (-(dv y).1,(dv y).2)))
theorem spec:fN E f59 aE kA kA sp:=by
 rintro x y ⟨hx,hy⟩;refine(start x.1 x.2.1 x.2.2 y.1 y.2.1 y.2.2).trans ?_;have hn:=dW hy.xD.neg;have hv:=dZ (-(dv y).1,(dv y).2);rw[gP hy,gP ⟨hx,hn⟩]
 try dsimp only[cond_true]at hv ⊢
 rw[hv];rfl
def aJ:dJ:=orc2 kA kA sp
theorem ok:OK 59 aJ:=(dY E aE (aA aSB.ok (aA bV.ok aC)) func59).lD rfl spec
end Wu
end W
namespace M6
open Go M
def rU(n v:Nat):List Int:=dg v ++ cDS (n-(dg v).length) 0
theorem nF{n v:Nat}:val (rU n v)=v:=by
 unfold rU;rw[jW,jB,bD];omega
theorem nG{n v:Nat}:cA (rU n v):=qD.2 ⟨gG _,jD _⟩
theorem jE{n v:Nat}(h:v<18446744073709551616^n):(rU n v).length=n:=by
 have:=dS h;unfold rU;rw[List.length_append,List.length_replicate];omega
theorem qV {a : List Int} {n v : Nat} (h : cA a) (hl : a.length = n) (hv : val a = v) : a = rU n v := by
  subst hl; subst hv
  obtain ⟨k, hk⟩ := Ir h
  unfold rU
  have : a.length = (dg (val a)).length + k := by conv => lhs; rw [hk]
                                                  simp
  rw [this, Nat.add_sub_cancel_left]
  exact hk
theorem aPM{n:Nat}:rU n 0=cDS n 0:=by simp[rU,cD]
theorem aPN{n v:Nat}:(rU n v).take (dg v).length=dg v:=by
 unfold rU;exact List.take_left
theorem oS{a:List Int}{j:Nat}(hj:j<a.length)(d:Int):val (a.set j d)+18446744073709551616^j*(a.getD j 0).toNat=val a+18446744073709551616^j*d.toNat:=by
 have h1:=iJ (a.set j d) (n:=j) (by simp;omega);have h2:=iJ a (n:=j) (by omega);rw[qP hj,cMM (cBP j)]at h1;rw[iK (a:=a) j]at h2;rw[h1,h2,cGQ,cGQ];omega
theorem sH{m n:Nat}(h:m<=n):18446744073709551616^m<=18446744073709551616^n:=cEQ (by omega) h
theorem Yl{a:List Int}(h:cN a):∀k,cN (a.drop k)
 |0=>h
 |k+1=>by
  match a,h with
  | [],h=>simpa using h
  |d :: a,h=>exact Yl (Yk h) k
theorem vM{a:List Int}(h:cA a)(k:Nat):val (a.take k)=val a%18446744073709551616^k:=by
 by_cases hk:k<=a.length
 ·rw[iJ a hk,cNV,cME (iG h k)]
 ·rw[bW (by omega),cME];exact cCM (dT h) (sH (by omega))
theorem lU{a:List Int}(h:cA a)(k:Nat):val (a.drop k)=val a/18446744073709551616^k:=by
 by_cases hk:k<=a.length
 ·have h1:=iJ a hk;have h2:=iG h k;rw[h1,cIF _ _ (dA),cHM h2,cBR]
 ·rw[cNG (by omega),cHM]
  ·rfl
  ·exact cCM (dT h) (sH (by omega))
theorem Cv(v o n:Nat):v=v%18446744073709551616^o+18446744073709551616^o*(v/18446744073709551616^o%18446744073709551616^n)+18446744073709551616^(o+n)*(v/18446744073709551616^(o+n)):=by
 have h1:=cMG v (18446744073709551616^o);have h2:=cMG (v/18446744073709551616^o) (18446744073709551616^n);rw[cHG,<-cGP]at h2
 conv=>lhs;rw[<-h1,<-h2]
 rw[cGQ,<-cGS,<-cGP];omega
theorem Xe{v v' o n X c:Nat}(h1:v'%18446744073709551616^o=v%18446744073709551616^o)(h2:v'/18446744073709551616^(o+n)=v/18446744073709551616^(o+n))(h:v'+18446744073709551616^o*X=v+18446744073709551616^(o+n)*c) :
  v'/18446744073709551616^o%18446744073709551616^n+X=v/18446744073709551616^o%18446744073709551616^n+18446744073709551616^n*c:=by
 have e1:=Cv v o n;have e2:=Cv v' o n;rw[h1,h2]at e2;apply Nat.eq_of_mul_eq_mul_left (cEP (n:=o) (by omega:0<18446744073709551616));have e3:18446744073709551616^(o+n)*c=18446744073709551616^o*(18446744073709551616^n*c):=by rw[cGP,cGS]
 rw[e3]at h;rw[cGQ,cGQ];omega
theorem aBM(v o n:Nat):v/18446744073709551616^o%18446744073709551616^n<18446744073709551616^n:=cDX _ (dA)
theorem Xf{z z':List Int}(hd:cA z)(Eb:cA z'){o n:Nat}(h1:z'.take o=z.take o)(h2:z'.drop (o+n)=z.drop (o+n)):val z'%18446744073709551616^o=val z%18446744073709551616^o/\val z'/18446744073709551616^(o+n)=val z/18446744073709551616^(o+n):=by
 rw[<-vM hd,<-vM Eb,h1,<-lU hd,<-lU Eb,h2];exact⟨rfl,rfl⟩
end M6
namespace W
open Go AI M
namespace aRQ
def E:=mE [(147,Ci.aJ)] 18 [] [] []
def aE:=bd f193
theorem aT:Nk E aE:=nk
theorem start a:aF E f193 aE [D.s (ints u64 a)]=letI B:=M6.dg (M6.val a);letI A:=(B.length:Int);aN (M6.cA a/\a.length<=1099511627776) (aB (decide (8192<A)) (some [D.s (sc (slice none 0 0)),D.s (sc (int i64 5))]) (if 0<=A/\A<=A/\A<=(8796093022208:Int)then some [D.own 22 u64 (cHK A.toNat B ++ cHL (min B.length A.toNat) (cDS A.toNat (0:Int))),D.s (sc (int i64 0))]else none)):=eJ aT
def sp(a:List Int):Prop×List D:=(M6.cA a/\a.length<=1099511627776,[.s (.ints .u64 (bif dK.nS (M6.val a)then M6.dg (M6.val a)else [])),.s (.sc (.int .i64 (bif dK.nS (M6.val a)then 0 else 5)))])
theorem spec:aRJ E f193 aE (pI .u64) sp:=by
 intro a h;have hl:=M6.tG h.1;have h2:=h.2;have e:=(start a).trans (gP h);unfold sp dK.nS;simp only;generalize M6.dg (M6.val a)=d at *
 by_cases hc:d.length<=8192
 ·rw[aL,if_pos ⟨by omega,by omega,by omega⟩]at e;rw[decide_eq_true hc];refine⟨_,e,.cons ?_ (iX.refl _)⟩;simp only[cFM,cIK,Nat.min_self,cond_true];have:cHL d.length (cDS d.length (0:Int))=[]:=List.drop_eq_nil_of_le (by simp);rw[this,cHP];exact Ap.own _ _ _
 ·rw[aM]at e;rw[decide_eq_false hc];exact⟨_,e,.cons (Ap.nil _) (iX.refl _)⟩
def aJ:dJ:=orc1 (pI .u64) sp
theorem ok:OK 193 aJ:=(dY E aE (aA Ci.ok aC) func193).bET rfl spec
end aRQ
namespace aRS
def E:=mE [(137,Co.aJ)] 6 [] [] []
def aE:=bd f195
theorem aT:Nk E aE:=nk
theorem start a:aF E f195 aE [D.s (sc (int u64 a))]=aN (0<=a/\a<18446744073709551616) (some [D.s (sc (int i64 (i64.wrap ((64:Int)-(↑(bl a.toNat):Int)))))]):=eJ aT
def sp(a:Int):Prop×List D:=(0<=a/\a<18446744073709551616,[.s (.sc (.int .i64 (64-(bl a.toNat:Int))))])
theorem spec:iS E f195 aE (pN .u64) sp:=by
 intro a h;refine(start a).trans ((gP h).trans ?_);obtain⟨h1,h2⟩:=h;have:bl a.toNat<=64:=dP.2 (by omega);rw[wrap_i64];rfl
def aJ:dJ:=orc1 (pN .u64) sp
theorem ok:OK 195 aJ:=(dY E aE (aA Co.ok aC) func195).oU rfl spec
end aRS
namespace uD
def E:=mE [(195,aRS.aJ)] 135 [] [(24,[2,8,9,10,14,15,16,17,18]),(17,[2,8,9,10,11,13,14,15,16]),(3,[0,1,2]),(5,[0,1,2]),(18,[2,8,9,10,11,13,14,15,16]),(21,[2,8,9,10,11,13,14,15]),(25,[2,8,9,10,14,15,16,17,18]),(28,[2,8,14,15,17,18])] [3,5,18,21,25,28]
def aE:=bd f226
theorem aT:Nk E aE:=nk
def J3 a b c:=lK E f226 aE 3 [dM a,dM b,dM c]
def J5 a b c:=lK E f226 aE 5 [dM a,dM b,dM c]
def bEO a b c d e f g h i:=qA E f226 aE 17 [dM a,dM b,dM c,dM d,dM e,dM f,dM g,dM h,dM i]
def bDC a b c d e f g h i:=lK E f226 aE 18 [dM a,dM b,dM c,dM d,dM e,dM f,dM g,dM h,dM i]
def bJJ a b c d e f g h:=lK E f226 aE 21 [dM a,dM b,dM c,dM d,dM e,dM f,dM g,dM h]
def bJH a b c d e f g h i:=qA E f226 aE 24 [dM a,dM b,dM c,dM d,dM e,dM f,dM g,dM h,dM i]
def bQW a b c d e f g h i:=lK E f226 aE 25 [dM a,dM b,dM c,dM d,dM e,dM f,dM g,dM h,dM i]
def aWL a b c d e f:=lK E f226 aE 28 [dM a,dM b,dM c,dM d,dM e,dM f]
theorem start a b c:aF E f226 aE [D.s (sc (int u64 a)),D.s (sc (int u64 b)),D.s (sc (int u64 c))]=aB (c==0) none (uD.J3 a b c):=eJ aT
theorem iB a b c:J3 a b c=aB (decide (c<=a)) none (uD.J5 a b c):=cJ aT
theorem aAT a b c:J5 a b c=letI C:=(↑(bl c.toNat):Int);letI H:=u64.wrap ((64:Int)-C);letI B:=b/(↑((2:Nat)^min (u64.wrap ((64:Int)-u64.wrap ((64:Int)-C))).toNat 64):Int);letI A:=(↑((2:Nat)^min H.toNat 64):Int);letI G:=fC BinOp.or u64 (u64.wrap (a*A)) B;letI F:=u64.wrap (c*A)/4294967296;aB (a==0) (if c=0 then none else if c=0 then none else some [D.s (sc (int u64 (u64.wrap (b.tdiv c)))),D.s (sc (int u64 (b.tmod c)))]) (aN (0<=c/\c<18446744073709551616) (if u64.wrap ((64:Int)-C)<0 then none else if u64.wrap ((64:Int)-C)<0 then none else if u64.wrap ((64:Int)-u64.wrap ((64:Int)-C))<0 then none else if u64.wrap ((64:Int)-C)<0 then none else if u64.wrap (c*A)/4294967296=(0:Int)then none else uD.bEO (u64.wrap (c*A)) H F (fC BinOp.and u64 (u64.wrap (c*A)) 4294967295) G (u64.wrap (b*A)/4294967296) (fC BinOp.and u64 (u64.wrap (b*A)) 4294967295) (u64.wrap (G.tdiv F)) (u64.wrap (fC BinOp.or u64 (u64.wrap (a*A)) B-u64.wrap (u64.wrap (G.tdiv F)*F))))):=cJ aT
theorem bCY a b c d e f g h i:bEO a b c d e f g h i=letI A:=uD.bDC a b c d e f g h i;aB (decide (4294967296<=h)) A (aB (decide (u64.wrap (u64.wrap ((4294967296:Int)*i)+f)<u64.wrap (h*d))) A (uD.bJJ a b c d e f g h)):=lJ aT
theorem Px a b c d e f g h i:bDC a b c d e f g h i=aB (decide (4294967296<=u64.wrap (i+c))) (uD.bJJ a b c d e f g (u64.wrap (h-1))) (uD.bEO a b c d e f g (u64.wrap (h-1)) (u64.wrap (i+c))):=cJ aT
theorem bDB a b c d e f g h:bJJ a b c d e f g h=letI A:=u64.wrap (u64.wrap (e*4294967296)+f)-u64.wrap (h*a);letI B:=u64.wrap A;if c=0 then none else uD.bJH a b c d g h (u64.wrap (u64.wrap A-u64.wrap (u64.wrap (B.tdiv c)*c))) B (u64.wrap (B.tdiv c)):=cJ aT
theorem bCX a b c d e f g h i:bJH a b c d e f g h i=letI A:=uD.bQW a b c d e f g h i;aB (decide (4294967296<=i)) A (aB (decide (u64.wrap (u64.wrap ((4294967296:Int)*g)+e)<u64.wrap (i*d))) A (uD.aWL a b e f h i)):=lJ aT
theorem bDA a b c d e f g h i:bQW a b c d e f g h i=aB (decide (4294967296<=u64.wrap (g+c))) (uD.aWL a b e f h (u64.wrap (i-1))) (uD.bJH a b c d e f (u64.wrap (g+c)) h (u64.wrap (i-1))):=cJ aT
theorem Jn a b c d e f:aWL a b c d e f=if b<0 then none else some [D.s (sc (int u64 (u64.wrap (u64.wrap (d*4294967296)+f)))),D.s (sc (int u64 (u64.wrap (u64.wrap (u64.wrap (e*4294967296)+c)-u64.wrap (f*a))/(↑((2:Nat)^min b.toNat 64):Int))))]:=cJ aT
theorem aLF{n:Nat}(h:n<18446744073709551616):u64.wrap (n:Int)=(n:Int):=wrap_u64 (cLI _) (Int.ofNat_lt.2 h)
theorem loop{y1 y0 u u1:Nat}(aOF:2147483648<=y1)(bAA:y1<4294967296)(aXN:y0<4294967296)(hu:u<y1*4294967296+y0)(aOH:u1<4294967296)
  (Lf Jf:Int->Int->Option (List D)) (Kf:Int->Option (List D))
  (hL:∀q r,Lf q r=aB (decide (4294967296<=q)) (Jf q r) (aB (decide (u64.wrap (u64.wrap (4294967296*r)+(u1:Int))<u64.wrap (q*(y0:Int)))) (Jf q r) (Kf q)))
  (hJ:∀q r,Jf q r=aB (decide (4294967296<=u64.wrap (r+(y1:Int)))) (Kf (u64.wrap (q-1))) (Lf (u64.wrap (q-1)) (u64.wrap (r+(y1:Int))))) :
  ∀(q r:Nat),u=q*y1+r->r<4294967296->u*4294967296+u1<(q+1)*(y1*4294967296+y0) ->
   Lf (q:Int) (r:Int)=Kf (((u*4294967296+u1)/(y1*4294967296+y0):Nat):Int):=by
 have hy:0<y1*4294967296+y0:=by omega
 intro q
 induction q with
 |zero =>
  intro r h1 h2 h3;have h0:(u*4294967296+u1)/(y1*4294967296+y0)=0:=cHM (by omega);rw[hL,aL,h0,show(((0:Nat):Int)*(y0:Int))=0 from by omega,wrap_u64 (n:=0),aL ?_];rw[wrap_u64 (n:=4294967296*(r:Int)),wrap_u64];omega
 |succ q ih =>
  intro r h1 h2 h3;have hq:q<=4294967296:=by
   refine cEJ fun hc=>?_
   have:4294967297*y1<=q*y1:=cDE _ hc;rw[cCJ]at h1;omega
  have w1:u64.wrap (((q+1:Nat):Int)-1)=(q:Int):=by rw[wrap_u64];omega
  have w2:u64.wrap ((r:Int)+(y1:Int))=((r+y1:Nat):Int):=by rw[wrap_u64];omega
  have hle:(q+1)*y0<=4294967297*4294967295:=cMD (by omega) (by omega);have w3:u64.wrap (((q+1:Nat):Int)*(y0:Int))=(((q+1)*y0:Nat):Int):=by
   rw[<-cHN];exact wrap_u64
  have w4:u64.wrap (u64.wrap (4294967296*(r:Int))+(u1:Int))=((4294967296*r+u1:Nat):Int):=by
   rw[wrap_u64 (n:=4294967296*(r:Int)),wrap_u64];omega
  have ex:(q+1)*(y1*4294967296+y0)=(q*y1+y1)*4294967296+(q+1)*y0:=by
   rw[cGQ,<-cGS,cCJ q 1 y1,cFT]
  have cAS:q*(y1*4294967296+y0)=(q*y1)*4294967296+q*y0:=by
   rw[cGQ,<-cGS]
  have aBC:u=q*y1+(r+y1):=by rw[cCJ]at h1;omega
  have aIW:u*4294967296+u1<(q+1)*(y1*4294967296+y0)->Jf ((q+1:Nat):Int) r=Kf (((u*4294967296+u1)/(y1*4294967296+y0):Nat):Int):=by
   intro hT;rw[hJ,w1,w2]
   by_cases hc:4294967296<=r+y1
   ·have aSM:q*y0<=4294967296*4294967295:=cMD hq (by omega);have:(u*4294967296+u1)/(y1*4294967296+y0)=q:=by
     refine cMJ ?_ hT;rw[cAS,aBC];omega
    rw[aM,this]
   ·rw[aL];exact ih (r+y1) aBC (by omega) hT
  rw[hL,w3,w4]
  by_cases hb:4294967296<=q+1
  ·rw[aM];apply aIW;have:4294967296*(y1*4294967296+y0)<=(q+1)*(y1*4294967296+y0):=cDE _ hb;omega
  ·rw[aL]
   by_cases hc:4294967296*r+u1<(q+1)*y0
   ·rw[aM];apply aIW;rw[ex];omega
   ·have:(u*4294967296+u1)/(y1*4294967296+y0)=q+1:=by
     refine cMJ ?_ h3;rw[ex,aBC];rw[cCJ (q*y1)];omega
    rw[aL,this]
theorem bES(P b Q:Int):u64.wrap (u64.wrap (u64.wrap P+b)-u64.wrap Q)=u64.wrap (P+b-Q):=by
 rw[fY,fY,fY,fY,fY];omega
theorem bFO{u u1 y:Nat}(hy:0<y)(bMR:y<=18446744073709551616):u64.wrap ((u:Int)*4294967296+(u1:Int)-(((u*4294967296+u1)/y:Nat):Int)*(y:Int))=(((u*4294967296+u1)%y:Nat):Int):=by
 have h:=cGV (u*4294967296+u1) y;have hm:=cDX (u*4294967296+u1) hy;rw[<-cHN,cGN _ y];generalize y*((u*4294967296+u1)/y)=z at *;generalize (u*4294967296+u1)%y=m at *;rw[wrap_u64];omega
theorem bFQ{y1 y0 u u1 u0 s:Nat}(aOF:2147483648<=y1)(bAA:y1<4294967296)(aXN:y0<4294967296)(hu:u<y1*4294967296+y0)(aOH:u1<4294967296)(bDT:u0<4294967296)(hs:s<=63) :
  bEO ((y1*4294967296+y0:Nat):Int) s y1 y0 u u1 u0 ((u/y1:Nat):Int) ((u%y1:Nat):Int) =
   some [D.s (.sc (.int .u64 (((u*18446744073709551616+(u1*4294967296+u0))/(y1*4294967296+y0):Nat):Int))),D.s (.sc (.int .u64 (((u*18446744073709551616+(u1*4294967296+u0))%(y1*4294967296+y0)/2^s:Nat):Int)))]:=by
 have hy:0<y1*4294967296+y0:=by omega
 have aMM:∀v:Nat,∀w:Nat,w<4294967296->v*4294967296+w<(v/y1+1)*(y1*4294967296+y0):=by
  intro v w hw;have h:=cGV v y1;have hm:=cDX v (show 0<y1 by omega);have:(v/y1+1)*(y1*4294967296+y0)=(y1*(v/y1)+y1)*4294967296+(v/y1+1)*y0:=by
   rw[cGQ,<-cGS,cCJ,cFT,cGN y1]
  rw[this];omega
 have dm:∀v:Nat,v=v/y1*y1+v%y1:=by
  intro v;rw[cGN];exact(cGV v y1).symm
 obtain⟨Y,hY⟩:∃Y:Int,Y=((y1*4294967296+y0:Nat):Int):=⟨_,rfl⟩;rw[<-hY];have l1:bEO Y s y1 y0 u u1 u0 ((u/y1:Nat):Int) ((u%y1:Nat):Int)=bJJ Y s y1 y0 u u1 u0 (((u*4294967296+u1)/(y1*4294967296+y0):Nat):Int) :=
  loop aOF bAA aXN hu aOH (bEO Y s y1 y0 u u1 u0) (bDC Y s y1 y0 u u1 u0) (bJJ Y s y1 y0 u u1 u0) (fun q r=>bCY ..) (fun q r=>Px ..) (u/y1) (u%y1) (dm u) (by have:=cDX u (show 0<y1 by omega);omega) (aMM u u1 aOH)
 refine l1.trans ?_;rw[bDB,aP,bES];have m1:=bFO (u:=u) (u1:=u1) hy (by omega);rw[<-hY]at m1;rw[m1];obtain⟨q1,Qi⟩:∃q1,(u*4294967296+u1)/(y1*4294967296+y0)=q1:=⟨_,rfl⟩;rw[Qi];have hv:=cDX (u*4294967296+u1) hy;have hT:=cGV (u*4294967296+u1) (y1*4294967296+y0);rw[Qi]at hT;obtain⟨v,bWS⟩:∃v,(u*4294967296+u1)%(y1*4294967296+y0)=v:=⟨_,rfl⟩;rw[bWS]at hv hT ⊢;have hd:v/y1<=v:=cKC _ _;have w5:u64.wrap ((v:Int).tdiv (y1:Int))=((v/y1:Nat):Int):=by
  rw[cJD (by omega),<-cHF];exact aLF (by omega)
 have w6:u64.wrap ((v:Int)-u64.wrap (((v/y1:Nat):Int)*(y1:Int)))=((v%y1:Nat):Int):=by
  have:=dm v;have hm:=cDX v (show 0<y1 by omega);rw[<-cHN];generalize v/y1*y1=z at *;generalize v%y1=m at *;rw[wrap_u64 (n:=(z:Int)),wrap_u64];omega
 have l2:bJH Y s y1 y0 u0 q1 ((v%y1:Nat):Int) v ((v/y1:Nat):Int)=aWL Y s u0 q1 v (((v*4294967296+u0)/(y1*4294967296+y0):Nat):Int) :=
  loop aOF bAA aXN hv bDT (fun q r=>bJH Y s y1 y0 u0 q1 r v q) (fun q r=>bQW Y s y1 y0 u0 q1 r v q) (aWL Y s u0 q1 v) (fun q r=>bCX ..) (fun q r=>bDA ..) (v/y1) (v%y1) (dm v) (by have:=cDX v (show 0<y1 by omega);omega) (aMM v u0 bDT)
 rw[w5,w6,l2];rw[Jn,aP,bES];have m2:=bFO (u:=v) (u1:=u0) hy (by omega);rw[<-hY]at m2;rw[m2];have hw:=cDX (v*4294967296+u0) hy;have hT0:=cGV (v*4294967296+u0) (y1*4294967296+y0);have aSM:(v*4294967296+u0)/(y1*4294967296+y0)<4294967296:=cHJ (by omega);have hq1':q1<4294967296:=by rw[<-Qi];exact cHJ (by omega)
 obtain⟨q0,bXH⟩:∃q0,(v*4294967296+u0)/(y1*4294967296+y0)=q0:=⟨_,rfl⟩;obtain⟨w,bWQ⟩:∃w,(v*4294967296+u0)%(y1*4294967296+y0)=w:=⟨_,rfl⟩;rw[bXH]at hT0 aSM ⊢;rw[bWQ]at hT0 hw ⊢;have key:u*18446744073709551616+(u1*4294967296+u0)=(y1*4294967296+y0)*(q1*4294967296+q0)+w:=by
  rw[cGQ,<-cGS];generalize (y1*4294967296+y0)*q1=A at *;generalize (y1*4294967296+y0)*q0=C at *;omega
 rw[key,cLH hy,cHM hw,cNW,cME hw,cCN,cFM,show min s 64=s from by omega];have w7:u64.wrap (u64.wrap ((q1:Int)*4294967296)+(q0:Int))=((q1*4294967296+q0:Nat):Int):=by
  rw[wrap_u64 (n:=(q1:Int)*4294967296),wrap_u64];omega
 rw[w7,<-cHF]
def sp(a b c:Int):Prop×List D:=((0<=a/\a<c)/\(0<=b/\b<18446744073709551616)/\c<18446744073709551616,[.s (.sc (.int .u64 (((a.toNat*18446744073709551616+b.toNat)/c.toNat:Nat):Int))),.s (.sc (.int .u64 (((a.toNat*18446744073709551616+b.toNat)%c.toNat:Nat):Int)))])
theorem spec:oG E f226 aE (pN .u64) (pN .u64) (pN .u64) sp:=by
 rintro a b c ⟨⟨h1,h2⟩,⟨h3,h4⟩,h5⟩;refine(start a b c).trans ?_;obtain⟨x,rfl⟩:=cGR h1;obtain⟨l,rfl⟩:=cGR h3;obtain⟨y,rfl⟩:=cGR (show 0<=c by omega);show _=some [D.s (.sc (.int .u64 ((((x:Int).toNat*18446744073709551616+(l:Int).toNat)/(y:Int).toNat:Nat):Int))),D.s (.sc (.int .u64 ((((x:Int).toNat*18446744073709551616+(l:Int).toNat)%(y:Int).toNat:Nat):Int)))];rw[cFM,cFM,cFM,bB,iB,aL,aAT]
 by_cases hx:x=0
 ·subst hx;have hd:l/y<=l:=cKC _ _;rw[bJ (a:=((0:Nat):Int)) (b:=0) rfl,aP,aP,cJD (by omega),cJE (by omega),<-cHF,<-cIG,aLF (by omega),Nat.zero_mul,cBR]
 ·have aXN:y≠0:=by omega
  have bTE:=qZ aXN;have hb64:bl y<=64:=dP.2 (by omega);have Ea:=aAB aXN;have kD:=wM y;obtain⟨s,hs⟩:∃s,s=64-bl y:=⟨_,rfl⟩;have bNH:s<=63:=by omega
  have w1:u64.wrap (64-(bl y:Int))=(s:Int):=by rw[wrap_u64];omega
  have w2:u64.wrap (64-(s:Int))=((64-s:Nat):Int):=by rw[wrap_u64];omega
  have aQD:2^(64-s)*2^s=18446744073709551616:=by rw[<-cGP,show 64-s+s=64 from by omega]
  have bQD:2^(bl y-1)*2^s=9223372036854775808:=by rw[<-cGP,show bl y-1+s=63 from by omega]
  have Il:0<2^s:=dA;have hyp:y+1<=2^(64-s):=by rw[show 64-s=bl y from by omega];omega
  have bMQ:(y+1)*2^s<=18446744073709551616:=by rw[<-aQD];exact cDE _ hyp
  have hyp2:9223372036854775808<=y*2^s:=by rw[<-bQD];exact cDE _ Ea
  have bDS:(x+1)*2^s<=y*2^s:=cDE _ (by omega);rw[cCJ,cFT]at bMQ bDS;have wy:u64.wrap ((y:Int)*((2^s:Nat):Int))=((y*2^s:Nat):Int):=by rw[<-cHN];exact wrap_u64
  have wx:u64.wrap ((x:Int)*((2^s:Nat):Int))=((x*2^s:Nat):Int):=by rw[<-cHN];exact wrap_u64
  have wl:u64.wrap ((l:Int)*((2^s:Nat):Int))=((l*2^s%18446744073709551616:Nat):Int):=by rw[<-cHN,fY];omega
  have aCQ:l/2^(64-s)<2^s:=by
   apply cHJ;rw[aQD];omega
  have bAD:=Ht l s (by omega);have bQZ:fC .or .u64 ((x*2^s:Nat):Int) (((l/2^(64-s):Nat)):Int)=((x*2^s+l/2^(64-s):Nat):Int):=by
   have:=Ib (n:=x) aCQ;rw[Yf (by omega) (by omega) (by omega) (by omega),cFM,cFM,cKL,cGN x,this,cHQ]
  have bEU:∀z:Nat,z<18446744073709551616->fC .and .u64 (z:Int) 4294967295=((z%4294967296:Nat):Int):=by
   intro z hz;rw[oO (by omega) (by omega)];omega
  rw[bB,gP ⟨by omega,by omega⟩,cFM,w1,w2,aP,aP,aP,aP,
   cFM,cFM,show min s 64=s from by omega,show min (64-s) 64=64-s from by omega,wy,wx,wl,<-cHF l,bQZ]
  have hu:x*2^s+l/2^(64-s)<y*2^s:=by omega
  have hU:(x*18446744073709551616+l)*2^s=(x*2^s+l/2^(64-s))*18446744073709551616+l*2^s%18446744073709551616:=by
   rw[cCJ,bAD,cMK];omega
  have bXV:l*2^s%18446744073709551616<18446744073709551616:=cDX _ (by omega);have hdiv:(x*18446744073709551616+l)/y=((x*2^s+l/2^(64-s))*18446744073709551616+l*2^s%18446744073709551616)/(y*2^s):=by
   rw[<-hU,cKN _ _ Il]
  have aIR:(x*18446744073709551616+l)%y=((x*2^s+l/2^(64-s))*18446744073709551616+l*2^s%18446744073709551616)%(y*2^s)/2^s:=by
   rw[<-hU,cKO,cLS _ Il]
  rw[hdiv,aIR];clear hdiv aIR hU bQZ wl wx wy bAD aCQ bDS;generalize x*2^s+l/2^(64-s)=U at *;generalize y*2^s=Y at *;generalize l*2^s%18446744073709551616=V at *;have k:=bFQ (y1:=Y/4294967296) (y0:=Y%4294967296) (u:=U) (u1:=V/4294967296) (u0:=V%4294967296) (s:=s) (by omega) (by omega) (by omega) (by omega) (by omega) (by omega) bNH;rw[show Y/4294967296*4294967296+Y%4294967296=Y from by omega,show V/4294967296*4294967296+V%4294967296=V from by omega]at k;have bZL:(Y:Int)/4294967296=((Y/4294967296:Nat):Int):=by omega
  have bTG:(V:Int)/4294967296=((V/4294967296:Nat):Int):=by omega
  have hd:U/(Y/4294967296)<=U:=cKC _ _;have aUZ:=cGV U (Y/4294967296);have q1:u64.wrap ((U:Int).tdiv ((Y/4294967296:Nat):Int))=((U/(Y/4294967296):Nat):Int):=by
   rw[cJD (by omega),<-cHF];exact aLF (by omega)
  have r1:u64.wrap ((U:Int)-u64.wrap (((U/(Y/4294967296):Nat):Int)*((Y/4294967296:Nat):Int)))=((U%(Y/4294967296):Nat):Int):=by
   rw[<-cHN,cGN];generalize Y/4294967296*(U/(Y/4294967296))=z at *;generalize U%(Y/4294967296)=m at *;rw[wrap_u64 (n:=(z:Int)),wrap_u64];omega
  rw[bZL,bTG,aP,bEU _ (by omega),bEU _ bXV,q1,r1];exact k
def aJ:dJ:=orc3 (pN .u64) (pN .u64) (pN .u64) sp
theorem ok:OK 226 aJ:=(dY E aE (aA aRS.ok aC) func226).xN rfl spec
end uD
namespace oR
def E:=mE [(144,iI.aJ),(145,dK.aJ),(226,uD.aJ)] 45 [34,40] [(8,[0,1,7,8,9])] []
def aE:=bd f194
theorem aT:Nk E aE:=nk
def L8 a b (c:Nat) (d:List Int) e f:=qA E f194 aE 8 [jK a,dM b,Dm 2 c 22 d,dM e,bP f]
theorem start a b:aF E f194 aE [D.s (ints u64 a),D.s (sc (int u64 b))]=letI B:=sc (slice none 0 0);letI A:=(a.length:Int);aN (a.length<=1099511627776) (aB (!iI.qJ a) (some [D.s B,D.s (sc (int u64 0)),D.s (sc (int i64 2))]) (aB (b==0) (some [D.s B,D.s (sc (int u64 0)),D.s (sc (int i64 4))]) (if 0<=A/\A<=A/\A<=(8796093022208:Int)then oR.L8 a b A.toNat (cDS A.toNat (0:Int)) 0 (i64.wrap (A-(1:Int)))else none))):=eJ aT
theorem Cp a b c d e f:L8 a b c d e f=letI A:=e.toNat*18446744073709551616+(a.getD f.toNat 0).toNat;aB (decide (0<=f)) (if 0<=f/\f<(a.length:Int)then aN ((0<=e/\e<b)/\(0<=a.getD f.toNat 0/\a.getD f.toNat 0<(18446744073709551616:Int))/\b<18446744073709551616) (if 0<=f/\f<(c:Int)then oR.L8 a b c (d.set f.toNat (↑(A/b.toNat):Int)) (↑(A%b.toNat):Int) (i64.wrap (f-1))else none)else none) (aN (M6.cA d/\d.length<=1099511627776) (some [D.s (ints u64 (bif dK.nS (M6.val d)then M6.dg (M6.val d)else [])),D.s (sc (int u64 e)),D.s (sc (int i64 0))])):=lJ aT
theorem L{a:List Int}{b:Nat}(ha:M6.cN a)(hl:a.length<=8192)(hb0:0<b)(hb:b<18446744073709551616):∀(i:Nat) (Q:List Int),i+Q.length=a.length->M6.cA Q->M6.val Q=M6.val (a.drop i)/b ->
  L8 a b a.length (cDS i 0 ++ Q) ((M6.val (a.drop i)%b:Nat):Int) ((i:Int)-1)=some [D.s (.ints .u64 (M6.dg (M6.val a/b))),D.s (.sc (.int .u64 ((M6.val a%b:Nat):Int))),D.s (.sc (.int .i64 0))]:=by
 intro i
 induction i with
 |zero =>
  intro Q hi hd hv;have Qj:dK.nS (M6.val a/b)=true:=by
   refine decide_eq_true ?_;rw[cHW]at hv;rw[<-hv];have:=M6.tG hd;omega
  rw[cHW]at hv ⊢;rw[List.replicate_zero,cFS,Cp,aL,gP ⟨hd,by omega⟩,hv,Qj];rfl
 |succ i ih =>
  intro Q hi hd hv;have g:=ha.jA.get i;have hm:=cDX (M6.val (a.drop (i+1))) hb0;have aUZ:=cGV (M6.val (a.drop (i+1))) b;have w:i64.wrap ((i:Int)-1)=(i:Int)-1:=by rw[wrap_i64]
  have hs:(cDS i (0:Int) ++ 0 :: Q).set i ((((M6.val (a.drop (i+1))%b)*18446744073709551616+(a.getD i 0).toNat)/b:Nat):Int)=cDS i 0 ++ (((((M6.val (a.drop (i+1))%b)*18446744073709551616+(a.getD i 0).toNat)/b:Nat):Int) :: Q):=Hv (by simp) _ _ _;have hN:M6.val (a.drop i)=b*(18446744073709551616*(M6.val (a.drop (i+1))/b))+((M6.val (a.drop (i+1))%b)*18446744073709551616+(a.getD i 0).toNat):=by
   rw[M6.iK,cJL];generalize b*(M6.val (a.drop (i+1))/b)=z at *;omega
  have hq:((M6.val (a.drop (i+1))%b)*18446744073709551616+(a.getD i 0).toNat)/b<18446744073709551616:=by
   apply cHJ;have:(M6.val (a.drop (i+1))%b+1)*18446744073709551616<=b*18446744073709551616:=cDE _ hm;omega
  have aXW:(0:Int)<=((M6.val (a.drop (i+1))%b:Nat):Int)/\((M6.val (a.drop (i+1))%b:Nat):Int)<(b:Int):=⟨cLI _,Int.ofNat_lt.2 hm⟩;have aXS:=ih (((((M6.val (a.drop (i+1))%b)*18446744073709551616+(a.getD i 0).toNat)/b:Nat):Int) :: Q) (by rw[List.length_cons];omega) (M6.mB.2 ⟨⟨cLI _,Int.ofNat_lt.2 hq⟩,hd⟩) (by
    show(((((M6.val (a.drop (i+1))%b)*18446744073709551616+(a.getD i 0).toNat)/b:Nat):Int)).toNat+18446744073709551616*M6.val Q=_;rw[cFM,hN,cLH hb0,hv,cHQ])
  rw[Cp,show(((i+1:Nat):Int)-1)=(i:Int)from by omega,aM,if_pos ⟨by omega,by omega⟩,cFM,gP ⟨aXW,g,by omega⟩,if_pos ⟨by omega,by omega⟩,cFM,cFM,w,List.replicate_succ',cDK,cIL,hs];rw[hN,cNW]at aXS;exact aXS
def sp(a:List Int)(n:Int):Prop×List D:=(M6.cN a/\a.length<=8192/\0<n/\n<18446744073709551616,[.s (.ints .u64 (M6.dg (M6.val a/n.toNat))),.s (.sc (.int .u64 ((M6.val a%n.toNat:Nat):Int))),.s (.sc (.int .i64 0))])
theorem spec:fN E f194 aE (pI .u64) (pN .u64) sp:=by
 rintro a n ⟨ha,hl,h0,h1⟩;obtain⟨b,rfl⟩:=cGR (show 0<=n by omega);refine(start a b).trans ?_;show _=some [D.s (.ints .u64 (M6.dg (M6.val a/(b:Int).toNat))),D.s (.sc (.int .u64 ((M6.val a%(b:Int).toNat:Nat):Int))),D.s (.sc (.int .i64 0))];have w:i64.wrap ((a.length:Int)-1)=(a.length:Int)-1:=by rw[wrap_i64]
 rw[cFM,cFM,gP,iI.oW ha hl,cDP,bF,bB,if_pos ⟨by omega,by omega,by omega⟩,w];have:=L (b:=b) ha hl (by omega) (by omega) a.length [] (by simp) M6.mN (by simp[M6.val]);rw[cHP,List.drop_length]at this;simp only[M6.val,cJK]at this;exact this
def aJ:dJ:=orc2 (pI .u64) (pN .u64) sp
theorem ok:OK 194 aJ:=(dY E aE (aA iI.ok (aA dK.ok (aA uD.ok aC))) func194).lD rfl spec
end oR
namespace Ca
def E:=mE [] 43 [] [(7,[1,7,8,19,20])] []
def aE:=bd f196
theorem aT:Nk E aE:=nk
def L7 a (b:Nat) (c:List Int) d e f:=qA E f196 aE 7 [bP a,Dm 1 b 22 c,dM d,bP e,bP f]
theorem start a b c:aF E f196 aE [D.s (ints u64 a),D.s (sc (int i64 b)),D.s (sc (int i64 c))]=letI A:=cHK c.toNat a ++ cHL (min a.length c.toNat) (cDS c.toNat (0:Int));if 0<=c/\c<=c/\c<=8796093022208 then aB (b==0) (some [D.own 22 u64 A]) (Ca.L7 b c.toNat A 0 (c.toNat:Int) 0)else none:=eJ aT
theorem yN a b c d e f:L7 a b c d e f=aB (decide (f<e)) (if 0<=f/\f<(b:Int)then if a<0 then none else if 0<=f/\f<(b:Int)then if i64.wrap ((64:Int)-a)<0 then none else if 0<=f/\f<(b:Int)then Ca.L7 a b (c.set f.toNat (fC BinOp.or u64 (u64.wrap (c.getD f.toNat 0*(↑((2:Nat)^min a.toNat 64):Int))) d)) (c.getD f.toNat 0/(↑((2:Nat)^min (i64.wrap ((64:Int)-a)).toNat 64):Int)) e (i64.wrap (f+1))else none else none else none) (some [D.own 22 u64 c]):=lJ aT
def sp(a:List Int)(s n:Int):Prop×List D:=(M6.cA a/\0<=s/\s<64/\0<=n/\a.length<=n.toNat/\n<=549755813888/\M6.val a*2^s.toNat<18446744073709551616^n.toNat,[.own gX .u64 (M6.rU n.toNat (M6.val a*2^s.toNat))])
theorem L{A:List Int}{s n:Nat}(hA:M6.cA A)(bPQ:A.length=n)(hn:n<=549755813888)(Ny:0<s)(hs:s<64)(hT:M6.val A*2^s<18446744073709551616^n):∀(r i:Nat) (P:List Int) (c:Int),i+r=n->P.length=i->M6.cA P->0<=c->c<((2^s:Nat):Int) ->
  M6.val P+18446744073709551616^i*c.toNat=M6.val (A.take i)*2^s ->
  L7 s n (P ++ A.drop i) c n i=some [.own gX .u64 (M6.rU n (M6.val A*2^s))]:=by
 have Il:2^s<2^64:=cII (by omega) hs;intro r
 induction r with
 |zero =>
  intro i P c hi hP hd h0 h1 hv;have Yz:i=n:=by omega
  subst Yz;rw[M6.bW (by omega)]at hv;have hc:c=0:=by
   rcases Int.lt_or_le 0 c with h |h
   ·have h2:18446744073709551616^i*1<=18446744073709551616^i*c.toNat:=cED _ (by omega);omega
   ·omega
  subst hc;simp at hv;rw[yN,aL,cNG (by omega),cHP,M6.qV hd hP hv]
 |succ r ih =>
  intro i P c hi hP hd h0 h1 hv;have g:=hA.get i;have w1:i64.wrap ((i:Int)+1)=((i+1:Nat):Int):=by rw[wrap_i64];omega
  have w3:i64.wrap (64-(s:Int))=((64-s:Nat):Int):=by rw[wrap_i64];omega
  have m1:min s 64=s:=by omega
  have m2:min (64-s) 64=64-s:=by omega
  have aOX:A.drop i=A.getD i 0 :: A.drop (i+1):=by
   rw[List.drop_eq_getElem_cons (by omega)];simp[cGT,List.getElem?_eq_getElem (show i<A.length by omega)]
  obtain⟨x,hx⟩:=cGR g.1;have kD:x*2^s%18446744073709551616<18446744073709551616:=cDX _ (by omega);have aCQ:u64.wrap ((x:Int)*((2^s:Nat):Int))=((x*2^s%18446744073709551616:Nat):Int):=by
   rw[fY,<-cHN,cIG];rfl
  have aUP:c.toNat+x*2^s%18446744073709551616<18446744073709551616:=by
   rw[Ky x s hs];have hm:x%2^(64-s)<2^(64-s):=cDX _ (dA);have e:(18446744073709551616:Nat)=2^s*2^(64-s):=by rw[<-cGP,show s+(64-s)=64 from by omega]
   have h3:2^s*(x%2^(64-s)+1)<=2^s*2^(64-s):=cED _ hm;rw[<-e,cGQ]at h3;omega
  have bGO:fC .or .u64 ((x*2^s%18446744073709551616:Nat):Int) c=c+((x*2^s%18446744073709551616:Nat):Int):=by
   rw[Yf (by omega) (by omega) h0 (by omega),cFM,cKL,Ky x s hs,Ib (by omega)];omega
  have aBB:x/2^(64-s)<2^s:=by
   apply cHJ;rw[<-cGP,show 64-s+s=64 from by omega];omega
  rw[aOX,yN,aM,aR,aP,aR,w3,aP,aR,w1,cFM,cFM,cFM,m1,m2,Io hP,Hv hP,hx,aCQ,bGO];have bAD:=Ht x s hs;have:=ih (i+1) (P ++ [c+((x*2^s%18446744073709551616:Nat):Int)]) ((x/2^(64-s):Nat):Int) (by omega) (by simp[hP]) (M6.mA hd ⟨by omega,by omega⟩) (by omega) (by omega) (by
   rw[M6.lT,hP,M6.bM,hx,cFM,cFM,cGO,cGS,cCJ];have e1:(c+(((x*2^s%18446744073709551616:Nat)):Int)).toNat=c.toNat+x*2^s%18446744073709551616:=by omega
   rw[e1];have e2:18446744073709551616^i*(c.toNat+x*2^s%18446744073709551616)+18446744073709551616^i*(18446744073709551616*(x/2^(64-s)))=18446744073709551616^i*c.toNat+18446744073709551616^i*x*2^s:=by
    rw[cGS,<-cGQ,<-cGQ];congr 1;omega
   omega)
  rw[cDK,cIL,cHF]at this;exact this
theorem spec:oG E f196 aE (pI .u64) (pN .i64) (pN .i64) sp:=by
 rintro a s n ⟨hd,Ny,hs,Dr,hl,hn,hT⟩;obtain⟨s,rfl⟩:=cGR Ny;obtain⟨n,rfl⟩:=cGR Dr;simp only[sp,cFM]at hl hT ⊢;refine(start a s n).trans ?_;have hA:cHK n a ++ cHL (min a.length n) (cDS n (0:Int))=a ++ cDS (n-a.length) 0:=by
  rw[List.take_of_length_le hl,List.drop_replicate,Nat.min_eq_left hl]
 have aPH:M6.val (a ++ cDS (n-a.length) 0)=M6.val a:=by rw[M6.jW,M6.jB];omega
 have bTQ:M6.cA (a ++ cDS (n-a.length) 0):=M6.qD.2 ⟨hd,M6.jD _⟩;have bPQ:(a ++ cDS (n-a.length) 0).length=n:=by simp;omega
 rw[aR,cFM,hA]
 by_cases hz:s=0
 ·subst hz;rw[bJ (by rfl),cLQ,cBZ,M6.qV bTQ bPQ aPH]
 ·rw[bB];have hp:0<((2^s:Nat):Int):=by
   have:0<2^s:=dA;omega
  have:=L (s:=s) bTQ bPQ (by omega) (by omega) (by omega) (by rw[aPH];exact hT) n 0 [] 0 (by omega) rfl M6.mN (by omega) hp (by simp[M6.val]);rw[cFS,cHW,aPH]at this;exact this
def aJ:dJ:=orc3 (pI .u64) (pN .i64) (pN .i64) sp
theorem ok:OK 196 aJ:=(dY E aE aC func196).xN rfl spec
end Ca
namespace aDU
def E:=mE [(226,uD.aJ)] 20 [16] [] []
def aE:=bd f227
theorem aT:Nk E aE:=nk
theorem start a b c:aF E f227 aE [D.s (sc (int u64 a)),D.s (sc (int u64 b)),D.s (sc (int u64 c))]=aB (decide (c<=a)) (some [D.s (sc (int u64 18446744073709551615))]) (aN ((0<=a/\a<c)/\(0<=b/\b<18446744073709551616)/\c<18446744073709551616) (some [D.s (sc (int u64 (↑((a.toNat*18446744073709551616+b.toNat)/c.toNat):Int)))])):=eJ aT
def sp(a b c:Int):Prop×List D:=(0<=a/\0<=b/\b<18446744073709551616/\c<18446744073709551616,[.s (.sc (.int .u64 (if c<=a then 18446744073709551615 else(((a.toNat*18446744073709551616+b.toNat)/c.toNat:Nat):Int))))])
theorem spec:oG E f227 aE (pN .u64) (pN .u64) (pN .u64) sp:=by
 rintro a b c ⟨h1,h2,h3,h4⟩;refine(start a b c).trans ?_;simp only[sp]
 by_cases hc:c<=a
 ·rw[aM hc,if_pos hc]
 ·rw[aL hc,if_neg hc,gP ⟨⟨h1,by omega⟩,⟨h2,h3⟩,h4⟩]
def aJ:dJ:=orc3 (pN .u64) (pN .u64) (pN .u64) sp
theorem ok:OK 227 aJ:=(dY E aE (aA uD.ok aC) func227).xN rfl spec
end aDU
namespace Pr
def E:=mE [] 51 [] [] []
def aE:=bd f250
theorem aT:Nk E aE:=nk
theorem start a b:aF E f250 aE [D.s (sc (int u64 a)),D.s (sc (int u64 b))]=letI A:=u64.wrap (a/4294967296*fC BinOp.and u64 b 4294967295)+u64.wrap (fC BinOp.and u64 a 4294967295*fC BinOp.and u64 b 4294967295)/4294967296;some [D.s (sc (int u64 (u64.wrap (u64.wrap (u64.wrap (a/4294967296*(b/4294967296))+u64.wrap A/4294967296)+u64.wrap (fC BinOp.and u64 (u64.wrap A) 4294967295+u64.wrap (fC BinOp.and u64 a 4294967295*(b/4294967296)))/4294967296)))),D.s (sc (int u64 (u64.wrap (a*b))))]:=eJ aT
def sp(a b:Int):Prop×List D:=(0<=a/\a<18446744073709551616/\0<=b/\b<18446744073709551616,[.s (.sc (.int .u64 (a*b/18446744073709551616))),.s (.sc (.int .u64 (a*b%18446744073709551616)))])
theorem spec:fN E f250 aE (pN .u64) (pN .u64) sp:=by
 rintro a b ⟨ha,bKS,hb,tR⟩;refine(start a b).trans ?_;simp only[sp];have m1:fC .and .u64 a 4294967295=a%4294967296:=oO ha bKS;have m2:fC .and .u64 b 4294967295=b%4294967296:=oO hb tR;rw[m1,m2];have bd:∀x y:Int,0<=x->x<=4294967295->0<=y->y<=4294967295->0<=x*y/\x*y<=18446744065119617025:=fun x y h1 h2 h3 h4 =>
  ⟨cND h1 h3,by have:=Int.mul_le_mul h2 h4 h3 (by omega:(0:Int)<=4294967295);omega⟩
 have q11:=bd (a/4294967296) (b/4294967296) (by omega) (by omega) (by omega) (by omega);have bLM:=bd (a/4294967296) (b%4294967296) (by omega) (by omega) (by omega) (by omega);have q01:=bd (a%4294967296) (b/4294967296) (by omega) (by omega) (by omega) (by omega);have bVH:=bd (a%4294967296) (b%4294967296) (by omega) (by omega) (by omega) (by omega);have e:a*b=(a/4294967296)*(b/4294967296)*18446744073709551616+((a/4294967296)*(b%4294967296)+(a%4294967296)*(b/4294967296))*4294967296+(a%4294967296)*(b%4294967296):=by
  conv=>lhs;rw[<-cKS a 4294967296,<-cKS b 4294967296]
  generalize a/4294967296=x;generalize a%4294967296=y;generalize b/4294967296=z;generalize b%4294967296=t;grind
 have e0:u64.wrap (a*b)=a*b%18446744073709551616:=fY _;rw[e0];generalize a*b=ab at *;generalize (a/4294967296)*(b/4294967296)=bLR at *;generalize (a/4294967296)*(b%4294967296)=aZI at *;generalize (a%4294967296)*(b/4294967296)=bLS at *;generalize (a%4294967296)*(b%4294967296)=aZJ at *;rw[wrap_u64 (n:=aZJ),wrap_u64 (n:=bLR),wrap_u64 (n:=bLS),wrap_u64 (n:=aZI)];rw[wrap_u64 (n:=aZI+aZJ/4294967296),oO (w:=aZI+aZJ/4294967296) (by omega) (by omega)];rw[wrap_u64 (n:=(aZI+aZJ/4294967296)%4294967296+bLS),wrap_u64 (n:=bLR+(aZI+aZJ/4294967296)/4294967296),wrap_u64];have:bLR+(aZI+aZJ/4294967296)/4294967296+((aZI+aZJ/4294967296)%4294967296+bLS)/4294967296=ab/18446744073709551616:=by omega
 rw[this]
def aJ:dJ:=orc2 (pN .u64) (pN .u64) sp
theorem ok:OK 250 aJ:=(dY E aE aC func250).lD rfl spec
end Pr
namespace vG
def E:Env:={ ({ base with C:=callsOf [(250,Pr.aJ)],n0:=1,io:=[0] })with nt:=66,own:=[45,61],keep:=fun k=>(tlook [(3,[0,1,2,7,8,14,15])] k).getD [],cut:=tlook [] }
def aE:=bd f228
theorem aT:Nk E aE:=nk
def L3(a:List Int)(b:Nat)(c:Nat) d f g h i j:=qA E f228 aE 3 [(A.any,some { e:=(22:Nat),cont:=rJ.ints u64 a }),(A.v (V.one (L.view 0 b c)),none),jK d,dM f,dM g,dM h,bP i,bP j]
theorem start al ao an b c:aF E f228 aE [D.io gX u64 al ao an,D.s (ints u64 b),D.s (sc (int u64 c))]=vG.L3 al ao an b c 0 0 (b.length:Int) 0:=eJ aT
theorem xH a b c d e f g h i:L3 a b c d e f g h i=letI C:=b+i.toNat;letI B:=(d.length:Int);letI F:=b+B.toNat;letI A:=d.getD i.toNat 0*e%18446744073709551616+f+0;aB (decide (i<h)) (if 0<=i/\i<B then aN (0<=d.getD i.toNat 0/\d.getD i.toNat 0<(18446744073709551616:Int)/\0<=e/\e<18446744073709551616) (aN (0<=d.getD i.toNat 0*e%18446744073709551616/\0<=f/\(0:Int)<=(0:Int)/\(0:Int)<=(1:Int)) (if 0<=i/\i<(c:Int)then aN (0<=a.getD C 0/\0<=A%18446744073709551616/\A%18446744073709551616<(18446744073709551616:Int)/\0<=g/\g<=1) (if 0<=i/\i<(c:Int)then vG.L3 (a.set C ((a.getD C 0-A%18446744073709551616-g)%18446744073709551616)) b c d e (u64.wrap (d.getD i.toNat 0*e/18446744073709551616+A/18446744073709551616)) (if a.getD C 0<A%18446744073709551616+g then(1:Int)else(0:Int)) h (i64.wrap (i+1))else none)else none))else none) (if 0<=B/\B<(c:Int)then aN (0<=a.getD F 0/\0<=f/\f<18446744073709551616/\0<=g/\g<=1) (if 0<=B/\B<(c:Int)then some [D.s (sc (int u64 (if a.getD F 0<f+g then(1:Int)else(0:Int)))),D.io 22 u64 (a.set F ((a.getD F 0-f-g)%18446744073709551616)) 0 0]else none)else none):=lJ aT
def Xb(v o n X:Nat):Nat:=if v/18446744073709551616^o%18446744073709551616^n<X then 1 else 0
def sp(x:List Int×Nat×Nat)(b:List Int)(w:Int):Prop×List D:=(M6.cA x.1/\x.2.2=b.length+1/\x.2.1+x.2.2<=x.1.length/\M6.cA b/\x.1.length<=1099511627776/\0<=w/\w<18446744073709551616,
 [.s (.sc (.int .u64 (Xb (M6.val x.1) x.2.1 x.2.2 (M6.val b*w.toNat)))),.io gX .u64 (M6.rU x.1.length (M6.val x.1+18446744073709551616^(x.2.1+x.2.2)*Xb (M6.val x.1) x.2.1 x.2.2 (M6.val b*w.toNat)-18446744073709551616^x.2.1*(M6.val b*w.toNat))) 0 0])
theorem fin{a z':List Int}{o n X c N:Nat}(bEF:c<=1)(hd:M6.cA a)(Eb:M6.cA z')(hl:z'.length=N)(h1:z'.take o=a.take o)(h2:z'.drop (o+n)=a.drop (o+n))(h:M6.val z'+18446744073709551616^o*X=M6.val a+18446744073709551616^(o+n)*c) :
  c=Xb (M6.val a) o n X/\z'=M6.rU N (M6.val a+18446744073709551616^(o+n)*Xb (M6.val a) o n X-18446744073709551616^o*X):=by
 obtain⟨k1,k2⟩:=M6.Xf hd Eb h1 h2;have e:=M6.Xe k1 k2 h;have kD:=M6.aBM (M6.val z') o n;have hc:c=Xb (M6.val a) o n X:=by
  unfold Xb;have:c=0\/c=1:=by omega
  rcases this with rfl |rfl
  ·rw[aP]
  ·rw[aR]
 subst hc;exact⟨rfl,M6.qV Eb hl (by omega)⟩
theorem bEY{x C s:Int}{p:Nat}(hp:p<=340282366920938463426481119284349108225)(h0:0<=x)(h1:x<18446744073709551616)(h2:0<=C)(h3:C<18446744073709551616)(h4:0<=s)(h5:s<=1) :
  (0<=(p:Int)/18446744073709551616+((p:Int)%18446744073709551616+C+0)/18446744073709551616/\(p:Int)/18446744073709551616+((p:Int)%18446744073709551616+C+0)/18446744073709551616<18446744073709551616) /\
  ((x-((p:Int)%18446744073709551616+C+0)%18446744073709551616-s)%18446744073709551616).toNat+p+C.toNat+s.toNat=x.toNat+18446744073709551616*(((p:Int)/18446744073709551616+((p:Int)%18446744073709551616+C+0)/18446744073709551616).toNat+(if x<((p:Int)%18446744073709551616+C+0)%18446744073709551616+s then(1:Int)else 0).toNat):=by
 split <;> omega
theorem L{a b:List Int}{o:Nat}{w:Int}(hN:a.length<=1099511627776)(ha:M6.cA a)(hb:M6.cA b)(ho:o+(b.length+1)<=a.length)(aIM:0<=w)(bMU:w<18446744073709551616):∀(r i:Nat) (z:List Int) (C s:Int),i+r=b.length->z.length=a.length->M6.cA z->0<=C->C<18446744073709551616->0<=s->s<=1->z.take o=a.take o->z.drop (o+(b.length+1))=a.drop (o+(b.length+1)) ->
  M6.val z+18446744073709551616^o*(M6.val (b.take i)*w.toNat)=M6.val a+18446744073709551616^(o+i)*(C.toNat+s.toNat) ->
  L3 z o (b.length+1) b w C s b.length i=some [.s (.sc (.int .u64 (Xb (M6.val a) o (b.length+1) (M6.val b*w.toNat)))),.io gX .u64 (M6.rU a.length (M6.val a+18446744073709551616^(o+(b.length+1))*Xb (M6.val a) o (b.length+1) (M6.val b*w.toNat)-18446744073709551616^o*(M6.val b*w.toNat))) 0 0]:=by
 intro r
 induction r with
 |zero =>
  intro i z C s hi hz hd h0 h1 h2 h3 ht aIV hv;have bAT:i=b.length:=by omega
  subst bAT;rw[cIK]at hv;have g:=hd.get (o+b.length);rw[xH,aL,aR,cFM,gP ⟨g.1,h0,h1,h2,h3⟩,aR];have hs:=M6.oS (a:=z) (j:=o+b.length) (by omega) ((z.getD (o+b.length) 0-C-s)%18446744073709551616);have hf:=fin (a:=a) (z':=z.set (o+b.length) ((z.getD (o+b.length) 0-C-s)%18446744073709551616)) (o:=o) (n:=b.length+1) (X:=M6.val b*w.toNat) (c:=(if z.getD (o+b.length) 0<C+s then(1:Int)else 0).toNat) (N:=a.length) (by split <;> omega) ha (M6.nH hd (by omega)) (by simp[hz]) (by rw[cMM (by omega)];exact ht) (by rw[cMS (by omega)];exact aIV) (by
   rw[<-cFG o,cGO,cGS];generalize z.getD (o+b.length) 0=x at *;generalize M6.val (z.set (o+b.length) _)=W at *;generalize 18446744073709551616^(o+b.length)=P at *;have e:((x-C-s)%18446744073709551616).toNat+(C.toNat+s.toNat)=x.toNat+18446744073709551616*(if x<C+s then(1:Int)else 0).toNat:=by split <;> omega
   have e2:P*((x-C-s)%18446744073709551616).toNat+P*(C.toNat+s.toNat)=P*x.toNat+P*(18446744073709551616*(if x<C+s then(1:Int)else 0).toNat):=by
    rw[<-cGQ,e,cGQ]
   omega)
  rw[<-hf.2,<-hf.1,cNY (by split <;> omega)]
 |succ r ih =>
  intro i z C s hi hz hd h0 h1 h2 h3 ht aIV hv;have g:=hd.get (o+i);have g2:=hb.get i;have w2:i64.wrap ((i:Int)+1)=((i+1:Nat):Int):=by rw[wrap_i64];omega
  obtain⟨X,hX⟩:=cGR g2.1;obtain⟨Y,hY⟩:=cGR aIM;have bPD:X*Y<=340282366920938463426481119284349108225:=by
   have h2:X<=18446744073709551615:=by omega
   have h3:Y<=18446744073709551615:=by omega
   have:=cMD h2 h3;omega
  obtain⟨k1,k2⟩:=bEY bPD g.1 g.2 h0 h1 h2 h3;rw[xH,aM,aR,w2];simp only[cFM];have hq:b.getD i 0*w=((X*Y:Nat):Int):=by rw[hX,hY];simp
  rw[gP ⟨g2.1,g2.2,aIM,bMU⟩];simp only[hq];rw[gP ⟨by omega,by omega,by omega,by omega⟩,aR,gP ⟨g.1,by omega,by omega,h2,h3⟩,aR,wrap_u64 k1.1 k1.2];refine ih (i+1) _ _ (if z.getD (o+i) 0<(((X*Y:Nat):Int)%18446744073709551616+C+0)%18446744073709551616+s then(1:Int)else 0) (by omega) (by simp[hz]) (M6.nH hd (by omega)) k1.1 k1.2 (by split <;> omega) (by split <;> omega) (by rw[cMM (by omega)];exact ht) (by rw[cMS (by omega)];exact aIV) ?_;have hs:=M6.oS (a:=z) (j:=o+i) (by omega) ((z.getD (o+i) 0-(((X*Y:Nat):Int)%18446744073709551616+C+0)%18446744073709551616-s)%18446744073709551616);have e0:18446744073709551616^o*(M6.val (b.take (i+1))*w.toNat)=18446744073709551616^o*(M6.val (b.take i)*w.toNat)+18446744073709551616^(o+i)*(X*Y):=by
   rw[M6.bM,hX,hY,cFM,cFM,cCJ,cGQ,cGP,cGS,cGS]
  rw[e0,show o+(i+1)=(o+i)+1 from by omega,cGO,cGS];generalize ((z.getD (o+i) 0-(((X*Y:Nat):Int)%18446744073709551616+C+0)%18446744073709551616-s)%18446744073709551616)=d at *;generalize (((X*Y:Nat):Int)/18446744073709551616+(((X*Y:Nat):Int)%18446744073709551616+C+0)/18446744073709551616).toNat=C' at *;generalize (if z.getD (o+i) 0<(((X*Y:Nat):Int)%18446744073709551616+C+0)%18446744073709551616+s then(1:Int)else 0).toNat=s' at *;generalize X*Y=q at *;generalize 18446744073709551616^(o+i)=P at *;generalize M6.val (z.set (o+i) d)=W at *;generalize (z.getD (o+i) 0).toNat=x at *;generalize 18446744073709551616^o*(M6.val (b.take i)*w.toNat)=U at *;have e2:P*d.toNat+P*q+P*(C.toNat+s.toNat)=P*x+P*(18446744073709551616*(C'+s')):=by
   rw[<-cGQ,<-cGQ,<-cGQ];congr 1;omega
  omega
theorem bound{v o n N X:Nat}(hv:v<18446744073709551616^N)(bXO:o+n<=N)(hX:X<18446744073709551616^n):v+18446744073709551616^(o+n)*Xb v o n X-18446744073709551616^o*X<18446744073709551616^N:=by
 have e1:=M6.Cv v o n;have hW:=M6.aBM v o n;have hT:v/18446744073709551616^(o+n)<18446744073709551616^(N-(o+n)):=by
  apply cHJ;rw[<-cGP,show o+n+(N-(o+n))=N from by omega];exact hv
 have hL:v%18446744073709551616^o<18446744073709551616^o:=cDX _ (dA);have s2:18446744073709551616^(o+n)*(v/18446744073709551616^(o+n)+1)<=18446744073709551616^N:=by
  have:=cED (18446744073709551616^(o+n)) hT;rw[<-cGP,show o+n+(N-(o+n))=N from by omega]at this;exact this
 rw[cGQ]at s2;unfold Xb;generalize v/18446744073709551616^o%18446744073709551616^n=W at *;generalize v%18446744073709551616^o=L at *;generalize v/18446744073709551616^(o+n)=T at *;split
 ·rename_i kD;have:18446744073709551616^o*(W+1)<=18446744073709551616^o*X:=cED _ kD;rw[cGQ]at this;omega
 ·omega
theorem spec(x:List Int×Nat×Nat)(b:List Int)(w:Int)(h:(sp x b w).1):aF E f228 aE [(Ga gX .u64).put x,(pI .u64).put b,(pN .u64).put w]=some (sp x b w).2/\∃rs oH,(sp x b w).2=rs ++ [.io gX .u64 oH 0 0]/\oH.length=x.1.length:=by
 obtain⟨xl,o,n⟩:=x;obtain⟨hd,hn,ho,hb,hN,aIM,bMU⟩:=h;simp only at hd hn ho hN;subst hn;refine⟨(start xl o (b.length+1) b w).trans ?_,[_],_,rfl,M6.jE (bound (M6.dT hd) ho ?_)⟩
 ·exact L hN hd hb ho aIM bMU b.length 0 xl 0 0 (by omega) rfl hd (by omega) (by omega) (by omega) (by omega) rfl rfl (by simp[M6.val])
 ·rw[cGO];exact cKD (M6.dT hb) (by omega)
def aJ:dJ:=orc3 (Ga gX .u64) (pI .u64) (pN .u64) sp
theorem fnok:nL prog E 228 f228 aE:=xQ tN mixed (nI _ rfl (aA Pr.ok aC) (pJ)) func228 rfl rfl rfl rfl rfl
theorem ok:rZ prog base.glob 228 aJ:=fnok.xN rfl spec
end vG
namespace Ah
def E:Env:={ ({ base with n0:=1,io:=[0] })with nt:=44,own:=[24,39],keep:=fun k=>(tlook [(3,[0,1,5,8,9])] k).getD [],cut:=tlook [] }
def aE:=bd f229
theorem aT:Nk E aE:=nk
def L3(a:List Int)(b:Nat)(c:Nat) d f g h:=qA E f229 aE 3 [(A.any,some { e:=(22:Nat),cont:=rJ.ints u64 a }),(A.v (V.one (L.view 0 b c)),none),jK d,dM f,bP g,bP h]
theorem start al ao an b:aF E f229 aE [D.io gX u64 al ao an,D.s (ints u64 b)]=Ah.L3 al ao an b 0 (b.length:Int) 0:=eJ aT
theorem xH a b c d e f g:L3 a b c d e f g=letI G:=b+g.toNat;letI B:=a.getD G 0+d.getD g.toNat 0+e;letI A:=(d.length:Int);letI F:=b+A.toNat;letI C:=a.getD F 0+(0:Int)+e;aB (decide (g<f)) (if 0<=g/\g<(c:Int)then if 0<=g/\g<A then aN (0<=a.getD G 0/\0<=d.getD g.toNat 0/\0<=e/\e<=1) (if 0<=g/\g<(c:Int)then Ah.L3 (a.set G (B%18446744073709551616)) b c d (B/18446744073709551616) f (i64.wrap (g+1))else none)else none else none) (if 0<=A/\A<(c:Int)then aN (0<=a.getD F 0/\(0:Int)<=(0:Int)/\0<=e/\e<=1) (if 0<=A/\A<(c:Int)then some [D.s (sc (int u64 (C/18446744073709551616))),D.io 22 u64 (a.set F (C%18446744073709551616)) 0 0]else none)else none):=lJ aT
def aBD(v o n X:Nat):Nat:=(v/18446744073709551616^o%18446744073709551616^n+X)/18446744073709551616^n
def sp(x:List Int×Nat×Nat)(b:List Int):Prop×List D:=(M6.cA x.1/\x.2.2=b.length+1/\x.2.1+x.2.2<=x.1.length/\M6.cA b/\x.1.length<=1099511627776,
 [.s (.sc (.int .u64 (aBD (M6.val x.1) x.2.1 x.2.2 (M6.val b)))),.io gX .u64 (M6.rU x.1.length (M6.val x.1+18446744073709551616^x.2.1*M6.val b-18446744073709551616^(x.2.1+x.2.2)*aBD (M6.val x.1) x.2.1 x.2.2 (M6.val b))) 0 0])
theorem fin{a z':List Int}{o n X c N:Nat}(hd:M6.cA a)(Eb:M6.cA z')(hl:z'.length=N)(h1:z'.take o=a.take o)(h2:z'.drop (o+n)=a.drop (o+n))(h:M6.val z'+18446744073709551616^(o+n)*c=M6.val a+18446744073709551616^o*X) :
  c=aBD (M6.val a) o n X/\z'=M6.rU N (M6.val a+18446744073709551616^o*X-18446744073709551616^(o+n)*aBD (M6.val a) o n X):=by
 obtain⟨k1,k2⟩:=M6.Xf hd Eb h1 h2;have e:=M6.Xe k1.symm k2.symm h.symm;have kD:=M6.aBM (M6.val z') o n;have hc:c=aBD (M6.val a) o n X:=by
  unfold aBD;rw[e];rw[cIF _ _ (dA),cHM kD,cBR]
 subst hc;exact⟨rfl,M6.qV Eb hl (by omega)⟩
theorem L{a b:List Int}{o:Nat}(hN:a.length<=1099511627776)(ha:M6.cA a)(hb:M6.cA b)(ho:o+(b.length+1)<=a.length):∀(r i:Nat) (z:List Int) (c:Int),i+r=b.length->z.length=a.length->M6.cA z->0<=c->c<=1->z.take o=a.take o->z.drop (o+(b.length+1))=a.drop (o+(b.length+1)) ->
  M6.val z+18446744073709551616^(o+i)*c.toNat=M6.val a+18446744073709551616^o*M6.val (b.take i) ->
  L3 z o (b.length+1) b c b.length i=some [.s (.sc (.int .u64 (aBD (M6.val a) o (b.length+1) (M6.val b)))),.io gX .u64 (M6.rU a.length (M6.val a+18446744073709551616^o*M6.val b-18446744073709551616^(o+(b.length+1))*aBD (M6.val a) o (b.length+1) (M6.val b))) 0 0]:=by
 intro r
 induction r with
 |zero =>
  intro i z c hi hz hd h0 h1 ht aIV hv;have bAT:i=b.length:=by omega
  subst bAT;rw[cIK]at hv;have g:=hd.get (o+b.length);rw[xH,aL,aR,cFM,gP ⟨g.1,by omega,h0,h1⟩,aR];have hs:=M6.oS (a:=z) (j:=o+b.length) (by omega) ((z.getD (o+b.length) 0+0+c)%18446744073709551616);have hf:=fin (a:=a) (z':=z.set (o+b.length) ((z.getD (o+b.length) 0+0+c)%18446744073709551616)) (o:=o) (n:=b.length+1) (X:=M6.val b) (c:=((z.getD (o+b.length) 0+0+c)/18446744073709551616).toNat) (N:=a.length) ha (M6.nH hd (by omega)) (by simp[hz]) (by rw[cMM (by omega)];exact ht) (by rw[cMS (by omega)];exact aIV) (by
   rw[<-cFG o,cGO,cGS];generalize z.getD (o+b.length) 0=x at *;generalize M6.val (z.set (o+b.length) _)=W at *;generalize 18446744073709551616^(o+b.length)=P at *;have e:((x+0+c)%18446744073709551616).toNat+18446744073709551616*((x+0+c)/18446744073709551616).toNat=x.toNat+c.toNat:=by omega
   have e2:P*((x+0+c)%18446744073709551616).toNat+P*(18446744073709551616*((x+0+c)/18446744073709551616).toNat)=P*x.toNat+P*c.toNat:=by
    rw[<-cGQ,e,cGQ]
   omega)
  rw[<-hf.2,<-hf.1,cNY (by omega)]
 |succ r ih =>
  intro i z c hi hz hd h0 h1 ht aIV hv;have g:=hd.get (o+i);have g2:=hb.get i;have w2:i64.wrap ((i:Int)+1)=((i+1:Nat):Int):=by rw[wrap_i64];omega
  rw[xH,aM,aR,aR,cFM,gP ⟨g.1,g2.1,h0,h1⟩,aR,w2];refine ih (i+1) _ _ (by omega) (by simp[hz]) (M6.nH hd (by omega)) (by omega) (by omega) (by rw[cMM (by omega)];exact ht) (by rw[cMS (by omega)];exact aIV) ?_;have hs:=M6.oS (a:=z) (j:=o+i) (by omega) ((z.getD (o+i) 0+b.getD i 0+c)%18446744073709551616);rw[M6.bM,cGQ,<-cGS,<-cGP,show o+(i+1)=(o+i)+1 from by omega,cGO,cGS];generalize z.getD (o+i) 0=x at *;generalize b.getD i 0=y at *;generalize M6.val (z.set (o+i) _)=W at *;generalize 18446744073709551616^(o+i)=P at *;generalize 18446744073709551616^o*M6.val (b.take i)=U at *;have e:((x+y+c)%18446744073709551616).toNat+18446744073709551616*((x+y+c)/18446744073709551616).toNat=x.toNat+y.toNat+c.toNat:=by omega
  have e2:P*((x+y+c)%18446744073709551616).toNat+P*(18446744073709551616*((x+y+c)/18446744073709551616).toNat)=P*x.toNat+P*y.toNat+P*c.toNat:=by
   rw[<-cGQ,e,cGQ,cGQ]
  omega
theorem bound{v o n N X:Nat}(hv:v<18446744073709551616^N)(bXO:o+n<=N):v+18446744073709551616^o*X-18446744073709551616^(o+n)*aBD v o n X<18446744073709551616^N:=by
 have e1:=M6.Cv v o n;unfold aBD;generalize hW:v/18446744073709551616^o%18446744073709551616^n=W at *;have h2:=cMG (W+X) (18446744073709551616^n);have h3:(W+X)%18446744073709551616^n<18446744073709551616^n:=cDX _ (dA);generalize (W+X)/18446744073709551616^n=c at *;generalize (W+X)%18446744073709551616^n=M at *;have hL:v%18446744073709551616^o<18446744073709551616^o:=cDX _ (dA);have hT:v/18446744073709551616^(o+n)<18446744073709551616^(N-(o+n)):=by
  apply cHJ;rw[<-cGP,show o+n+(N-(o+n))=N from by omega];exact hv
 generalize v%18446744073709551616^o=L at *;generalize v/18446744073709551616^(o+n)=T at *;have e3:18446744073709551616^(o+n)*c=18446744073709551616^o*(18446744073709551616^n*c):=by rw[cGP,cGS]
 have e4:18446744073709551616^o*(W+X)=18446744073709551616^o*M+18446744073709551616^o*(18446744073709551616^n*c):=by rw[<-h2,cGQ]
 rw[cGQ]at e4;have e5:v+18446744073709551616^o*X-18446744073709551616^(o+n)*c=L+18446744073709551616^o*M+18446744073709551616^(o+n)*T:=by omega
 rw[e5];have s1:L+18446744073709551616^o*M<18446744073709551616^(o+n):=by
  have:18446744073709551616^o*(M+1)<=18446744073709551616^o*18446744073709551616^n:=cED _ h3;rw[<-cGP,cGQ]at this;omega
 have s2:18446744073709551616^(o+n)*(T+1)<=18446744073709551616^N:=by
  have:=cED (18446744073709551616^(o+n)) hT;rw[<-cGP,show o+n+(N-(o+n))=N from by omega]at this;exact this
 rw[cGQ]at s2;omega
theorem spec(x:List Int×Nat×Nat)(b:List Int)(h:(sp x b).1):aF E f229 aE [(Ga gX .u64).put x,(pI .u64).put b]=some (sp x b).2/\∃rs oH,(sp x b).2=rs ++ [.io gX .u64 oH 0 0]/\oH.length=x.1.length:=by
 obtain⟨xl,o,n⟩:=x;obtain⟨hd,hn,ho,hb,hN⟩:=h;simp only at hd hn ho hN;subst hn;refine⟨(start xl o (b.length+1) b).trans ?_,[_],_,rfl,M6.jE (bound (M6.dT hd) ho)⟩;exact L hN hd hb ho b.length 0 xl 0 (by omega) rfl hd (by omega) (by omega) rfl rfl (by simp[M6.val])
def aJ:dJ:=orc2 (Ga gX .u64) (pI .u64) sp
theorem fnok:nL prog E 229 f229 aE:=xQ tN mixed (nI _ rfl aC (pJ)) func229 rfl rfl rfl rfl rfl
theorem ok:rZ prog base.glob 229 aJ:=fnok.lD rfl spec
end Ah
namespace Hd
def E:Env:={ ({ base with C:=tK [(228,vG.aJ),(229,Ah.aJ)] (callsOf [(227,aDU.aJ)]),ioF:=Qs [(228,vG.aJ),(229,Ah.aJ)],n0:=1,io:=[0] })with nt:=72,own:=[],keep:=fun k=>(tlook [(10,[0,1,5,6,7,8,9]),(4,[0,1,5,6,7])] k).getD [],cut:=tlook [] }
def aE:=bd f197
theorem aT:Nk E aE:=nk
def L4(a:List Int)(b:Nat)(c:Nat) d f (g:Nat) (h:List Int) i:=qA E f197 aE 4 [(A.any,some { e:=(22:Nat),cont:=rJ.ints u64 a }),(A.v (V.one (L.view 0 b c)),none),jK d,bP f,Dm 4 g 22 h,bP i]
def Jm(a:List Int)(b:Nat)(c:Nat) d f (g:Nat) (h:List Int) i j (k:Nat) (l:Nat):=qA E f197 aE 10 [(A.any,some { e:=(22:Nat),cont:=rJ.ints u64 a }),(A.v (V.one (L.view 0 b c)),none),jK d,bP f,Dm 4 g 22 h,bP i,dM j,(A.v (V.one (L.view 0 k l)),none)]
theorem start al ao an b:aF E f197 aE [D.io gX u64 al ao an,D.s (ints u64 b)]=letI B:=(an:Int);letI A:=(b.length:Int);if 0<=i64.wrap (B-A)/\i64.wrap (B-A)<=i64.wrap (B-A)/\i64.wrap (B-A)<=8796093022208 then Hd.L4 al ao an b A (i64.wrap (B-A)).toNat (cDS (i64.wrap (B-A)).toNat (0:Int)) (i64.wrap (i64.wrap (B-A)-1))else none:=eJ aT
theorem nR a b c d e f g h:L4 a b c d e f g h=letI N:=b+h.toNat;letI K:=i64.wrap (e-1);letI H:=i64.wrap (h+e)+1;letI G:=i64.wrap (h+e)-1;letI F:=b+(i64.wrap (h+e)).toNat;letI B:=b+(i64.wrap G).toNat;letI A:=i64.wrap H;letI C:=A.toNat-h.toNat;aB (decide (0<=h)) (if 0<=i64.wrap (h+e)/\i64.wrap (h+e)<(c:Int)then if 0<=i64.wrap G/\i64.wrap G<(c:Int)then if 0<=i64.wrap (e-1)/\i64.wrap (e-1)<(d.length:Int)then aN (0<=a.getD F 0/\0<=a.getD B 0/\a.getD B 0<(18446744073709551616:Int)/\d.getD K.toNat 0<(18446744073709551616:Int)) (aD (if d.getD K.toNat 0<=a.getD F 0 then(18446744073709551615:Int)else(↑(((a.getD F 0).toNat*18446744073709551616+(a.getD B 0).toNat)/(d.getD K.toNat 0).toNat):Int)) fun i=>letI I:=M6.val d*i.toNat;if 0<=h/\h<=i64.wrap H/\i64.wrap H<=(c:Int)then aN (M6.cA a/\A.toNat-h.toNat=d.length+1/\b+h.toNat+C<=a.length/\M6.cA d/\a.length<=1099511627776/\0<=i/\i<18446744073709551616) (aD (↑(vG.Xb (M6.val a) N C I):Int) fun j=>aD (M6.rU a.length (M6.val a+(18446744073709551616:Nat)^(b+h.toNat+C)*vG.Xb (M6.val a) N C I-(18446744073709551616:Nat)^N*I)) fun k=>aB (j==0) (if 0<=h/\h<(f:Int)then Hd.L4 k b c d e f (g.set h.toNat i) (i64.wrap (h-1))else none) (Hd.Jm k b c d e f g h i N C))else none)else none else none else none) (some [D.own 22 u64 g,D.io 22 u64 a 0 0]):=lJ aT
theorem tB a b c d e f g h i j k:Jm a b c d e f g h i j k=aN (M6.cA a/\k=d.length+1/\j+k<=a.length/\M6.cA d/\a.length<=1099511627776) (aD (↑(Ah.aBD (M6.val a) j k (M6.val d)):Int) fun l=>aD (M6.rU a.length (M6.val a+(18446744073709551616:Nat)^j*M6.val d-(18446744073709551616:Nat)^(j+k)*Ah.aBD (M6.val a) j k (M6.val d))) fun m=>aB (l==1) (if 0<=h/\h<(f:Int)then Hd.L4 m b c d e f (g.set h.toNat (u64.wrap (i-1))) (i64.wrap (h-1))else none) (Hd.Jm m b c d e f g h (u64.wrap (i-1)) j k)):=lJ aT
def sp(x:List Int×Nat×Nat)(b:List Int):Prop×List D:=(M6.cA x.1/\x.2.1=0/\x.2.2=x.1.length/\M6.cA b/\0<b.length/\b.length<=x.1.length/\x.1.length<=549755813888/\M6.val x.1/18446744073709551616^(x.1.length-b.length)<M6.val b,
 [.own gX .u64 (M6.rU (x.1.length-b.length) (M6.val x.1/M6.val b)),.io gX .u64 (M6.rU x.1.length (M6.val x.1%M6.val b)) 0 0])
theorem digit{z:List Int}(hd:M6.cA z)(k:Nat):(z.getD k 0).toNat=M6.val z/18446744073709551616^k%18446744073709551616:=by
 rw[<-M6.lU hd,M6.iK];have:=hd.get k;omega
theorem Kv{v j n:Nat}(h:v/18446744073709551616^j<18446744073709551616^n):v/18446744073709551616^j%18446744073709551616^n=v/18446744073709551616^j:=cME h
theorem minus{v j R X:Nat}(hR:R=v/18446744073709551616^j)(hX:X<=R):(v-18446744073709551616^j*X)/18446744073709551616^j=R-X/\18446744073709551616^j*X<=v:=by
 have h1:=cMG v (18446744073709551616^j);have h2:v%18446744073709551616^j<18446744073709551616^j:=cDX _ (dA);rw[<-hR]at h1;obtain⟨D,rfl⟩:=cCU hX;rw[cGQ]at h1;have h3:v-18446744073709551616^j*X=v%18446744073709551616^j+18446744073709551616^j*D:=by omega
 rw[h3,cIF _ _ (dA),cHM h2];omega
theorem plus{v j n R X:Nat}(hR:R=v/18446744073709551616^j)(hX:R<X)(bEG:X<=18446744073709551616^n):(v+18446744073709551616^(j+n)-18446744073709551616^j*X)/18446744073709551616^j%18446744073709551616^n=R+18446744073709551616^n-X:=by
 have h1:=cMG v (18446744073709551616^j);have h2:v%18446744073709551616^j<18446744073709551616^j:=cDX _ (dA);rw[<-hR]at h1;have h4:18446744073709551616^j*(R+18446744073709551616^n)=18446744073709551616^j*R+18446744073709551616^(j+n):=by rw[cGQ,cGP]
 obtain⟨D,hD⟩:∃D,R+18446744073709551616^n=X+D:=cCU (by omega);rw[hD,cGQ]at h4;have h3:v+18446744073709551616^(j+n)-18446744073709551616^j*X=v%18446744073709551616^j+18446744073709551616^j*D:=by omega
 rw[h3,cIF _ _ (dA),cHM h2,cBR,cME (by omega)];omega
theorem aLR{R V n:Nat}{hi lo d:Int}(hn:0<n)(hV:V<18446744073709551616^n)(bKW:R<18446744073709551616*V)(aBB:hi.toNat=R/18446744073709551616^n)(aCQ:lo.toNat=R/18446744073709551616^(n-1)%18446744073709551616)(hd:d.toNat=V/18446744073709551616^(n-1))(h0:0<=hi) :
  R/V<=(if d<=hi then(18446744073709551615:Int)else(((hi.toNat*18446744073709551616+lo.toNat)/d.toNat:Nat):Int)).toNat/\(0<=if d<=hi then(18446744073709551615:Int)else(((hi.toNat*18446744073709551616+lo.toNat)/d.toNat:Nat):Int))/\(if d<=hi then(18446744073709551615:Int)else(((hi.toNat*18446744073709551616+lo.toNat)/d.toNat:Nat):Int))<18446744073709551616:=by
 by_cases hc:d<=hi
 ·rw[if_pos hc];refine⟨?_,by omega,by omega⟩;have:R/V<18446744073709551616:=by
   apply cHJ;rw[cGN];exact bKW
  show R/V<=18446744073709551615;omega
 ·rw[if_neg hc];obtain⟨k,rfl⟩:∃k,n=k+1:=⟨n-1,by omega⟩;rw[Nat.add_sub_cancel]at aCQ hd;have e1:hi.toNat*18446744073709551616+lo.toNat=R/18446744073709551616^k:=by
   rw[aBB,aCQ,cGO,<-cHG];omega
  have bYZ:0<d.toNat:=by omega
  have kD:hi.toNat<d.toNat:=by omega
  refine⟨?_,cLI _,?_⟩
  ·rw[cFM,e1,cHG];apply cMI
   ·rw[hd];exact cMP _ _
   ·exact Nat.mul_pos (dA) bYZ
  ·have hlo2:lo.toNat<18446744073709551616:=by rw[aCQ];exact cDX _ (by omega)
   have:(hi.toNat*18446744073709551616+lo.toNat)/d.toNat<18446744073709551616:=by
    apply cHJ;have:(hi.toNat+1)*18446744073709551616<=d.toNat*18446744073709551616:=cDE _ kD;omega
   exact Int.ofNat_lt.2 this
theorem bQV{u b qs:List Int}{L j R q:Nat}(hL:L<=549755813888)(hu:u.length=L)(hd:M6.cA u)(hb:M6.cA b)(hj:j+(b.length+1)<=L)(hR:R=M6.val u/18446744073709551616^j)(aYC:R<18446744073709551616^(b.length+1))(hV:0<M6.val b)(hq:q=R/M6.val b)(hqs:qs.length=L-b.length):∀(k w:Nat),w=q+(k+1)->w<18446744073709551616 ->
  Jm (M6.rU L (M6.val u+18446744073709551616^(j+(b.length+1))-18446744073709551616^j*(M6.val b*w))) 0 L b b.length (L-b.length) qs j w j (b.length+1)=L4 (M6.rU L (M6.val u-18446744073709551616^j*(M6.val b*q))) 0 L b b.length (L-b.length) (qs.set j (q:Int)) ((j:Int)-1):=by
 have bID:=M6.dT hb;have bKD:M6.val b*q<=R:=by rw[hq];exact cMP _ _
 have bAH:R<M6.val b*(q+1):=by rw[hq];exact cMX _ hV
 have bFX:=M6.dT hd;rw[hu]at bFX;intro k
 induction k with
 |zero =>
  intro w hw bWR;subst hw;have bEG:M6.val b*(q+(0+1))<=18446744073709551616^(b.length+1):=by
   rw[cGO];exact cMD (by omega) (by omega)
  have Sn:=plus (n:=b.length+1) hR (X:=M6.val b*(q+(0+1))) bAH bEG;have bHX:M6.val u+18446744073709551616^(j+(b.length+1))-18446744073709551616^j*(M6.val b*(q+(0+1)))<18446744073709551616^L:=by
   have:=vG.bound bFX hj (X:=M6.val b*(q+(0+1))) (by rw[cGO];exact cKD bID (by omega));unfold vG.Xb at this;rw[Kv (by rw[<-hR];exact aYC),<-hR,if_pos bAH,cBZ]at this;exact this
  have bBC:Ah.aBD (M6.val u+18446744073709551616^(j+(b.length+1))-18446744073709551616^j*(M6.val b*(q+(0+1)))) j (b.length+1) (M6.val b)=1:=by
   unfold Ah.aBD;rw[Sn];have e:R+18446744073709551616^(b.length+1)-M6.val b*(q+(0+1))+M6.val b=18446744073709551616^(b.length+1)*1+(R-M6.val b*q):=by
    rw[cGQ]at bEG ⊢;omega
   have kD:R-M6.val b*q<18446744073709551616^(b.length+1):=by omega
   rw[e,cLH (dA),cHM kD]
  have w1:u64.wrap (((q+(0+1):Nat):Int)-1)=(q:Int):=by rw[wrap_u64];omega
  have w2:i64.wrap ((j:Int)-1)=(j:Int)-1:=by rw[wrap_i64]
  rw[tB,aI,aI,M6.jE bHX,M6.nF,bBC,gP ⟨M6.nG,by trivial,hj,hb,by omega⟩,bJ (by rfl),aR,w1,w2,cFM];congr 1;congr 1;have e1:18446744073709551616^j*(M6.val b*(q+(0+1)))=18446744073709551616^j*(M6.val b*q)+18446744073709551616^j*M6.val b:=by rw[cGQ,cGQ];simp
  have e2:=(minus hR bKD).2;have e3:18446744073709551616^j*M6.val b<=18446744073709551616^(j+(b.length+1)):=by
   rw[cGP,cGO];exact cED _ (by omega)
  omega
 |succ k ih =>
  intro w hw bWR;subst hw;have bHA:R<M6.val b*(q+(k+1)):=cCM bAH (cED _ (by omega));have aOI:M6.val b*(q+(k+1+1))=M6.val b*(q+(k+1))+M6.val b:=by rw[<-cFG q,Nat.mul_succ]
  have bEG:M6.val b*(q+(k+1+1))<=18446744073709551616^(b.length+1):=by
   rw[cGO];exact cMD (by omega) (by omega)
  have Sn:=plus (n:=b.length+1) hR (X:=M6.val b*(q+(k+1+1))) (by omega) bEG;have bHX:M6.val u+18446744073709551616^(j+(b.length+1))-18446744073709551616^j*(M6.val b*(q+(k+1+1)))<18446744073709551616^L:=by
   have:=vG.bound bFX hj (X:=M6.val b*(q+(k+1+1))) (by rw[cGO];exact cKD bID (by omega));unfold vG.Xb at this;rw[Kv (by rw[<-hR];exact aYC),<-hR,aR,cBZ]at this;exact this
  have bBC:Ah.aBD (M6.val u+18446744073709551616^(j+(b.length+1))-18446744073709551616^j*(M6.val b*(q+(k+1+1)))) j (b.length+1) (M6.val b)=0:=by
   unfold Ah.aBD;rw[Sn];exact cHM (by omega)
  have w1:u64.wrap (((q+(k+1+1):Nat):Int)-1)=((q+(k+1):Nat):Int):=by rw[wrap_u64];omega
  rw[tB,aI,aI,M6.jE bHX,M6.nF,bBC,gP ⟨M6.nG,by trivial,hj,hb,by omega⟩,bB (by decide),w1];have e4:M6.val u+18446744073709551616^(j+(b.length+1))-18446744073709551616^j*(M6.val b*(q+(k+1+1)))+18446744073709551616^j*M6.val b-18446744073709551616^(j+(b.length+1))*0=M6.val u+18446744073709551616^(j+(b.length+1))-18446744073709551616^j*(M6.val b*(q+(k+1))):=by
   have e1:18446744073709551616^j*(M6.val b*(q+(k+1+1)))=18446744073709551616^j*(M6.val b*(q+(k+1)))+18446744073709551616^j*M6.val b:=by rw[aOI,cGQ]
   have e3:18446744073709551616^j*(M6.val b*(q+(k+1+1)))<=18446744073709551616^(j+(b.length+1)):=by
    rw[cGP];exact cED _ bEG
   omega
  rw[e4];exact ih _ rfl (by omega)
theorem aSW{α R:Type}{x:α}{k:α->Option R}{r:Option R}(Q:α->Prop)(hx:Q x)(hk:∀w,Q w->k w=r):aD x k=r:=hk x hx
theorem cBN{b:List Int}{L U0:Nat}(hL:L<=549755813888)(hb:M6.cA b)(hn:0<b.length)(hbL:b.length<=L):∀(t:Nat) (u qs:List Int),t<=L-b.length->u.length=L->M6.cA u->qs.length=L-b.length->M6.cA qs->M6.val u/18446744073709551616^t<M6.val b->U0=M6.val u+M6.val b*(18446744073709551616^t*M6.val (qs.drop t)) ->
  L4 u 0 L b b.length (L-b.length) qs ((t:Int)-1)=some [.own gX .u64 (M6.rU (L-b.length) (U0/M6.val b)),.io gX .u64 (M6.rU L (U0%M6.val b)) 0 0]:=by
 have bID:=M6.dT hb;intro t
 induction t with
 |zero =>
  intro u qs _ hu hd hq bOL kD hU;rw[cLQ,Nat.div_one]at kD;rw[cLQ,cFT,cHW]at hU;rw[nR,aL];have e1:U0/M6.val b=M6.val qs:=by rw[hU,cIF _ _ (by omega),cHM kD,cBR]
  have e2:U0%M6.val b=M6.val u:=by rw[hU,cNV,cME kD]
  rw[M6.qV hd hu e2.symm,M6.qV bOL hq e1.symm]
 |succ j ih =>
  intro u qs hj hu hd hq bOL kD hU;obtain⟨R,hR⟩:∃R,R=M6.val u/18446744073709551616^j:=⟨_,rfl⟩;have hV:0<M6.val b:=cIE (cHS _) kD;have bKW:R<18446744073709551616*M6.val b:=by
   rw[cGO,<-cHG,<-hR]at kD;rw[cGN];exact(cMY (by omega)).1 kD
  have aYC:R<18446744073709551616^(b.length+1):=by rw[cGO];omega
  obtain⟨q,bKC⟩:∃q,q=R/M6.val b:=⟨_,rfl⟩;have bKD:M6.val b*q<=R:=by rw[bKC];exact cMP _ _
  have hqB:q<18446744073709551616:=by
   rw[bKC];apply cHJ;rw[cGN];exact bKW
  have bFX:=M6.dT hd;rw[hu]at bFX;have bRI:L4 (M6.rU L (M6.val u-18446744073709551616^j*(M6.val b*q))) 0 L b b.length (L-b.length) (qs.set j (q:Int)) ((j:Int)-1)=some [.own gX .u64 (M6.rU (L-b.length) (U0/M6.val b)),.io gX .u64 (M6.rU L (U0%M6.val b)) 0 0]:=by
   obtain⟨m1,m2⟩:=minus hR bKD;refine ih _ _ (by omega) (M6.jE (by omega)) M6.nG (by simp[hq]) (M6.nH bOL ⟨by omega,by omega⟩) ?_ ?_
   ·rw[M6.nF,m1];have h1:=cMG R (M6.val b);have h2:=cDX R hV;rw[<-bKC]at h1;omega
   ·rw[M6.nF,M6.qP (by omega),cFM,hU,cGO];have e1:M6.val b*(18446744073709551616^j*(q+18446744073709551616*M6.val (qs.drop (j+1))))=18446744073709551616^j*(M6.val b*q)+M6.val b*(18446744073709551616^j*18446744073709551616*M6.val (qs.drop (j+1))):=by
     rw[cGQ,cGQ,cJL,cGS (18446744073709551616^j)]
    rw[e1];omega
  have hx:((j+1:Nat):Int)-1=(j:Int):=by omega
  have w1:i64.wrap ((j:Int)+(b.length:Int))=((j+b.length:Nat):Int):=by rw[wrap_i64];omega
  have w2:i64.wrap (((j+b.length:Nat):Int)-1)=((j+b.length-1:Nat):Int):=by rw[wrap_i64];omega
  have w3:i64.wrap ((b.length:Int)-1)=((b.length-1:Nat):Int):=by rw[wrap_i64];omega
  have w4:i64.wrap (((j+b.length:Nat):Int)+1)=((j+b.length+1:Nat):Int):=by rw[wrap_i64];omega
  have w5:i64.wrap ((j:Int)-1)=(j:Int)-1:=by rw[wrap_i64]
  have e5:j+b.length+1-j=b.length+1:=by omega
  have g1:=hd.get (j+b.length);have g2:=hd.get (j+b.length-1);have g3:=hb.get (b.length-1);have aBB:(u.getD (j+b.length) 0).toNat=R/18446744073709551616^b.length:=by
   rw[digit hd,cGP,<-cHG,<-hR,cME];apply cHJ;rw[cGO]at aYC;exact aYC
  have aCQ:(u.getD (j+b.length-1) 0).toNat=R/18446744073709551616^(b.length-1)%18446744073709551616:=by
   rw[digit hd,show j+b.length-1=j+(b.length-1)from by omega,cGP,<-cHG,<-hR]
  have aXV:(b.getD (b.length-1) 0).toNat=M6.val b/18446744073709551616^(b.length-1):=by
   rw[digit hb,cME];apply cHJ;rw[<-cGO,show(b.length-1).succ=b.length from by omega];exact bID
  have ht:=aLR hn bID bKW aBB aCQ aXV g1.1;rw[hx,nR,aM,w1,w2,w3,w4,aR,aR,aR,cFM,cFM,cFM,cBR,cBR,gP ⟨g1.1,g2.1,g2.2,g3.2⟩];refine aSW (fun w:Int=>R/M6.val b<=w.toNat/\0<=w/\w<18446744073709551616) ht ?_;rintro w ⟨Ea,h0,h1⟩;obtain⟨w,rfl⟩:=cGR h0;rw[cFM]at Ea;rw[aR];simp only[cFM,cBR,e5];rw[hu,gP ⟨hd,by trivial,by omega,hb,by omega,h0,h1⟩,aI,aI]
  by_cases hc:M6.val b*w<=R
  ·have ho:vG.Xb (M6.val u) j (b.length+1) (M6.val b*w)=0:=by
    unfold vG.Xb;rw[Kv (by rw[<-hR];exact aYC),<-hR,aP]
   have bRX:w=q:=by
    have:w<=R/M6.val b:=by rw[cNN hV,cGN];exact hc
    omega
   subst bRX;rw[ho,bJ (by rfl),aR,Nat.mul_zero,cCN,w5];exact bRI
  ·have ho:vG.Xb (M6.val u) j (b.length+1) (M6.val b*w)=1:=by
    unfold vG.Xb;rw[Kv (by rw[<-hR];exact aYC),<-hR,aR]
   have bRX:q<w:=by
    rcases cCF q w with h |h
    ·exact h
    ·exact absurd (cCL (cED _ h) bKD) hc
   rw[ho,bB (by decide),cBZ];rw[bQV hL hu hd hb (by omega) hR aYC hV bKC hq (w-q-1) w (by omega) (by omega)];exact bRI
theorem spec(x:List Int×Nat×Nat)(b:List Int)(h:(sp x b).1):aF E f197 aE [(Ga gX .u64).put x,(pI .u64).put b]=some (sp x b).2/\∃rs oH,(sp x b).2=rs ++ [.io gX .u64 oH 0 0]/\oH.length=x.1.length:=by
 obtain⟨xl,xo,xn⟩:=x;obtain⟨hd,ho,hn,hb,h0,Qk,hL,kD⟩:=h;simp only at hd ho hn Qk hL kD;subst ho;subst hn;refine⟨(start xl 0 xl.length b).trans ?_,[_],_,rfl,M6.jE ?_⟩
 ·have w1:i64.wrap ((xl.length:Int)-(b.length:Int))=((xl.length-b.length:Nat):Int):=by rw[wrap_i64];omega
  have w2:i64.wrap (((xl.length-b.length:Nat):Int)-1)=((xl.length-b.length:Nat):Int)-1:=by rw[wrap_i64]
  rw[w1,w2,aR,cFM];refine cBN hL hb h0 Qk (xl.length-b.length) xl _ (cBP _) rfl hd (by simp) (M6.jD _) kD ?_;rw[cNG (by simp)];simp[M6.val]
 ·show _<18446744073709551616^xl.length;exact cIE (Nat.mod_le _ _) (M6.dT hd)
def aJ:dJ:=orc2 (Ga gX .u64) (pI .u64) sp
theorem fnok:nL prog E 197 f197 aE:=xQ tN mixed (nJ _ _ rfl rfl (nP vG.ok (nP Ah.ok zH)) (aA aDU.ok aC) (pJ)) func197 rfl rfl rfl rfl rfl
theorem ok:rZ prog base.glob 197 aJ:=fnok.lD rfl spec
end Hd
namespace Cg
def E:Env:={ ({ base with C:=tK [(197,Hd.aJ)] (callsOf [(144,iI.aJ),(101,Ck.aJ),(193,aRQ.aJ),(194,oR.aJ),(95,pQ.aJ),(195,aRS.aJ),(196,Ca.aJ),(104,Hj.aJ)]),ioF:=Qs [(197,Hd.aJ)] })with nt:=98,own:=[37,49,55,68,76,88,93],keep:=fun k=>(tlook [] k).getD [],cut:=tlook [(3,[0,1])] }
def aE:=bd f151
theorem aT:Nk E aE:=nk
def J3 a b:=lK E f151 aE 3 [jK a,jK b]
theorem start a b:aF E f151 aE [D.s (ints u64 a),D.s (ints u64 b)]=letI B:=sc (slice none 0 0);letI A:=some [D.s B,D.s B,D.s (sc (int i64 2))];aN (a.length<=1099511627776) (aB (!iI.qJ a) A (aN (b.length<=1099511627776) (aB (!iI.qJ b) A (Cg.J3 a b)))):=eJ aT
theorem iB a b:J3 a b=letI K:=sc (int i64 0);letI H:=(a.length:Int);letI O:=H+(1:Int);letI G:=sc (slice none 0 0);letI C:=i64.wrap O;letI A:=(b.length:Int);letI N:=A-(1:Int);letI F:=i64.wrap N;aB (A==(0:Int)) (some [D.s G,D.s G,D.s (sc (int i64 4))]) (aN (M6.cA a/\M6.cA b/\a.length<=1099511627776/\b.length<=1099511627776) (aB (decide (jG (M6.val a) (M6.val b)<0)) (aN (M6.cA a/\a.length<=1099511627776) (aD (bif dK.nS (M6.val a)then M6.dg (M6.val a)else []) fun c=>some [D.s G,D.s (ints u64 c),D.s K])) (aB (A==(1:Int)) (if(0:Int)<=(0:Int)/\0<A then aN (M6.cN a/\a.length<=8192/\0<b.getD 0 0/\b.getD 0 0<(18446744073709551616:Int)) (aD (M6.dg (M6.val a/(b.getD 0 0).toNat)) fun d=>aD (↑(M6.val a%(b.getD 0 0).toNat):Int) fun e=>aN (0<=e/\e<18446744073709551616) (some [D.s (ints u64 d),D.s (ints u64 (M6.dg e.toNat)),D.s K]))else none) (if 0<=i64.wrap N/\i64.wrap N<A then aN (0<=b.getD F.toNat 0/\b.getD F.toNat 0<(18446744073709551616:Int)) (aD ((64:Int)-(↑(bl (b.getD F.toNat 0).toNat):Int)) fun f=>aN (M6.cA a/\0<=f/\f<64/\0<=i64.wrap O/\a.length<=C.toNat/\i64.wrap O<=549755813888/\M6.val a*(2:Nat)^f.toNat<(18446744073709551616:Nat)^C.toNat) (aD (M6.rU C.toNat (M6.val a*(2:Nat)^f.toNat)) fun g=>aN (M6.cA b/\0<=f/\f<64/\0<=A/\b.length<=A.toNat/\A<=(549755813888:Int)/\M6.val b*(2:Nat)^f.toNat<(18446744073709551616:Nat)^A.toNat) (aD (M6.rU A.toNat (M6.val b*(2:Nat)^f.toNat)) fun h=>letI P:=g.length-h.length;letI I:=(h.length:Int);aN (M6.cA g/\(0:Nat)=(0:Nat)/\g.length=g.length/\M6.cA h/\0<h.length/\h.length<=g.length/\g.length<=549755813888/\M6.val g/(18446744073709551616:Nat)^P<M6.val h) (aD (M6.rU P (M6.val g/M6.val h)) fun i=>aD (M6.rU g.length (M6.val g%M6.val h)) fun j=>letI B:=cHK (I.toNat-0) (cHL 0 j);if(0:Int)<=(0:Int)/\0<=I/\I<=(g.length:Int)then aN (M6.cA B/\B.length<=1099511627776) (aD (bif dK.nS (M6.val B)then M6.dg (M6.val B)else []) fun k=>aN (M6.cN k/\k.length<=8192/\0<=f/\f<4611686018427387904) (aD (M6.dg (M6.val k/(2:Nat)^f.toNat)) fun l=>aN (M6.cA i/\i.length<=1099511627776) (aD (bif dK.nS (M6.val i)then M6.dg (M6.val i)else []) fun m=>some [D.s (ints u64 m),D.s (ints u64 l),D.s K])))else none))))else none)))):=cJ aT
def sp(a b:List Int):Prop×List D:=(M6.cN a/\a.length<=8192/\M6.cN b/\1<=b.length/\b.length<=8192,[.s (.ints .u64 (M6.dg (M6.val a/M6.val b))),.s (.ints .u64 (M6.dg (M6.val a%M6.val b))),.s (.sc (.int .i64 0))])
theorem aCB{n k:Nat}(h:n<18446744073709551616^k)(hk:k<=8192):dK.nS n=true:=decide_eq_true (by have:=M6.dS h;omega)
theorem spec:Ro E f151 aE (pI .u64) (pI .u64) sp:=by
 rintro a b ⟨ha,hl,hb,h1,Qk⟩;have e:=start a b;have g:=hb.jA.get 0;have hz:M6.val b≠0:=fun h=>by have:=(M6.cZ hb).2 h;omega
 rw[gP,iI.oW ha hl,cDP,bF,gP,iI.oW hb (by omega),cDP,bF,iB,bB,gP ⟨ha.jA,hb.jA,by omega,by omega⟩]at e;unfold sp;simp only
 by_cases hc:M6.val a<M6.val b
 ·have Qj:dK.nS (M6.val a)=true:=aCB (M6.dT ha.jA) hl;rw[aM (by unfold jG;rw[if_pos hc];omega),gP ⟨ha.jA,by omega⟩,aI,Qj]at e;rw[cHM hc,cME hc,M6.cD];exact⟨_,e,.cons (Ap.nil _) (iX.refl _)⟩
 have hm:=cDX (M6.val a) (show 0<M6.val b by omega);rw[aL (by unfold jG;rw[if_neg hc];split <;> omega)]at e
 by_cases Ko:b.length=1
 ·have hv:M6.val b=(b.getD 0 0).toNat:=by
   have:=M6.bM (a:=b) 0;rw[M6.bW (by omega)]at this;simpa [M6.val] using this
  rw[bJ,if_pos ⟨by omega,by omega⟩,gP ⟨ha,by omega,by omega,by omega⟩,<-hv,aI,aI,gP ⟨cLI _,by generalize M6.val a%M6.val b=m at *;omega⟩,cFM]at e;exact⟨_,e,iX.refl _⟩
 ·have w1:i64.wrap ((b.length:Int)-1)=((b.length-1:Nat):Int):=by rw[wrap_i64];omega
  have w2:i64.wrap ((a.length:Int)+1)=((a.length+1:Nat):Int):=by rw[wrap_i64];omega
  have gt:=hb.jA.get (b.length-1);have htop:b.getD (b.length-1) 0≠0:=by
   have:=M6.getLast_take (a:=b) (n:=b.length-1) (by omega);rw[show b.length-1+1=b.length from by omega,cIK]at this;exact hb.top this
  have bMW:=M6.bM (a:=b) (b.length-1);rw[show b.length-1+1=b.length from by omega,cIK]at bMW;have bSA:=M6.iG hb.jA (b.length-1);obtain⟨x,hx⟩:=cGR gt.1;have Qv:x≠0:=by omega
  have hbx:bl x<=64:=dP.2 (by omega);have bTE:=qZ Qv;have bRW:=wM x;obtain⟨s,hs⟩:∃s:Nat,s=64-bl x:=⟨_,rfl⟩;have ws:(64-(bl x:Int))=(s:Int):=by omega
  have aPH:=M6.dT ha.jA;have bLA:=M6.dT hb.jA;have Il:2^s<18446744073709551616:=by
   have:2^s<2^64:=cII (by omega) (by omega);omega
  have aCM:0<2^s:=dA;have bTR:M6.val a*2^s<18446744073709551616^(a.length+1):=by rw[cGO];exact cKD aPH Il
  have aGQ:M6.val b*2^s<18446744073709551616^b.length:=by
   have h2:(x+1)*2^s<=2^bl x*2^s:=cDE _ bRW;rw[<-cGP,show bl x+s=64 from by omega]at h2;have h3:M6.val b+1<=18446744073709551616^(b.length-1)*(x+1):=by
    rw[bMW,hx,cFM,cGQ];omega
   have h4:(M6.val b+1)*2^s<=18446744073709551616^(b.length-1)*(x+1)*2^s:=cDE _ h3;have h5:18446744073709551616^(b.length-1)*((x+1)*2^s)<=18446744073709551616^(b.length-1)*2^64:=cED _ h2;have h6:18446744073709551616^(b.length-1)*2^64=18446744073709551616^b.length:=by
    conv=>rhs;rw[show b.length=(b.length-1)+1 from by omega,cGO]
   rw[h6]at h5;rw[cGS]at h4;rw[cCJ]at h4;omega
  have hlab:b.length<=a.length:=by
   rcases cCF a.length b.length with h |h
   ·exact absurd (M6.oK ha.jA hb h) hc
   ·exact h
  have Ea:18446744073709551616^(b.length-1)<=M6.val b:=by
   rw[bMW,hx,cFM];have:18446744073709551616^(b.length-1)*1<=18446744073709551616^(b.length-1)*x:=cED _ (by omega);omega
  have aGK:M6.val a*2^s/18446744073709551616^(a.length+1-b.length)<M6.val b*2^s:=by
   apply cHJ;have h1:18446744073709551616^(a.length+1-b.length)*18446744073709551616^(b.length-1)<=18446744073709551616^(a.length+1-b.length)*M6.val b:=cED _ Ea;rw[<-cGP,show a.length+1-b.length+(b.length-1)=a.length from by omega]at h1;rw[<-cGS];exact cKB (cCM aPH h1) aCM
  have hQ:M6.val a*2^s/(M6.val b*2^s)=M6.val a/M6.val b:=cKN _ _ aCM;have hR:M6.val a*2^s%(M6.val b*2^s)=M6.val a%M6.val b*2^s:=cKO _ _ _;have bKV:M6.val a%M6.val b*2^s<18446744073709551616^b.length:=Nat.lt_trans (cKB hm aCM) aGQ;have hRl2:M6.val a%M6.val b*2^s<18446744073709551616^(a.length+1):=cCM bKV (M6.sH (by omega));have bZV:M6.val a/M6.val b<18446744073709551616^a.length:=cIE (cKC _ _) aPH;have bPG:M6.val a/M6.val b<18446744073709551616^(a.length+1-b.length):=by
   apply cHJ;have h1:18446744073709551616^(b.length-1)*18446744073709551616^(a.length+1-b.length)<=M6.val b*18446744073709551616^(a.length+1-b.length):=cDE _ Ea;rw[<-cGP,show b.length-1+(a.length+1-b.length)=a.length from by omega]at h1;omega
  have bGD:M6.val ((M6.rU (a.length+1) (M6.val a%M6.val b*2^s)).take b.length)=M6.val a%M6.val b*2^s:=by
   rw[M6.vM M6.nG,M6.nF,cME bKV]
  rw[bB,w1,w2,aR,cFM,cFM,cFM,gP gt,hx,cFM,ws,aI,cFM,
   gP ⟨ha.jA,by omega,by omega,by omega,by omega,by omega,bTR⟩,aI,gP ⟨hb.jA,by omega,by omega,by omega,cBP _,by omega,aGQ⟩,aI,
   M6.jE bTR,M6.jE aGQ,M6.nF,M6.nF,cFM,gP ⟨M6.nG,rfl,rfl,M6.nG,by omega,by omega,by omega,aGK⟩,aI,aI,hQ,hR,
   aR,cHW,Nat.sub_zero,bGD,gP ⟨M6.nG.take _,by rw[List.length_take];omega⟩,aCB bKV Qk,cond_true,aI,
   gP ⟨M6.aY _,by have:=M6.dS bKV;omega,by omega,by omega⟩,M6.bD,cLS _ aCM,aI,gP ⟨M6.nG,by rw[M6.jE bPG];omega⟩,M6.nF,aCB bZV hl,cond_true,aI]at e
  exact⟨_,e,iX.refl _⟩
def aJ:dJ:=orc2 (pI .u64) (pI .u64) sp
theorem fnok:uU prog E 151 f151 aE:=aJB tN mixed (nJ _ _ rfl rfl (nP Hd.ok zH) (aA iI.ok (aA Ck.ok (aA aRQ.ok (aA oR.ok (aA pQ.ok (aA aRS.ok (aA Ca.ok (aA Hj.ok aC)))))))) (pJ)) func151 rfl rfl rfl
theorem ok:mM prog base.glob 151 aJ:=fnok.aSE rfl spec
end Cg
namespace aKD
def E:=mE [(96,fW.aJ),(151,Cg.aJ),(102,wC.aJ),(99,Cm.aJ)] 60 [28,50,57] [(3,[2,3,4])] [3]
def aE:=bd f109
theorem aT:Nk E aE:=nk
def J3 a b c d e:=lK E f109 aE 3 [dR 0 27 [dG a,gM b],dR 1 27 [dG c,gM d],dR 2 27 [dG e,sc (slice none 0 0)]]
theorem start a b c d:aF E f109 aE [D.agg [sc (bool a),ints u64 b],D.agg [sc (bool c),ints u64 d]]=letI A:=some [D.agg [sc (bool false),sc (slice none 0 0)],D.s (sc (int i64 2))];aN (b.length<=1099511627776) (aB (!fW.oZ (a,b)) A (aN (d.length<=1099511627776) (aB (!fW.oZ (c,d)) A (aKD.J3 a b c d false)))):=eJ aT
theorem iB a b c d e:J3 a b c d e=letI A:=M6.dg (M6.val b%M6.val d);letI F:=M6.dg (M6.val d-M6.val A);letI C:=bif (if M6.val d<M6.val A then(3:Int)else(0:Int))==0 then zs c (M6.val F)else(0:Int);letI B:=aN (M6.cN A/\A.length<=1099511627776) (some [D.agg [sc (bool (isNeg (zs c (M6.val A)))),ints u64 (M6.dg (zs c (M6.val A)).natAbs)],D.s (sc (int i64 0))]);aB ((d.length:Int)==(0:Int)) (some [D.agg [sc (bool false),sc (slice none 0 0)],D.s (sc (int i64 4))]) (aN (M6.cN b/\b.length<=8192/\M6.cN d/\1<=d.length/\d.length<=8192) (aB (a !=c) (aB (decide (0<(A.length:Int))) (aN (M6.cN d/\M6.cN A/\d.length<=8192/\A.length<=8192) (aN (M6.cN F/\F.length<=1099511627776) (some [D.agg [sc (bool (isNeg C)),ints u64 (M6.dg C.natAbs)],D.s (sc (int i64 (if M6.val d<M6.val A then(3:Int)else(0:Int))))]))) B) B)):=cJ aT
def sp(x y:Bool×List Int):Prop×List D:=(iE x/\iE y/\y.1=false/\1<=y.2.length,[wD (wv x%wv y),.s (.sc (.int .i64 0))])
theorem spec:fN E f109 aE pW pW sp:=by
 rintro x y ⟨hx,hy,hn,h1⟩;refine(start x.1 x.2 y.1 y.2).trans ?_;have l1:=hx.len;have l2:=hy.len;have f1:=fW.lY hx;have f2:=fW.lY hy;have b2:=hy.bl;obtain⟨p,a⟩:=x;obtain⟨q,b⟩:=y;have n1:M6.cN a:=hx.1;have n2:M6.cN b:=hy.1
 try dsimp only at *
 subst hn;unfold sp
 try dsimp only
 have hz:M6.val b≠0:=fun h=>by have:=(M6.cZ n2).2 h;omega
 have hm:=cDX (M6.val a) (show 0<M6.val b by omega);have hl:=gA (n:=M6.val a%M6.val b) (k:=8192) (cCL (gF (Nat.le_of_lt hm)) b2);have bKI:=gA (n:=M6.val b-M6.val a%M6.val b) (k:=8192) (cCL (gF (Nat.sub_le _ _)) b2);have hb:wv (false,b)=(M6.val b:Int):=Hp (x:=(false,b)) rfl;have zf:∀n:Nat,zs false n=(n:Int):=fun n=>rfl
 rw[gP,f1,cDP,bF,gP,f2,cDP,bF,iB,bB,gP ⟨n1,l1,n2,h1,l2⟩];simp only[M6.bD];cases p with
 |false =>
  have ha:wv (false,a)=(M6.val a:Int):=Hp (x:=(false,a)) rfl;rw[show(false !=false)=false from rfl,bF,gP ⟨M6.aY _,by omega⟩,ha,hb,<-cIG];rfl
 |true =>
  have ha:wv (true,a)=-(M6.val a:Int):=Tp (x:=(true,a)) rfl;rw[show(true !=false)=true from rfl,bT]
  by_cases hr:M6.val a%M6.val b=0
  ·have e0:-(M6.val a:Int)%(M6.val b:Int)=0:=by
    have aUZ:=cGV (M6.val a) (M6.val b);rw[hr,cCN]at aUZ;rw[<-aUZ,cHN,<-cKP];exact Int.mul_emod_right _ _
   rw[hr,M6.cD,aL (by simp),gP ⟨M6.Lm,by simp⟩,ha,hb,e0];rfl
  ·have hd:(M6.dg (M6.val a%M6.val b)).length≠0:=fun h=>hr (M6.gJ.1 h)
   have e0:-(M6.val a:Int)%(M6.val b:Int)=((M6.val b-M6.val a%M6.val b:Nat):Int):=by
    have aUZ:=cGV (M6.val a) (M6.val b);have e1:-(M6.val a:Int)=((M6.val b-M6.val a%M6.val b:Nat):Int)+(M6.val b:Int)*(-(((M6.val a/M6.val b+1:Nat)):Int)):=by
     have e2:((M6.val b*(M6.val a/M6.val b)+M6.val a%M6.val b:Nat):Int)=(M6.val a:Int):=by rw[aUZ]
     rw[cMQ,cHN]at e2;rw[cKP,cMQ,Int.mul_add];generalize M6.val a%M6.val b=r at *;generalize (M6.val b:Int)*((M6.val a/M6.val b:Nat):Int)=z at *;omega
    rw[e1,Int.add_mul_emod_self_left];exact Int.emod_eq_of_lt (by omega) (by omega)
   rw[aM,gP ⟨n2,M6.aY _,l2,hl⟩,gP ⟨M6.aY _,by omega⟩,aP,ha,hb,e0];rfl
def aJ:dJ:=orc2 pW pW sp
theorem ok:OK 109 aJ:=(dY E aE (aA fW.ok (aA Cg.ok (aA wC.ok (aA Cm.ok aC)))) func109).lD rfl spec
end aKD
namespace uR
def E:=mE [(96,fW.aJ)] 40 [] [(8,[1,4])] [8]
def aE:=bd f110
theorem aT:Nk E aE:=nk
def J8 a b c:=lK E f110 aE 8 [dR 0 27 [dG a,gM b],dM c]
theorem start a b:aF E f110 aE [D.agg [sc (bool a),ints u64 b]]=letI F:=uR.J8 a b (b.getD 0 0);letI C:=(b.length:Int);letI B:=sc (int i64 0);letI A:=some [D.s B,D.s (sc (int i64 5))];aN (b.length<=1099511627776) (aB (!fW.oZ (a,b)) (some [D.s B,D.s (sc (int i64 2))]) (aB (C==(0:Int)) (some [D.s B,D.s B]) (if(0:Int)<=(0:Int)/\0<C then aB (decide (1<C)) A (aB (decide (9223372036854775808<b.getD 0 0)) A (aB (b.getD 0 0==(9223372036854775808:Int)) (aB (!a) A F) F))else none))):=eJ aT
theorem Aj a b c:J8 a b c=aB a (some [D.s (sc (int i64 (i64.wrap (u64.wrap ((0:Int)-c))))),D.s (sc (int i64 0))]) (some [D.s (sc (int i64 (i64.wrap c))),D.s (sc (int i64 0))]):=cJ aT
def uG(z:Int):Bool:=decide (-9223372036854775808<=z)&&decide (z<9223372036854775808)
def sp(x:Bool×List Int):Prop×List D:=(iE x,[.s (.sc (.int .i64 (bif uG (wv x)then wv x else 0))),.s (.sc (.int .i64 (bif uG (wv x)then 0 else 5)))])
theorem spec:iS E f110 aE pW sp:=by
 intro x h;have h:iE x:=h;refine(start x.1 x.2).trans ?_;obtain⟨b,a⟩:=x;have hl:a.length<=8192:=h.len;have h1:M6.cN a:=h.1;have g:=h1.jA.get 0;have hf:=fW.lY h
 try dsimp only
 unfold sp
 try dsimp only
 rw[gP,hf,cDP,bF];have yes:∀z:Int,-9223372036854775808<=z->z<9223372036854775808->uG z=true:=fun z h h'=>by unfold uG;rw[decide_eq_true h,decide_eq_true h'];rfl
 have no:∀z:Int,(z < -9223372036854775808\/9223372036854775808<=z)->uG z=false:=fun z h=>by
  unfold uG;rcases h with h |h
  ·rw[decide_eq_false (by omega),cGY]
  ·rw[decide_eq_false (show ¬z<_ by omega),cHB]
 by_cases hz:a.length=0
 ·have hv:=(M6.cZ h1).1 hz;have:wv (b,a)=0:=by
   have:=iY (b,a);rw[show M6.val (b,a).2=0 from hv]at this;omega
  rw[bJ,this];rfl
 ·rw[bB,if_pos ⟨by omega,by omega⟩];have bMV:M6.val a≠0:=fun h=>hz ((M6.cZ h1).2 h)
  have aPC:=iY (b,a)
  try dsimp only at aPC
  by_cases h2:1<a.length
  ·have Ea:18446744073709551616<=M6.val a:=by
    have:=M6.Dd (n:=M6.val a) (k:=1) (by rw[aNM h1];exact h2);omega
   rw[aM,no _ (by omega)];rfl
  ·have hv:M6.val a=(a.getD 0 0).toNat:=by
    have:=M6.bM (a:=a) 0;rw[M6.bW (by omega)]at this;simpa [M6.val] using this
   rw[aL];generalize a.getD 0 0=w at *
   by_cases h3:9223372036854775808<w
   ·rw[aM h3,no _ (by omega)];rfl
   ·rw[aL h3,Aj];cases b with
    |true =>
     have hw:wv (true,a)=-(M6.val a:Int):=Tp (x:=(true,a)) rfl;have e1:i64.wrap (u64.wrap (0-w))=wv (true,a):=by rw[hw,fY,Jp];omega
     rw[yes _ (by omega) (by omega),cDP,bF,bT,e1];unfold aB;cases (w==9223372036854775808) <;> rfl
    |false =>
     have hw:wv (false,a)=(M6.val a:Int):=Hp (x:=(false,a)) rfl;rw[cNC,bT,bF]
     by_cases h4:w=9223372036854775808
     ·rw[bJ h4,no _ (by omega)];rfl
     ·rw[bB h4,yes _ (by omega) (by omega),wrap_i64];rw[show w=wv (false,a)from by omega];rfl
def aJ:dJ:=orc1 pW sp
theorem ok:OK 110 aJ:=(dY E aE (aA fW.ok aC) func110).oU rfl spec
end uR
namespace aAN
def E:=mE [(51,aKB.aJ),(109,aKD.aJ),(110,uR.aJ)] 19 [15] [] []
def aE:=bd f60
theorem aT:Nk E aE:=nk
theorem start a b:aF E f60 aE [D.agg [sc (bool a),ints u64 b]]=letI B:=(isNeg 4,M6.dg 4);letI A:=(isNeg (wv (a,b)%wv B),M6.dg (wv (a,b)%wv B).natAbs);aN ((-9223372036854775808:Int)<=(4:Int)/\(4:Int)<(9223372036854775808:Int)) (aN (iE (a,b)/\iE B/\isNeg 4=false/\1<=(M6.dg 4).length) (aN (iE A) (some [D.s (sc (int i64 (bif uR.uG (wv A)then wv A else(0:Int))))]))):=eJ aT
def sp(x:Bool×List Int):Prop×List D:=(iE x,[.s (.sc (.int .i64 (wv x%4)))])
theorem spec:iS E f60 aE pW sp:=by
 intro x h;have h:iE x:=h;have e4:wv (isNeg 4,M6.dg 4)=4:=oI 4;have w4:iE (isNeg 4,M6.dg 4):=gL (z:=4) (cCL (dP.2 (show(4:Int).natAbs<2^3 by decide)) (by omega));have l4:(M6.dg 4).length=1:=by
  have h1:=M6.dS (n:=4) (k:=1) (by decide);have h2:(M6.dg 4).length≠0:=fun h=>by have:=M6.gJ.1 h;omega
  omega
 have hr:0<=wv x%4/\wv x%4<4:=by omega
 refine(start x.1 x.2).trans ?_;rw[gP,gP ⟨h,w4,rfl,Nat.le_of_eq l4.symm⟩,e4,oI];show aN _ _=some [D.s (.sc (.int .i64 (wv x%4)))];generalize wv (x.1,x.2)%4=r at *;rw[gP (gL (cCL (dP.2 (show r.natAbs<2^3 by omega)) (by omega)))];have:uR.uG r=true:=by unfold uR.uG;rw[decide_eq_true (by omega),decide_eq_true (by omega)];rfl
 rw[this];rfl
def aJ:dJ:=orc1 pW sp
theorem ok:OK 60 aJ:=(dY E aE (aA aKB.ok (aA aKD.ok (aA uR.ok aC))) func60).oU rfl spec
end aAN
namespace bC
def E:=mE [(12,bI.aJ),(56,kU.aJ),(13,bV.aJ),(57,aAO.aJ),(58,Wv.aJ),(59,Wu.aJ),(48,Cn.aJ),(60,aAN.aJ)] 71 [22,68] [] []
def aE:=bd f18
theorem aT:Nk E aE:=nk
theorem start a:aF E f18 aE [D.s (sc (int u64 a))]=letI N:=sc (int i64 0);letI I:=bif iN 1 (-1:Int)then aQ 1 (-1:Int)else((0:Int),(0:Int));letI B:=bif cR.fH 64 a&&cT.jL 64 a then aQ (bI.lL 64 a) (bI.nA 64 a)else((0:Int),(0:Int));aN (((64:Int)=(32:Int)\/(64:Int)=(64:Int))/\0<=a/\a<18446744073709551616) (aD (isNeg B.fst) fun b=>aD (M6.dg B.fst.natAbs) fun c=>aD B.snd fun d=>letI O:=dv (b,c,d);letI H:=bif kU.Hw O 1 then kU.Qd O 1 else((0:Int),(0:Int));aD (bif cR.fH 64 a then bif cT.jL 64 a then(0:Int)else(6:Int)else(2:Int)) fun e=>aB (e !=0) (some [D.s N,D.agg [sc (bool false),sc (slice none 0 0),sc (int i64 0)],D.s (sc (int i64 e))]) (aN (aU (b,c,d)/\(-9223372036854775808:Int)<=(1:Int)/\(1:Int)<(9223372036854775808:Int)) (aD (isNeg H.fst) fun f=>aD (M6.dg H.fst.natAbs) fun g=>aD H.snd fun h=>aN (((-9223372036854775808:Int)<=(1:Int)/\(1:Int)<(9223372036854775808:Int))/\(-9223372036854775808:Int)<=(-1:Int)/\(-1:Int)<(9223372036854775808:Int)) (aD (isNeg I.fst) fun i=>aD (M6.dg I.fst.natAbs) fun j=>aD I.snd fun k=>letI C:=bif bV.kY (dv (f,g,h)) (dv (i,j,k))then bV.oP (dv (f,g,h)) (dv (i,j,k))else((0:Int),(0:Int));aN (aU (f,g,h)/\aU (i,j,k)) (aD (isNeg C.fst) fun l=>aD (M6.dg C.fst.natAbs) fun m=>aD C.snd fun n=>letI G:=bif rI.uP (dv (l,m,n)) 0 then rI.Bs (dv (l,m,n)) 0 else((0:Int),(0:Int));aN (aU (l,m,n)/\(-4611686018427387904:Int)<=(0:Int)/\(0:Int)<(4611686018427387904:Int)) (aD (isNeg G.fst) fun o=>aD (M6.dg G.fst.natAbs) fun p=>aD G.snd fun q=>letI K:=bif fit (M6.val p*(2:Nat)^q.toNat)then wv (o,p)*(↑((2:Nat)^q.toNat):Int)else(0:Int);letI F:=bif kU.Hw (dv (o,p,q)) (-1:Int)then kU.Qd (dv (o,p,q)) (-1:Int)else((0:Int),(0:Int));aN (aU (o,p,q)/\(-9223372036854775808:Int)<=(-1:Int)/\(-1:Int)<(9223372036854775808:Int)) (aD (isNeg F.fst) fun r=>aD (M6.dg F.fst.natAbs) fun s=>aD F.snd fun t=>letI P:=dv (r,s,t);letI A:=bif bV.kY O (-P.fst,P.snd)then bV.oP O (-P.fst,P.snd)else((0:Int),(0:Int));aN (aU (b,c,d)/\aU (r,s,t)) (aD (isNeg A.fst) fun u=>aD (M6.dg A.fst.natAbs) fun v=>aD A.snd fun w=>aB (decide (q<2)) (aN (iE (o,p)/\0<=q/\q<4611686018427387904) (aD (isNeg K) fun x=>aD (M6.dg K.natAbs) fun y=>aN (iE (x,y)) (aD (wv (x,y)%4) fun z=>some [D.s (sc (int i64 z)),D.agg [sc (bool u),ints u64 v,sc (int i64 w)],D.s N]))) (some [D.s N,D.agg [sc (bool u),ints u64 v,sc (int i64 w)],D.s N]))))))))):=eJ aT
def uJ(p:Int×Int):Int:=if 0<=p.2 then p.1*p2 (p.2+1)else(p.1*4+p2 (-p.2))/p2 (1-p.2)
def Qq(p:Int×Int):Int:=if 0<=p.2 then 0 else p.1*2-uJ p*p2 (-p.2)
def Dp(p:Int×Int):Int×Int:=aQ (Qq p) (p.2-1)
def lM(a:Int):Int×Int:=aQ (bI.lL 64 a) (bI.nA 64 a)
def sp(a:Int):Prop×List D:=(0<=a/\a<18446744073709551616,[.s (.sc (.int .i64 (bif cT.jL 64 a then uJ (lM a)%4 else 0))),dD (bif cT.jL 64 a then Dp (lM a)else(0,0)),.s (.sc (.int .i64 (bif cT.jL 64 a then 0 else 6)))])
theorem dT{a:Int}(_:0<=a)(hf:cT.jL 64 a=true):(bI.lL 64 a).natAbs<2^53/\-1074<=bI.nA 64 a/\bI.nA 64 a<=971:=by
 have Dr:0<=a%bR.cC (aH.fF 64):=by rw[show bR.cC (aH.fF 64)=9223372036854775808 from rfl];omega
 have qU:a%bR.cC (aH.fF 64)<lC.mV (aH.fF 64):=of_decide_eq_true hf;have hm:=bI.Ur aH.uX Dr;have hx:=bI.Vi aH.uX Dr qU;refine⟨?_,hx.1,?_⟩
 ·unfold bI.lL;rw[kS];have:=hm.2;rw[show aH.fF 64=(64,53,-1074,9221120237041090561)from rfl]at *;omega
 ·unfold bI.nA dV.tT;rw[show lC.mV (aH.fF 64)=9218868437227405312 from rfl]at qU;rw[show cP.lA (aH.fF 64)=4503599627370496 from rfl];rw[show(aH.fF 64).2.2.1=-1074 from rfl];split <;> omega
theorem aNK{a:Int}(h0:0<=a)(hf:cT.jL 64 a=true):kQ (lM a)/\(lM a).1.natAbs<2^53/\-1074<=(lM a).2/\(lM a).2<=1024:=by
 obtain⟨h1,h2,h3⟩:=dT h0 hf;have hb:bl (bI.lL 64 a).natAbs<=53:=dP.2 h1;have ha:=Gf (bI.lL 64 a) (bI.nA 64 a);refine⟨iF (iL (by omega) (by omega)) (by omega),?_,?_⟩
 ·unfold lM;omega
 ·unfold lM
  by_cases hz:bI.lL 64 a=0
  ·rw[hz,fR];exact⟨by show(-1074:Int)<=0;omega,by show(0:Int)<=1024;omega⟩
  ·have:=(lW (e:=bI.nA 64 a) hz).2;have:=Dw (n:=(bI.lL 64 a).natAbs) (by omega);omega
theorem spec:aRJ E f18 aE (pN .u64) sp:=by
 rintro a ⟨h0,h1⟩;have hp:cR.fH 64 a=true:=rfl;unfold sp
 try dsimp only
 cases hf:cT.jL 64 a with
 |false =>
  have s:=start a;rw[gP ⟨.inr rfl,h0,h1⟩,hp,hf,vl,vl,vl,vl,oM (by decide)]at s;refine⟨_,s,.cons (Ap.refl _) (.cons ?_ (iX.refl _))⟩;unfold dD;rw[cond_false,show((0,0):Int×Int).1.natAbs=0 from rfl,M6.cD];exact Ap.agg (.cons (Fc.refl _) (.cons (Fc.nil _) (Ab.refl _)))
 |true =>
  refine⟨_,(start a).trans ((gP ⟨.inr rfl,h0,h1⟩).trans ?_),iX.refl _⟩
  try dsimp only[cond_true]
  have e1:(bif cR.fH 64 a&&cT.jL 64 a then aQ (bI.lL 64 a) (bI.nA 64 a)else((0:Int),(0:Int)))=lM a:=by rw[hp,hf];rfl
  have cBA:(bif cR.fH 64 a then bif cT.jL 64 a then(0:Int)else 6 else 2)=0:=by rw[hp,hf];rfl
  rw[e1,cBA,Dv,vl,gR rfl];obtain⟨aIO,hm,aUY,aGM⟩:=aNK h0 hf;generalize lM a=p at *;obtain⟨m,e⟩:=p;have hs:aQ m e=(m,e):=aIO.same
  try dsimp only at hm aUY aGM
  have bm:bl m.natAbs<=53:=dP.2 hm;rw[gP ⟨dW aIO,by omega,by omega⟩,dZ];have bK:bl (uJ (m,e)).natAbs<=1100:=by
   unfold uJ
   try dsimp only
   split
   ·have:=Bv (n:=e+1) (k:=1025) bm (by omega);omega
   ·refine bCJ ?_ _;have b1:=Bv (z:=m) (n:=2) (k:=2) bm (by omega);have b2:=Bv (z:=1) (n:=-e) (k:=1074) Iz (by omega);rw[cJZ]at b2;exact cCL (aDK (n:=1075) (cCL b1 (by omega)) b2) (by omega)
  have hR:Dp (m,e)=aQ (if 0<=e then 0 else m*2-uJ (m,e)*p2 (-e)) (e-1):=rfl;have hK:uJ (m,e)=if 0<=e then m*p2 (e+1)else(m*4+p2 (-e))/p2 (1-e):=rfl
  generalize uJ (m,e)=K at *;generalize Dp (m,e)=R at *;rw[<-hs];have e2:(bif kU.Hw (aQ m e) 1 then kU.Qd (aQ m e) 1 else((0:Int),(0:Int)))=aQ m (e+1):=by
   rw[Xx (by omega) (by omega),aFF];rfl
  have e3:(bif iN 1 (-1)then aQ 1 (-1)else((0:Int),(0:Int)))=aQ 1 (-1):=by
   rw[iL (by omega) (by have:=Iz;omega)];rfl
  have bVL:kQ (aQ m (e+1)):=iF (iL (by omega) (by omega)) (by omega);have p3:kQ (aQ 1 (-1)):=iF (iL (by omega) (by have:=Iz;omega)) (by have:=Iz;omega);rw[e2,e3,Dv,gP ⟨by omega,by omega⟩,Dv,gP ⟨dW bVL,dW p3⟩,dZ,dZ];obtain⟨S,G,hS,hG0,bPP,Qj,aVD,bEB⟩:∃S G:Int,bl S.natAbs<=1100/\-1100<=G/\G<=-1/\bV.kY (aQ m (e+1)) (aQ 1 (-1))=true/\bV.oP (aQ m (e+1)) (aQ 1 (-1))=aQ S G/\S/p2 (0-G)=K:=by
   by_cases hc:0<=e
   ·have b1:=Bv (z:=m) (n:=e+1 - -1) (k:=1026) bm (by omega);have b2:=Bv (z:=1) (n:=-1 - -1) (k:=0) Iz (by omega);refine⟨_,-1,cCL (aDK (n:=1080) (cCL b1 (by omega)) (cCL b2 (by omega))) (by omega),by omega,by omega,Dj (G:=-1) (by omega) (by omega) (by omega) (by omega) (by omega) (by omega),Hb (by omega) (by omega),?_⟩;rw[hK,if_pos hc,show e+1 - -1=e+1+1 by omega,uK (by omega) (by omega),show p2 (0 - -1)=2 from rfl,show p2 (-1 - -1)=1 from rfl,aNE];generalize p2 (e+1)=q;rw[<-cIC];omega
   ·have b1:=Bv (z:=m) (n:=e+1-(e-1)) (k:=2) bm (by omega);have b2:=Bv (z:=1) (n:=-1-(e-1)) (k:=1074) Iz (by omega);refine⟨_,e-1,cCL (aDK (n:=1080) (cCL b1 (by omega)) (cCL b2 (by omega))) (by omega),by omega,by omega,Dj (G:=e-1) (by omega) (by omega) (by omega) (by omega) (by omega) (by omega),Hb (by omega) (by omega),?_⟩;rw[hK,if_neg hc,show e+1-(e-1)=2 by omega,show -1-(e-1)=-e by omega,cJZ,show p2 2=4 from rfl,show 0-(e-1)=1-e by omega]
  have e4:(bif bV.kY (aQ m (e+1)) (aQ 1 (-1))then bV.oP (aQ m (e+1)) (aQ 1 (-1))else((0:Int),(0:Int)))=aQ S G:=by rw[Qj,aVD];rfl
  have p4:kQ (aQ S G):=iF (iL (by omega) (by omega)) (by omega);have e5:(bif rI.uP (aQ S G) 0 then rI.Bs (aQ S G) 0 else((0:Int),(0:Int)))=aQ K 0:=by
   rw[aCX (by omega) (by omega) (by rw[bEB];omega),aIY (by omega),bEB];rfl
  have p5:kQ (aQ K 0):=iF (iL (by omega) (by omega)) (by omega);rw[e4,Dv,gP ⟨dW p4,by omega,by omega⟩,dZ,e5,Dv,gP ⟨dW p5,by omega,by omega⟩,dZ];have e6:(bif kU.Hw (aQ K 0) (-1)then kU.Qd (aQ K 0) (-1)else((0:Int),(0:Int)))=aQ K (-1):=by
   rw[Xx (by omega) (by omega),aFF];rfl
  have p6:kQ (aQ K (-1)):=iF (iL (by omega) (by omega)) (by omega);rw[e6,Dv,gP ⟨dW (hs▸aIO),dW p6⟩,dZ,<-Ym];have e7:(bif bV.kY (aQ m e) (aQ (-K) (-1))then bV.oP (aQ m e) (aQ (-K) (-1))else((0:Int),(0:Int)))=R:=by
   rw[hR]
   by_cases hc:0<=e
   ·have b1:=Bv (z:=m) (n:=e - -1) (k:=1026) bm (by omega);have b2:=Bv (z:=-K) (n:=-1 - -1) (k:=0) (aRA bK) (by omega);rw[Dj (G:=-1) (by omega) (by omega) (by omega) (by omega) (by omega) (by omega),Hb (G:=-1) (by omega) (by omega),if_pos hc,hK,if_pos hc,show e - -1=e+1 by omega,show p2 (-1 - -1)=1 from rfl,cNF];rw[show m*p2 (e+1)+-(m*p2 (e+1))=0 by omega,fR,fR];rfl
   ·have b1:=Bv (z:=m) (n:=e-(e-1)) (k:=1) bm (by omega);have b2:=Bv (z:=-K) (n:=-1-(e-1)) (k:=1074) (aRA bK) (by omega);rw[Dj (G:=e-1) (by omega) (by omega) (by omega) (by omega) (by omega) (by omega),Hb (G:=e-1) (by omega) (by omega),if_neg hc,show e-(e-1)=1 by omega,show -1-(e-1)=-e by omega,aNE,cLF,<-Int.sub_eq_add_neg];rfl
  rw[e7,Dv];have gK:=aCC (z:=K) (e:=0) (G:=0) (by omega);rw[Int.sub_self,Int.sub_zero,aFV,cNF]at gK;have bYB:0<=(aQ K 0).2:=by
   by_cases hz:K=0
   ·rw[hz,fR];exact cNE 0
   ·exact tD hz
  have bWT:M6.val (M6.dg (aQ K 0).1.natAbs)=(aQ K 0).1.natAbs:=M6.bD _;have aOV:fit (M6.val (M6.dg (aQ K 0).1.natAbs)*2^(aQ K 0).2.toNat)=true:=by
   rw[bWT,<-aDR,gK];exact decide_eq_true (by omega)
  by_cases hc:(aQ K 0).2<2
  ·rw[aM hc,gP ⟨(dW p5).Fp,by omega,by omega⟩,oI,aOV];have e8:(bif true then(aQ K 0).1*((2^(aQ K 0).2.toNat:Nat):Int)else(0:Int))=K:=gK;rw[e8,vl,vl,gP (gL (by omega)),oI,vl];rfl
  ·rw[aL hc];have:K%4=0:=by
    have e9:p2 (aQ K 0).2=p2 ((aQ K 0).2-2)*4:=by
     have:=uK (m:=(aQ K 0).2-2) (n:=2) (by omega) (by omega);rwa [show(aQ K 0).2-2+2=(aQ K 0).2 by omega]at this
    rw[e9,<-cIC]at gK;generalize (aQ K 0).1*p2 ((aQ K 0).2-2)=q at *;omega
   rw[this];rfl
def aJ:dJ:=orc1 (pN .u64) sp
theorem ok:OK 18 aJ:=(dY E aE (aA bI.ok (aA kU.ok (aA bV.ok (aA aAO.ok (aA Wv.ok (aA Wu.ok (aA Cn.ok (aA aAN.ok aC)))))))) func18).bET rfl spec
end bC
namespace mK
def E:=mE [(78,aH.aJ)] 12 [] [] []
def aE:=bd f84
theorem aT:Nk E aE:=nk
theorem start a:aF E f84 aE [D.s (sc (int i64 a))]=letI A:=aH.fF a;aN True (aB (A.fst==0&&(A.snd.fst==0&&(A.snd.snd.fst==0&&(A.snd.snd.snd==0&&true)))) (some [D.s (sc (int u64 0)),D.s (sc (int i64 1))]) (some [D.s (sc (int u64 A.snd.snd.snd)),D.s (sc (int i64 0))])):=eJ aT
def An(f:Int):Bool:=decide (f=32\/f=64)
def sp(f:Int):Prop×List D:=(True,[.s (.sc (.int .u64 (aH.fF f).2.2.2)),.s (.sc (.int .i64 (bif An f then 0 else 1)))])
theorem spec:iS E f84 aE (pN .i64) sp:=by
 intro f h;refine(start f).trans ((gP trivial).trans ?_);unfold sp An
 try dsimp only
 by_cases h1:f=32
 ·subst h1;rfl
 ·by_cases h2:f=64
  ·subst h2;rfl
  ·have:aH.fF f=(0,0,0,0):=by unfold aH.fF;rw[if_neg h1,if_neg h2]
   rw[this,decide_eq_false (by omega)];rfl
def aJ:dJ:=orc1 (pN .i64) sp
theorem ok:OK 84 aJ:=(dY E aE (aA aH.ok aC) func84).oU rfl spec
end mK
namespace wT
def E:=mE [] 13 [] [] []
def aE:=bd f61
theorem aT:Nk E aE:=nk
theorem start a:aF E f61 aE [D.s (sc (int i64 a))]=letI A:=some [D.s (sc (bool true))];aB (a==4) A (aB (a==5) A (some [D.s (sc (bool (a==6)))])):=eJ aT
def Bl(a:Int):Bool:=decide (a=4\/a=5\/a=6)
def sp(a:Int):Prop×List D:=(True,[.s (.sc (.bool (Bl a)))])
theorem spec:iS E f61 aE (pN .i64) sp:=by
 intro a h;refine(start a).trans ?_;unfold sp Bl
 try dsimp only
 by_cases h1:a=4
 ·rw[bJ h1,decide_eq_true (by omega)]
 ·rw[bB h1]
  by_cases h2:a=5
  ·rw[bJ h2,decide_eq_true (by omega)]
  ·rw[bB h2]
   by_cases h3:a=6
   ·rw[beq_iff_eq.2 h3,decide_eq_true (by omega)]
   ·rw[beq_eq_false_iff_ne.2 h3,decide_eq_false (by omega)]
def aJ:dJ:=orc1 (pN .i64) sp
theorem ok:OK 61 aJ:=(dY E aE aC func61).oU rfl spec
end wT
namespace fO
def E:=mE [(94,cP.aJ),(81,lC.aJ)] 23 [] [] []
def aE:=bd f79
theorem aT:Nk E aE:=nk
theorem start a c d e b:aF E f79 aE [D.agg [sc (int i64 a),sc (int i64 c),sc (int i64 d),sc (int u64 e)],D.s (sc (int u64 b))]=letI B:=(a,c,d,e);letI A:=aH.xC B;aB (b==0) (some [D.s (sc (int i64 0))]) (aN A (aB (decide (b<cP.lA B)) (some [D.s (sc (int i64 1))]) (aN A (aB (decide (b<lC.mV B)) (some [D.s (sc (int i64 2))]) (aN A (aB (b==lC.mV B) (some [D.s (sc (int i64 3))]) (some [D.s (sc (int i64 4))]))))))):=eJ aT
def gO(s:Int×Int×Int×Int)(n:Int):Int:=if n=0 then 0 else if n<cP.lA s then 1 else if n<lC.mV s then 2 else if n=lC.mV s then 3 else 4
def sp(s:Int×Int×Int×Int)(n:Int):Prop×List D:=(aH.xC s,[.s (.sc (.int .i64 (gO s n)))])
theorem spec:fN E f79 aE (pG (.pair (sN .i64) (.pair (sN .i64) (.pair (sN .i64) (sN .u64))))) (pN .u64) sp:=by
 intro s n h;obtain⟨s1,s2,s3,s4⟩:=s;have h:aH.xC (s1,s2,s3,s4):=h;refine(start s1 s2 s3 s4 n).trans ?_;show _=some [D.s (.sc (.int .i64 (gO (s1,s2,s3,s4) n)))];unfold gO
 by_cases h1:n=0
 ·rw[bJ h1,if_pos h1]
 ·rw[bB h1,if_neg h1,gP h]
  by_cases h2:n<cP.lA (s1,s2,s3,s4)
  ·rw[aM h2,if_pos h2]
  ·rw[aL h2,if_neg h2,gP h]
   by_cases h3:n<lC.mV (s1,s2,s3,s4)
   ·rw[aM h3,if_pos h3]
   ·rw[aL h3,if_neg h3,gP h]
    by_cases h4:n=lC.mV (s1,s2,s3,s4)
    ·rw[bJ h4,if_pos h4]
    ·rw[bB h4,if_neg h4]
def aJ:dJ:=orc2 (pG (.pair (sN .i64) (.pair (sN .i64) (.pair (sN .i64) (sN .u64))))) (pN .u64) sp
theorem ok:OK 79 aJ:=(dY E aE (aA cP.ok (aA lC.ok aC)) func79).lD rfl spec
end fO
namespace Ct
def E:=mE [(77,cR.aJ),(79,fO.aJ)] 24 [13,23] [] []
def aE:=bd f83
theorem aT:Nk E aE:=nk
theorem start a b:aF E f83 aE [D.s (sc (int i64 a)),D.s (sc (int u64 b))]=letI C:=bif cR.fH a b then(0:Int)else(2:Int);letI A:=aH.fF a;letI B:=(A.fst,A.snd.fst,A.snd.snd.fst,A.snd.snd.snd);aN ((a=32\/a=64)/\0<=b/\b<18446744073709551616) (aB (C !=0) (some [D.s (sc (int i64 0)),D.s (sc (int i64 C))]) (aN (aH.xC B) (some [D.s (sc (int i64 (fO.gO B (bif cR.fH a b then b%bR.cC A else(0:Int))))),D.s (sc (int i64 0))]))):=eJ aT
def sp(f b:Int):Prop×List D:=((f=32\/f=64)/\0<=b/\b<18446744073709551616,[.s (.sc (.int .i64 (bif cR.fH f b then fO.gO (aH.fF f) (b%bR.cC (aH.fF f))else 0))),.s (.sc (.int .i64 (bif cR.fH f b then 0 else 2)))])
theorem spec:fN E f83 aE (pN .i64) (pN .u64) sp:=by
 intro f b h;refine(start f b).trans ((gP h).trans ?_);unfold sp
 try dsimp only
 have ht:aH.xC (aH.fF f):=by
  rcases h.1 with rfl |rfl
  ·exact .inl rfl
  ·exact .inr rfl
 cases hp:cR.fH f b with
 |false=>rfl
 |true =>
  try dsimp only[cond_true]
  rw[gR rfl,gP ht]
def aJ:dJ:=orc2 (pN .i64) (pN .u64) sp
theorem ok:OK 83 aJ:=(dY E aE (aA cR.ok (aA fO.ok aC)) func83).lD rfl spec
end Ct
namespace Jg
def E:=mE [] 5 [] [] []
def aE:=bd f142
theorem aT:Nk E aE:=nk
theorem start a:aF E f142 aE [D.s (sc (int i64 a))]=aB (a==32) (some [D.s (sc (int u64 2139095040))]) (some [D.s (sc (int u64 9218868437227405312))]):=eJ aT
def sp(f:Int):Prop×List D:=(f=32\/f=64,[.s (.sc (.int .u64 (lC.mV (aH.fF f))))])
theorem spec:iS E f142 aE (pN .i64) sp:=by
 intro f h;refine(start f).trans ?_;rcases h with rfl |rfl <;> rfl
def aJ:dJ:=orc1 (pN .i64) sp
theorem ok:OK 142 aJ:=(dY E aE aC func142).oU rfl spec
end Jg
namespace aAV
def E:=mE [(135,bR.aJ)] 13 [] [] []
def aE:=bd f80
theorem aT:Nk E aE:=nk
theorem start a d e f b c:aF E f80 aE [D.agg [sc (int i64 a),sc (int i64 d),sc (int i64 e),sc (int u64 f)],D.s (sc (bool b)),D.s (sc (int u64 c))]=aB b (aN (aH.xC (a,d,e,f)) (some [D.s (sc (int u64 (fC BinOp.or u64 c (bR.cC (a,d,e,f)))))])) (some [D.s (sc (int u64 c))]):=eJ aT
def sp(s:Int×Int×Int×Int)(b:Bool)(c:Int):Prop×List D:=(aH.xC s,[.s (.sc (.int .u64 (bif b then fC .or .u64 c (bR.cC s)else c)))])
theorem spec:oG E f80 aE (pG (.pair (sN .i64) (.pair (sN .i64) (.pair (sN .i64) (sN .u64))))) pB (pN .u64) sp:=by
 intro s b c h;refine(start s.1 s.2.1 s.2.2.1 s.2.2.2 b c).trans ?_;cases b with
 |true=>exact gP h
 |false=>rfl
def aJ:dJ:=orc3 (pG (.pair (sN .i64) (.pair (sN .i64) (.pair (sN .i64) (sN .u64))))) pB (pN .u64) sp
theorem ok:OK 80 aJ:=(dY E aE (aA bR.ok aC) func80).xN rfl spec
end aAV
namespace iD
def E:=mE [(78,aH.aJ),(80,aAV.aJ),(136,aRI.aJ),(137,Co.aJ),(94,cP.aJ),(81,lC.aJ)] 102 [25,80,101] [(8,[1,2,3,10]),(13,[1,2,3,10,12])] [8,13]
def aE:=bd f82
theorem aT:Nk E aE:=nk
def J8 a b c d e f g:=lK E f82 aE 8 [sE a,dM b,bP c,dR 3 84 [cF d,cF e,cF f,oT g]]
def Pz a b c d e f g h:=lK E f82 aE 13 [sE a,dM b,bP c,dR 3 84 [cF d,cF e,cF f,oT g],bP h]
theorem start a b c d:aF E f82 aE [D.s (sc (int i64 a)),D.s (sc (bool b)),D.s (sc (int u64 c)),D.s (sc (int i64 d))]=letI B:=some [D.s (sc (int u64 0)),D.s (sc (int i64 5))];letI A:=aH.fF a;letI C:=(A.fst,A.snd.fst,A.snd.snd.fst,A.snd.snd.snd);aN True (aB (A.fst==0&&(A.snd.fst==0&&(A.snd.snd.fst==0&&(A.snd.snd.snd==0&&true)))) (some [D.s (sc (int u64 0)),D.s (sc (int i64 1))]) (aB (c==0) (aN (aH.xC C) (some [D.s (sc (int u64 (bif b then fC BinOp.or u64 0 (bR.cC C)else(0:Int)))),D.s (sc (int i64 0))])) (aB (decide (d<i64.wrap (A.snd.snd.fst-64))) B (aB (decide (i64.wrap (A.snd.snd.fst+4096)<d)) B (iD.J8 b c d A.fst A.snd.fst A.snd.snd.fst A.snd.snd.snd))))):=eJ aT
theorem Aj a b c d e f g:J8 a b c d e f g=letI C:=some [D.s (sc (int u64 0)),D.s (sc (int i64 5))];letI B:=(↑(tz b.toNat):Int);letI A:=(↑((2:Nat)^min (if b=0 then(64:Int)else B).toNat 64):Int);letI F:=(↑(bl (b/A).toNat):Int);aN (0<=b/\b<18446744073709551616) (if(if b=0 then(64:Int)else B)<0 then none else aN (0<=b/A/\b/A<(18446744073709551616:Int)) (aB (decide (e<F)) C (aB (decide (i64.wrap (c+if b=0 then(64:Int)else B)<f)) C (iD.Pz a (b/A) (i64.wrap (c+if b=0 then(64:Int)else B)) d e f g F)))):=cJ aT
theorem wW a b c d e f g h:Pz a b c d e f g h=letI F:=(d,e,f,g);letI C:=aH.xC F;letI B:=b*(↑((2:Nat)^min (if i64.wrap (c-f)<i64.wrap (e-h)then i64.wrap (c-f)else i64.wrap (e-h)).toNat 64):Int);letI A:=u64.wrap (u64.wrap (u64.wrap (i64.wrap (i64.wrap (i64.wrap (c-if i64.wrap (c-f)<i64.wrap (e-h)then i64.wrap (c-f)else i64.wrap (e-h))-f)+1))-1)*cP.lA F)+u64.wrap B;if(if i64.wrap (c-f)<i64.wrap (e-h)then i64.wrap (c-f)else i64.wrap (e-h))<0 then none else aN C (aB (decide (u64.wrap B<cP.lA F)) (aN C (some [D.s (sc (int u64 (bif a then fC BinOp.or u64 (u64.wrap B) (bR.cC F)else u64.wrap B))),D.s (sc (int i64 0))])) (aN C (aN C (aB (decide (lC.mV F<=u64.wrap A)) (some [D.s (sc (int u64 0)),D.s (sc (int i64 5))]) (aN C (some [D.s (sc (int u64 (bif a then fC BinOp.or u64 (u64.wrap A) (bR.cC F)else u64.wrap A))),D.s (sc (int i64 0))])))))):=cJ aT
def Xu(s:Int×Int×Int×Int)(b:Bool)(c:Int):Int:=bif b then c+bR.cC s else c
def Qo(s:Int×Int×Int×Int)(m:Nat)(e:Int):Nat:=(if e-s.2.2.1<s.2.1-(bl m:Int)then e-s.2.2.1 else s.2.1-(bl m:Int)).toNat
def Mt(s:Int×Int×Int×Int)(m:Nat)(e:Int):Option Int :=
 if((m*2^Qo s m e:Nat):Int)<cP.lA s then some ((m*2^Qo s m e:Nat):Int)
 else if lC.mV s<=(e-(Qo s m e:Nat)-s.2.2.1)*cP.lA s+((m*2^Qo s m e:Nat):Int)then none
 else some ((e-(Qo s m e:Nat)-s.2.2.1)*cP.lA s+((m*2^Qo s m e:Nat):Int))
def aGD(s:Int×Int×Int×Int)(m:Nat)(e:Int):Option Int :=
 if e<s.2.2.1-64\/s.2.2.1+4096<e then none
 else if s.2.1<(bl (m/2^tz m):Int)\/e+(tz m:Int)<s.2.2.1 then none
 else Mt s (m/2^tz m) (e+(tz m:Int))
def Qn(s:Int×Int×Int×Int)(b:Bool)(o:Option Int):Int:=match o with
 |some c=>Xu s b c
 |none=>0
def aPR(o:Option Int):Int:=match o with
 |some _=>0
 |none=>5
def vD(s:Int×Int×Int×Int)(m e:Int):Option Int:=if m=0 then some 0 else aGD s m.toNat e
def bFC(s:Int×Int×Int×Int)(b:Bool)(o:Option Int):List D:=[.s (.sc (.int .u64 (Qn s b o))),.s (.sc (.int .i64 (aPR o)))]
theorem zC{s:Int×Int×Int×Int}(hs:aH.xC s){b:Bool}{c:Int}(h0:0<=c)(h1:c<bR.cC s):(bif b then fC .or .u64 c (bR.cC s)else c)=Xu s b c:=by
 unfold Xu;cases b with
 |false=>rfl
 |true =>
  try dsimp only[cond_true]
  obtain⟨n,rfl⟩:=cGR h0;rcases hs with rfl |rfl
  ·rw[show bR.cC (32,24,-149,2143289345)=2147483648 from rfl]at *;rw[Yf (by omega) (by omega) (by omega) (by omega)];have:=Ib (c:=n) (n:=1) (k:=31) (by omega);rw[show(2147483648:Int).toNat=2^31*1 from rfl,cFM,this];omega
  ·rw[show bR.cC (64,53,-1074,9221120237041090561)=9223372036854775808 from rfl]at *;rw[Yf (by omega) (by omega) (by omega) (by omega)];have:=Ib (c:=n) (n:=1) (k:=63) (by omega);rw[show(9223372036854775808:Int).toNat=2^63*1 from rfl,cFM,this];omega
theorem j13{s:Int×Int×Int×Int}(hs:aH.xC s)(b:Bool)(m:Nat)(e:Int)(h1:(bl m:Int)<=s.2.1)(h2:s.2.2.1<=e)(h3:e<=3000)(hm:m≠0) :
  Pz b (m:Int) e s.1 s.2.1 s.2.2.1 s.2.2.2 (bl m:Int)=some (bFC s b (Mt s m e)):=by
 have hb:=qZ hm;have kD:m*2^Qo s m e<2^(bl m+Qo s m e):=by
  rw[cGP];exact Nat.mul_lt_mul_of_lt_of_le (wM m) (cBP _) (cEP (by decide))
 have aKQ:((bl m+Qo s m e:Nat):Int)<=s.2.1:=by
  unfold Qo;split <;> omega
 have bDT:((Qo s m e:Nat):Int)<=e-s.2.2.1:=by
  unfold Qo;split <;> omega
 rw[wW];have bJW:∀k:Nat,s.2.1<=(k:Int)->m*2^Qo s m e<2^k:=fun k hk=>cCM kD (cEQ (by decide) (by omega))
 have low:-1074<=s.2.2.1/\s.2.2.1<=0/\s.2.1<=53:=by rcases hs with rfl |rfl <;> ((try dsimp only);omega)
 rw[wrap_i64 (n:=e-s.2.2.1),wrap_i64 (n:=s.2.1-(bl m:Int))];have bWW:(if e-s.2.2.1<s.2.1-(bl m:Int)then e-s.2.2.1 else s.2.1-(bl m:Int))=((Qo s m e:Nat):Int):=by
  unfold Qo;split <;> omega
 rw[bWW,aP,cFM,show min (Qo s m e) 64=Qo s m e by omega,<-cHN,gP hs];unfold Mt;generalize Qo s m e=u at *;generalize m*2^u=M at *;rcases hs with rfl |rfl
 ·have hM:=bJW 24 (by decide);simp only[show cP.lA (32,24,-149,2143289345)=8388608 from rfl,show lC.mV (32,24,-149,2143289345)=2139095040 from rfl]at *;rw[wrap_u64 (n:=(M:Int)),wrap_i64 (n:=e-(u:Int)),wrap_i64 (n:=e-(u:Int) - -149),wrap_i64 (n:=e-(u:Int) - -149+1),wrap_u64 (n:=e-(u:Int) - -149+1),wrap_u64 (n:=e-(u:Int) - -149+1-1),show e-(u:Int) - -149+1-1=e-(u:Int) - -149 by omega,wrap_u64 (n:=(e-(u:Int) - -149)*8388608),wrap_u64 (n:=(e-(u:Int) - -149)*8388608+(M:Int))]
  by_cases c1:(M:Int)<8388608
  ·rw[aM c1,if_pos c1,gP aH.two32,zC aH.two32 (by omega) (by show(M:Int)<2147483648;omega)];rfl
  ·rw[aL c1,if_neg c1,gP aH.two32,gP aH.two32]
   by_cases c2:2139095040<=(e-(u:Int) - -149)*8388608+(M:Int)
   ·rw[aM c2,if_pos c2];rfl
   ·rw[aL c2,if_neg c2,gP aH.two32,zC aH.two32 (by omega) (by show _<2147483648;omega)];rfl
 ·have hM:=bJW 53 (by decide);simp only[show cP.lA (64,53,-1074,9221120237041090561)=4503599627370496 from rfl,show lC.mV (64,53,-1074,9221120237041090561)=9218868437227405312 from rfl]at *
  by_cases c1:(M:Int)<4503599627370496
  ·rw[wrap_u64 (n:=(M:Int)),aM c1,if_pos c1,gP aH.uX,zC aH.uX (by omega) (by show(M:Int)<9223372036854775808;omega)];rfl
  ·rw[wrap_u64 (n:=(M:Int)),wrap_i64 (n:=e-(u:Int)),wrap_i64 (n:=e-(u:Int) - -1074),wrap_i64 (n:=e-(u:Int) - -1074+1),wrap_u64 (n:=e-(u:Int) - -1074+1),wrap_u64 (n:=e-(u:Int) - -1074+1-1),show e-(u:Int) - -1074+1-1=e-(u:Int) - -1074 by omega];rw[wrap_u64 (n:=(e-(u:Int) - -1074)*4503599627370496),wrap_u64 (n:=(e-(u:Int) - -1074)*4503599627370496+(M:Int)),aL c1,if_neg c1,gP aH.uX,gP aH.uX]
   by_cases c2:9218868437227405312<=(e-(u:Int) - -1074)*4503599627370496+(M:Int)
   ·rw[aM c2,if_pos c2];rfl
   ·rw[aL c2,if_neg c2,gP aH.uX,zC aH.uX (by omega) (by show _<9223372036854775808;omega)];rfl
def sp(f:Int)(b:Bool)(m e:Int):Prop×List D:=((f=32\/f=64)/\(0<=m/\m<18446744073709551616)/\-4000<=e/\e<=2900,[.s (.sc (.int .u64 (Qn (aH.fF f) b (vD (aH.fF f) m e)))),.s (.sc (.int .i64 (aPR (vD (aH.fF f) m e))))])
theorem spec:Rp E f82 aE (pN .i64) pB (pN .u64) (pN .i64) sp:=by
 rintro f b m e ⟨hf,⟨Sp,bKH⟩,aUY,aGM⟩;refine(start f b m e).trans ((gP trivial).trans ?_);show _=some (bFC (aH.fF f) b (vD (aH.fF f) m e));unfold vD;have hs:aH.xC (aH.fF f):=by
  rcases hf with rfl |rfl
  ·exact .inl rfl
  ·exact .inr rfl
 generalize aH.fF f=s at *;obtain⟨n,rfl⟩:=cGR Sp;have low:-1074<=s.2.2.1/\s.2.2.1<=0/\s.2.1<=53:=by rcases hs with rfl |rfl <;> ((try dsimp only);omega)
 have Bp:(s.1==0&&(s.2.1==0&&(s.2.2.1==0&&(s.2.2.2==0&&true))))=false:=by rcases hs with rfl |rfl <;> rfl
 have aIK:0<bR.cC s:=by unfold bR.cC;split <;> omega
 rw[Pf Bp]
 by_cases h0:(n:Int)=0
 ·rw[bJ h0,if_pos h0];refine(gP hs).trans ?_;rw[zC hs (by omega) aIK];rfl
 ·have Dr:n≠0:=by omega
  have ht:=Jq Dr;have bKA:tz n<64:=(cNZ (by decide:1<2)).1 (cIE ht (by omega));rw[bB h0,if_neg h0,wrap_i64 (n:=s.2.2.1-64),wrap_i64 (n:=s.2.2.1+4096)];unfold aGD
  by_cases c1:e<s.2.2.1-64
  ·rw[aM c1,if_pos (.inl c1)];rfl
  ·rw[aL c1]
   by_cases c2:s.2.2.1+4096<e
   ·rw[aM c2,if_pos (.inr c2)];rfl
   ·rw[aL c2,aP,Aj,if_neg h0,cFM,aP,gP,cFM,show min (tz n) 64=tz n by omega,<-cHF,cFM,wrap_i64 (n:=e+(tz n:Int))];have hd:n/2^tz n≠0:=fun h=>by have:=(pU n Dr).2;rw[h]at this;cases this
    have hl:n/2^tz n<=n:=cKC _ _;generalize n/2^tz n=q at *;rw[gP]
    by_cases c3:s.2.1<(bl q:Int)
    ·rw[aM c3,if_pos (.inl c3)];rfl
    ·rw[aL c3]
     by_cases c4:e+(tz n:Int)<s.2.2.1
     ·rw[aM c4,if_pos (.inr c4)];rfl
     ·rw[aL c4,aP,j13 hs b _ _ (by omega) (by omega) (by omega) hd]
def aJ:dJ:=orc4 (pN .i64) pB (pN .u64) (pN .i64) sp
theorem ok:OK 82 aJ:=(dY E aE (aA aH.ok (aA aAV.ok (aA aRI.ok (aA Co.ok (aA cP.ok (aA lC.ok aC)))))) func82).aSJ rfl spec
end iD
namespace We
def E:=mE [] 14 [] [] []
def aE:=bd f141
theorem aT:Nk E aE:=nk
theorem start a b c:aF E f141 aE [D.s (sc (int i64 a)),D.s (sc (bool b)),D.s (sc (int u64 c))]=aB b (if i64.wrap (a-1)<0 then none else some [D.s (sc (int u64 (fC BinOp.or u64 c (u64.wrap ((1:Int)*(↑((2:Nat)^min (i64.wrap (a-1)).toNat 64):Int))))))]) (some [D.s (sc (int u64 c))]):=eJ aT
def sp(f:Int)(b:Bool)(c:Int):Prop×List D:=((f=32\/f=64)/\0<=c/\c<bR.cC (aH.fF f),[.s (.sc (.int .u64 (iD.Xu (aH.fF f) b c)))])
theorem spec:oG E f141 aE (pN .i64) pB (pN .u64) sp:=by
 rintro f b c ⟨hf,h0,h1⟩;refine(start f b c).trans ?_;have hs:aH.xC (aH.fF f):=cT.Ft hf;unfold sp
 try dsimp only
 rw[<-iD.zC hs h0 h1];cases b with
 |false=>rfl
 |true=>rcases hf with rfl |rfl <;> rfl
def aJ:dJ:=orc3 (pN .i64) pB (pN .u64) sp
theorem ok:OK 141 aJ:=(dY E aE aC func141).xN rfl spec
end We
namespace mU
def E:=mE [(142,Jg.aJ),(141,We.aJ),(82,iD.aJ)] 27 [15,23] [] []
def aE:=bd f92
theorem aT:Nk E aE:=nk
theorem start a b c:aF E f92 aE [D.s (sc (int i64 a)),D.agg [sc (int i64 b),sc (bool c)]]=letI A:=aH.fF a;aB (b==2) (aN (a=32\/a=64) (aN ((a=32\/a=64)/\0<=lC.mV A/\lC.mV A<bR.cC A) (some [D.s (sc (int u64 (iD.Xu A c (lC.mV A))))]))) (aN ((a=32\/a=64)/\(0<=u64.wrap b/\u64.wrap b<18446744073709551616)/\(-4000:Int)<=(0:Int)/\(0:Int)<=(2900:Int)) (some [D.s (sc (int u64 (iD.Qn A c (iD.vD A (u64.wrap b) 0))))])):=eJ aT
def Kk(f:Int)(s:Int)(n:Bool):Int:=iD.Xu (aH.fF f) n (if s=2 then lC.mV (aH.fF f)else if s=1 then(if f=32 then 1065353216 else 4607182418800017408)else 0)
def sp(f:Int)(v:Int×Bool):Prop×List D:=((f=32\/f=64)/\(v.1=0\/v.1=1\/v.1=2),[.s (.sc (.int .u64 (Kk f v.1 v.2)))])
theorem Yg:iD.vD (aH.fF 64) 1 0=some 4607182418800017408/\iD.vD (aH.fF 32) 1 0=some 1065353216:=by
 have b1:bl 1=1:=rfl;have t1:tz (1:Int).toNat=0:=Aq rfl;unfold iD.vD iD.aGD iD.Mt iD.Qo;rw[t1];exact⟨rfl,rfl⟩
theorem spec:fN E f92 aE (pN .i64) (pG (.pair (sN .i64) sB)) sp:=by
 rintro f v ⟨hf,hv⟩;obtain⟨s,n⟩:=v;refine(start f s n).trans ?_;unfold sp Kk
 try dsimp only at *
 have hi:0<=lC.mV (aH.fF f)/\lC.mV (aH.fF f)<bR.cC (aH.fF f):=by
  rcases hf with rfl |rfl
  ·exact⟨by show(0:Int)<=2139095040;omega,by show(2139095040:Int)<2147483648;omega⟩
  ·exact⟨by show(0:Int)<=9218868437227405312;omega,by show(9218868437227405312:Int)<9223372036854775808;omega⟩
 rcases hv with rfl |rfl |rfl
 ·rw[bB,show u64.wrap 0=0 from rfl,gP ⟨hf,by omega,by omega⟩];rfl
 ·rw[bB,show u64.wrap 1=1 from rfl,gP ⟨hf,by omega,by omega⟩];rcases hf with rfl |rfl
  ·rw[Yg.2];rfl
  ·rw[Yg.1];rfl
 ·rw[bJ rfl,gP hf,gP ⟨hf,hi⟩];rfl
def aJ:dJ:=orc2 (pN .i64) (pG (.pair (sN .i64) sB)) sp
theorem ok:OK 92 aJ:=(dY E aE (aA Jg.ok (aA We.ok (aA iD.ok aC))) func92).lD rfl spec
end mU
namespace rA
def E:=mE [] 19 [] [] []
def aE:=bd f111
theorem aT:Nk E aE:=nk
theorem start a b c:aF E f111 aE [D.agg [sc (bool a),ints u64 b,sc (int i64 c)]]=aB (decide (0<c)) (some [D.s (sc (int i64 1))]) (aB (c==0) (some [D.s (sc (int i64 2))]) (aB (c==(-1:Int)) (some [D.s (sc (int i64 3))]) (aB (c==(-2:Int)) (some [D.s (sc (int i64 4))]) (some [D.s (sc (int i64 0))])))):=eJ aT
def sJ(e:Int):Int:=if 0<e then 1 else if e=0 then 2 else if e=-1 then 3 else if e=-2 then 4 else 0
def sp(x:gW):Prop×List D:=(True,[.s (.sc (.int .i64 (sJ x.2.2)))])
theorem spec:iS E f111 aE kA sp:=by
 intro x h;refine(start x.1 x.2.1 x.2.2).trans ?_;unfold sp sJ
 try dsimp only
 by_cases h1:0<x.2.2
 ·rw[aM h1,if_pos h1]
 ·rw[aL h1,if_neg h1]
  by_cases h2:x.2.2=0
  ·rw[bJ h2,if_pos h2]
  ·rw[bB h2,if_neg h2]
   by_cases h3:x.2.2=-1
   ·rw[bJ h3,if_pos h3]
   ·rw[bB h3,if_neg h3]
    by_cases h4:x.2.2=-2
    ·rw[bJ h4,if_pos h4]
    ·rw[bB h4,if_neg h4]
def aJ:dJ:=orc1 kA sp
theorem ok:OK 111 aJ:=(dY E aE aC func111).oU rfl spec
end rA
namespace dO
def E:=mE [(111,rA.aJ),(60,aAN.aJ)] 97 [] [] []
def aE:=bd f63
theorem aT:Nk E aE:=nk
theorem start a b c d:aF E f63 aE [D.s (sc (int i64 a)),D.agg [sc (bool b),ints u64 c,sc (int i64 d)]]=letI Z:=bool false;letI Y:=bool (wv (b,c)%4==(3:Int));letI X:=int i64 0;letI U:=rA.sJ d==1;letI O:=rA.sJ d==3;letI N:=some [D.agg [sc X,sc Z],D.s (sc Z)];letI I:=rA.sJ d==2;letI F:=sc (bool true);letI T:=some [D.agg [sc X,sc (bool b)],D.s F];letI Q:=some [D.agg [sc (int i64 1),sc (bool I)],D.s F];letI P:=some [D.agg [sc X,sc (bool (b !=I))],D.s F];letI G:=some [D.agg [sc (int i64 1),sc Y],D.s F];letI C:=aB (a==6) (aB (rA.sJ d==4) G N) N;letI H:=aB (a==6) (aB O (some [D.agg [sc (int i64 2),sc Y],D.s F]) C) C;letI A:=aB (a==6) (aB U P (aB I P H)) H;letI K:=aB (a==5) (aB O (some [D.agg [sc X,sc Z],D.s F]) A) A;letI B:=aB (a==5) (aB U Q (aB I Q K)) K;letI W:=aB (a==4) (aB O G B) B;aN True (aN (iE (b,c)) (aB (a==4) (aB U T (aB I T W)) W)):=eJ aT
def vE(fn:Int)(p:Int×Int):Int×Bool×Bool :=
 if fn=4 then(if 0<=p.2 then(0,isNeg p.1,true)else if p.2=-1 then(1,p.1%4==3,true)else(0,false,false))
 else if fn=5 then(if 0<=p.2 then(1,p.2==0,true)else if p.2=-1 then(0,false,true)else(0,false,false))
 else if fn=6 then(if 0<=p.2 then(0,isNeg p.1 !=(p.2==0),true)else if p.2=-1 then(2,p.1%4==3,true)else if p.2=-2 then(1,p.1%4==3,true)else(0,false,false))
 else(0,false,false)
def sp(fn:Int)(x:gW):Prop×List D:=(aU x,[.agg [.sc (.int .i64 (vE fn (dv x)).1),.sc (.bool (vE fn (dv x)).2.1)],.s (.sc (.bool (vE fn (dv x)).2.2))])
theorem spec:fN E f63 aE (pN .i64) kA sp:=by
 intro fn x h;have h:aU x:=h;refine(start fn x.1 x.2.1 x.2.2).trans ((gP trivial).trans ((gP h.Fp).trans ?_));have hw:=h.Fp.cells.1;obtain⟨b,a,e⟩:=x
 try dsimp only at *
 unfold sp vE dv
 try dsimp only
 rw[hw];generalize wv (b,a)=z;have Sn:(0<e/\rA.sJ e=1)\/(e=0/\rA.sJ e=2)\/(e=-1/\rA.sJ e=3)\/(e=-2/\rA.sJ e=4)\/(e < -2/\rA.sJ e=0):=by
  unfold rA.sJ;split
  ·omega
  ·split
   ·omega
   ·split
    ·omega
    ·split <;> omega
 generalize rA.sJ e=pv at *
 by_cases h4:fn=4
 ·subst h4;rcases Sn with ⟨he,rfl⟩ |⟨rfl,rfl⟩ |⟨rfl,rfl⟩ |⟨rfl,rfl⟩ |⟨he,rfl⟩
  ·rw[if_pos rfl,aR];rfl
  ·rfl
  ·rfl
  ·rfl
  ·rw[if_pos rfl,aP,aP];rfl
 ·by_cases h5:fn=5
  ·subst h5;rcases Sn with ⟨he,rfl⟩ |⟨rfl,rfl⟩ |⟨rfl,rfl⟩ |⟨rfl,rfl⟩ |⟨he,rfl⟩
   ·rw[aP,if_pos rfl,aR,beq_eq_false_iff_ne.2 (show e≠0 by omega)];rfl
   ·rfl
   ·rfl
   ·rfl
   ·rw[aP,if_pos rfl,aP,aP];rfl
  ·by_cases h6:fn=6
   ·subst h6;rcases Sn with ⟨he,rfl⟩ |⟨rfl,rfl⟩ |⟨rfl,rfl⟩ |⟨rfl,rfl⟩ |⟨he,rfl⟩
    ·rw[aP,aP,if_pos rfl,aR,beq_eq_false_iff_ne.2 (show e≠0 by omega)];rfl
    ·rfl
    ·rfl
    ·rfl
    ·rw[aP,aP,if_pos rfl,aP,aP,aP];rfl
   ·rw[if_neg h4,if_neg h5,if_neg h6];simp only[beq_eq_false_iff_ne.2 h4,beq_eq_false_iff_ne.2 h5,beq_eq_false_iff_ne.2 h6,bF]
def aJ:dJ:=orc2 (pN .i64) kA sp
theorem ok:OK 63 aJ:=(dY E aE (aA rA.ok (aA aAN.ok aC)) func63).lD rfl spec
end dO
namespace cG
def E:=mE [(84,mK.aJ),(61,wT.aJ),(83,Ct.aJ),(92,mU.aJ),(12,bI.aJ),(63,dO.aJ)] 67 [18,31,48,66] [(4,[0,1,2,9]),(15,[0,1,2])] [4,15]
def aE:=bd f39
theorem aT:Nk E aE:=nk
def J4 a b c d:=lK E f39 aE 4 [bP a,bP b,dM c,dM d]
def aLB a b c:=lK E f39 aE 15 [bP a,bP b,dM c]
theorem start a b c:aF E f39 aE [D.s (sc (int i64 a)),D.s (sc (int i64 b)),D.s (sc (int u64 c))]=letI A:=some [D.s (sc (int u64 0)),D.s (sc (bool false)),D.s (sc (int i64 1))];aN True (aD (aH.fF a).snd.snd.snd fun d=>aD (bif mK.An a then(0:Int)else(1:Int)) fun e=>aB (e !=0) A (aN True (aB (!wT.Bl b) A (cG.J4 a b c d)))):=eJ aT
theorem Eh a b c d:J4 a b c d=letI C:=sc (int i64 0);letI B:=sc (bool true);letI A:=some [D.s (sc (int u64 d)),D.s B,D.s C];aN ((a=32\/a=64)/\0<=c/\c<18446744073709551616) (aD (bif cR.fH a c then fO.gO (aH.fF a) (c%bR.cC (aH.fF a))else(0:Int)) fun e=>aD (bif cR.fH a c then(0:Int)else(2:Int)) fun f=>aB (f !=0) (some [D.s (sc (int u64 0)),D.s (sc (bool false)),D.s (sc (int i64 f))]) (aB (e==4) A (aB (e==3) A (aB (e==0) (aB (b==5) (aN ((a=32\/a=64)/\((1:Int)=(0:Int)\/(1:Int)=(1:Int)\/(1:Int)=(2:Int))) (aD (mU.Kk a 1 false) fun g=>some [D.s (sc (int u64 g)),D.s B,D.s C])) (some [D.s (sc (int u64 c)),D.s B,D.s C])) (cG.aLB a b c))))):=cJ aT
theorem Py a b c:aLB a b c=letI A:=bif cR.fH a c&&cT.jL a c then aQ (bI.lL a c) (bI.nA a c)else((0:Int),(0:Int));aN ((a=32\/a=64)/\0<=c/\c<18446744073709551616) (aD (isNeg A.fst) fun d=>aD (M6.dg A.fst.natAbs) fun e=>aD A.snd fun f=>letI B:=dO.vE b (dv (d,e,f));aN (aU (d,e,f)) (aD B.fst fun g=>aD B.snd.fst fun h=>aD B.snd.snd fun i=>aB (!i) (some [D.s (sc (int u64 0)),D.s (sc (bool false)),D.s (sc (int i64 0))]) (aN ((a=32\/a=64)/\(g=0\/g=1\/g=2)) (some [D.s (sc (int u64 (mU.Kk a g h))),D.s (sc (bool true)),D.s (sc (int i64 0))])))):=cJ aT
def iW(f b:Int):Int×Int:=aQ (bI.lL f b) (bI.nA f b)
theorem Nh{f b:Int}(h:f=32\/f=64)(_:0<=b)(hf:cT.jL f b=true):kQ (iW f b)/\(bI.lL f b).natAbs<2^53/\-1074<=bI.nA f b/\bI.nA f b<=1023:=by
 have hs:=cT.Ft h;have Dr:0<=b%bR.cC (aH.fF f):=by unfold bR.cC;split <;> omega
 have qU:b%bR.cC (aH.fF f)<lC.mV (aH.fF f):=of_decide_eq_true hf;have hm:=bI.Ur hs Dr;have hx:=bI.Vi hs Dr qU;have hz:(bI.lL f b).natAbs<2^53:=by
  unfold bI.lL;rw[kS];omega
 have he:-1074<=bI.nA f b/\bI.nA f b<=1023:=⟨hx.1,by unfold bI.nA;omega⟩;have hb:bl (bI.lL f b).natAbs<=53:=dP.2 hz;exact⟨iF (iL (by omega) (by omega)) (by omega),hz,he⟩
def sU(f fn b:Int):Int×Bool×Int :=
 if mK.An f=false\/wT.Bl fn=false then(0,false,1)
 else if cR.fH f b=false then(0,false,2)
 else if fO.gO (aH.fF f) (b%bR.cC (aH.fF f))=4\/fO.gO (aH.fF f) (b%bR.cC (aH.fF f))=3 then((aH.fF f).2.2.2,true,0)
 else if fO.gO (aH.fF f) (b%bR.cC (aH.fF f))=0 then(if fn=5 then mU.Kk f 1 false else b,true,0)
 else if(dO.vE fn (iW f b)).2.2=true then(mU.Kk f (dO.vE fn (iW f b)).1 (dO.vE fn (iW f b)).2.1,true,0)
 else(0,false,0)
def sp(f fn b:Int):Prop×List D:=(0<=b/\b<18446744073709551616,[.s (.sc (.int .u64 (sU f fn b).1)),.s (.sc (.bool (sU f fn b).2.1)),.s (.sc (.int .i64 (sU f fn b).2.2))])
theorem aGV(fn:Int)(p:Int×Int):(dO.vE fn p).1=0\/(dO.vE fn p).1=1\/(dO.vE fn p).1=2:=by
 unfold dO.vE
 repeat' split
 all_goals simp
theorem aJP{f b:Int}(h:f=32\/f=64)(c3:fO.gO (aH.fF f) (b%bR.cC (aH.fF f))≠3)(c4:fO.gO (aH.fF f) (b%bR.cC (aH.fF f))≠4):cT.jL f b=true:=by
 unfold cT.jL;have hi:cP.lA (aH.fF f)<lC.mV (aH.fF f)/\0<cP.lA (aH.fF f):=by
  rcases h with rfl |rfl
  ·exact⟨by show(8388608:Int)<2139095040;omega,by show(0:Int)<8388608;omega⟩
  ·exact⟨by show(4503599627370496:Int)<9218868437227405312;omega,by show(0:Int)<4503599627370496;omega⟩
 generalize b%bR.cC (aH.fF f)=n at *;refine decide_eq_true ?_;unfold fO.gO at c3 c4
 by_cases h0:n=0
 ·omega
 ·by_cases h1:n<cP.lA (aH.fF f)
  ·omega
  ·by_cases h2:n<lC.mV (aH.fF f)
   ·exact h2
   ·rw[if_neg h0,if_neg h1,if_neg h2]at c3 c4
    by_cases h3:n=lC.mV (aH.fF f)
    ·rw[if_pos h3]at c3;exact(c3 rfl).elim
    ·rw[if_neg h3]at c4;exact(c4 rfl).elim
theorem spec:oG E f39 aE (pN .i64) (pN .i64) (pN .u64) sp:=by
 intro f fn b h;have h:0<=b/\b<18446744073709551616:=h;refine(start f fn b).trans ((gP trivial).trans ?_);rw[vl,vl,gP trivial];unfold sp sU;cases hq:mK.An f with
 |false=>rw[if_pos (.inl rfl)];rfl
 |true =>
  have hf:f=32\/f=64:=of_decide_eq_true hq;rw[cond_true,gR rfl];cases hk:wT.Bl fn with
  |false=>rw[if_pos (.inr rfl)];rfl
  |true =>
   rw[if_neg (by simp),cDP,bF,Eh,gP ⟨hf,h⟩,vl,vl];cases hp:cR.fH f b with
   |false=>rw[if_pos rfl];rfl
   |true =>
    rw[if_neg (by simp),cond_true,cond_true,gR rfl]
    by_cases c4:fO.gO (aH.fF f) (b%bR.cC (aH.fF f))=4
    ·rw[bJ c4,if_pos (.inl c4)]
    ·rw[bB c4]
     by_cases c3:fO.gO (aH.fF f) (b%bR.cC (aH.fF f))=3
     ·rw[bJ c3,if_pos (.inr c3)]
     ·rw[bB c3,if_neg (fun h=>h.elim c4 c3)];have qU:=aJP hf c3 c4
      by_cases c0:fO.gO (aH.fF f) (b%bR.cC (aH.fF f))=0
      ·rw[bJ c0,if_pos c0]
       by_cases h5:fn=5
       ·rw[bJ h5,if_pos h5,gP ⟨hf,.inr (.inl rfl)⟩];rfl
       ·rw[bB h5,if_neg h5]
      ·rw[bB c0,if_neg c0,Py,gP ⟨hf,h⟩];have e1:(bif cR.fH f b&&cT.jL f b then aQ (bI.lL f b) (bI.nA f b)else((0:Int),(0:Int)))=iW f b:=by rw[hp,qU];rfl
       rw[e1,Dv,gP (dW (Nh hf h.1 qU).1),dZ,vl,vl,vl];cases hv:(dO.vE fn (iW f b)).2.2 with
       |false=>rw[if_neg (by simp)];try rfl
       |true=>rw[if_pos rfl,cDP,bF,gP ⟨hf,aGV _ _⟩];try rfl
def aJ:dJ:=orc3 (pN .i64) (pN .i64) (pN .u64) sp
theorem ok:OK 39 aJ:=(dY E aE (aA mK.ok (aA wT.ok (aA Ct.ok (aA mU.ok (aA bI.ok (aA dO.ok aC)))))) func39).xN rfl spec
end cG
namespace fB
def E:=mE [(77,cR.aJ),(78,aH.aJ),(79,fO.aJ),(80,aAV.aJ),(81,lC.aJ),(43,dV.aJ),(82,iD.aJ)] 48 [13,35,45] [] []
def aE:=bd f31
theorem aT:Nk E aE:=nk
theorem start a:aF E f31 aE [D.s (sc (int u64 a))]=letI I:=bif cR.fH 32 a then(0:Int)else(2:Int);letI F:=aH.xC ((64:Int),(53:Int),(-1074:Int),(9221120237041090561:Int));letI C:=aH.fF 32;letI H:=(C.fst,C.snd.fst,C.snd.snd.fst,C.snd.snd.snd);letI G:=bif cR.fH 32 a then a%bR.cC C else(0:Int);letI B:=bif cR.fH 32 a then a%2147483648 else(0:Int);letI A:=iD.vD (aH.fF 64) (dV.qM H G) (dV.tT H G);aN (((32:Int)=(32:Int)\/(32:Int)=(64:Int))/\0<=a/\a<18446744073709551616) (aB (I !=0) (some [D.s (sc (int u64 0)),D.s (sc (int i64 I))]) (aN True (aN (aH.xC ((32:Int),(24:Int),(-149:Int),(2143289345:Int))) (aB (fO.gO ((32:Int),(24:Int),(-149:Int),(2143289345:Int)) B==4) (some [D.s (sc (int u64 9221120237041090561)),D.s (sc (int i64 0))]) (aB (fO.gO ((32:Int),(24:Int),(-149:Int),(2143289345:Int)) B==3) (aN F (aN F (some [D.s (sc (int u64 (bif cR.fH 32 a&&decide (2147483648<=a)then fC BinOp.or u64 9218868437227405312 9223372036854775808 else(9218868437227405312:Int)))),D.s (sc (int i64 0))]))) (aN (aH.xC ((32:Int),(24:Int),(-149:Int),(2143289345:Int))/\(0<=bif cR.fH 32 a then a%2147483648 else(0:Int))/\B<9223372036854775808) (aN (((64:Int)=(32:Int)\/(64:Int)=(64:Int))/\(0<=dV.qM ((32:Int),(24:Int),(-149:Int),(2143289345:Int)) B/\dV.qM ((32:Int),(24:Int),(-149:Int),(2143289345:Int)) B<18446744073709551616)/\(-4000:Int)<=dV.tT ((32:Int),(24:Int),(-149:Int),(2143289345:Int)) B/\dV.tT ((32:Int),(24:Int),(-149:Int),(2143289345:Int)) B<=2900) (some [D.s (sc (int u64 (iD.Qn (aH.fF 64) (cR.fH 32 a&&decide (2147483648<=a)) A))),D.s (sc (int i64 (iD.aPR A)))])))))))):=eJ aT
abbrev Hn:Int×Int×Int×Int:=(32,24,-149,2143289345)
abbrev Xa:Int×Int×Int×Int:=(64,53,-1074,9221120237041090561)
def aLH(b:Int):Option Int:=iD.vD Xa (dV.qM Hn (b%2147483648)) (dV.tT Hn (b%2147483648))
def Mc(b:Int):Int:=bif cR.fH 32 b then(if fO.gO Hn (b%2147483648)=4 then 9221120237041090561 else if fO.gO Hn (b%2147483648)=3 then iD.Xu Xa (decide (2147483648<=b)) 9218868437227405312 else iD.Qn Xa (decide (2147483648<=b)) (aLH b))else 0
def aLI(b:Int):Int:=bif cR.fH 32 b then(if fO.gO Hn (b%2147483648)=4 then 0 else if fO.gO Hn (b%2147483648)=3 then 0 else iD.aPR (aLH b))else 2
def sp(b:Int):Prop×List D:=(0<=b/\b<18446744073709551616,[.s (.sc (.int .u64 (Mc b))),.s (.sc (.int .i64 (aLI b)))])
theorem spec:iS E f31 aE (pN .u64) sp:=by
 intro b h;refine(start b).trans ((gP ⟨.inl rfl,h⟩).trans ?_);unfold sp Mc aLI
 try dsimp only
 cases hp:cR.fH 32 b with
 |false=>rfl
 |true =>
  try dsimp only[cond_true,cER]
  rw[gR rfl,gP trivial,gP aH.two32];have Dr:0<=b%2147483648:=by omega
  by_cases c4:fO.gO Hn (b%2147483648)=4
  ·rw[bJ c4,if_pos c4,if_pos c4]
  ·rw[bB c4,if_neg c4,if_neg c4]
   by_cases c3:fO.gO Hn (b%2147483648)=3
   ·rw[bJ c3,if_pos c3,if_pos c3,gP aH.uX,gP aH.uX];rw[<-iD.zC aH.uX (by show(0:Int)<=9218868437227405312;omega) (by show(9218868437227405312:Int)<9223372036854775808;omega)];rfl
   ·have hf:b%2147483648<lC.mV Hn:=by
     unfold fO.gO at c3 c4;split at c3
     ·rename_i h0;show _<(2139095040:Int);omega
     ·split at c3
      ·rename_i h0 h1;have:cP.lA Hn=8388608:=rfl;show _<(2139095040:Int);omega
      ·split at c3
       ·assumption
       ·split at c3
        ·exact(c3 rfl).elim
        ·rename_i h0 h1 h2 h3;rw[if_neg h0,if_neg h1,if_neg h2,if_neg h3]at c4;exact(c4 rfl).elim
    have hm:=bI.Ur aH.two32 Dr;have hx:=bI.Vi aH.two32 Dr hf;rw[bB c3,if_neg c3,if_neg c3,gP ⟨aH.two32,by omega,by omega⟩,gP ⟨.inr rfl,⟨hm.1,by omega⟩,by omega,by omega⟩];rfl
def aJ:dJ:=orc1 (pN .u64) sp
theorem ok:OK 31 aJ:=(dY E aE (aA cR.ok (aA aH.ok (aA fO.ok (aA aAV.ok (aA lC.ok (aA dV.ok (aA iD.ok aC))))))) func31).oU rfl spec
end fB
end W
namespace W.Xc
open Go AI M W
theorem Su{b s:Nat}{k:Nat}(hs:s=2^k)(hk:k<64)(hb:b<2*s):fC .xor .u64 (b:Int) (s:Int)=if(b:Int)<(s:Int)then(b:Int)+s else(b:Int)-s:=by
 have hs64:2*s<=2^64:=by rw[hs,cGN,<-cGO];exact eY
 rw[AI.tY];unfold AI.bitsI0;simp only;have e:(BitVec.ofInt u64.bits (b:Int) ^^^ BitVec.ofInt u64.bits (s:Int)).toNat=b ^^^ s:=by
  show(BitVec.ofInt 64 (b:Int) ^^^ BitVec.ofInt 64 (s:Int)).toNat=_;rw[BitVec.toNat_xor];have e1:(BitVec.ofInt 64 (b:Int)).toNat=b:=by simp;omega
  have e2:(BitVec.ofInt 64 (s:Int)).toNat=s:=by simp;omega
  rw[e1,e2]
 rw[e];have low:∀n,n<2^k->n ^^^ 2^k=2^k+n:=by
  intro n hn;apply cMO;intro i;rw[Nat.testBit_xor,cMR]
  by_cases hi:i=k
  ·subst hi;rw[Nat.testBit_two_pow_add_eq,cML hn];simp
  ·by_cases bYJ:i<k
   ·rw[Nat.testBit_two_pow_add_gt bYJ,decide_eq_false (by omega)];simp
   ·have h1:n.testBit i=false:=cML (cCM hn (eY));have h2:(2^k+n).testBit i=false:=cML (cCM (show 2^k+n<2^(k+1) by rw[cGO];omega) (eY));rw[h1,h2,decide_eq_false (by omega)];rfl
 by_cases h:b<s
 ·rw[aR,hs,low b (by omega),wrap_u64];omega
 ·have:=low (b-s) (by omega);have h2:b ^^^ s=b-s:=by
   have h3:b=(b-s) ^^^ 2^k:=by rw[this];omega
   rw[hs]at h3 ⊢
   conv=>lhs;rw[h3]
   rw[Nat.xor_assoc,Nat.xor_self,Nat.xor_zero]
  rw[aP,h2,wrap_u64];omega
theorem bBQ{fn z e:Int}(hz:z%2=1):(dO.vE fn (-z,e)).1=(dO.vE fn (z,e)).1/\(dO.vE fn (-z,e)).2.2=(dO.vE fn (z,e)).2.2/\((dO.vE fn (z,e)).2.2=true->(dO.vE fn (-z,e)).2.1=if fn=5 then(dO.vE fn (z,e)).2.1 else !(dO.vE fn (z,e)).2.1):=by
 have h1:isNeg (-z)=!isNeg z:=by
  cases h:isNeg z with
  |true=>have:=kJ.1 h;exact gH.2 (by omega)
  |false=>have:=gH.1 h;exact kJ.2 (by omega)
 have h3:((-z)%4==3)=!(z%4==3):=by
  by_cases h:z%4=3
  ·rw[beq_iff_eq.2 h];exact beq_eq_false_iff_ne.2 (by omega)
  ·rw[beq_eq_false_iff_ne.2 h];exact beq_iff_eq.2 (by omega)
 unfold dO.vE
 try dsimp only
 rw[h1,h3]
 by_cases f4:fn=4
 ·subst f4;rw[if_pos rfl,if_pos rfl,if_neg (show ¬((4:Int)=5) by omega)]
  by_cases c1:0<=e
  ·simp[c1]
  ·by_cases c2:e=-1
   ·simp[c2]
   ·simp[c1,c2]
 ·rw[if_neg f4,if_neg f4]
  by_cases f5:fn=5
  ·subst f5;simp only[if_true]
   by_cases c1:0<=e
   ·simp[c1]
   ·by_cases c2:e=-1
    ·simp[c2]
    ·simp[c1,c2]
  ·rw[if_neg f5,if_neg f5]
   by_cases f6:fn=6
   ·subst f6;simp only[if_true,show ¬((6:Int)=5) by omega,if_false]
    by_cases c1:0<=e
    ·simp only[c1,if_true];refine⟨trivial,trivial,fun _=>?_⟩;cases isNeg z <;> cases (e==0) <;> rfl
    ·by_cases c2:e=-1
     ·simp[c2]
     ·by_cases c3:e=-2
      ·simp[c3]
      ·simp[c1,c2,c3]
   ·rw[if_neg f6,if_neg f6];simp
theorem Mu(f:Int):bR.cC (aH.fF f)=2147483648\/bR.cC (aH.fF f)=9223372036854775808:=by unfold bR.cC;split <;> simp
theorem Zn{fn:Int}(h:4<=fn/\fn<=6):wT.Bl fn=true:=by
 have:fn=4\/fn=5\/fn=6:=by omega
 rcases this with rfl |rfl |rfl <;> rfl
theorem Uu{f:Int}(h:f=32\/f=64):0<cP.lA (aH.fF f)/\cP.lA (aH.fF f)<lC.mV (aH.fF f)/\lC.mV (aH.fF f)<bR.cC (aH.fF f):=by
 rcases h with rfl |rfl
 ·exact⟨by show(0:Int)<8388608;omega,by show(8388608:Int)<2139095040;omega,by show(2139095040:Int)<2147483648;omega⟩
 ·exact⟨by show(0:Int)<4503599627370496;omega,by show(4503599627370496:Int)<9218868437227405312;omega,by show(9218868437227405312:Int)<9223372036854775808;omega⟩
theorem Vj{f fn b:Int}(h:f=32\/f=64)(hf:4<=fn/\fn<=6)(hp:cR.fH f b=true)(hn:b%bR.cC (aH.fF f)=0):cG.sU f fn b=(if fn=5 then mU.Kk f 1 false else b,true,0):=by
 have hq:mK.An f=true:=decide_eq_true h;have hc:fO.gO (aH.fF f) (b%bR.cC (aH.fF f))=0:=by unfold fO.gO;rw[if_pos hn]
 unfold cG.sU;rw[if_neg (by rw[hq,Zn hf];simp),if_neg (by rw[hp];simp),if_neg (by rw[hc];omega),if_pos hc]
theorem aDA{f fn b:Int}(h:f=32\/f=64)(hf:4<=fn/\fn<=6)(hp:cR.fH f b=true)(hn:0<b%bR.cC (aH.fF f))(aUS:b%bR.cC (aH.fF f)<lC.mV (aH.fF f)) :
  cG.sU f fn b=if(dO.vE fn (cG.iW f b)).2.2=true then(mU.Kk f (dO.vE fn (cG.iW f b)).1 (dO.vE fn (cG.iW f b)).2.1,true,0)else(0,false,0):=by
 have hq:mK.An f=true:=decide_eq_true h;have hc:fO.gO (aH.fF f) (b%bR.cC (aH.fF f))=1\/fO.gO (aH.fF f) (b%bR.cC (aH.fF f))=2:=by
  unfold fO.gO;rw[aP];split
  ·exact .inl rfl
  ·first |exact .inr rfl | (rw[if_pos aUS];exact .inr rfl)
 unfold cG.sU;rw[if_neg (by rw[hq,Zn hf];simp),if_neg (by rw[hp];simp),aP,aP]
theorem Um{f b:Int}(h:f=32\/f=64)(_:0<=b)(hn:0<b%bR.cC (aH.fF f)):0<(dV.qM (aH.fF f) (b%bR.cC (aH.fF f))):=by
 have hi:=Uu h;unfold dV.qM;split
 ·rename_i hd;have:=Int.emod_add_mul_ediv (b%bR.cC (aH.fF f)) (cP.lA (aH.fF f));rw[hd,Int.mul_zero]at this;omega
 ·have:=Int.emod_nonneg (b%bR.cC (aH.fF f)) (show cP.lA (aH.fF f)≠0 by omega);omega
theorem aNL{f b c:Int}(h1:c%bR.cC (aH.fF f)=b%bR.cC (aH.fF f))(h2:decide (bR.cC (aH.fF f)<=c)=!decide (bR.cC (aH.fF f)<=b)):cG.iW f c=(-(cG.iW f b).1,(cG.iW f b).2):=by
 unfold cG.iW bI.lL bI.nA;rw[h1,h2,<-Ym];congr 1;unfold zs;cases decide (bR.cC (aH.fF f)<=b) <;> simp
theorem Ul{f b:Int}(h:f=32\/f=64)(h0:0<=b)(hn:0<b%bR.cC (aH.fF f)):(cG.iW f b).1%2=1:=by
 have hm:=Um h h0 hn;apply Ge;rw[Ne,eF];unfold bI.lL;rw[Fo];omega
theorem aSV{b:Int}(h0:0<=b)(h1:b<4294967296)(hn:0<b%2147483648)(aUS:b%2147483648<2139095040) :
  fB.aLI b=0/\0<=fB.Mc b/\fB.Mc b<18446744073709551616/\0<fB.Mc b%9223372036854775808/\fB.Mc b%9223372036854775808<9218868437227405312/\cG.iW 64 (fB.Mc b)=cG.iW 32 b:=by
 have hp:cR.fH 32 b=true:=decide_eq_true (by show b<4294967296;omega);have hc:fO.gO fB.Hn (b%2147483648)=1\/fO.gO fB.Hn (b%2147483648)=2:=by
  unfold fO.gO;rw[aP];split
  ·exact .inl rfl
  ·first |exact .inr rfl | (rw[if_pos (show b%2147483648<lC.mV fB.Hn from aUS)];exact .inr rfl)
 have bAF:bR.cC (aH.fF 32)=2147483648:=rfl;have aOO:=Um (f:=32) (.inl rfl) h0 (by rw[bAF];exact hn);rw[bAF]at aOO;have hmlt:dV.qM fB.Hn (b%2147483648)<16777216:=by
  unfold dV.qM;rw[show cP.lA fB.Hn=8388608 from rfl];split <;> omega
 have hexp:-149<=dV.tT fB.Hn (b%2147483648)/\dV.tT fB.Hn (b%2147483648)<=104:=by
  unfold dV.tT;rw[show cP.lA fB.Hn=8388608 from rfl,show fB.Hn.2.2.1=-149 from rfl];split <;> omega
 have bAJ:cG.iW 32 b=aQ (zs (decide (2147483648<=b)) (dV.qM fB.Hn (b%2147483648)).toNat) (dV.tT fB.Hn (b%2147483648)):=rfl;have hV:fB.Mc b=iD.Qn fB.Xa (decide (2147483648<=b)) (fB.aLH b):=by
  unfold fB.Mc;rw[hp,cond_true,aP,aP]
 have hE:fB.aLI b=iD.aPR (fB.aLH b):=by
  unfold fB.aLI;rw[hp,cond_true,aP,aP]
 have hO:fB.aLH b=iD.vD fB.Xa (dV.qM fB.Hn (b%2147483648)) (dV.tT fB.Hn (b%2147483648)):=rfl;rw[hE,hV,bAJ,hO];have aOO:0<dV.qM fB.Hn (b%2147483648):=aOO;generalize dV.qM fB.Hn (b%2147483648)=M at *;generalize dV.tT fB.Hn (b%2147483648)=e at *;obtain⟨m,rfl⟩:=cGR (show 0<=M by omega);have Sp:m≠0:=by omega
 have bWX:=pU m Sp;have hmul:m=m/2^tz m*2^tz m:=by
  have:=cGV m (2^tz m);rw[bWX.1]at this;rw[cGN];omega
 have bNU:m/2^tz m≠0:=by omega
 have bZF:bl m<=24:=dP.2 (by omega);have hbm':bl (m/2^tz m)<=24:=cCL (gF (cKC _ _)) bZF;have htl:=Dw Sp;have hJ:iD.vD fB.Xa (m:Int) e=iD.Mt fB.Xa (m/2^tz m) (e+(tz m:Int)):=by
  unfold iD.vD iD.aGD;rw[cFM,aP,show fB.Xa.2.2.1=-1074 from rfl,show fB.Xa.2.1=53 from rfl,aP,aP]
 rw[hJ];generalize hg:m/2^tz m=m' at *;generalize tz m=t at *;have aKQ:iD.Qo fB.Xa m' (e+(t:Int))=53-bl m':=by
  unfold iD.Qo;rw[show fB.Xa.2.2.1=-1074 from rfl,show fB.Xa.2.1=53 from rfl,aP];omega
 have bBE:2^52<=m'*2^(53-bl m')/\m'*2^(53-bl m')<2^53:=by
  have hb:bl (m'*2^(53-bl m'))=53:=by rw[cGN,zP bNU];omega
  refine⟨?_,dP.1 (by omega)⟩;have:=(sQ (n:=m'*2^(53-bl m')) (k:=52)).1 (by omega);exact this
 have hS:iD.Mt fB.Xa m' (e+(t:Int))=some ((e+(t:Int)-((53-bl m':Nat):Int) - -1074)*4503599627370496+((m'*2^(53-bl m'):Nat):Int)):=by
  unfold iD.Mt;rw[aKQ,show cP.lA fB.Xa=4503599627370496 from rfl,show lC.mV fB.Xa=9218868437227405312 from rfl,show fB.Xa.2.2.1=-1074 from rfl,aP,aP]
 rw[hS];generalize hu:53-bl m'=u at *;generalize cAA:m'*2^u=MM at *;have bHU:0<=(e+(t:Int)-(u:Int) - -1074)*4503599627370496+(MM:Int)/\(e+(t:Int)-(u:Int) - -1074)*4503599627370496+(MM:Int)<9218868437227405312:=by omega
 generalize bKP:(e+(t:Int)-(u:Int) - -1074)*4503599627370496+(MM:Int)=c at *;have hsgv:bR.cC fB.Xa=9223372036854775808:=rfl;have hval:iD.Qn fB.Xa (decide (2147483648<=b)) (some c)=bif decide (2147483648<=b)then c+9223372036854775808 else c:=rfl
 rw[hval];have aIR:(bif decide (2147483648<=b)then c+9223372036854775808 else c)%9223372036854775808=c:=by
  cases decide (2147483648<=b)with
  |true=>rw[cond_true];omega
  |false=>rw[cond_false];omega
 have bOP:decide (9223372036854775808<=(bif decide (2147483648<=b)then c+9223372036854775808 else c))=decide (2147483648<=b):=by
  cases decide (2147483648<=b)with
  |true=>rw[cond_true];exact decide_eq_true (by omega)
  |false=>rw[cond_false];exact decide_eq_false (by omega)
 refine⟨rfl,?_,?_,?_,?_,?_⟩
 ·cases decide (2147483648<=b)with
  |true=>rw[cond_true];omega
  |false=>rw[cond_false];omega
 ·cases decide (2147483648<=b)with
  |true=>rw[cond_true];omega
  |false=>rw[cond_false];omega
 ·rw[aIR];omega
 ·rw[aIR];omega
 ·unfold cG.iW bI.lL bI.nA;rw[show bR.cC (aH.fF 64)=9223372036854775808 from rfl,aIR,bOP];have bGY:dV.qM (aH.fF 64) c=(MM:Int):=by
   unfold dV.qM;rw[show cP.lA (aH.fF 64)=4503599627370496 from rfl,aP];omega
  have bHO:dV.tT (aH.fF 64) c=e+(t:Int)-(u:Int):=by
   unfold dV.tT;rw[show cP.lA (aH.fF 64)=4503599627370496 from rfl,aP,show(aH.fF 64).2.2.1=-1074 from rfl];omega
  rw[bGY,bHO,cFM,cFM];have z1:zs (decide (2147483648<=b)) MM=zs (decide (2147483648<=b)) m'*p2 (u:Nat):=by
   rw[zB,<-cAA];unfold zs;cases decide (2147483648<=b) <;> simp[cLF]
  have z2:zs (decide (2147483648<=b)) m=zs (decide (2147483648<=b)) m'*p2 (t:Nat):=by
   rw[zB,hmul];unfold zs;cases decide (2147483648<=b) <;> simp[cLF]
  rw[z1,z2,zE _ _ (by omega),zE _ _ (by omega)];congr 1;omega
theorem aPK{f x:Int}(h:f=32\/f=64)(h0:0<=x)(h1:x<2*bR.cC (aH.fF f)):fC .xor .u64 x (bR.cC (aH.fF f))=if x<bR.cC (aH.fF f)then x+bR.cC (aH.fF f)else x-bR.cC (aH.fF f):=by
 obtain⟨n,rfl⟩:=cGR h0;rcases h with rfl |rfl
 ·exact Su (b:=n) (s:=2147483648) (k:=31) rfl (by omega) (by have:(n:Int)<2*2147483648:=h1;omega)
 ·exact Su (b:=n) (s:=9223372036854775808) (k:=63) rfl (by omega) (by have:(n:Int)<2*9223372036854775808:=h1;omega)
end W.Xc
namespace W.aDY
open Go AI M W
def aLA(N V k:Nat):Prop:=2*(k*N)<=2*V+N/\2*V<=2*(k*N)+N/\(2*(k*N)=2*V+N->k%2=0)/\(2*V=2*(k*N)+N->k%2=0)
theorem aMX{N V V' k k':Nat}(hN:0<N)(h:aLA N V k)(h':aLA N V' k')(hV:V<=V'):k<=k':=by
 obtain⟨a1,a2,a3,a4⟩:=h;obtain⟨b1,b2,b3,b4⟩:=h';apply cEJ;intro kD;have m:(k'+1)*N<=k*N:=cDE _ kD;rw[cCJ,cFT]at m;have e:k*N=(k'+1)*N:=by rw[cCJ,cFT];omega
 have e2:=cNH hN e;have:=a3 (by omega);have:=b4 (by omega);omega
theorem aHZ{N V k K:Nat}(hK:0<K)(h:aLA N V k):aLA (N*K) (V*K) k:=by
 obtain⟨a1,a2,a3,a4⟩:=h;have e1:2*(k*(N*K))=2*(k*N)*K:=by rw[<-cGS,<-cGS,<-cGS]
 have e2:2*(V*K)+N*K=(2*V+N)*K:=by rw[cCJ,cGS]
 have e3:2*(k*(N*K))+N*K=(2*(k*N)+N)*K:=by rw[e1,cCJ]
 have e4:2*(V*K)=2*V*K:=by rw[cGS]
 refine⟨?_,?_,fun h=>a3 ?_,fun h=>a4 ?_⟩
 ·rw[e1,e2];exact cDE _ a1
 ·rw[e3,e4];exact cDE _ a2
 ·rw[e1,e2]at h;exact cNH hK h
 ·rw[e3,e4]at h;exact cNH hK h
theorem aIA{N k:Nat}(hN:0<N):aLA N (k*N) k:=⟨by omega,by omega,fun h=>by omega,fun h=>by omega⟩
theorem aNP{v:Nat}{n:Int}(h:0<=n):aLA (2^n.toNat) v (pT.Be v n):=by
 unfold pT.Be nW.wJ oB.oA;rw[show((2:Int)==0)=false from rfl,show((2:Int)==1)=false from rfl,cond_false,cond_false];have hv0:=cGV v (2^n.toNat);have bNJ:=cDX v (cEP (n:=n.toNat) (show 0<2 by omega))
 by_cases h0:n=0
 ·subst h0;have:nW.Oh v 0=-1:=rfl;rw[this];simp[aLA]
 ·obtain⟨m,hm⟩:∃m:Nat,n=(m:Int)+1:=⟨(n-1).toNat,by omega⟩;subst hm;have t1:((m:Int)+1).toNat=m+1:=by omega
  have t2:((m:Int)+1-1).toNat=m:=by omega
  unfold nW.Oh;rw[t1,t2]at *;have hp:=cEP (n:=m) (show 0<2 by omega);have hN:2^(m+1)=2^m*2:=cGO ..;have hq:v/2^(m+1)=v/2^m/2:=by rw[hN,cHG]
  have hs:=cGV v (2^m);have bNC:=cDX v hp;rw[decide_eq_true (show(0:Int)<=(m:Int)+1-1 by omega),cER];rw[hq]at *;rw[hN]at *
  by_cases hb:v/2^m%2=1
  ·have hv:v≠0:=fun hz=>by rw[hz,cLJ]at hb;omega
   rw[decide_eq_true hb,cond_true];have ht:(tz v=m↔v%2^m=0):=by
    constructor
    ·intro e;apply Classical.byContradiction;intro Bp;have a:=aLO (n:=v/2^m) bNC Bp;rw[cHQ,hs]at a;have b:=Jq Bp;have:=(cNZ (a:=2) (by omega)).1 (cIE b bNC);omega
    ·intro e;rw[e,cCN]at hs;have a:=Me (n:=v/2^m) (by omega) m;rw[hs,Aq hb]at a;exact a
   generalize v/2^m=d at *;generalize v%2^m=s at *;generalize hM:2^m=M at *;have hd:d=2*(d/2)+1:=by omega
   generalize d/2=q at *;have bPI:M*d=2*(M*q)+M:=by rw[hd,cGQ,cBZ,cJL]
   have bKE:q*(M*2)=2*(M*q):=by rw[cGN q,cMK,cGN]
   have Qi:(q+1)*(M*2)=2*(M*q)+2*M:=by rw[cCJ,bKE];omega
   by_cases hc:tz v=m
   ·have s0:=ht.1 hc;rw[beq_iff_eq.2 (show(tz v:Int)=(m:Int)+1-1 by omega),cond_true];rw[show decide ((0:Int)<0)=false from rfl,cDQ,show((0:Int)==0)=true from rfl,cER]
    by_cases ho:q%2=1
    ·rw[decide_eq_true ho,cond_true];unfold aLA;rw[Qi];exact⟨by omega,by omega,fun _=>by omega,fun h=>by omega⟩
    ·rw[decide_eq_false ho,cond_false,cCN];unfold aLA;rw[bKE];exact⟨by omega,by omega,fun h=>by omega,fun _=>by omega⟩
   ·have s0:s≠0:=fun h=>hc (ht.2 h)
    rw[beq_eq_false_iff_ne.2 (show(tz v:Int)≠(m:Int)+1-1 by omega),cond_false];rw[show decide ((0:Int)<1)=true from rfl,cGZ,cond_true];unfold aLA;rw[Qi];exact⟨by omega,by omega,fun h=>by omega,fun h=>by omega⟩
  ·rw[decide_eq_false hb,cond_false];rw[show decide ((0:Int) < -1)=false from rfl,show((-1:Int)==0)=false from rfl,cGY,cDQ,cond_false,cCN];generalize v/2^m=d at *;generalize v%2^m=s at *;generalize 2^m=M at *;have hd:d=2*(d/2):=by omega
   generalize d/2=q at *;have bPI:M*d=2*(M*q):=by rw[hd,cJL]
   have bKE:q*(M*2)=2*(M*q):=by rw[cGN q,cMK,cGN]
   unfold aLA;rw[bKE];exact⟨by omega,by omega,fun h=>by omega,fun h=>by omega⟩
theorem Rr{w:Int×Int×Int}{v:Nat}{e G:Int}(h1:G<=e)(h2:G<=kM.gT w v e):aLA (2^(kM.gT w v e-G).toNat) (v*2^(e-G).toNat) (kM.yU w v e):=by
 unfold kM.yU;generalize kM.gT w v e=u at *;have hp:∀n:Nat,0<2^n:=fun n=>dA
 split
 ·rename_i h;have r:=aHZ (hp (e-G).toNat) (aNP (v:=v) (show 0<=u-e by omega));rw[<-cGP,show(u-e).toNat+(e-G).toNat=(u-G).toNat by omega]at r;exact r
 ·rename_i h;have r:=aIA (k:=v*2^(e-u).toNat) (hp (u-G).toNat);rw[cGS,<-cGP,show(e-u).toNat+(u-G).toNat=(e-G).toNat by omega]at r;exact r
theorem aEI(w:Int×Int×Int)(v:Nat)(e:Int):w.2.1<=kM.gT w v e/\e+(bl v:Nat)-w.1<=kM.gT w v e/\(kM.gT w v e=w.2.1\/kM.gT w v e=e+(bl v:Nat)-w.1):=by
 unfold kM.gT;split <;> omega
theorem Ry{w:Int×Int×Int}(hw:mJ.xC w){v v':Nat}{e e' G:Int}(hv:v≠0)(aKP:v'≠0)(h1:G<=e)(h2:G<=e')(h:v*2^(e-G).toNat<=v'*2^(e'-G).toNat):kM.Ay w v e<=kM.Ay w v' e':=by
 obtain⟨g,aSN,aKU⟩:∃g:Int,g<=G/\g<=w.2.1:=⟨min G w.2.1,cOA _ _,cOB _ _⟩;have hp:∀n:Nat,0<2^n:=fun n=>dA
 have h3:v*2^(e-g).toNat<=v'*2^(e'-g).toNat:=by
  have:=cDE (2^(G-g).toNat) h;rw[cGS,cGS,<-cGP,<-cGP,show(e-G).toNat+(G-g).toNat=(e-g).toNat by omega,show(e'-G).toNat+(G-g).toNat=(e'-g).toNat by omega]at this;exact this
 obtain⟨u1,u2,u3⟩:=aEI w v e;obtain⟨u1',u2',u3'⟩:=aEI w v' e';have r:=Rr (w:=w) (v:=v) (show g<=e by omega) (show g<=kM.gT w v e by omega);have r':=Rr (w:=w) (v:=v') (show g<=e' by omega) (show g<=kM.gT w v' e' by omega);have b:bl (v*2^(e-g).toNat)=(e-g).toNat+bl v:=by rw[cGN,zP hv]
 have b':bl (v'*2^(e'-g).toNat)=(e'-g).toNat+bl v':=by rw[cGN,zP aKP]
 have hb:=gF h3;have bp:=qZ hv;have bp':=qZ aKP;have l1:=wM (v*2^(e-g).toNat);have l2:=aAB (n:=v'*2^(e'-g).toNat) (Nat.ne_of_gt (Nat.mul_pos (Nat.pos_of_ne_zero aKP) (hp _)));have hm:1<=w.1/\w.1<=53:=by rcases hw with rfl |rfl <;> decide
 unfold kM.Ay;generalize hU:kM.gT w v e=u at *;generalize bTH:kM.gT w v' e'=u' at *;generalize kM.yU w v e=k at *;generalize kM.yU w v' e'=k' at *;generalize hV:v*2^(e-g).toNat=V at *;generalize hV':v'*2^(e'-g).toNat=V' at *
 by_cases c:1100<e+(bl v:Nat)-1
 ·rw[if_pos c,if_pos (show 1100<e'+(bl v':Nat)-1 by omega)];exact cNE _
 ·rw[if_neg c]
  by_cases c':1100<e'+(bl v':Nat)-1
  ·rw[if_pos c'];split <;> omega
  ·rw[if_neg c'];have key:(u-w.2.1)*((2^(w.1-1).toNat:Nat):Int)+(k:Int)<=(u'-w.2.1)*((2^(w.1-1).toNat:Nat):Int)+(k':Int):=by
    have hH:=hp (w.1-1).toNat;rcases Int.lt_trichotomy u u' with kD |heq |hgt
    ·
     have k1:k<=2*2^(w.1-1).toNat:=by
      apply cEJ;intro hh;have a1:=r.1;have m:(2*2^(w.1-1).toNat+1)*2^(u-g).toNat<=k*2^(u-g).toNat:=cDE _ hh;have lt:V<2*2^(w.1-1).toNat*2^(u-g).toNat:=by
       refine cCM l1 ?_;rw[show 2*2^(w.1-1).toNat=2^(w.1-1).toNat*2^1 by omega,<-cGP,<-cGP];exact eY
      rw[cCJ,cFT]at m;have:=hp (u-g).toNat;generalize 2*2^(w.1-1).toNat*2^(u-g).toNat=x at *;omega
     have k2:2^(w.1-1).toNat<=k':=by
      apply cEJ;intro hh;have a2:=r'.2.1;have m:(k'+1)*2^(u'-g).toNat<=2^(w.1-1).toNat*2^(u'-g).toNat:=cDE _ hh;have ge:2^(w.1-1).toNat*2^(u'-g).toNat<=V':=by
       refine cCL ?_ l2;rw[<-cGP];exact eY
      rw[cCJ,cFT]at m;have:=hp (u'-g).toNat;generalize 2^(w.1-1).toNat*2^(u'-g).toNat=x at *;omega
     have hd:u-w.2.1+1<=u'-w.2.1:=by omega
     have m:=Int.mul_le_mul_of_nonneg_right hd (show(0:Int)<=((2^(w.1-1).toNat:Nat):Int) by omega);rw[Int.add_mul,cJZ]at m;generalize (u-w.2.1)*((2^(w.1-1).toNat:Nat):Int)=x at *;generalize (u'-w.2.1)*((2^(w.1-1).toNat:Nat):Int)=y at *;omega
    ·subst heq;have:=aMX (hp _) r r' h3;omega
    ·omega
   generalize (u-w.2.1)*((2^(w.1-1).toNat:Nat):Int)+(k:Int)=x at *;generalize (u'-w.2.1)*((2^(w.1-1).toNat:Nat):Int)+(k':Int)=y at *;split <;> split <;> omega
def sg(f:Int):Int:=if f=32 then 2147483648 else 9223372036854775808
def ord(f w:Int):Int:=if w<sg f then w else sg f-w
def sz(f:Int)(p:Int×Int):Int:=kM.Ay (Fm.Gc f) p.1.natAbs p.2
theorem bFA{f:Int}(h:f=32\/f=64):(if(Fm.Gc f).1=24 then(2147483648:Int)else 9223372036854775808)=sg f:=by rcases h with rfl |rfl <;> rfl
theorem Ru{f:Int}(h:f=32\/f=64)(p:Int×Int):0<=sz f p/\sz f p<=mJ.qB (Fm.Gc f)/\mJ.qB (Fm.Gc f)<sg f:=by
 have:=jJ.aFC (jJ.Tt h) p.1.natAbs p.2;exact⟨this.1,this.2,by rcases h with rfl |rfl <;> decide⟩
theorem yC{f:Int}{p:Int×Int}(h:0<p.1):jJ.kG f p=sz f p:=by
 unfold jJ.kG sz zZ.bDP;rw[aP,gH.2 (by omega),cond_false]
theorem Nj{f:Int}(hf:f=32\/f=64){p:Int×Int}(h:p.1<0):jJ.kG f p=sz f p+sg f:=by
 unfold jJ.kG sz zZ.bDP;rw[aP,kJ.2 h,cond_true,bFA hf]
theorem aNQ{f:Int}{p:Int×Int}(h:p.1=0):jJ.kG f p=0:=by unfold jJ.kG;rw[if_pos h]
theorem Yd{f:Int}(hf:f=32\/f=64)(p:Int×Int):ord f (jJ.kG f p)=if p.1<0 then -sz f p else if p.1=0 then 0 else sz f p:=by
 have hb:=Ru hf p
 by_cases h:p.1<0
 ·rw[if_pos h,Nj hf h];unfold ord;rw[aP];omega
 ·rw[if_neg h]
  by_cases h0:p.1=0
  ·rw[if_pos h0,aNQ h0];unfold ord;rw[aR]
  ·rw[if_neg h0,yC (by omega)];unfold ord;rw[aR]
theorem aIF{f:Int}(hf:f=32\/f=64){p q:Int×Int}(h:R.qz p<=R.qz q):ord f (jJ.kG f p)<=ord f (jJ.kG f q):=by
 obtain⟨G,h1,h2⟩:∃G:Int,G<=p.2/\G<=q.2:=⟨min p.2 q.2,cOA _ _,cOB _ _⟩;rw[R.Ya h1 h2]at h;have hp:∀n:Nat,(0:Int)<((2^n:Nat):Int):=fun n=>by have:=cEP (n:=n) (show 0<2 by omega);omega
 have s1:=Ru hf p;have s2:=Ru hf q;have a1:=hp (p.2-G).toNat;have a2:=hp (q.2-G).toNat;rw[Yd hf,Yd hf];have hP:p.1<0->p.1*((2^(p.2-G).toNat:Nat):Int)<0:=fun h=>cLN h a1
 have bTI:0<p.1->0<p.1*((2^(p.2-G).toNat:Nat):Int):=fun h=>Int.mul_pos h a1
 have hQ:q.1<0->q.1*((2^(q.2-G).toNat:Nat):Int)<0:=fun h=>cLN h a2
 have bZZ:p.1=0->p.1*((2^(p.2-G).toNat:Nat):Int)=0:=fun h=>by rw[h,Int.zero_mul]
 have bZY:q.1=0->q.1*((2^(q.2-G).toNat:Nat):Int)=0:=fun h=>by rw[h,Int.zero_mul]
 have aUE:∀(z:Int) (n:Nat),z.natAbs*2^n=(z*((2^n:Nat):Int)).natAbs:=fun z n=>by rw[Int.natAbs_mul,cHH]
 by_cases c1:p.1<0
 ·rw[if_pos c1]
  by_cases c2:q.1<0
  ·rw[if_pos c2];have:=Ry (jJ.Tt hf) (v:=q.1.natAbs) (v':=p.1.natAbs) (by omega) (by omega) h2 h1 (by rw[aUE,aUE];have:=hP c1;have:=hQ c2;omega);unfold sz;omega
  ·rw[if_neg c2];split <;> omega
 ·rw[if_neg c1]
  by_cases c0:p.1=0
  ·rw[if_pos c0]
   by_cases c2:q.1<0
   ·have:=hQ c2;have:=bZZ c0;omega
   ·rw[if_neg c2];split <;> omega
  ·rw[if_neg c0];have p0:=bTI (by omega)
   by_cases c2:q.1<0
   ·have:=hQ c2;omega
   ·by_cases c3:q.1=0
    ·have:=bZY c3;omega
    ·rw[if_neg c2,if_neg c3];have:=Ry (jJ.Tt hf) (v:=p.1.natAbs) (v':=q.1.natAbs) (by omega) (by omega) h1 h2 (by rw[aUE,aUE];omega);exact this
theorem aNT{f b:Int}(h:0<=b/\b<2*sg f):b%sg f=if b<sg f then b else b-sg f:=by
 unfold sg at *;split at h <;> rename_i hf
 ·rw[if_pos hf];split <;> omega
 ·rw[if_neg hf];split <;> omega
def Fin(f b:Int):Prop:=(f=32\/f=64)/\(0<=b/\b<2*sg f)/\0<b%sg f/\b%sg f<mJ.qB (Fm.Gc f)
theorem Ju{f:Int}(h:f=32\/f=64):bR.cC (aH.fF f)=sg f/\lC.mV (aH.fF f)=mJ.qB (Fm.Gc f):=by rcases h with rfl |rfl <;> exact⟨rfl,rfl⟩
theorem aUA{f b:Int}(h:Fin f b):(cG.iW f b).1<0↔sg f<=b:=by
 obtain⟨hf,hb,h1,h2⟩:=h;obtain⟨e1,e2⟩:=Ju hf;have aOO:=Xc.Um hf hb.1 (by rw[e1];exact h1);rw[e1]at aOO;have hz:bI.lL f b=zs (decide (sg f<=b)) (dV.qM (aH.fF f) (b%sg f)).toNat:=by unfold bI.lL;rw[e1]
 have bZI:bI.lL f b≠0:=by rw[hz,Ne,Fo];omega
 have e:=(lW (e:=bI.nA f b) bZI).1;have hp:=Eo (tz (bI.lL f b).natAbs:Nat);have aOE:bI.lL f b<0↔sg f<=b:=by
  rw[hz]
  by_cases c:sg f<=b
  ·rw[decide_eq_true c];unfold zs;simp only[cond_true];omega
  ·rw[decide_eq_false c];unfold zs;simp only[cond_false];omega
 rw[<-aOE];have en:(aQ (bI.lL f b) (bI.nA f b))=cG.iW f b:=rfl;rw[en]at e;generalize p2 (tz (bI.lL f b).natAbs:Nat)=P at *;constructor
 ·intro h;rw[e];exact cLN h hp
 ·intro h;apply Classical.byContradiction;intro hn;have:0<=(cG.iW f b).1*P:=cND (by omega) (by omega);omega
end W.aDY
namespace W
open Go AI M
namespace Pt
def E:=mE [(149,nW.aJ)] 11 [8] [] []
def aE:=bd f191
theorem aT:Nk E aE:=nk
theorem start a c b:aF E f191 aE [D.agg [sc (bool a),ints u64 c],D.s (sc (int i64 b))]=letI A:=nW.wJ 1 a (M6.val c) b;letI B:=bif fit A then zs a A else(0:Int);aN (iE (a,c)/\0<=b/\b<4611686018427387904) (some [D.agg [sc (bool (isNeg B)),ints u64 (M6.dg B.natAbs)],D.s (sc (int i64 (bif fit A then(0:Int)else(5:Int))))]):=eJ aT
theorem up{p:Bool}{v:Nat}{n:Int}(h:0<=n):zs p (nW.wJ 1 p v n)=-(-(zs p v)/((2^n.toNat:Nat):Int)):=by
 have e1:zs p (nW.wJ 1 p v n)=-(zs (!p) (nW.wJ 0 (!p) v n)):=by
  unfold nW.wJ oB.oA zs;cases p <;> simp
 have e2:-(zs p v)=zs (!p) v:=by unfold zs;cases p <;> simp
 rw[e1,e2,jY.down h]
theorem small{p:Bool}{v:Nat}{n:Int}(h:0<=n)(hb:bl v<=524288):fit (nW.wJ 1 p v n)=true:=by
 have e1:nW.wJ 1 p v n=nW.wJ 0 (!p) v n:=by
  unfold nW.wJ oB.oA;cases p <;> simp
 rw[e1];exact jY.small h hb
def sp(x:Bool×List Int)(n:Int):Prop×List D:=(iE x/\0<=n/\n<4611686018427387904,[wD (-(-(wv x)/((2^n.toNat:Nat):Int))),.s (.sc (.int .i64 0))])
theorem spec:fN E f191 aE pW (pN .i64) sp:=by
 intro x n h;have h':=h;obtain⟨hx,h0,h1⟩:=h;refine(start x.1 x.2 n).trans ((gP h').trans ?_);unfold sp
 try dsimp only
 rw[small h0 hx.bl];show some (wE true _)=_;rw[up h0];rfl
def aJ:dJ:=orc2 pW (pN .i64) sp
theorem ok:OK 191 aJ:=(dY E aE (aA nW.ok aC) func191).lD rfl spec
end Pt
namespace lH
def E:=mE [(192,jY.aJ),(191,Pt.aJ)] 22 [] [] []
def aE:=bd f150
theorem aT:Nk E aE:=nk
theorem start a d b c:aF E f150 aE [D.agg [sc (bool a),ints u64 d],D.s (sc (int i64 b)),D.s (sc (bool c))]=letI B:=iE (a,d)/\0<=b/\b<4611686018427387904;letI A:=(↑((2:Nat)^b.toNat):Int);aB c (aN B (some [D.agg [sc (bool (isNeg (-(-wv (a,d)/A)))),ints u64 (M6.dg (-(-wv (a,d)/A)).natAbs)]])) (aN B (some [D.agg [sc (bool (isNeg (wv (a,d)/A))),ints u64 (M6.dg (wv (a,d)/A).natAbs)]])):=eJ aT
def qW(up:Bool)(z:Int)(n:Nat):Int:=bif up then -(-z/((2^n:Nat):Int))else z/((2^n:Nat):Int)
theorem aHB(up:Bool)(z:Int)(n:Nat):(qW up z n).natAbs<=z.natAbs:=by
 unfold qW;cases up with
 |false=>exact tJ (cEP (by decide))
 |true =>
  rw[cond_true,cIJ];have:=tJ (z:=-z) (cEP (n:=n) (show 0<2 by decide));rwa [cIJ]at this
def sp(x:Bool×List Int)(n:Int)(up:Bool):Prop×List D:=(iE x/\(0<=n/\n<4611686018427387904),[wD (qW up (wv x) n.toNat)])
theorem spec:oG E f150 aE pW (pN .i64) pB sp:=by
 rintro x n up ⟨h1,h2⟩;refine(start x.1 x.2 n up).trans ?_;cases up with
 |true=>rw[bT,gP ⟨h1,h2⟩];rfl
 |false=>rw[bF,gP ⟨h1,h2⟩];rfl
def aJ:dJ:=orc3 pW (pN .i64) pB sp
theorem ok:OK 150 aJ:=(dY E aE (aA jY.ok (aA Pt.ok aC)) func150).xN rfl spec
end lH
namespace cX
def E:=mE [(106,uB.aJ),(50,kB.aJ),(150,lH.aJ)] 33 [20,30] [] []
def aE:=bd f240
theorem aT:Nk E aE:=nk
theorem start a e b c d:aF E f240 aE [D.agg [sc (bool a),ints u64 e],D.s (sc (int i64 b)),D.s (sc (int i64 c)),D.s (sc (bool d))]=letI H:=wv (a,e);letI C:=bif iN H b then aQ H b else((0:Int),(0:Int));letI B:=(↑(bl (M6.val e)):Int);letI G:=lH.qW d H (i64.wrap (B-c)).toNat;letI F:=b+i64.wrap (B-c);letI I:=i64.wrap F;aN (M6.cA e/\e.length<=1099511627776) (aB (decide (i64.wrap (B-c)<=0)) (aN (iE (a,e)/\(-9223372036854775808:Int)<=b/\b<9223372036854775808) (aD (isNeg C.fst) fun f=>aD (M6.dg C.fst.natAbs) fun g=>aD C.snd fun h=>aD (bif iN H b then(0:Int)else(5:Int)) fun i=>some [D.agg [sc (bool f),ints u64 g,sc (int i64 h)],D.s (sc (int i64 i))])) (aN (iE (a,e)/\0<=i64.wrap (B-c)/\i64.wrap (B-c)<4611686018427387904) (aD (isNeg G) fun j=>aD (M6.dg G.natAbs) fun k=>letI A:=bif iN (wv (j,k)) I then aQ (wv (j,k)) I else((0:Int),(0:Int));aN (iE (j,k)/\(-9223372036854775808:Int)<=i64.wrap F/\i64.wrap F<9223372036854775808) (aD (isNeg A.fst) fun l=>aD (M6.dg A.fst.natAbs) fun m=>aD A.snd fun n=>aD (bif iN (wv (j,k)) I then(0:Int)else(5:Int)) fun o=>some [D.agg [sc (bool l),ints u64 m,sc (int i64 n)],D.s (sc (int i64 o))])))):=eJ aT
def oY(up:Bool)(z e p:Int):Int×Int:=if(bl z.natAbs:Int)-p<=0 then(z,e)else(lH.qW up z ((bl z.natAbs:Int)-p).toNat,e+((bl z.natAbs:Int)-p))
def sp(x:Bool×List Int)(e p:Int)(up:Bool):Prop×List D:=(iE x/\(-4611686018427387904<=e/\e<4611686018427387904)/\1<=p/\p<=70000,dE (iN (oY up (wv x) e p).1 (oY up (wv x) e p).2) (aQ (oY up (wv x) e p).1 (oY up (wv x) e p).2))
theorem spec:Rp E f240 aE pW (pN .i64) (pN .i64) pB sp:=by
 rintro x e p up ⟨hw,he,hp⟩;have hb:=hw.bl;have hl:=hw.len;have ha:=iY x;refine(start x.1 x.2 e p up).trans ?_;unfold sp oY
 try dsimp only
 rw[gP ⟨hw.1.jA,by omega⟩,aI,ha,wrap_i64 (n:=(bl (M6.val x.2):Int)-p) (by omega) (by omega)];have hx:wv (x.1,x.2)=wv x:=rfl
 by_cases hn:(bl (M6.val x.2):Int)-p<=0
 ·rw[aM hn,if_pos hn,gP ⟨hw,by omega,by omega⟩];simp only[aI];rfl
 ·have aIW:=lH.aHB up (wv x) ((bl (M6.val x.2):Int)-p).toNat;have Qj:iE (isNeg (lH.qW up (wv x) ((bl (M6.val x.2):Int)-p).toNat),M6.dg (lH.qW up (wv x) ((bl (M6.val x.2):Int)-p).toNat).natAbs):=gL (cCL (gF aIW) (by rw[ha];exact hb));rw[aL hn,if_neg hn,gP ⟨hw,by omega,by omega⟩];simp only[aI];rw[wrap_i64 (n:=e+((bl (M6.val x.2):Int)-p)) (by omega) (by omega)];rw[gP ⟨Qj,by omega,by omega⟩,oI];rfl
def aJ:dJ:=orc4 pW (pN .i64) (pN .i64) pB sp
theorem ok:OK 240 aJ:=(dY E aE (aA uB.ok (aA kB.ok (aA lH.ok aC))) func240).aSJ rfl spec
end cX
namespace oQ
def E:=mE [] 8 [] [] []
def aE:=bd f252
theorem aT:Nk E aE:=nk
theorem start a:aF E f252 aE [D.s (ints u64 a)]=aB (decide (8192<(a.length:Int))) (some [D.s (sc (slice none 0 0)),D.s (sc (int i64 5))]) (some [D.s (ints u64 a),D.s (sc (int i64 0))]):=eJ aT
def can(a b:List Int):Prop:=Contract prog base.glob 253 [(pI .u64).put a,(pI .u64).put b] [.own gX .u64 (M6.dg (M6.val a*M6.val b))]
def less(n:Nat):Prop:=∀c d:List Int,M6.cN c->M6.cN d->c.length+d.length<n->can c d
def prec:dJ:=orc2 (pI .u64) (pI .u64) fun a b=>(can a b,[.own gX .u64 (M6.dg (M6.val a*M6.val b))])
theorem aFR:mM prog base.glob 253 prec:=by
 intro ds g rs hd hg;unfold prec orc2 at hd;split at hd
 ·split at hd
  ·rename_i x y hx hy;have hd:=Option.some.inj hd;have e1:g=can x y:=(Prod.mk.inj hd).1.symm;have e2:=(Prod.mk.inj hd).2;subst e1;rw[<-e2];exact⟨Contract.bLY (show Contract _ _ _ _ _ from hg) ((pI .u64).le hx) ((pI .u64).le hy),sT (c:=(f253.body).getD .skip) func253 rfl rfl⟩
  ·cases hd
 ·cases hd
def Mg(a:List Int):Bool:=decide (a.length<=8192)
def sp(a:List Int):Prop×List D:=(True,[.s (.ints .u64 (bif Mg a then a else [])),.s (.sc (.int .i64 (bif Mg a then 0 else 5)))])
theorem spec:aRJ E f252 aE (pI .u64) sp:=by
 intro a _;have e:=start a;unfold sp Mg;simp only
 by_cases hc:a.length<=8192
 ·rw[aL]at e;rw[decide_eq_true hc];exact⟨_,e,iX.refl _⟩
 ·rw[aM]at e;rw[decide_eq_false hc];exact⟨_,e,.cons (Ap.nil _) (iX.refl _)⟩
def aJ:dJ:=orc1 (pI .u64) sp
theorem ok:OK 252 aJ:=(dY E aE aC func252).bET rfl spec
end oQ
namespace Kh
def E:Env:={ ({ base with C:=callsOf [(250,Pr.aJ)],n0:=1,io:=[0] })with nt:=71,own:=[],keep:=fun k=>(tlook [(5,[0,1,2,6,7,13,14,18,19]),(1,[0,1,2,13,14])] k).getD [],cut:=tlook [] }
def aE:=bd f264
theorem aT:Nk E aE:=nk
def L1(a:List Int)(b:Nat)(c:Nat) d f g h:=qA E f264 aE 1 [(A.any,some { e:=(22:Nat),cont:=rJ.ints u64 a }),(A.v (V.one (L.view 0 b c)),none),jK d,jK f,bP g,bP h]
def L5(a:List Int)(b:Nat)(c:Nat) d f g h i j k l:=qA E f264 aE 5 [(A.any,some { e:=(22:Nat),cont:=rJ.ints u64 a }),(A.v (V.one (L.view 0 b c)),none),jK d,jK f,bP g,dM h,bP i,bP j,bP k,bP l]
theorem start al ao an b c:aF E f264 aE [D.io gX u64 al ao an,D.s (ints u64 b),D.s (ints u64 c)]=Kh.L1 al ao an b c (c.length:Int) 0:=eJ aT
theorem Tl a b c d e f g:L1 a b c d e f g=aB (decide (g<f)) (Kh.L5 a b c d e g 0 f g (d.length:Int) 0) (some [D.io 22 u64 a 0 0]):=lJ aT
theorem Pu a b c d e f g h i j k:L5 a b c d e f g h i j k=letI C:=(d.length:Int);letI B:=b+(i64.wrap (k+f)).toNat;letI A:=d.getD k.toNat 0*e.getD f.toNat 0%(18446744073709551616:Int)+g+0;letI F:=a.getD B 0+A%18446744073709551616+(0:Int);aB (decide (k<j)) (if 0<=k/\k<C then if 0<=f/\f<(e.length:Int)then aN (0<=d.getD k.toNat 0/\d.getD k.toNat 0<(18446744073709551616:Int)/\0<=e.getD f.toNat 0/\e.getD f.toNat 0<(18446744073709551616:Int)) (aN (0<=d.getD k.toNat 0*e.getD f.toNat 0%(18446744073709551616:Int)/\0<=g/\(0:Int)<=(0:Int)/\(0:Int)<=(1:Int)) (if 0<=i64.wrap (k+f)/\i64.wrap (k+f)<(c:Int)then aN (0<=a.getD B 0/\0<=A%18446744073709551616/\(0:Int)<=(0:Int)/\(0:Int)<=(1:Int)) (if 0<=i64.wrap (k+f)/\i64.wrap (k+f)<(c:Int)then Kh.L5 (a.set B (F%18446744073709551616)) b c d e f (u64.wrap (u64.wrap (d.getD k.toNat 0*e.getD f.toNat 0/(18446744073709551616:Int)+A/18446744073709551616)+F/18446744073709551616)) h i j (i64.wrap (k+1))else none)else none))else none else none) (if 0<=i64.wrap (f+C)/\i64.wrap (f+C)<(c:Int)then Kh.L1 (a.set (b+(i64.wrap (f+C)).toNat) g) b c d e h (i64.wrap (i+1))else none):=lJ aT
def sp(x:List Int×Nat×Nat)(a b:List Int):Prop×List D:=(M6.cA x.1/\x.2.1=0/\x.2.2=x.1.length/\M6.cA a/\M6.cA b/\x.1.length=a.length+b.length/\x.1.length<=1099511627776/\M6.val x.1=0,
 [.io gX .u64 (M6.rU x.1.length (M6.val a*M6.val b)) 0 0])
theorem bFN{x c:Int}{p:Nat}(hp:p<=340282366920938463426481119284349108225)(h0:0<=x)(h1:x<18446744073709551616)(h2:0<=c)(h3:c<18446744073709551616) :
  (0<=(p:Int)/18446744073709551616+((p:Int)%18446744073709551616+c+0)/18446744073709551616/\(p:Int)/18446744073709551616+((p:Int)%18446744073709551616+c+0)/18446744073709551616<18446744073709551616) /\
  (0<=(p:Int)/18446744073709551616+((p:Int)%18446744073709551616+c+0)/18446744073709551616+(x+((p:Int)%18446744073709551616+c+0)%18446744073709551616+0)/18446744073709551616/\(p:Int)/18446744073709551616+((p:Int)%18446744073709551616+c+0)/18446744073709551616+(x+((p:Int)%18446744073709551616+c+0)%18446744073709551616+0)/18446744073709551616<18446744073709551616) /\
  ((x+((p:Int)%18446744073709551616+c+0)%18446744073709551616+0)%18446744073709551616).toNat+18446744073709551616*((p:Int)/18446744073709551616+((p:Int)%18446744073709551616+c+0)/18446744073709551616+(x+((p:Int)%18446744073709551616+c+0)%18446744073709551616+0)/18446744073709551616).toNat=x.toNat+p+c.toNat:=by
 omega
theorem bMB{i j u X Y:Nat}:18446744073709551616^j*((u+18446744073709551616^i*X)*Y)=18446744073709551616^j*(u*Y)+18446744073709551616^(i+j)*(X*Y):=by
 rw[cCJ,cGQ,cGP];congr 1;rw[cGS,<-cGS (18446744073709551616^j),cGN (18446744073709551616^j)]
theorem cBM{a b:List Int}{N j V:Nat}(hN:N<=1099511627776)(ha:M6.cA a)(hb:M6.cA b)(hj:j<b.length)(bPH:a.length+b.length=N):∀(r i:Nat) (z:List Int) (c:Int),i+r=a.length->z.length=N->M6.cA z->0<=c->c<18446744073709551616->z.getD (a.length+j) 0=0 ->
  M6.val z+18446744073709551616^(i+j)*c.toNat=V+18446744073709551616^j*(M6.val (a.take i)*(b.getD j 0).toNat) ->
  ∃z',L5 z 0 N a b j c b.length j a.length i=L1 z' 0 N a b b.length ((j+1:Nat):Int)/\z'.length=N/\M6.cA z'/\M6.val z'=V+18446744073709551616^j*(M6.val a*(b.getD j 0).toNat):=by
 intro r
 induction r with
 |zero =>
  intro i z c hi hz hd h0 h1 bFT hv;have w1:i64.wrap ((j:Int)+(a.length:Int))=((a.length+j:Nat):Int):=by rw[wrap_i64];omega
  have w2:i64.wrap ((j:Int)+1)=((j+1:Nat):Int):=by rw[wrap_i64];omega
  have bOE:i=a.length:=by omega
  subst bOE;refine⟨z.set (a.length+j) c,?_,by simp[hz],M6.nH hd ⟨h0,h1⟩,?_⟩
  ·rw[Pu,aL,w1,aR,cFM,cBR,w2]
  ·have hs:=M6.oS (a:=z) (j:=a.length+j) (by omega) c;rw[bFT]at hs;rw[cIK]at hv;simp at hs;rw[hs];exact hv
 |succ r ih =>
  intro i z c hi hz hd h0 h1 bFT hv;have g:=hd.get (i+j);have ga:=ha.get i;have gb:=hb.get j;have w1:i64.wrap ((i:Int)+(j:Int))=((i+j:Nat):Int):=by rw[wrap_i64];omega
  have w2:i64.wrap ((i:Int)+1)=((i+1:Nat):Int):=by rw[wrap_i64];omega
  obtain⟨X,hX⟩:=cGR ga.1;obtain⟨Y,hY⟩:=cGR gb.1;have bPD:X*Y<=340282366920938463426481119284349108225:=by
   have h2:X<=18446744073709551615:=by omega
   have h3:Y<=18446744073709551615:=by omega
   have:=cMD h2 h3;omega
  rw[Pu,aM,aR,aR,w1,w2];simp only[cFM,cBR];have hs:=fun d=>M6.oS (a:=z) (j:=i+j) (by omega) d
  rw[show a.getD i 0*b.getD j 0=((X*Y:Nat):Int)from by rw[hX,hY];simp];obtain⟨k1,k2,k3⟩:=bFN bPD g.1 g.2 h0 h1;rw[gP ⟨ga.1,ga.2,gb.1,gb.2⟩,gP ⟨by omega,by omega,by omega,by omega⟩,aR,gP ⟨by omega,by omega,by omega,by omega⟩,aR];rw[wrap_u64 k1.1 k1.2,wrap_u64 k2.1 k2.2];refine ih (i+1) _ _ (by omega) (by simp[hz]) (M6.nH hd (by omega)) k2.1 k2.2 (by
   rw[cGT,List.getElem?_set_ne (by omega),<-cGT];exact bFT) ?_
  rw[M6.bM,bMB,show i+1+j=(i+j)+1 from by omega,cGO,cGS];have hs:=hs ((z.getD (i+j) 0+(((X*Y:Nat):Int)%18446744073709551616+c+0)%18446744073709551616+0)%18446744073709551616);rw[hX,hY,cFM,cFM];rw[hY,cFM]at hv;generalize ((z.getD (i+j) 0+(((X*Y:Nat):Int)%18446744073709551616+c+0)%18446744073709551616+0)%18446744073709551616)=d at *;generalize ((X*Y:Nat):Int)/18446744073709551616+(((X*Y:Nat):Int)%18446744073709551616+c+0)/18446744073709551616+(z.getD (i+j) 0+(((X*Y:Nat):Int)%18446744073709551616+c+0)%18446744073709551616+0)/18446744073709551616=c' at *;generalize X*Y=q at *;generalize 18446744073709551616^(i+j)=B at *;generalize M6.val (z.set (i+j) d)=W at *;generalize (z.getD (i+j) 0).toNat=x at *;generalize 18446744073709551616^j*(M6.val (a.take i)*Y)=U at *;have e2:B*d.toNat+B*(18446744073709551616*c'.toNat)=B*x+B*q+B*c.toNat:=by
   rw[<-cGQ,k3,cGQ,cGQ]
  omega
theorem aST{z:List Int}(hd:M6.cA z){k:Nat}(h:M6.val z<18446744073709551616^k):z.getD k 0=0:=by
 have h1:=M6.lU hd k;rw[cHM h,M6.iK]at h1;have:=hd.get k;omega
theorem bQU{a b:List Int}{N:Nat}(hN:N<=1099511627776)(ha:M6.cA a)(hb:M6.cA b)(bPH:a.length+b.length=N):∀(r j:Nat) (z:List Int),j+r=b.length->z.length=N->M6.cA z->M6.val z=M6.val a*M6.val (b.take j) ->
  L1 z 0 N a b b.length j=some [.io gX .u64 (M6.rU N (M6.val a*M6.val b)) 0 0]:=by
 intro r
 induction r with
 |zero =>
  intro j z hj hz hd hv;rw[Tl,aL];rw[M6.bW (by omega)]at hv;rw[M6.qV hd hz hv]
 |succ r ih =>
  intro j z hj hz hd hv;rw[Tl,aM];have kD:M6.val z<18446744073709551616^(a.length+j):=by
   rw[hv,cGP];exact cKD (M6.dT ha) (M6.iG hb j)
  obtain⟨z',h1,h2,h3,h4⟩:=cBM hN ha hb (show j<b.length by omega) bPH a.length 0 z 0 (by omega) hz hd (by omega) (by omega) (aST hd kD) (V:=M6.val z) (by simp[M6.val]);have h1:L5 z 0 N a b j 0 b.length j a.length 0=L1 z' 0 N a b b.length ((j+1:Nat):Int):=h1;rw[h1];refine ih (j+1) z' (by omega) h2 h3 ?_;rw[h4,hv,M6.bM,cGQ];congr 1;rw[<-cGS,<-cGS,cGN (18446744073709551616^j)]
theorem spec(x:List Int×Nat×Nat)(a b:List Int)(h:(sp x a b).1):aF E f264 aE [(Ga gX .u64).put x,(pI .u64).put a,(pI .u64).put b]=some (sp x a b).2/\∃rs oH,(sp x a b).2=rs ++ [.io gX .u64 oH 0 0]/\oH.length=x.1.length:=by
 obtain⟨xl,xo,xn⟩:=x;obtain⟨hd,ho,hn,ha,hb,hl,hN,hv⟩:=h;simp only at hd ho hn hl hN hv;subst ho;subst hn;refine⟨(start xl 0 xl.length a b).trans ?_,[],_,rfl,M6.jE ?_⟩
 ·exact bQU hN ha hb hl.symm b.length 0 xl (by omega) rfl hd (by simp[hv,M6.val])
 ·show _<18446744073709551616^xl.length;rw[hl,cGP];exact cKD (M6.dT ha) (M6.dT hb)
def aJ:dJ:=orc3 (Ga gX .u64) (pI .u64) (pI .u64) sp
theorem fnok:nL prog E 264 f264 aE:=xQ tN mixed (nI _ rfl (aA Pr.ok aC) (pJ)) func264 rfl rfl rfl rfl rfl
theorem ok:rZ prog base.glob 264 aJ:=fnok.xN rfl spec
end Kh
namespace Ch
def E:=mE [] 22 [] [(2,[0,3])] []
def aE:=bd f261
theorem aT:Nk E aE:=nk
def L2 a b:=qA E f261 aE 2 [jK a,bP b]
theorem start a:aF E f261 aE [D.s (ints u64 a)]=Ch.L2 a (a.length:Int):=eJ aT
theorem mG a b:L2 a b=letI B:=(a.length:Int);letI A:=ints u64 (cHL 0 (cHK b.toNat a));aB (decide (0<b)) (if 0<=i64.wrap (b-1)/\i64.wrap (b-1)<B then aB (a.getD (i64.wrap (b-1)).toNat 0==(0:Int)) (Ch.L2 a (i64.wrap (b-1))) (if(0:Int)<=(0:Int)/\0<=b/\b<=b/\b<=B then some [D.s A]else none)else none) (if(0:Int)<=(0:Int)/\0<=b/\b<=b/\b<=B then some [D.s A]else none):=lJ aT
def sp(a:List Int):Prop×List D:=(M6.cA a/\a.length<=1099511627776,[.s (.ints .u64 (M6.dg (M6.val a)))])
theorem L{xs:List Int}(hd:M6.cA xs)(hl:xs.length<=4398046511104):∀n:Nat,n<=xs.length->L2 xs n=some [D.s (.ints .u64 (M6.dg (M6.val (xs.take n))))]
 |0,h=>by
  rw[mG,aL,aR];simp[M6.val,M6.cD]
 |n+1,h=>by
  rw[mG];have e:i64.wrap (((n+1:Nat):Int)-1)=(n:Int):=by rw[wrap_i64];omega
  rw[e,aM,aR,cFM]
  by_cases hz:xs.getD n 0=0
  ·rw[bJ hz,L hd hl n (by omega),M6.mH (by omega),hz];simp
  ·rw[bB hz,aR,cFM,cHW];have:M6.cN (xs.take (n+1)):=M6.Bd (hd.take _) fun d hg=>by
    rw[M6.getLast_take (by omega)]at hg;cases hg;exact hz
   rw[<-this]
theorem spec:iS E f261 aE (pI .u64) sp:=by
 rintro a ⟨hd,hl⟩;refine(start a).trans ?_;rw[L hd (by omega) a.length (cBP _),cIK];rfl
def aJ:dJ:=orc1 (pI .u64) sp
theorem ok:OK 261 aJ:=(dY E aE aC func261).oU rfl spec
end Ch
namespace rD
def E:Env:={ ({ base with n0:=1,io:=[0] })with nt:=55,own:=[],keep:=fun k=>(tlook [(7,[0,6,8]),(2,[0,1,2,6,10,11])] k).getD [],cut:=tlook [] }
def aE:=bd f267
theorem aT:Nk E aE:=nk
def L2(a:List Int)(b:Nat)(c:Nat) d f g h i:=qA E f267 aE 2 [(A.any,some { e:=(22:Nat),cont:=rJ.ints u64 a }),(A.v (V.one (L.view 0 b c)),none),jK d,bP f,dM g,bP h,bP i]
def L7(a:List Int)(b:Nat)(c:Nat) d f:=qA E f267 aE 7 [(A.any,some { e:=(22:Nat),cont:=rJ.ints u64 a }),(A.v (V.one (L.view 0 b c)),none),dM d,bP f]
theorem start al ao an b c:aF E f267 aE [D.io gX u64 al ao an,D.s (ints u64 b),D.s (sc (int i64 c))]=rD.L2 al ao an b c 0 (b.length:Int) 0:=eJ aT
theorem mG a b c d e f g h:L2 a b c d e f g h=letI A:=b+(i64.wrap (e+h)).toNat;letI B:=a.getD A 0+d.getD h.toNat 0+f;aB (decide (h<g)) (if 0<=i64.wrap (e+h)/\i64.wrap (e+h)<(c:Int)then if 0<=h/\h<(d.length:Int)then aN (0<=a.getD A 0/\0<=d.getD h.toNat 0/\0<=f/\f<=1) (if 0<=i64.wrap (e+h)/\i64.wrap (e+h)<(c:Int)then rD.L2 (a.set A (B%18446744073709551616)) b c d e (B/18446744073709551616) g (i64.wrap (h+1))else none)else none else none) (rD.L7 a b c f (i64.wrap (e+(d.length:Int)))):=lJ aT
theorem yN a b c d e:L7 a b c d e=letI B:=b+e.toNat;letI A:=a.getD B 0+(0:Int)+d;aB (decide (0<d)) (if 0<=e/\e<(c:Int)then aN (0<=a.getD B 0/\(0:Int)<=(0:Int)/\0<=d/\d<=1) (if 0<=e/\e<(c:Int)then rD.L7 (a.set B (A%18446744073709551616)) b c (A/18446744073709551616) (i64.wrap (e+1))else none)else none) (some [D.io 22 u64 a 0 0]):=lJ aT
def sp(x:List Int×Nat×Nat)(b:List Int)(k:Int):Prop×List D:=(M6.cA x.1/\x.2.1=0/\x.2.2=x.1.length/\M6.cA b/\0<=k/\k.toNat+b.length<=x.1.length/\x.1.length<=1099511627776/\M6.val x.1+M6.val b*18446744073709551616^k.toNat<18446744073709551616^x.1.length,
 [.io gX .u64 (M6.rU x.1.length (M6.val x.1+M6.val b*18446744073709551616^k.toNat)) 0 0])
theorem bQR{T N:Nat}(hN:N<=1099511627776)(hT:T<18446744073709551616^N):∀(r j:Nat) (z:List Int) (c:Int),j+r=N+1->z.length=N->M6.cA z->0<=c->c<=1->M6.val z+18446744073709551616^j*c.toNat=T ->
  L7 z 0 N c j=some [.io gX .u64 (M6.rU N T) 0 0]:=by
 intro r
 induction r with
 |zero =>
  intro j z c hj hz hd h0 h1 hv;have hc:c=0:=by
   have h2:=M6.sH (show N<=j by omega);rcases Int.lt_or_le 0 c with h3 |h3
   ·have:c=1:=by omega
    subst this;simp at hv;omega
   ·omega
  subst hc;rw[yN,aL];simp at hv;rw[M6.qV hd hz hv]
 |succ r ih =>
  intro j z c hj hz hd h0 h1 hv
  by_cases hc:c=0
  ·subst hc;rw[yN,aL];simp at hv;rw[M6.qV hd hz hv]
  ·have bEF:c=1:=by omega
   subst bEF;have bYF:j<N:=by
    rcases cCF j N with h |h
    ·exact h
    ·have h2:=M6.sH h;simp at hv;omega
   have g:=hd.get j;have w2:i64.wrap ((j:Int)+1)=((j+1:Nat):Int):=by rw[wrap_i64];omega
   rw[yN,aM,aR,cBR,cFM,gP ⟨g.1,by omega,by omega,by omega⟩,aR,w2];refine ih (j+1) _ _ (by omega) (by simp[hz]) (M6.nH hd (by omega)) (by omega) (by omega) ?_;have hs:=M6.oS (a:=z) (j:=j) (by omega) ((z.getD j 0+0+1)%18446744073709551616);rw[cGO,cGS];generalize z.getD j 0=x at *;generalize M6.val (z.set j _)=V at *;generalize 18446744073709551616^j=B at *;have e:((x+0+1)%18446744073709551616).toNat+18446744073709551616*((x+0+1)/18446744073709551616).toNat=x.toNat+1:=by omega
   have e2:B*((x+0+1)%18446744073709551616).toNat+B*(18446744073709551616*((x+0+1)/18446744073709551616).toNat)=B*x.toNat+B:=by
    rw[<-cGQ,e,cGQ,cBZ]
   simp at hv;omega
theorem bQT{b:List Int}{V N k:Nat}(hN:N<=1099511627776)(hb:M6.cA b)(hk:k+b.length<=N)(hT:V+M6.val b*18446744073709551616^k<18446744073709551616^N):∀(r i:Nat) (z:List Int) (c:Int),i+r=b.length->z.length=N->M6.cA z->0<=c->c<=1 ->
  M6.val z+18446744073709551616^(k+i)*c.toNat=V+M6.val (b.take i)*18446744073709551616^k ->
  L2 z 0 N b k c b.length i=some [.io gX .u64 (M6.rU N (V+M6.val b*18446744073709551616^k)) 0 0]:=by
 intro r
 induction r with
 |zero =>
  intro i z c hi hz hd h0 h1 hv;have w1:i64.wrap ((k:Int)+(b.length:Int))=((k+b.length:Nat):Int):=by rw[wrap_i64];omega
  rw[mG,aL,w1];have bAT:i=b.length:=by omega
  subst bAT;rw[cIK]at hv;exact bQR hN hT (N+1-(k+b.length)) (k+b.length) z c (by omega) hz hd h0 h1 hv
 |succ r ih =>
  intro i z c hi hz hd h0 h1 hv;have g:=hd.get (k+i);have g2:=hb.get i;have w1:i64.wrap ((k:Int)+(i:Int))=((k+i:Nat):Int):=by rw[wrap_i64];omega
  have w2:i64.wrap ((i:Int)+1)=((i+1:Nat):Int):=by rw[wrap_i64];omega
  rw[mG,aM,w1,aR,aR,cBR,cFM,cFM,gP ⟨g.1,g2.1,h0,h1⟩,aR,w2];refine ih (i+1) _ _ (by omega) (by simp[hz]) (M6.nH hd (by omega)) (by omega) (by omega) ?_;have hs:=M6.oS (a:=z) (j:=k+i) (by omega) ((z.getD (k+i) 0+b.getD i 0+c)%18446744073709551616);have e0:M6.val (b.take (i+1))*18446744073709551616^k=M6.val (b.take i)*18446744073709551616^k+18446744073709551616^(k+i)*(b.getD i 0).toNat:=by
   rw[M6.bM,cCJ,cGP];congr 1;rw[cMK,cGN (18446744073709551616^i)]
  rw[e0,show k+(i+1)=(k+i)+1 from by omega,cGO,cGS];generalize z.getD (k+i) 0=x at *;generalize b.getD i 0=y at *;generalize M6.val (z.set (k+i) _)=W at *;generalize 18446744073709551616^(k+i)=B at *;generalize M6.val (b.take i)*18446744073709551616^k=U at *;have e:((x+y+c)%18446744073709551616).toNat+18446744073709551616*((x+y+c)/18446744073709551616).toNat=x.toNat+y.toNat+c.toNat:=by omega
  have e2:B*((x+y+c)%18446744073709551616).toNat+B*(18446744073709551616*((x+y+c)/18446744073709551616).toNat)=B*x.toNat+B*y.toNat+B*c.toNat:=by
   rw[<-cGQ,e,cGQ,cGQ]
  omega
theorem spec(x:List Int×Nat×Nat)(b:List Int)(k:Int)(h:(sp x b k).1):aF E f267 aE [(Ga gX .u64).put x,(pI .u64).put b,(pN .i64).put k]=some (sp x b k).2/\∃rs oH,(sp x b k).2=rs ++ [.io gX .u64 oH 0 0]/\oH.length=x.1.length:=by
 obtain⟨xl,xo,xn⟩:=x;obtain⟨hd,ho,hn,hb,hk,aKS,hl,hT⟩:=h;simp only at hd ho hn hb hk aKS hl hT;subst ho;subst hn;obtain⟨k,rfl⟩:=cGR hk;rw[cFM]at aKS hT;refine⟨(start xl 0 xl.length b k).trans ?_,[],_,rfl,M6.jE hT⟩;have:=bQT hl hb aKS hT b.length 0 xl 0 (by omega) rfl hd (by omega) (by omega) (by simp[M6.val]);exact this
def aJ:dJ:=orc3 (Ga gX .u64) (pI .u64) (pN .i64) sp
theorem fnok:nL prog E 267 f267 aE:=xQ tN mixed (nI _ rfl aC (pJ)) func267 rfl rfl rfl rfl rfl
theorem ok:rZ prog base.glob 267 aJ:=fnok.xN rfl spec
end rD
end W
end Go.Proofs.YtplagoepbghhpaaGreatDoor
end
