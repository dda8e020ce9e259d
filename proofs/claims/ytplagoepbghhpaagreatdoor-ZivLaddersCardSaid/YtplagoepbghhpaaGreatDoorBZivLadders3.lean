/- Contracts. -/
import Derived.KernelRfl
import Derived.Test.YtplagoepbghhpaaGreatDoorBZivLadders2
set_option linter.unusedVariables false
set_option linter.unusedSimpArgs false
set_option exponentiation.threshold 10000000
noncomputable section
open Go.IntKind(i8 i16 i32 i64 u8 u16 u32 u64)
open Go.Proofs.Tryz
open Int renaming toNat_natCast->bZL,eq_ofNat_of_zero_le->cAS,natCast_mul->cBP,natCast_ediv->cBO,natCast_nonneg->cFA,tdiv_eq_ediv_of_nonneg->cDZ,natCast_add->cGJ,mul_neg->cEE,tmod_eq_emod_of_nonneg->cEA,mul_one->cGX,mul_assoc->cAZ,natCast_emod->cCX,neg_mul->cEW,mul_nonneg->cHN,mul_ediv_mul_of_pos_left->cHQ,mul_ediv_add_emod->cEH,toNat_of_nonneg->cHU
open Nat renaming pow_add->cAQ,mul_add->cAO,mod_lt->bXW,mul_assoc->cAR,le_trans->bWK,pow_succ->cAN,mul_le_mul_left->bYC,mul_comm->cAM,div_lt_of_lt_mul->cBG,div_add_mod->cAT,mul_le_mul_right->bXD,div_eq_of_lt->cBI,add_zero->bWM,div_le_self->cFV,div_div_eq_div_mul->cCA,zero_add->bVQ,add_assoc->bZF,mod_eq_of_lt->cFW,pow_pos->bYO,zero_le->cBX,add_mul->bWI,beq->bVP,eq_of_beq_eq_true->bWD,lt_of_lt_of_le->bWL,exists_eq_add_of_le->bWT,pow_le_pow_right->bYP,mul_one->bVY,add_mul_div_left->cCS,mul_le_mul->cFZ,mod_add_div->cGA,div_le_div_left->cGD,ble->bVR,pow_zero->cFJ,le_of_ble_eq_true->bXM,div_eq_of_lt_le->cGE,le_refl->bVO,mul_pos->cGG,mul_left_comm->cFB,testBit_mod_two_pow->cGH,le_of_not_lt->bYI,mul_div_le->cGI,or_comm->cDX,one_mul->bZS,mul_lt_mul''->cDP,lt_of_le_of_lt->cBY,pow_two->cGL,zero_div->cFC,testBit_and->cGM,testBit_div_two_pow->cGN,eq_of_testBit_eq->cGO,div_mul_le_self->cGP,lt_div_mul_add->cGQ,lt_mul_div_succ->cGR,div_lt_iff_lt_mul->cGS,lt_or_ge->bWE,zero_mod->cDB,pow_lt_pow_right->cCW,testBit_two_pow->cGY,mul_add_div->cEZ,testBit_two_pow_sub_one->cHD,testBit_two_pow_sub_succ->cHE,le_div_iff_mul_le->cHG,mul_right_comm->cHH,eq_zero_or_pos->cHJ,two_pow_add_eq_or_of_lt->cDY,testBit_lt_two_pow->cHR,add_mul_mod_self_left->cHS,mul_add_mod->cHT,mul_div_mul_right->cEB,mul_mod_mul_right->cEC,mul_div_cancel->cFL,mul_lt_mul_of_pos_right->cHV
open Rat renaming le_of_lt->cFS,le_trans->cFT,natCast_mul->cFU,mul_pos->cFX,le_refl->cGB,mul_assoc->cGT,intCast_mul->cGU,intCast_natCast->cGV,div_mul_cancel->cHF
open List renaming replicate->bXR,drop_zero->cCE,take_set_of_le->cGF,drop->cEQ,take_length->cCD,take->cER,drop_set_of_lt->cGK,drop_of_length_le->cGZ,append_nil->cAX,nil_append->bZR,append_assoc->bXJ,singleton_append->cCF
open Bool renaming not_true->bXO,true_and->bYQ,false_and->cAV,not_false->cGW,and_false->cBA,true_or->cAW,and_eq_false_iff->cHC,false_or->bXP
namespace Go.Proofs.YtplagoepbghhpaaGreatDoor
namespace R
def sum(f:Nat->Rat):Nat->Rat
 |0=>0
 |n+1=>sum f n+f n
theorem dO(f:Nat->Rat)(n:Nat):sum f (n+1)=sum f n+f n:=rfl
theorem jX{f g:Nat->Rat}{n:Nat}(h:∀k,k<n->f k=g k):sum f n=sum g n:=by
 induction n with
 |zero=>rfl
 |succ n ih=>rw[dO,dO,ih fun k hk=>h k (by omega),h n (by omega)]
theorem sum_add(f g:Nat->Rat)(n:Nat):sum (fun k=>f k+g k) n=sum f n+sum g n:=by
 induction n with
 |zero=>simp only[sum];grind
 |succ n ih=>simp only[dO,ih];grind
theorem Az(f g:Nat->Rat)(n:Nat):sum (fun k=>f k-g k) n=sum f n-sum g n:=by
 induction n with
 |zero=>simp only[sum];grind
 |succ n ih=>simp only[dO,ih];grind
theorem mS(c:Rat)(f:Nat->Rat)(n:Nat):sum (fun k=>c*f k) n=c*sum f n:=by
 induction n with
 |zero=>simp only[sum];grind
 |succ n ih=>simp only[dO,ih];grind
theorem vM{f g:Nat->Rat}{n:Nat}(h:∀k,k<n->f k<=g k):sum f n<=sum g n:=by
 induction n with
 |zero=>simp only[sum];grind
 |succ n ih=>simp only[dO];have:=ih fun k hk=>h k (by omega);have:=h n (by omega);grind
def ab(x:Rat):Rat:=if 0<=x then x else -x
theorem aM(x:Rat):0<=ab x:=by unfold ab;split <;> grind
theorem By(x:Rat):x<=ab x:=by unfold ab;split <;> grind
theorem nJ(x:Rat):-x<=ab x:=by unfold ab;split <;> grind
theorem bW{x a:Rat}:ab x<=a↔-a<=x/\x<=a:=by unfold ab;split <;> grind
theorem iJ(x:Rat):ab (-x)=ab x:=by unfold ab;split <;> split <;> grind
theorem Td(x y:Rat):ab (x+y)<=ab x+ab y:=by unfold ab;split <;> split <;> split <;> grind
theorem aF{a b:Rat}(h:0<=a)(h':0<=b):0<=a*b:=Rat.mul_nonneg h h'
theorem fI(x y:Rat):ab (x*y)=ab x*ab y:=by
 unfold ab
 by_cases hx:0<=x <;> by_cases hy:0<=y
 ·rw[if_pos hx,if_pos hy,if_pos (aF hx hy)]
 ·rw[if_pos hx,if_neg hy];have:=aF hx (show 0<=-y by grind);split <;> grind
 ·rw[if_neg hx,if_pos hy];have:=aF (show 0<=-x by grind) hy;split <;> grind
 ·rw[if_neg hx,if_neg hy];have:=aF (show 0<=-x by grind) (show 0<=-y by grind);split <;> grind
theorem bZ{a b c d:Rat}(h1:0<=a)(h2:a<=b)(h3:0<=c)(h4:c<=d):a*c<=b*d:=by
 have:=aF h1 (show 0<=d-c by grind);have:=aF (show 0<=b-a by grind) (show 0<=d by grind);grind
theorem yA(f:Nat->Rat)(n:Nat):ab (sum f n)<=sum (fun k=>ab (f k)) n:=by
 induction n with
 |zero=>simp[sum,ab]
 |succ n ih=>simp only[dO];have:=Td (sum f n) (f n);grind
theorem aIO{f:Nat->Rat}{n:Nat}(h:∀k,0<=f k):0<=sum f n:=by
 induction n with
 |zero=>simp only[sum];grind
 |succ n ih=>simp only[dO];have:=h n;grind
def conv(f g:Nat->Rat)(m:Nat):Rat:=sum (fun j=>f j*g (m-j)) (m+1)
theorem aIP(f g:Nat->Rat)(n:Nat):sum (conv f g) n=sum (fun j=>f j*sum g (n-j)) n:=by
 induction n with
 |zero=>rfl
 |succ n ih =>
  rw[dO,ih,conv,dO,dO];rw[show n+1-n=1 by omega,Nat.sub_self];have:sum (fun j=>f j*sum g (n+1-j)) n=sum (fun j=>f j*sum g (n-j)+f j*g (n-j)) n :=
   jX fun k hk=>by rw[show n+1-k=(n-k)+1 by omega,dO];grind
  rw[this,sum_add];have:sum g 1=g 0:=by simp only[sum];grind
  grind
theorem Dr(f g:Nat->Rat)(n:Nat):sum f n*sum g n=sum (conv f g) n+sum (fun j=>f j*(sum g n-sum g (n-j))) n:=by
 rw[aIP,<-sum_add];have:sum (fun k=>f k*sum g (n-k)+f k*(sum g n-sum g (n-k))) n=sum (fun k=>sum g n*f k) n:=jX fun k _=>by grind
 rw[this,mS];grind
def tm(x:Rat):Nat->Rat
 |0=>1
 |k+1=>tm x k*x/((k+1:Nat):Rat)
theorem cast_pos(k:Nat):(0:Rat)<((k+1:Nat):Rat):=by
 exact_mod_cast Nat.succ_pos k
theorem kE(x:Rat)(k:Nat):((k+1:Nat):Rat)*tm x (k+1)=x*tm x k:=by
 have:=cast_pos k;rw[tm];grind
theorem Qu(x y:Rat):∀m,conv (tm x) (tm y) m=tm (x+y) m
 |0=>by simp only[conv,sum,tm,Nat.sub_zero];grind
 |m+1=>by
  have ih:=Qu x y m;have hp:=cast_pos m;have e:=kE (x+y) m;have h:((m+1:Nat):Rat)*conv (tm x) (tm y) (m+1)=(x+y)*conv (tm x) (tm y) m:=by
   unfold conv;rw[<-mS];have h1:sum (fun k=>((m+1:Nat):Rat)*(tm x k*tm y (m+1-k))) (m+1+1)=sum (fun k=>(k:Rat)*tm x k*tm y (m+1-k)) (m+1+1)+sum (fun k=>tm x k*(((m+1-k:Nat):Rat)*tm y (m+1-k))) (m+1+1):=by
    rw[<-sum_add];refine jX fun k hk=>?_
    have:((m+1:Nat):Rat)=(k:Rat)+((m+1-k:Nat):Rat):=by
     rw[<-Rat.natCast_add];congr 1;omega
    rw[this];grind
   have h2:∀n,sum (fun k=>(k:Rat)*tm x k*tm y (m+1-k)) (n+1)=x*sum (fun k=>tm x k*tm y (m-k)) n:=by
    intro n
    induction n with
    |zero=>simp only[sum];grind
    |succ n ih =>
     rw[dO,ih,dO,show m+1-(n+1)=m-n by omega];have:=kE x n;grind
   have h3:sum (fun k=>tm x k*(((m+1-k:Nat):Rat)*tm y (m+1-k))) (m+1+1)=y*sum (fun k=>tm x k*tm y (m-k)) (m+1):=by
    rw[dO,Nat.sub_self];have:sum (fun k=>tm x k*(((m+1-k:Nat):Rat)*tm y (m+1-k))) (m+1)=sum (fun k=>y*(tm x k*tm y (m-k))) (m+1):=by
     refine jX fun k hk=>?_
     have:=kE y (m-k);rw[show m+1-k=m-k+1 by omega];grind
    rw[this,mS];grind
   rw[h1,h2,h3];grind
  rw[ih]at h;generalize ((m+1:Nat):Rat)=q at *;generalize conv (tm x) (tm y) (m+1)=u at *;generalize tm (x+y) (m+1)=v at *;have:q*u=q*v:=by rw[h,e]
  have hq:q≠0:=by grind
  clear h e ih;grind
theorem kO(f:Nat->Rat)(a n:Nat):sum f (a+n)=sum f a+sum (fun i=>f (a+i)) n:=by
 induction n with
 |zero=>simp only[sum,bWM];grind
 |succ n ih=>rw[<-bZF,dO,ih,dO];grind
theorem Uf{f:Nat->Rat}(h:∀k,0<=f k){a b:Nat}(aOH:a<=b):sum f a<=sum f b:=by
 obtain⟨n,rfl⟩:=bWT aOH;rw[kO];have:=aIO (f:=fun i=>f (a+i)) (n:=n) fun k=>h _
 grind
def hf:Nat->Rat
 |0=>1
 |k+1=>hf k/2
theorem vR:∀k,0<hf k
 |0=>by simp only[hf];grind
 |k+1=>by have:=vR k;simp only[hf];grind
theorem Lk(a:Nat):∀b,hf (a+b)=hf a*hf b
 |0=>by simp only[hf,bWM];grind
 |b+1=>by rw[<-bZF,hf,Lk a b,hf];grind
theorem aLC{a b:Nat}(h:a<=b):hf b<=hf a:=by
 obtain⟨n,rfl⟩:=bWT h;clear h
 induction n with
 |zero=>grind
 |succ n ih=>rw[<-bZF,hf];have:=vR (a+n);grind
theorem Rx(k:Nat):hf k*(2^k:Nat)=1:=by
 induction k with
 |zero=>simp only[hf];grind
 |succ k ih=>rw[hf,cAN,cFU];grind
theorem bKT(n:Nat):sum hf n<=2:=by
 have:sum hf n=2-2*hf n:=by
  induction n with
  |zero=>simp only[sum,hf];grind
  |succ n ih=>rw[dO,ih,hf];grind
 have:=vR n;grind
theorem mR{x:Rat}(h:0<=x):∀k,0<=tm x k
 |0=>by simp only[tm];grind
 |k+1=>by
  have h1:=aF h (mR h k);have h2:=kE x k;have h3:=cast_pos k;refine Rat.not_lt.1 fun hn=>?_
  have:=cFX h3 (show 0 < -(tm x (k+1)) by grind);grind
theorem Oq(x:Rat):∀k,ab (tm x k)=tm (ab x) k
 |0=>by simp only[tm,ab];grind
 |k+1=>by
  have h3:=cast_pos k;have h1:=Oq x k;have h2:=kE x k;have h4:=kE (ab x) k;have h5:ab (((k+1:Nat):Rat)*tm x (k+1))=ab x*ab (tm x k):=by rw[h2,fI]
  rw[fI,h1]at h5;have h6:ab ((k+1:Nat):Rat)=((k+1:Nat):Rat):=by unfold ab;rw[if_pos (by grind)]
  rw[h6]at h5;generalize ((k+1:Nat):Rat)=q at *;generalize ab (tm x (k+1))=u at *;generalize tm (ab x) (k+1)=v at *;have hq:q≠0:=by grind
  have:q*u=q*v:=by grind
  clear h1 h2 h4 h5 h6;grind
theorem aBE{x y:Rat}(h:0<=x)(aVL:x<=y):∀k,tm x k<=tm y k
 |0=>by simp only[tm];grind
 |k+1=>by
  have h1:=bZ (mR h k) (aBE h aVL k) h aVL;have h2:=kE x k;have h4:=kE y k;have h3:=cast_pos k;refine Rat.not_lt.1 fun hn=>?_
  have:=cFX h3 (show 0<tm x (k+1)-tm y (k+1) by grind);grind
theorem aII(j:Nat):tm 4 (8+j)<=2*hf j:=by
 induction j with
 |zero =>
  have:tm 4 8=65536/40320:=by simp only[tm];grind
  simp only[hf,bWM,this];grind
 |succ j ih =>
  have h2:=kE 4 (8+j);have h3:(8:Rat)<=((8+j+1:Nat):Rat):=by exact_mod_cast(show 8<=8+j+1 by omega)
  have h4:=mR (x:=4) (by grind) (8+j+1);rw[<-bZF,hf];have:=aF (show 0<=((8+j+1:Nat):Rat)-8 by grind) h4;grind
theorem yX(m n:Nat):sum (fun i=>tm 4 (8+m+i)) n<=4*hf m:=by
 have h1:sum (fun i=>tm 4 (8+m+i)) n<=sum (fun i=>2*hf m*hf i) n:=vM fun k _=>by
  have:=aII (m+k);rw[Lk,<-bZF]at this;grind
 rw[mS]at h1;have:=aF (show 0<=2*hf m by have:=vR m;grind) (show 0<=2-sum hf n by have:=bKT n;grind);grind
theorem aBF(n:Nat):sum (tm 4) n<=64:=by
 have h0:∀k,0<=tm 4 k:=mR (by grind);have h1:=Uf h0 (show n<=8+n by omega);have h2:=kO (tm 4) 8 n;have h3:=yX 0 n;have h4:sum (tm 4) 8<=52:=by
  simp only[sum,tm];grind
 simp only[hf,bWM]at h3;grind
theorem Iq{f g:Nat->Rat}(aTN:∀k,ab (f k)<=tm 4 k)(hg:∀k,ab (g k)<=tm 4 k)(m:Nat) :
  ab (sum (fun j=>f j*(sum g (2*(8+m))-sum g (2*(8+m)-j))) (2*(8+m)))<=512*hf m:=by
 have hG:∀a n,ab (sum g (a+n)-sum g a)<=sum (fun i=>tm 4 (a+i)) n:=fun a n=>by
  rw[kO,show sum g a+sum (fun i=>g (a+i)) n-sum g a=sum (fun i=>g (a+i)) n by grind];exact cFT (yA _ _) (vM fun k _=>hg _)
 have h0:∀k,0<=tm 4 k:=mR (by grind);refine cFT (yA _ _) ?_;have hp:=vR m;have e:2*(8+m)=(8+m)+(8+m):=by omega
 rw[show sum (fun k=>ab (f k*(sum g (2*(8+m))-sum g (2*(8+m)-k)))) (2*(8+m))=sum (fun k=>ab (f k*(sum g (2*(8+m))-sum g (2*(8+m)-k)))) ((8+m)+(8+m)) by rw[<-e],kO];have p1:sum (fun k=>ab (f k*(sum g (2*(8+m))-sum g (2*(8+m)-k)))) (8+m)<=sum (fun k=>4*hf m*tm 4 k) (8+m):=vM fun k hk=>by
  rw[fI];have h1:=hG (2*(8+m)-k) k;rw[show 2*(8+m)-k+k=2*(8+m) by omega]at h1;have h2:=yX (8+m-k) k;rw[show 8+(8+m-k)=2*(8+m)-k-m by omega]at h2;have h3:=yX (m+(8+m-k)-8+8-8+8) k;have h5:sum (fun i=>tm 4 (2*(8+m)-k+i)) k<=4*hf (2*(8+m)-k-8):=by
   have:=yX (2*(8+m)-k-8) k;rwa [show 8+(2*(8+m)-k-8)=2*(8+m)-k by omega]at this
  have h6:=aLC (show m<=2*(8+m)-k-8 by omega);have:=bZ (aM _) (aTN k) (aM _) (show ab (sum g (2*(8+m))-sum g (2*(8+m)-k))<=4*hf m by grind);grind
 have p2:sum (fun i=>ab (f (8+m+i)*(sum g (2*(8+m))-sum g (2*(8+m)-(8+m+i))))) (8+m)<=sum (fun i=>64*tm 4 (8+m+i)) (8+m):=vM fun k hk=>by
  rw[fI];have h1:=hG (2*(8+m)-(8+m+k)) (8+m+k);rw[show 2*(8+m)-(8+m+k)+(8+m+k)=2*(8+m) by omega]at h1;have h2:=kO (tm 4) (2*(8+m)-(8+m+k)) (8+m+k);have h3:=aBF (2*(8+m)-(8+m+k)+(8+m+k));have h4:=aIO (n:=2*(8+m)-(8+m+k)) h0;have:=bZ (aM _) (aTN (8+m+k)) (aM _) (show ab (sum g (2*(8+m))-sum g (2*(8+m)-(8+m+k)))<=64 by grind);grind
 rw[mS]at p1 p2;have t1:=aBF (8+m);have t2:=yX m (8+m);have:=aF (show 0<=4*hf m by grind) (show 0<=64-sum (tm 4) (8+m) by grind);grind
def cc(k:Nat):Rat:=if k%4=0 then 1 else if k%4=2 then -1 else 0
def ss(k:Nat):Rat:=if k%4=1 then 1 else if k%4=3 then -1 else 0
theorem aXN(j l:Nat):cc j*cc l-ss j*ss l=cc (j+l):=by
 unfold cc ss;rw[Nat.add_mod];have h1:=bXW j (show 4>0 by omega);have h2:=bXW l (show 4>0 by omega);generalize j%4=a at *;generalize l%4=b at *;have h3:a=0\/a=1\/a=2\/a=3:=by omega
 have h4:b=0\/b=1\/b=2\/b=3:=by omega
 rcases h3 with rfl |rfl |rfl |rfl <;> rcases h4 with rfl |rfl |rfl |rfl <;> simp <;> grind
theorem aUJ(j l:Nat):ss j*cc l+cc j*ss l=ss (j+l):=by
 unfold cc ss;rw[Nat.add_mod];have h1:=bXW j (show 4>0 by omega);have h2:=bXW l (show 4>0 by omega);generalize j%4=a at *;generalize l%4=b at *;have h3:a=0\/a=1\/a=2\/a=3:=by omega
 have h4:b=0\/b=1\/b=2\/b=3:=by omega
 rcases h3 with rfl |rfl |rfl |rfl <;> rcases h4 with rfl |rfl |rfl |rfl <;> simp <;> grind
theorem aMY(k:Nat):ab (cc k)<=1:=by
 unfold cc ab;split <;> split <;> grind
theorem aBI(k:Nat):ab (ss k)<=1:=by
 unfold ss ab;split <;> split <;> grind
def uD(x:Rat)(n:Nat):Rat:=sum (fun k=>cc k*tm x k) n
def tP(x:Rat)(n:Nat):Rat:=sum (fun k=>ss k*tm x k) n
theorem aDS{x:Rat}(h:ab x<=4)(k:Nat):ab (cc k*tm x k)<=tm 4 k:=by
 rw[fI,Oq];have:=bZ (aM _) (aMY k) (mR (aM x) k) (aBE (aM x) h k);grind
theorem aBH{x:Rat}(h:ab x<=4)(k:Nat):ab (ss k*tm x k)<=tm 4 k:=by
 rw[fI,Oq];have:=bZ (aM _) (aBI k) (mR (aM x) k) (aBE (aM x) h k);grind
theorem aXK(x y:Rat)(m:Nat):conv (fun k=>cc k*tm x k) (fun k=>cc k*tm y k) m-conv (fun k=>ss k*tm x k) (fun k=>ss k*tm y k) m=cc m*tm (x+y) m:=by
 rw[<-Qu];unfold conv;rw[<-Az,<-mS];refine jX fun k hk=>?_
 have:=aXN k (m-k);rw[show k+(m-k)=m by omega]at this;rw[<-this];grind
theorem aXJ(x y:Rat)(m:Nat):conv (fun k=>ss k*tm x k) (fun k=>cc k*tm y k) m+conv (fun k=>cc k*tm x k) (fun k=>ss k*tm y k) m=ss m*tm (x+y) m:=by
 rw[<-Qu];unfold conv;rw[<-sum_add,<-mS];refine jX fun k hk=>?_
 have:=aUJ k (m-k);rw[show k+(m-k)=m by omega]at this;rw[<-this];grind
theorem aMS{x y:Rat}(hx:ab x<=4)(hy:ab y<=4)(m:Nat):ab (uD (x+y) (2*(8+m))-(uD x (2*(8+m))*uD y (2*(8+m))-tP x (2*(8+m))*tP y (2*(8+m))))<=1024*hf m:=by
 have h1:=Iq (aDS hx) (aDS hy) m;have h2:=Iq (aBH hx) (aBH hy) m;unfold uD tP;rw[Dr,Dr];have h3:sum (fun k=>cc k*tm (x+y) k) (2*(8+m))=sum (conv (fun k=>cc k*tm x k) (fun k=>cc k*tm y k)) (2*(8+m))-sum (conv (fun k=>ss k*tm x k) (fun k=>ss k*tm y k)) (2*(8+m)):=by
  rw[<-Az];exact jX fun k _=>(aXK x y k).symm
 rw[h3];rw[bW]at *;grind
theorem aJA{x y:Rat}(hx:ab x<=4)(hy:ab y<=4)(m:Nat):ab (tP (x+y) (2*(8+m))-(tP x (2*(8+m))*uD y (2*(8+m))+uD x (2*(8+m))*tP y (2*(8+m))))<=1024*hf m:=by
 have h1:=Iq (aBH hx) (aDS hy) m;have h2:=Iq (aDS hx) (aBH hy) m;unfold uD tP;rw[Dr,Dr];have h3:sum (fun k=>ss k*tm (x+y) k) (2*(8+m))=sum (conv (fun k=>ss k*tm x k) (fun k=>cc k*tm y k)) (2*(8+m))+sum (conv (fun k=>cc k*tm x k) (fun k=>ss k*tm y k)) (2*(8+m)):=by
  rw[<-sum_add];exact jX fun k _=>(aXJ x y k).symm
 rw[h3];rw[bW]at *;grind
theorem aMT(x:Rat)(n:Nat):uD (-x) n=uD x n:=by
 refine jX fun k _=>?_
 have:∀k,cc k*tm (-x) k=cc k*tm x k/\ss k*tm (-x) k=- (ss k*tm x k):=by
  intro k;have h:∀j,tm (-x) (2*j)=tm x (2*j)/\tm (-x) (2*j+1)=- tm x (2*j+1):=by
   intro j
   induction j with
   |zero=>simp only[tm];grind
   |succ j ih =>
    rw[show 2*(j+1)=2*j+1+1 by omega];obtain⟨h1,h2⟩:=ih;have e:tm (-x) (2*j+1+1)=tm x (2*j+1+1):=by rw[tm,h2];grind [tm]
    refine⟨e,?_⟩;rw[tm,e];grind [tm]
  have:=h (k/2);unfold cc ss
  by_cases hk:k%2=0
  ·rw[show 2*(k/2)=k by omega]at this;rw[if_neg (show ¬k%4=1 by omega),if_neg (show ¬k%4=3 by omega),this.1];grind
  ·rw[show 2*(k/2)+1=k by omega]at this;rw[if_neg (show ¬k%4=0 by omega),if_neg (show ¬k%4=2 by omega),this.2];grind
 exact(this k).1
theorem aJB(x:Rat)(n:Nat):tP (-x) n=- tP x n:=by
 unfold tP;rw[show -sum (fun k=>ss k*tm x k) n=(-1)*sum (fun k=>ss k*tm x k) n by grind,<-mS];refine jX fun k _=>?_
 have h:∀j,tm (-x) (2*j)=tm x (2*j)/\tm (-x) (2*j+1)=- tm x (2*j+1):=by
  intro j
  induction j with
  |zero=>simp only[tm];grind
  |succ j ih =>
   rw[show 2*(j+1)=2*j+1+1 by omega];obtain⟨h1,h2⟩:=ih;have e:tm (-x) (2*j+1+1)=tm x (2*j+1+1):=by rw[tm,h2];grind [tm]
   refine⟨e,?_⟩;rw[tm,e];grind [tm]
 have:=h (k/2);unfold ss
 by_cases hk:k%2=0
 ·rw[if_neg (show ¬k%4=1 by omega),if_neg (show ¬k%4=3 by omega)];grind
 ·rw[show 2*(k/2)+1=k by omega]at this;rw[this.2];grind
theorem Jr{x:Rat}(h0:0<=x)(h1:x<=1)(a:Nat)(ha:1<=a)(n:Nat):sum (fun i=>tm x (a+i)) n<=2*tm x a:=by
 have hh:∀i,tm x (a+i)<=tm x a*hf i:=by
  intro i
  induction i with
  |zero=>simp only[hf,bWM];grind
  |succ i ih =>
   have h2:=kE x (a+i);have h3:(2:Rat)<=((a+i+1:Nat):Rat):=by exact_mod_cast(show 2<=a+i+1 by omega)
   have h4:=mR h0 (a+i+1);have h5:=mR h0 (a+i);have:=aF (show 0<=((a+i+1:Nat):Rat)-2 by grind) h4;have:=aF (show 0<=1-x by grind) h5;rw[<-bZF,hf];grind
 have h1:sum (fun i=>tm x (a+i)) n<=sum (fun i=>tm x a*hf i) n:=vM fun k _=>hh k
 rw[mS]at h1;have:=aF (mR h0 a) (show 0<=2-sum hf n by have:=bKT n;grind);grind
theorem aMR{x:Rat}(h:ab x<=1){a n:Nat}(ha:1<=a)(hn:a<=n):ab (uD x n-uD x a)<=2*tm (ab x) a:=by
 obtain⟨m,rfl⟩:=bWT hn;unfold uD;rw[kO,show sum (fun k=>cc k*tm x k) a+sum (fun i=>cc (a+i)*tm x (a+i)) m-sum (fun k=>cc k*tm x k) a=sum (fun i=>cc (a+i)*tm x (a+i)) m by grind];refine cFT (yA _ _) (cFT (vM fun k _=>?_) (Jr (aM x) h a ha m));rw[fI,Oq];have:=bZ (aM _) (aMY (a+k)) (mR (aM x) (a+k)) cGB;grind
theorem aIY{x:Rat}(h:ab x<=1){a n:Nat}(ha:1<=a)(hn:a<=n):ab (tP x n-tP x a)<=2*tm (ab x) a:=by
 obtain⟨m,rfl⟩:=bWT hn;unfold tP;rw[kO,show sum (fun k=>ss k*tm x k) a+sum (fun i=>ss (a+i)*tm x (a+i)) m-sum (fun k=>ss k*tm x k) a=sum (fun i=>ss (a+i)*tm x (a+i)) m by grind];refine cFT (yA _ _) (cFT (vM fun k _=>?_) (Jr (aM x) h a ha m));rw[fI,Oq];have:=bZ (aM _) (aBI (a+k)) (mR (aM x) (a+k)) cGB;grind
theorem bEI:∃k:Nat,k=1048576:=⟨_,rfl⟩
def K:Nat:=Classical.choose bEI
theorem aYA:K=1048576:=Classical.choose_spec bEI
def aRY:Nat:=2*(8+(K+10))
def vW:Rat:=hf K
def sn(x:Rat):Rat:=tP x aRY
def cs(x:Rat):Rat:=uD x aRY
theorem vJ:0<vW:=vR K
theorem aLX:1024*hf (K+10)=vW:=by
 have:=Lk K 10;have h:hf 10=1/1024:=by simp only[hf];grind
 unfold vW;grind
theorem Bg{n:Nat}(h:n<=1048576):vW<=hf n:=aLC (by rw[aYA];exact h)
theorem Ef:vW<=1/1048576:=by
 have:=Bg (n:=20) (by omega);simp only[hf]at this;grind
theorem Gl{x y:Rat}(hx:ab x<=4)(hy:ab y<=4):ab (cs (x+y)-(cs x*cs y-sn x*sn y))<=vW:=by
 rw[<-aLX];exact aMS hx hy _
theorem aIW{x y:Rat}(hx:ab x<=4)(hy:ab y<=4):ab (sn (x+y)-(sn x*cs y+cs x*sn y))<=vW:=by
 rw[<-aLX];exact aJA hx hy _
theorem Zz(x:Rat):cs (-x)=cs x:=aMT x _
theorem Fi(x:Rat):sn (-x)=- sn x:=aJB x _
theorem aOU(k:Nat):tm 0 (k+1)=0:=by rw[tm];grind
theorem Sw{a:Nat}(h:a<=1048576):a<=aRY:=by unfold aRY;rw[aYA];omega
theorem Je{x:Rat}(h:ab x<=1){a:Nat}(ha:1<=a)(hn:a<=1048576):ab (cs x-uD x a)<=2*tm (ab x) a:=aMR h ha (Sw hn)
theorem Qz{x:Rat}(h:ab x<=1){a:Nat}(ha:1<=a)(hn:a<=1048576):ab (sn x-tP x a)<=2*tm (ab x) a:=aIY h ha (Sw hn)
theorem aDT:cs 0=1:=by
 have h:=Je (x:=0) (by simp only[ab];grind) (a:=1) (by omega) (by omega);rw[show ab 0=0 by simp only[ab];grind,show(1:Nat)=0+1 by rfl,aOU]at h;have h2:uD 0 (0+1)=1:=by simp[uD,sum,cc,tm];grind
 rw[bW,h2]at h;grind
theorem aPL{x:Rat}(hx:ab x<=4):ab (sn x*sn x+cs x*cs x-1)<=vW:=by
 have:=Gl hx (show ab (-x)<=4 by rwa [iJ]);rw[show x+-x=0 by grind,aDT,Zz,Fi]at this;rw[bW]at *;grind
theorem Ow{x:Rat}(hx:ab x<=4):ab (sn (2*x)-2*sn x*cs x)<=vW:=by
 have:=aIW hx hx;rw[show x+x=2*x by grind]at this;rw[bW]at *;grind
theorem Pv{x:Rat}(hx:ab x<=4):ab (cs (2*x)-(1-2*(sn x*sn x)))<=2*vW:=by
 have:=Gl hx hx;have:=aPL hx;rw[show x+x=2*x by grind]at *;rw[bW]at *;grind
theorem Jv{a b:Rat}(h:a*a<=b*b)(hb:0<=b):ab a<=b:=by
 rw[bW];constructor
 ·refine Rat.not_lt.1 fun hn=>?_
  have:=cFX (show 0 < -a-b by grind) (show 0 < -a+b by grind);grind
 ·refine Rat.not_lt.1 fun hn=>?_
  have:=cFX (show 0<a-b by grind) (show 0<a+b by grind);grind
theorem bGI(a:Rat):0<=a*a:=by
 by_cases h:0<=a
 ·exact aF h h
 ·have:=aF (show 0<=-a by grind) (show 0<=-a by grind);grind
theorem aBP{x:Rat}(hx:ab x<=4):ab (sn x)<=1+vW:=by
 have h:=aPL hx;have h1:=vJ;have h2:=bGI (cs x);have h3:=aF (show 0<=vW by grind) (show 0<=vW by grind);refine Jv ?_ (by grind);rw[bW]at h;grind
theorem aDW{x:Rat}(hx:ab x<=4):ab (cs x)<=1+vW:=by
 have h:=aPL hx;have h1:=vJ;have h2:=bGI (sn x);have h3:=aF (show 0<=vW by grind) (show 0<=vW by grind);refine Jv ?_ (by grind);rw[bW]at h;grind
theorem bG{x:Rat}(h:0<=x):ab x=x:=by unfold ab;rw[if_pos h]
theorem Cm(x:Rat):tm x 1=x/\tm x 2=x*x/2/\tm x 3=x*x*x/6/\tm x 4=x*x*x*x/24/\tm x 5=x*x*x*x*x/120/\tm x 6=x*x*x*x*x*x/720:=by
 simp only[tm];refine⟨?_,?_,?_,?_,?_,?_⟩ <;> grind
theorem zC{x:Rat}(h0:0<=x)(h1:x<=1):x-x*x*x/6<=sn x/\sn x<=x-x*x*x/6+x*x*x*x*x/60:=by
 have a1:ab x<=1:=by rwa [bG h0]
 have t5:=Qz a1 (a:=5) (by omega) (by omega);have t7:=Qz a1 (a:=7) (by omega) (by omega);rw[bG h0]at t5 t7;obtain⟨e1,e2,e3,e4,e5,e6⟩:=Cm x;have p5:tP x 5=x-x*x*x/6:=by simp[tP,sum,ss];rw[e1,e3];grind
 have p7:tP x 7=x-x*x*x/6+x*x*x*x*x/120:=by simp[tP,sum,ss];rw[e1,e3,e5];grind
 have e7:tm x 7<=tm x 5/4:=by
  have h2:=kE x 6;have h3:=kE x 5;have:=mR h0 7;have:=mR h0 6;have:=mR h0 5;have:=aF (show 0<=1-x by grind) (mR h0 6);have:=aF (show 0<=1-x by grind) (mR h0 5);norm_cast at h2 h3;grind
 rw[bW,p5,e5]at t5;rw[bW,p7]at t7;rw[e5]at e7;grind
theorem Lz{x:Rat}(h0:0<=x)(h1:x<=1):1-x*x/2<=cs x/\cs x<=1-x*x/2+x*x*x*x/12:=by
 have a1:ab x<=1:=by rwa [bG h0]
 have t5:=Je a1 (a:=4) (by omega) (by omega);have t7:=Je a1 (a:=6) (by omega) (by omega);rw[bG h0]at t5 t7;obtain⟨e1,e2,e3,e4,e5,e6⟩:=Cm x;have p5:uD x 4=1-x*x/2:=by simp[uD,sum,cc];rw[e2,tm];grind
 have p7:uD x 6=1-x*x/2+x*x*x*x/24:=by simp[uD,sum,cc];rw[e2,e4,tm];grind
 have e7:tm x 6<=tm x 4/4:=by
  have h2:=kE x 5;have h3:=kE x 4;have:=mR h0 6;have:=mR h0 5;have:=mR h0 4;have:=aF (show 0<=1-x by grind) (mR h0 5);have:=aF (show 0<=1-x by grind) (mR h0 4);norm_cast at h2 h3;grind
 rw[bW,p5,e4]at t5;rw[bW,p7]at t7;rw[e4]at e7;grind
theorem aIH{x y:Rat}(hx:ab x<=1)(hy:ab y<=1):∀k,ab (tm y (k+1)-tm x (k+1))<=ab (y-x)*tm 1 k
 |0=>by
  obtain⟨e1,_⟩:=Cm x;obtain⟨e2,_⟩:=Cm y;rw[show 0+1=1 by rfl,e1,e2,tm];grind
 |k+1=>by
  have ih:=aIH hx hy k;have h2:=kE x (k+1);have h3:=kE y (k+1);have h1:=kE 1 k;have hp:=cast_pos (k+1);have e:((k+1+1:Nat):Rat)*(tm y (k+1+1)-tm x (k+1+1))=(y-x)*tm y (k+1)+x*(tm y (k+1)-tm x (k+1)):=by grind
  have e2:=congrArg ab e;have e3:=Td ((y-x)*tm y (k+1)) (x*(tm y (k+1)-tm x (k+1)));rw[fI,bG (show(0:Rat)<=((k+1+1:Nat):Rat) by grind)]at e2;rw[fI,fI,Oq]at e3;have b1:=bZ (aM (y-x)) cGB (mR (aM y) (k+1)) (aBE (aM y) hy (k+1));have b2:=bZ (aM x) hx (aM _) ih;have hc:((k+1+1:Nat):Rat)=((k+1:Nat):Rat)+1:=by norm_cast
  refine Rat.not_lt.1 fun hn=>?_
  have:=cFX hp (show 0<ab (tm y (k+1+1)-tm x (k+1+1))-ab (y-x)*tm 1 (k+1) by grind);have Xy:tm 1 k=((k+1:Nat):Rat)*tm 1 (k+1):=by grind
  rw[Xy]at b2;rw[hc]at this e2;clear e h2 h3 h1 ih Xy hc hp hx hy;generalize ((k+1:Nat):Rat)=q at *;generalize ab (tm y (k+1+1)-tm x (k+1+1))=A at *;generalize ab ((y-x)*tm y (k+1)+x*(tm y (k+1)-tm x (k+1)))=B at *;generalize ab (y-x)=d at *;generalize tm 1 (k+1)=T at *;grind
theorem aIJ(a:Nat)(ha:1<=a)(n:Nat):sum (fun i=>tm 1 (a+i)) n<=2*tm 1 a:=Jr (by grind) (by grind) a ha n
theorem aIV{x y:Rat}(hx:ab x<=1)(hy:ab y<=1):ab (sn y-sn x-(y-x))<=3/4*ab (y-x):=by
 have hN:=Sw (a:=3) (by omega);obtain⟨n,hn⟩:=bWT hN;unfold sn tP;rw[hn,kO,kO];obtain⟨e1,_⟩:=Cm x;obtain⟨e2,_⟩:=Cm y;have p:sum (fun k=>ss k*tm x k) 3=x:=by simp[sum,ss];rw[e1];grind
 have q:sum (fun k=>ss k*tm y k) 3=y:=by simp[sum,ss];rw[e2];grind
 rw[p,q,show y+sum (fun i=>ss (3+i)*tm y (3+i)) n-(x+sum (fun i=>ss (3+i)*tm x (3+i)) n)-(y-x)=sum (fun i=>ss (3+i)*tm y (3+i)) n-sum (fun i=>ss (3+i)*tm x (3+i)) n by grind,<-Az];refine cFT (yA _ _) ?_;have h1:sum (fun k=>ab (ss (3+k)*tm y (3+k)-ss (3+k)*tm x (3+k))) n<=sum (fun k=>ab (y-x)*tm 1 (2+k)) n:=vM fun k _=>by
  have:=aIH hx hy (2+k);rw[show 2+k+1=3+k by omega]at this;rw[show ss (3+k)*tm y (3+k)-ss (3+k)*tm x (3+k)=ss (3+k)*(tm y (3+k)-tm x (3+k)) by grind,fI];have:=bZ (aM _) (aBI (3+k)) (aM _) this;grind
 rw[mS]at h1;have h2:sum (fun k=>tm 1 (2+k)) n<=3/4:=by
  have h3:=Uf (f:=fun k=>tm 1 (2+k)) (fun k=>mR (by grind) _) (show n<=2+n by omega);have h4:=kO (fun k=>tm 1 (2+k)) 2 n;have h5:=aIJ 4 (by omega) n;obtain⟨_,f2,f3,f4,_⟩:=Cm 1;have h6:sum (fun k=>tm 1 (2+k)) 2=2/3:=by simp[sum];rw[f2,f3];grind
  have h7:sum (fun i=>tm 1 (2+(2+i))) n=sum (fun i=>tm 1 (4+i)) n:=jX fun k _=>by rw[show 2+(2+k)=4+k by omega]
  rw[f4]at h5;grind
 have:=aF (aM (y-x)) (show 0<=3/4-sum (fun k=>tm 1 (2+k)) n by grind);grind
theorem aDV{a b:Rat}(ha:ab a<=4)(hb:ab b<=4):ab (cs (a-b)-cs (a+b)-2*(sn a*sn b))<=2*vW:=by
 have h1:=Gl ha hb;have h2:=Gl ha (show ab (-b)<=4 by rwa [iJ]);rw[Zz,Fi,show a+-b=a-b by grind]at h2;rw[bW]at *;grind
theorem Jy{x:Rat}(h0:0<=x)(h1:x<=1):0<=sn x:=by
 have:=(zC h0 h1).1;have h2:=bZ h0 h1 h0 h1;have h3:=aF h0 (show 0<=1*1-x*x by grind);grind
theorem aBN{x:Rat}(h0:0<=x)(h1:x<=1):sn x<=x:=by
 have:=(zC h0 h1).2;have h2:=bZ h0 h1 h0 h1;have h4:=aF (aF h0 h0) h0;have h3:=aF h4 (show 0<=1*1-x*x by grind);grind
theorem Yk{x:Rat}(h:ab x<=1):ab (sn x)<=ab x:=by
 by_cases h0:0<=x
 ·rw[bG h0]at *;have:=Jy h0 h;have:=aBN h0 h;rw[bW];grind
 ·have e:ab x=-x:=by unfold ab;rw[if_neg h0]
  rw[e]at h;rw[e];have h1:=Jy (show 0<=-x by grind) h;have h2:=aBN (show 0<=-x by grind) h;rw[Fi]at h1 h2;rw[bW];grind
theorem aDU{x y:Rat}(h0:0<=x)(h:x<=y)(h1:y<=1):cs y<=cs x+2*vW:=by
 have h2:=aDV (a:=(x+y)/2) (b:=(y-x)/2) (by rw[bW];grind) (by rw[bW];grind);rw[show(x+y)/2-(y-x)/2=x by grind,show(x+y)/2+(y-x)/2=y by grind,bW]at h2;have h3:=aF (Jy (x:=(x+y)/2) (by grind) (by grind)) (Jy (x:=(y-x)/2) (by grind) (by grind));grind
theorem aMP{x y:Rat}(hx:ab x<=1)(hy:ab y<=1):ab (cs y-cs x)<=ab (y-x)+2*vW:=by
 have b1:ab ((x+y)/2)<=1:=by rw[bW]at *;grind
 have b2:ab ((y-x)/2)<=1:=by rw[bW]at *;grind
 have h2:=aDV (a:=(x+y)/2) (b:=(y-x)/2) (by grind) (by grind);rw[show(x+y)/2-(y-x)/2=x by grind,show(x+y)/2+(y-x)/2=y by grind]at h2;have h3:=bZ (aM _) (Yk b1) (aM _) (Yk b2);have h4:=bZ (aM _) b1 (aM _) (show ab ((y-x)/2)<=ab ((y-x)/2)from cGB);rw[<-fI]at h3;have h5:ab ((y-x)/2)=ab (y-x)/2:=by unfold ab;split <;> split <;> grind
 rw[h5]at h3 h4;have h6:=By (sn ((x+y)/2)*sn ((y-x)/2));have h7:=nJ (sn ((x+y)/2)*sn ((y-x)/2));rw[bW]at h2 ⊢;clear h5 b1 b2 hx hy;generalize sn ((x+y)/2)*sn ((y-x)/2)=P at *;generalize ab ((x+y)/2)*(ab (y-x)/2)=Q at *;grind
theorem aBM{x y:Rat}(hx:ab x<=1)(hy:ab y<=1):ab (sn y-sn x)<=2*ab (y-x):=by
 have h:=aIV hx hy;have h1:=By (y-x);have h2:=nJ (y-x);rw[bW]at h ⊢;grind
theorem aBL{x y:Rat}(hx:ab x<=1)(hy:ab y<=1)(h:x<=y):sn x<=sn y:=by
 have h1:=aIV hx hy;rw[bG (show 0<=y-x by grind),bW]at h1;grind
theorem xK(a:Nat){b:Nat}(_hb:0<b):(b:Rat)*((a/b:Nat):Rat)<=(a:Rat)/\(a:Rat)<(b:Rat)*((a/b:Nat):Rat)+(b:Rat):=by
 have h1:=cAT a b;have h2:=bXW a _hb;constructor
 ·exact_mod_cast(show b*(a/b)<=a by omega)
 ·exact_mod_cast(show a<b*(a/b)+b by omega)
theorem bV{q a b:Rat}(hq:0<q)(h:q*a<=q*b):a<=b:=by
 refine Rat.not_lt.1 fun hn=>?_
 have:=cFX hq (show 0<a-b by grind);grind
theorem qO{q a b:Rat}(hq:0<q)(h:q*a<q*b):a<b:=by
 refine Rat.not_le.1 fun hn=>?_
 have:=aF (cFS hq) (show 0<=a-b by grind);grind
def sq(u W:Nat):Nat->Nat
 |0=>W
 |k+1=>sq u W k*u/W/(k+1)
theorem Jw{u W:Nat}(hW:0<W){x:Rat}(hx:x*(W:Rat)=(u:Rat))(h0:0<=x)(h1:x<=1/2):∀k,0<=tm x k*W-sq u W k/\tm x k*W-sq u W k<=2
 |0=>by simp only[tm,sq];grind
 |k+1=>by
  obtain⟨i1,i2⟩:=Jw hW hx h0 h1 k;obtain⟨d1,d2⟩:=xK (sq u W k*u) (b:=W*(k+1)) (cGG hW (by omega));rw[sq,cCA];rw[cFU,cFU,<-hx]at d1 d2;have hc:=kE x k;have hp:=cast_pos k;have h1k:(1:Rat)<=((k+1:Nat):Rat):=by exact_mod_cast(show 1<=k+1 by omega)
  have aLI:(0:Rat)<(W:Rat):=by exact_mod_cast hW
  generalize ((sq u W k*u/(W*(k+1)):Nat):Rat)=t' at *;generalize (sq u W k:Rat)=t at *;generalize ((k+1:Nat):Rat)=q at *;have bVB:q*t'<=t*x:=bV aLI (by grind);have bVA:t*x<q*t'+q:=qO aLI (by grind);have hcW:q*tm x (k+1)*(W:Rat)=x*tm x k*(W:Rat):=by rw[hc]
  have e1:=aF h0 i1;have e2:=aF (show 0<=1/2-x by grind) i1;refine⟨bV hp ?_,bV hp ?_⟩ <;> grind
theorem aIN{u W:Nat}(hW:0<W){x:Rat}(hx:x*(W:Rat)=(u:Rat))(h0:0<=x)(h1:x<=1/2){n:Nat}(hn:1<=n)(aFE:n<=1048576)(hz:sq u W n=0) :
  ab (sum (fun k=>cc k*(sq u W k:Rat)) n-W*cs x)<=2*(n:Rat)+4:=by
 have hs:ab (sum (fun k=>cc k*(sq u W k:Rat)) n-W*uD x n)<=2*(n:Rat):=by
  unfold uD;rw[<-mS,<-Az];refine cFT (yA _ _) ?_;have:∀m,sum (fun k=>ab (cc k*(sq u W k:Rat)-W*(cc k*tm x k))) m<=2*(m:Rat):=by
   intro m
   induction m with
   |zero=>simp only[sum];grind
   |succ m ih =>
    rw[dO];obtain⟨a1,a2⟩:=Jw hW hx h0 h1 m;have:ab (cc m*(sq u W m:Rat)-W*(cc m*tm x m))<=2:=by
     rw[show cc m*(sq u W m:Rat)-W*(cc m*tm x m)=cc m*(sq u W m-tm x m*W) by grind,fI];have b1:ab (sq u W m-tm x m*W)<=2:=by rw[bW];grind
     have:=bZ (aM _) (aMY m) (aM _) b1;grind
    have hc:((m+1:Nat):Rat)=(m:Rat)+1:=by norm_cast
    rw[hc];grind
  exact this n
 have ht:=Je (x:=x) (by rw[bG h0];grind) hn aFE;obtain⟨a1,a2⟩:=Jw hW hx h0 h1 n;rw[hz]at a2;rw[bG h0]at ht;have aLI:(0:Rat)<(W:Rat):=by exact_mod_cast hW
 rw[bW]at *;have b1:=aF (cFS aLI) (show 0<=2*tm x n-(cs x-uD x n) by grind);have b2:=aF (cFS aLI) (show 0<=2*tm x n+(cs x-uD x n) by grind);have Zf:((0:Nat):Rat)=0:=by norm_cast
 rw[Zf]at a2;grind
theorem aIM{u W:Nat}(hW:0<W){x:Rat}(hx:x*(W:Rat)=(u:Rat))(h0:0<=x)(h1:x<=1/2){n:Nat}(hn:1<=n)(aFE:n<=1048576)(hz:sq u W n=0) :
  ab (sum (fun k=>ss k*(sq u W k:Rat)) n-W*sn x)<=2*(n:Rat)+4:=by
 have hs:ab (sum (fun k=>ss k*(sq u W k:Rat)) n-W*tP x n)<=2*(n:Rat):=by
  unfold tP;rw[<-mS,<-Az];refine cFT (yA _ _) ?_;have:∀m,sum (fun k=>ab (ss k*(sq u W k:Rat)-W*(ss k*tm x k))) m<=2*(m:Rat):=by
   intro m
   induction m with
   |zero=>simp only[sum];grind
   |succ m ih =>
    rw[dO];obtain⟨a1,a2⟩:=Jw hW hx h0 h1 m;have:ab (ss m*(sq u W m:Rat)-W*(ss m*tm x m))<=2:=by
     rw[show ss m*(sq u W m:Rat)-W*(ss m*tm x m)=ss m*(sq u W m-tm x m*W) by grind,fI];have b1:ab (sq u W m-tm x m*W)<=2:=by rw[bW];grind
     have:=bZ (aM _) (aBI m) (aM _) b1;grind
    have hc:((m+1:Nat):Rat)=(m:Rat)+1:=by norm_cast
    rw[hc];grind
  exact this n
 have ht:=Qz (x:=x) (by rw[bG h0];grind) hn aFE;obtain⟨a1,a2⟩:=Jw hW hx h0 h1 n;rw[hz]at a2;rw[bG h0]at ht;have aLI:(0:Rat)<(W:Rat):=by exact_mod_cast hW
 rw[bW]at *;have b1:=aF (cFS aLI) (show 0<=2*tm x n-(sn x-tP x n) by grind);have b2:=aF (cFS aLI) (show 0<=2*tm x n+(sn x-tP x n) by grind);have Zf:((0:Nat):Rat)=0:=by norm_cast
 rw[Zf]at a2;grind
theorem qM{W x e s c s' c':Rat}(hW:1<=W)(hx:ab x<=1)(hs:ab (s-W*sn x)<=e)(hc:ab (c-W*cs x)<=e)(he:8*(e*e)<=W)(bBE:(8*e+4*W)*vW<=1/4)
  (h1:ab (W*s'-2*(s*c))<=2*W) (h2:ab (W*c'-(W*W-2*(s*s)))<=2*W):ab (s'-W*sn (2*x))<=4*e+4/\ab (c'-W*cs (2*x))<=4*e+4:=by
 have bES:ab x<=4:=by grind
 have d1:=Ow bES;have d2:=Pv bES;have bs:=aBP bES;have bc:=aDW bES;have aQP:0<=e:=cFT (aM _) hs;have aQM:=vJ;generalize sn (2*x)=S2 at *;generalize cs (2*x)=C2 at *;generalize sn x=S at *;generalize cs x=C at *;obtain⟨a,ha⟩:∃a,a=s-W*S:=⟨_,rfl⟩;obtain⟨b,hb⟩:∃b,b=c-W*C:=⟨_,rfl⟩;rw[<-ha]at hs;rw[<-hb]at hc;have es:s=W*S+a:=by grind
 have ec:c=W*C+b:=by grind
 subst es;subst ec;have q1:=bZ (aM S) bs (aM b) hc;have q2:=bZ (aM C) bc (aM a) hs;have q3:=bZ (aM a) hs (aM b) hc;have q4:=bZ (aM S) bs (aM a) hs;have q5:=bZ (aM a) hs (aM a) hs;rw[<-fI]at q1 q2 q3 q4 q5;have aZJ:0<=W:=by grind
 have w1:∀{t r:Rat},ab t<=r->-(W*r)<=W*t/\W*t<=W*r:=fun {t r} h=>by
  rw[bW]at h;have:=aF aZJ (show 0<=r-t by grind);have:=aF aZJ (show 0<=r+t by grind);constructor <;> grind
 have k1:=w1 q1;have k2:=w1 q2;have k4:=w1 q4;have k6:=w1 (r:=W*vW) (t:=W*(S2-2*S*C)) (by
  have:=w1 d1;rw[bW];grind)
 have k7:=w1 (r:=W*(2*vW)) (t:=W*(C2-(1-2*(S*S)))) (by
  have:=w1 d2;rw[bW];grind)
 have hq:0<W:=by grind
 have z1:=aF aZJ (show 0<=1/4-(8*e+4*W)*vW by grind);rw[bW]at h1 h2 q3 q5;constructor
 ·rw[bW];constructor
  ·refine bV hq ?_;grind
  ·refine bV hq ?_;grind
 ·rw[bW];constructor
  ·refine bV hq ?_;grind
  ·refine bV hq ?_;grind
def sg(j:Nat):Rat:=if j%2=0 then 1 else -1
theorem aSP(j:Nat):ab (sg j)=1:=by unfold sg ab;split <;> split <;> grind
def iE(n w j:Nat):Nat:=2^w/n^(2*j+1)/(2*j+1)
def apart(n j:Nat):Rat:=1/((n^(2*j+1)*(2*j+1):Nat):Rat)
def Wy(n:Nat):Rat:=sum (fun j=>sg j*apart n j) K
theorem wU{n:Nat}(hn:0<n)(j:Nat):0<apart n j/\apart n j*((n^(2*j+1)*(2*j+1):Nat):Rat)=1:=by
 unfold apart;have h:0<n^(2*j+1)*(2*j+1):=cGG (bYO hn) (by omega);have h':(0:Rat)<((n^(2*j+1)*(2*j+1):Nat):Rat):=by exact_mod_cast h
 generalize ((n^(2*j+1)*(2*j+1):Nat):Rat)=q at *;have:q≠0:=by grind
 constructor
 ·have:=Rat.inv_pos.2 h';grind
 ·grind
theorem Qd{n:Nat}(hn:0<n)(w j:Nat):0<=((2^w:Nat):Rat)*apart n j-iE n w j/\((2^w:Nat):Rat)*apart n j-iE n w j<=1:=by
 obtain⟨h1,h2⟩:=wU hn j;have h:0<n^(2*j+1)*(2*j+1):=cGG (bYO hn) (by omega);obtain⟨d1,d2⟩:=xK (2^w) h;unfold iE;rw[cCA];have h':(0:Rat)<((n^(2*j+1)*(2*j+1):Nat):Rat):=by exact_mod_cast h
 generalize ((n^(2*j+1)*(2*j+1):Nat):Rat)=q at *;generalize ((2^w/(n^(2*j+1)*(2*j+1)):Nat):Rat)=t at *;generalize ((2^w:Nat):Rat)=W at *;have e:q*(W*apart n j)=W:=by
  rw[show q*(W*apart n j)=W*(apart n j*q) by grind,h2];grind
 refine⟨?_,?_⟩
 ·have:t<=W*apart n j:=bV h' (by grind);grind
 ·have:W*apart n j<=t+1:=bV h' (by grind);grind
theorem aAK{n:Nat}(hn:2<=n)(j:Nat):apart n (j+1)<=apart n j/2:=by
 obtain⟨h1,h2⟩:=wU (show 0<n by omega) j;obtain⟨h3,h4⟩:=wU (show 0<n by omega) (j+1);have hle:2*(n^(2*j+1)*(2*j+1))<=n^(2*(j+1)+1)*(2*(j+1)+1):=by
  have e:n^(2*(j+1)+1)=n^(2*j+1)*(n*n):=by
   rw[show 2*(j+1)+1=(2*j+1)+2 by omega,cAQ,cGL]
  have bKO:4<=n*n:=cFZ hn hn;rw[e,cAR,cFB];refine bYC _ ?_;have:4*(2*(j+1)+1)<=n*n*(2*(j+1)+1):=bXD _ bKO;omega
 have hle':(2:Rat)*((n^(2*j+1)*(2*j+1):Nat):Rat)<=((n^(2*(j+1)+1)*(2*(j+1)+1):Nat):Rat):=by exact_mod_cast hle
 generalize ((n^(2*j+1)*(2*j+1):Nat):Rat)=p at *;generalize ((n^(2*(j+1)+1)*(2*(j+1)+1):Nat):Rat)=q at *;have hp:0<p:=by
  refine Rat.not_le.1 fun hn=>?_
  have:=aF (cFS h1) (show 0<=-p by grind);grind
 have:=aF (cFS h3) (show 0<=q-2*p by grind);refine bV hp ?_;grind
theorem aAJ{n:Nat}(hn:2<=n)(a m:Nat):sum (fun i=>apart n (a+i)) m<=2*apart n a:=by
 have hh:∀i,apart n (a+i)<=apart n a*hf i:=by
  intro i
  induction i with
  |zero=>simp only[hf,bWM];grind
  |succ i ih =>
   have:=aAK hn (a+i);rw[<-bZF,hf];grind
 have h1:sum (fun i=>apart n (a+i)) m<=sum (fun i=>apart n a*hf i) m:=vM fun k _=>hh k
 rw[mS]at h1;have h2:=(wU (show 0<n by omega) a).1;have:=aF (cFS h2) (show 0<=2-sum hf m by have:=bKT m;grind);grind
theorem aED{n:Nat}(hn:2<=n)(w:Nat){J:Nat}(hJ:J<=1048576)(hz:iE n w J=0):ab (sum (fun j=>sg j*(iE n w j:Rat)) J-((2^w:Nat):Rat)*Wy n)<=(J:Rat)+2:=by
 obtain⟨m,hm⟩:=bWT (show J<=K by rw[aYA];exact hJ);unfold Wy;rw[hm,kO];have h1:∀i,ab (sum (fun j=>sg j*(iE n w j:Rat)) i-((2^w:Nat):Rat)*sum (fun j=>sg j*apart n j) i)<=(i:Rat):=by
  intro i;rw[<-mS,<-Az];refine cFT (yA _ _) ?_
  induction i with
  |zero=>simp only[sum];grind
  |succ i ih =>
   rw[dO];obtain⟨a1,a2⟩:=Qd (show 0<n by omega) w i;have:ab (sg i*(iE n w i:Rat)-((2^w:Nat):Rat)*(sg i*apart n i))<=1:=by
    rw[show sg i*(iE n w i:Rat)-((2^w:Nat):Rat)*(sg i*apart n i)=sg i*(iE n w i-((2^w:Nat):Rat)*apart n i) by grind,fI,aSP];have b1:ab (iE n w i-((2^w:Nat):Rat)*apart n i)<=1:=by rw[bW];grind
    grind
   have hc:((i+1:Nat):Rat)=(i:Rat)+1:=by norm_cast
   rw[hc];grind
 have h2:ab (sum (fun i=>sg (J+i)*apart n (J+i)) m)<=2*apart n J:=by
  refine cFT (yA _ _) (cFT (vM fun k _=>?_) (aAJ hn J m));rw[fI,aSP,bG (cFS (wU (show 0<n by omega) _).1)];grind
 have h3:=(Qd (show 0<n by omega) w J).2;have h4:=h1 J;have h0:(0:Rat)<=((2^w:Nat):Rat):=by exact_mod_cast cBX _
 rw[hz]at h3;have Zf:((0:Nat):Rat)=0:=by norm_cast
 rw[Zf]at h3;rw[bW]at *;have b1:=aF h0 (show 0<=2*apart n J-sum (fun i=>sg (J+i)*apart n (J+i)) m by grind);have b2:=aF h0 (show 0<=2*apart n J+sum (fun i=>sg (J+i)*apart n (J+i)) m by grind);grind
end R
namespace R
def gI{α:Type}(n:Nat)(k:Nat->α):α:=Nat.rec (motive:=fun _=>α) (k 0) (fun m _=>k (m+1)) n
theorem eR{α:Type}(n:Nat)(k:Nat->α):gI n k=k n:=by cases n <;> rfl
def inner(q:Nat)(f:Nat):Nat->Nat->Nat->Nat×Nat:=Nat.rec (motive:=fun _=>Nat->Nat->Nat->Nat×Nat) (fun t s _=>(t,s))
 (fun _ ih t s i=>gI (t/q) fun u=>gI (u/q) fun v=>gI (s+t/i-u/(i+2)) fun s'=>gI (i+4) fun i'=>ih v s' i') f
def outer(q:Nat)(g:Nat)(f:Nat):Nat->Nat->Nat->Nat×Nat:=Nat.rec (motive:=fun _=>Nat->Nat->Nat->Nat×Nat) (fun t s _=>(t,s))
 (fun _ ih t s i=>Prod.rec (motive:=fun _=>Nat×Nat) (fun t' s'=>ih t' s' (i+4*g)) (inner q g t s i)) f
theorem aNE(n w:Nat){j:Nat}(hn:0<n):iE n w (j+1)<=iE n w j:=by
 unfold iE;refine bWK (cGD (show 2*j+1<=2*(j+1)+1 by omega) (by omega)) (Nat.div_le_div_right ?_);exact cGD (bYP hn (by omega)) (bYO hn)
def At(n w:Nat)(j:Nat)(t s:Nat):Prop:=t=2^w/n^(2*j+1)/\(s:Rat)=sum (fun j=>sg j*(iE n w j:Rat)) j/\j%2=0
theorem aRZ{n w j t s:Nat}(hn:0<n)(h:At n w j t s):At n w (j+2) (t/(n*n)/(n*n)) (s+t/(2*j+1)-t/(n*n)/(2*j+1+2)):=by
 obtain⟨h1,h2,h3⟩:=h;have e1:t/(n*n)=2^w/n^(2*(j+1)+1):=by
  rw[h1,cCA,show 2*(j+1)+1=2*j+1+2 by omega,cAQ _ (2*j+1) 2,cGL]
 have e2:t/(n*n)/(n*n)=2^w/n^(2*(j+2)+1):=by
  rw[e1,cCA,show 2*(j+2)+1=2*(j+1)+1+2 by omega,cAQ _ (2*(j+1)+1) 2,cGL]
 refine⟨e2,?_,by omega⟩;have a1:t/(2*j+1)=iE n w j:=by rw[h1];rfl
 have a2:t/(n*n)/(2*j+1+2)=iE n w (j+1):=by rw[e1];rfl
 rw[a1,a2,dO,dO,<-h2];have hle:=aNE n w (j:=j) hn;have:((s+iE n w j-iE n w (j+1):Nat):Rat)+(iE n w (j+1):Rat)=(s:Rat)+(iE n w j:Rat):=by
  exact_mod_cast(show s+iE n w j-iE n w (j+1)+iE n w (j+1)=s+iE n w j by omega)
 have g1:sg j=1:=by unfold sg;rw[if_pos h3]
 have g2:sg (j+1)=-1:=by unfold sg;rw[aW]
 rw[g1,g2];grind
theorem Ze(q f t s i:Nat):inner q (f+1) t s i=gI (t/q) fun u=>gI (u/q) fun v=>gI (s+t/i-u/(i+2)) fun s'=>gI (i+4) fun i'=>inner q f v s' i':=rfl
theorem Yv(q g f t s i:Nat):outer q g (f+1) t s i=outer q g f (inner q g t s i).1 (inner q g t s i).2 (i+4*g):=rfl
theorem aKE{n w:Nat}(hn:0<n):∀(f j t s:Nat),At n w j t s->At n w (j+2*f) (inner (n*n) f t s (2*j+1)).1 (inner (n*n) f t s (2*j+1)).2:=by
 intro f
 induction f with
 |zero=>intro j t s h;exact h
 |succ f ih =>
  intro j t s h;have e:inner (n*n) (f+1) t s (2*j+1)=inner (n*n) f (t/(n*n)/(n*n)) (s+t/(2*j+1)-t/(n*n)/(2*j+1+2)) (2*(j+2)+1):=by
   rw[Ze,eR,eR,eR,eR];rfl
  rw[e,show j+2*(f+1)=(j+2)+2*f by omega];exact ih _ _ _ (aRZ hn h)
theorem aJK{n w:Nat}(hn:0<n)(g:Nat):∀(f j t s:Nat),At n w j t s->At n w (j+2*(g*f)) (outer (n*n) g f t s (2*j+1)).1 (outer (n*n) g f t s (2*j+1)).2:=by
 intro f
 induction f with
 |zero=>intro j t s h;exact h
 |succ f ih =>
  intro j t s h;have e:outer (n*n) g (f+1) t s (2*j+1)=outer (n*n) g f (inner (n*n) g t s (2*j+1)).1 (inner (n*n) g t s (2*j+1)).2 (2*(j+2*g)+1):=by
   rw[Yv,show 2*j+1+4*g=2*(j+2*g)+1 by omega]
  rw[e,show j+2*(g*(f+1))=(j+2*g)+2*(g*f) by rw[Nat.mul_succ];omega];exact ih _ _ _ (aKE hn g j t s h)
def Yc(n w g f:Nat):Nat×Nat:=outer (n*n) g f (2^w/n) 0 1
theorem Gw{n:Nat}(hn:2<=n)(w g f:Nat)(hJ:2*(g*f)<=1048576)(hz:(Yc n w g f).1=0):ab (((Yc n w g f).2:Rat)-((2^w:Nat):Rat)*Wy n)<=((2*(g*f):Nat):Rat)+2:=by
 have h:=aJK (n:=n) (w:=w) (by omega) g f 0 (2^w/n) 0 ⟨by rw[Nat.mul_zero,Nat.pow_one],by simp only[sum];norm_cast,rfl⟩;obtain⟨h1,h2,_⟩:=h;rw[bVQ]at h1 h2;have h3:(Yc n w g f).2=(outer (n*n) g f (2^w/n) 0 (2*0+1)).2:=rfl;have h4:(Yc n w g f).1=(outer (n*n) g f (2^w/n) 0 (2*0+1)).1:=rfl;rw[h3,h2];rw[h4,h1]at hz;rw[bVQ]at hz ⊢;refine aED hn w hJ ?_;unfold iE;rw[hz,cFC]
def Qv(u w:Nat)(f:Nat):Nat->Nat->Nat->Nat->Nat×Nat×Nat:=Nat.rec (motive:=fun _=>Nat->Nat->Nat->Nat->Nat×Nat×Nat) (fun t c s _=>(t,c,s))
 (fun _ ih t c s k=>gI (t*u/w/(k+1)) fun t1=>gI (t1*u/w/(k+2)) fun t2=>gI (t2*u/w/(k+3)) fun t3=>gI (t3*u/w/(k+4)) fun t4=>gI (c+t-t2) fun c'=>gI (s+t1-t3) fun s'=>gI (k+4) fun k'=>ih t4 c' s' k') f
def Gk(w:Nat)(h:Nat):Nat->Nat->Nat×Nat:=Nat.rec (motive:=fun _=>Nat->Nat->Nat×Nat) (fun s c=>(s,c))
 (fun _ ih s c=>gI (2*(s*c/w)) fun s'=>gI (w-2*(s*s/w)) fun c'=>ih s' c') h
def aPB(x:Nat):Bool :=
 gI (x &&& (x >>> 1)) fun x=>gI (x &&& (x >>> 2)) fun x=>gI (x &&& (x >>> 4)) fun x=>gI (x &&& (x >>> 8)) fun x=>bVP (x &&& (x >>> 8)) 0
def aUK(P w:Nat):Bool :=
 gI (P/2^102) fun u=>gI (2^w) fun W =>
 Prod.rec (motive:=fun _=>Bool) (fun t r=>Prod.rec (motive:=fun _=>Bool) (fun c s=>bVP t 0 &&
  Prod.rec (motive:=fun _=>Bool) (fun s' c'=>bVR (2*s'*s') (W*W+2^(w+240))&&(bVR (W*W) (2*s'*s'+2^(w+240))&&bVR 1 c')) (Gk W 100 s c)) r) (Qv u W 320 W 0 0 0)
def aXM(w:Nat):Bool :=
 Prod.rec (motive:=fun _=>Bool) (fun t5 s5=>Prod.rec (motive:=fun _=>Bool) (fun t239 lS=>Prod.rec (motive:=fun _=>Bool) (fun t18 aOD=>Prod.rec (motive:=fun _=>Bool) (fun t57 aOC =>
  bVP t5 0&&(bVP t239 0&&(bVP t18 0&&(bVP t57 0 &&
  gI (16*s5-4*lS) fun P=>gI (48*aOD+32*aOC-20*lS) fun G =>
  bVR P (G+2^24)&&(bVR G (P+2^24)&&gI (P/2^64) fun Q =>
  bVP ((P+2^40)/2^64) Q&&(bVP ((P-2^40)/2^64) Q&&(bVP (Q/2^(w-104)) 3454217652357&&(aPB Q&&(aPB (2^(w-62)-1-Q)&&aUK P w)))))))))
  (Yc 57 w 78 78)) (Yc 18 w 92 92)) (Yc 239 w 66 66)) (Yc 5 w 122 122)
def Kr(x n:Nat):Prop:=∀p,∃i,i<n/\x.testBit (p+i)=false
theorem wG{x a n:Nat}(h:Kr (x &&& (x >>> a)) n):Kr x (n+a):=by
 intro p;obtain⟨i,hi,hb⟩:=h p;rw[cGM,Nat.testBit_shiftRight,cHC]at hb;rcases hb with hb |hb
 ·exact⟨i,by omega,hb⟩
 ·exact⟨i+a,by omega,by rwa [show p+(i+a)=a+(p+i) by omega]⟩
theorem aBW{x:Nat}(h:aPB x=true):Kr x 24:=by
 unfold aPB at h;rw[eR,eR,eR,eR]at h;have h0:=bWD h;have n0:Kr ((((x &&& x >>> 1) &&& (x &&& x >>> 1) >>> 2) &&& ((x &&& x >>> 1) &&& (x &&& x >>> 1) >>> 2) >>> 4) &&& (((x &&& x >>> 1) &&& (x &&& x >>> 1) >>> 2) &&& ((x &&& x >>> 1) &&& (x &&& x >>> 1) >>> 2) >>> 4) >>> 8 &&& ((((x &&& x >>> 1) &&& (x &&& x >>> 1) >>> 2) &&& ((x &&& x >>> 1) &&& (x &&& x >>> 1) >>> 2) >>> 4) &&& (((x &&& x >>> 1) &&& (x &&& x >>> 1) >>> 2) &&& ((x &&& x >>> 1) &&& (x &&& x >>> 1) >>> 2) >>> 4) >>> 8) >>> 8) 1:=by
  rw[h0];exact fun p=>⟨0,by omega,by simp⟩
 exact wG (a:=1) (n:=23) (wG (a:=2) (n:=21) (wG (a:=4) (n:=17) (wG (a:=8) (n:=9) (wG (a:=8) (n:=1) n0))))
theorem Pg{x n:Nat}(h:Kr x n)(p:Nat):x/2^p%2^n≠2^n-1:=by
 intro hc;obtain⟨i,hi,hb⟩:=h p;have h1:(x/2^p%2^n).testBit i=true:=by
  rw[hc,cHD];exact decide_eq_true hi
 rw[cGH,cGN]at h1;rw[show p+i=i+p by omega]at hb;rw[hb]at h1;simp at h1
theorem aFZ{x L n p:Nat}(hx:x<2^L)(hp:p+n<=L)(h:(2^L-1-x)/2^p%2^n≠2^n-1):x/2^p%2^n≠0:=by
 intro hc;apply h;apply cGO;intro i;rw[cHD,cGH,cGN,show 2^L-1-x=2^L-(x+1) by omega,cHE hx];have h1:(x/2^p%2^n).testBit i=false:=by rw[hc];simp
 rw[cGH,cGN]at h1
 by_cases hi:i<n
 ·simp[hi]at h1 ⊢;exact⟨by omega,h1⟩
 ·simp[hi]
theorem aCH(h:Nat):((4^(h+1):Nat):Rat)=4*((4^h:Nat):Rat):=by
 rw[cAN,cFU];grind
theorem Iv(h:Nat):((2^(h+1):Nat):Rat)=2*((2^h:Nat):Rat):=by
 rw[cAN,cFU];grind
theorem Kl(b h:Nat)(hb:0<b):(1:Rat)<=((b^h:Nat):Rat):=by exact_mod_cast bYO hb
theorem Pu(w h s c:Nat):Gk w (h+1) s c=Gk w h (2*(s*c/w)) (w-2*(s*s/w)):=by
 show gI _ (fun s'=>gI _ fun c'=>Gk w h s' c')=_;rw[eR,eR]
theorem aMK{W s c:Nat}{x e:Rat}(hW:1<=W)(h0:0<=x)(h1:x<=1/2)(hs:ab ((s:Rat)-W*sn x)<=e)(hc:ab ((c:Rat)-W*cs x)<=e)(he:100*(e*e)<=(W:Rat))(bBE:(8*e+4*(W:Rat))*vW<=1/4) :
  ab (((2*(s*c/W):Nat):Rat)-W*sn (2*x))<=4*e+4/\ab (((W-2*(s*s/W):Nat):Rat)-W*cs (2*x))<=4*e+4/\2*(s*s/W)<=W:=by
 have bTP:(1:Rat)<=(W:Rat):=by exact_mod_cast hW
 have aQP:0<=e:=cFT (aM _) hs;have aTG:ab x<=1:=by rw[bG h0];grind
 have aFB:2*(s*s/W)<=W:=by
  have h2:=aBN h0 (by grind);have h3:=Jy h0 (by grind);rw[bW]at hs;have e1:e<=(W:Rat)/10:=by
   have:=Jv (a:=10*e) (b:=(W:Rat)) (by have:=aF (show 0<=(W:Rat)-1 by grind) (show 0<=(W:Rat) by grind);grind) (by grind);rw[bG (by grind)]at this;grind
  have e2:=aF (show 0<=(W:Rat) by grind) (show 0<=1/2-sn x by grind);have e3:(s:Rat)<=3/5*(W:Rat):=by grind
  have e4:(0:Rat)<=(s:Rat):=by exact_mod_cast cBX _
  have e5:=bZ e4 e3 e4 e3;have d:=(xK (s*s) (b:=W) (by omega)).1;rw[cFU]at d;have e6:(W:Rat)*(2*((s*s/W:Nat):Rat))<=(W:Rat)*(W:Rat):=by
   have:=aF (show 0<=(W:Rat) by grind) (show 0<=(W:Rat) by grind);grind
  have e7:=bV (show 0<(W:Rat) by grind) e6;exact_mod_cast e7
 have Xy:ab ((W:Rat)*((2*(s*c/W):Nat):Rat)-2*((s:Rat)*(c:Rat)))<=2*(W:Rat):=by
  obtain⟨d1,d2⟩:=xK (s*c) (b:=W) (by omega);rw[cFU]at d1 d2;rw[cFU,bW];have:((2:Nat):Rat)=2:=by norm_cast
  rw[this];constructor <;> grind
 have aQW:ab ((W:Rat)*((W-2*(s*s/W):Nat):Rat)-((W:Rat)*(W:Rat)-2*((s:Rat)*(s:Rat))))<=2*(W:Rat):=by
  obtain⟨d1,d2⟩:=xK (s*s) (b:=W) (by omega);have aTP:((W-2*(s*s/W):Nat):Rat)+2*((s*s/W:Nat):Rat)=(W:Rat):=by
   exact_mod_cast(show W-2*(s*s/W)+2*(s*s/W)=W by omega)
  rw[cFU]at d1 d2;generalize ((W-2*(s*s/W):Nat):Rat)=z at *;generalize ((s*s/W:Nat):Rat)=y at *;have:z=(W:Rat)-2*y:=by grind
  subst this;rw[bW];constructor <;> grind
 obtain⟨r1,r2⟩:=qM bTP aTG hs hc (by have:=aF aQP aQP;grind) bBE Xy aQW;exact⟨r1,r2,aFB⟩
theorem aDP{W:Nat}(hW:1<=W){E:Rat}(hE:100*(E*E)<=(W:Rat))(bBE:(8*E+4*(W:Rat))*vW<=1/4):∀(h:Nat) (x e:Rat) (s c:Nat),0<=x->((2^h:Nat):Rat)*x<=1->ab ((s:Rat)-W*sn x)<=e->ab ((c:Rat)-W*cs x)<=e->((4^h:Nat):Rat)*(e+2)<=E ->
  ab (((Gk W h s c).1:Rat)-W*sn (((2^h:Nat):Rat)*x))<=((4^h:Nat):Rat)*(e+2)-2/\ab (((Gk W h s c).2:Rat)-W*cs (((2^h:Nat):Rat)*x))<=((4^h:Nat):Rat)*(e+2)-2:=by
 intro h
 induction h with
 |zero =>
  intro x e s c h0 h1 hs hc bOD;rw[cFJ,show((1:Nat):Rat)*x=x by grind];have:((1:Nat):Rat)=1:=by norm_cast
  rw[this];exact⟨by show ab ((s:Rat)-_)<=_;grind,by show ab ((c:Rat)-_)<=_;grind⟩
 |succ h ih =>
  intro x e s c h0 h1 hs hc bOD;rw[Iv]at h1;rw[aCH]at bOD;have aQP:0<=e:=cFT (aM _) hs;have g2:=Kl 2 h (by omega);have g4:=Kl 4 h (by omega);have aGZ:x<=1/2:=by
   have:=aF (show 0<=((2^h:Nat):Rat)-1 by grind) h0;grind
  have aQN:e<=E:=by
   have:=aF (show 0<=((4^h:Nat):Rat)-1 by grind) (show 0<=e+2 by grind);grind
  have bMX:=bZ aQP aQN aQP aQN;have aQM:=vJ;have hsm2:=aF (show 0<=E-e by grind) (cFS aQM);obtain⟨r1,r2,_⟩:=aMK hW h0 aGZ hs hc (by grind) (by grind);have:=ih (2*x) (4*e+4) _ _ (by grind) (by grind) r1 r2 (by grind);rw[Pu,Iv,aCH,show 2*((2^h:Nat):Rat)*x=((2^h:Nat):Rat)*(2*x) by grind];refine⟨cFT this.1 ?_,cFT this.2 ?_⟩ <;> grind
theorem Ju{u W:Nat}(h:u<=W)(k:Nat):sq u W (k+1)<=sq u W k:=by
 rw[sq];refine bWK (cFV _ _) ?_
 by_cases hW:W=0
 ·rw[hW,Nat.div_zero];omega
 ·exact Nat.div_le_of_le_mul (by rw[cAM];exact bXD _ h)
theorem aEK(u w f t c s k:Nat):Qv u w (f+1) t c s k=gI (t*u/w/(k+1)) fun t1=>gI (t1*u/w/(k+2)) fun t2=>gI (t2*u/w/(k+3)) fun t3=>gI (t3*u/w/(k+4)) fun t4=>gI (c+t-t2) fun c'=>gI (s+t1-t3) fun s'=>gI (k+4) fun k'=>Qv u w f t4 c' s' k':=rfl
theorem aOX{u W:Nat}(hu:u<=W):∀(f k t c s:Nat),k%4=0->t=sq u W k->(c:Rat)=sum (fun k=>cc k*(sq u W k:Rat)) k->(s:Rat)=sum (fun k=>ss k*(sq u W k:Rat)) k ->
  (Qv u W f t c s k).1=sq u W (k+4*f)/\(((Qv u W f t c s k).2.1:Nat):Rat)=sum (fun k=>cc k*(sq u W k:Rat)) (k+4*f)/\(((Qv u W f t c s k).2.2:Nat):Rat)=sum (fun k=>ss k*(sq u W k:Rat)) (k+4*f):=by
 intro f
 induction f with
 |zero=>intro k t c s _ h1 h2 h3;exact⟨h1,h2,h3⟩
 |succ f ih =>
  intro k t c s hk h1 h2 h3;have e:Qv u W (f+1) t c s k=Qv u W f (sq u W (k+4)) (c+sq u W k-sq u W (k+2)) (s+sq u W (k+1)-sq u W (k+3)) (k+4):=by
   rw[aEK,eR,eR,eR,eR,eR,eR,eR,h1];rfl
  have l1:sq u W (k+1)<=sq u W k:=Ju hu k;have l2:sq u W (k+2)<=sq u W (k+1):=Ju hu (k+1);have l3:sq u W (k+3)<=sq u W (k+2):=Ju hu (k+2);rw[e,show k+4*(f+1)=k+4+4*f by omega];have c0:cc k=1/\cc (k+1)=0/\cc (k+2)=-1/\cc (k+3)=0:=by
   unfold cc;refine⟨?_,?_,?_,?_⟩
   ·rw[if_pos hk]
   ·rw[aW,aW]
   ·rw[aW,aU]
   ·rw[aW,aW]
  have s0:ss k=0/\ss (k+1)=1/\ss (k+2)=0/\ss (k+3)=-1:=by
   unfold ss;refine⟨?_,?_,?_,?_⟩
   ·rw[aW,aW]
   ·rw[aU]
   ·rw[aW,aW]
   ·rw[aW,aU]
  refine ih (k+4) _ _ _ (by omega) rfl ?_ ?_
  ·rw[dO,dO,dO,dO,<-h2,c0.1,c0.2.1,c0.2.2.1,c0.2.2.2];have:((c+sq u W k-sq u W (k+2):Nat):Rat)+(sq u W (k+2):Rat)=(c:Rat)+(sq u W k:Rat):=by exact_mod_cast(show c+sq u W k-sq u W (k+2)+sq u W (k+2)=c+sq u W k by omega)
   grind
  ·rw[dO,dO,dO,dO,<-h3,s0.1,s0.2.1,s0.2.2.1,s0.2.2.2];have:((s+sq u W (k+1)-sq u W (k+3):Nat):Rat)+(sq u W (k+3):Rat)=(s:Rat)+(sq u W (k+1):Rat):=by exact_mod_cast(show s+sq u W (k+1)-sq u W (k+3)+sq u W (k+3)=s+sq u W (k+1) by omega)
   grind
set_option maxRecDepth 10000
def pi:Rat:=16*Wy 5-4*Wy 239
def bGP:Rat:=48*Wy 18+32*Wy 57-20*Wy 239
theorem fD{a b:Bool}(h:(a&&b)=true):a=true/\b=true:=by simpa using h
structure Tm(w:Nat)(Q:Nat):Prop where
 lo:(Q:Rat)<=((2^(w-64):Nat):Rat)*pi
 hi:((2^(w-64):Nat):Rat)*pi<(Q:Rat)+1
 gauss:ab (((2^w:Nat):Rat)*(pi-bGP))<=33554432
 top:Q/2^(w-104)=3454217652357
 bGT:Kr Q 24
 aPU:Kr (2^(w-62)-1-Q) 24
 cos:ab (((2^w:Nat):Rat)*cs (pi/2))<=((2^250:Nat):Rat)
theorem tG(w:Nat)(hw:64<=w):2^w=2^64*2^(w-64):=by rw[<-cAQ];congr 1;omega
theorem aCL{u W:Nat}(hW:0<W):∃x:Rat,x*(W:Rat)=(u:Rat)/\0<=x:=by
 have h:(0:Rat)<(W:Rat):=by exact_mod_cast hW
 have h1:(W:Rat)≠0:=by grind
 refine⟨(u:Rat)/(W:Rat),cHF h1,?_⟩;have hu:(0:Rat)<=(u:Rat):=by exact_mod_cast cBX _
 refine Rat.not_lt.1 fun hn=>?_
 have:=cFX h (show 0 < -((u:Rat)/(W:Rat)) by grind);have e:(u:Rat)/(W:Rat)*(W:Rat)=u:=cHF h1;grind
theorem aDN{w:Nat}(hw:w<=1000000):((2^w:Nat):Rat)*vW<=1/1048576:=by
 have h1:=Bg (n:=w+20) (by omega);have h2:=Rx w;have h3:=Lk w 20;have h4:hf 20=1/1048576:=by simp only[hf];grind
 have h5:(0:Rat)<=((2^w:Nat):Rat):=by exact_mod_cast cBX _
 have h6:=aF h5 (show 0<=hf (w+20)-vW by grind);rw[h3,h4]at h6;generalize ((2^w:Nat):Rat)=W at *;generalize hf w=H at *;clear h1 h3 h4;grind
theorem Uk{W E:Rat}(h:E<=W)(aQM:W*vW<=1/1048576):(8*E+4*W)*vW<=1/4:=by
 have:=aF (show 0<=W-E by grind) (cFS vJ);grind
theorem aRM{W u P p x y:Rat}(hx:x*W=u)(hy:y=1267650600228229401496703205376*x)(v1:u*5070602400912917605986812821504<=P)(v2:P<u*5070602400912917605986812821504+5070602400912917605986812821504)(hp:ab (P-W*p)<=524288):ab (W*(p/2-2*y))<=10141204801825835211973625643008:=by
 rw[bW]at hp ⊢;subst hy;have:W*(p/2-2*(1267650600228229401496703205376*x))=W*p/2-2535301200456458802993406410752*u:=by rw[<-hx];grind
 rw[this];grind
theorem aXH{w P:Nat}(hw:1000<=w)(aTH:w<=1000000)(hP:P<3454217652358*2^(w-40)){p:Rat}(hp:ab ((P:Rat)-((2^w:Nat):Rat)*p)<=524288)(h:aUK P w=true):ab (((2^w:Nat):Rat)*cs (p/2))<=((2^250:Nat):Rat):=by
 unfold aUK at h;rw[eR,eR]at h;have aOI:0<2^w:=cX;have aKN:P/2^102*2^102<=P:=cGP P (2^102);have bEW:P<P/2^102*2^102+2^102:=cGQ (cX);have bUX:2^w=2^40*2^(w-40):=by rw[<-cAQ];congr 1;omega
 have bMQ:P/2^102*2^100<=2^w:=by
  rw[show 2^102=4*2^100 from rfl,show 2^40=1099511627776 from rfl]at *;generalize 2^100=b at *;generalize 2^(w-40)=q at *;generalize P/(4*b)=u at *;have:u*(4*b)=4*(u*b):=by rw[cFB]
  omega
 obtain⟨x,hx,Ua⟩:=aCL (u:=P/2^102) aOI;have ht:=aOX (u:=P/2^102) (W:=2^w) (by omega) 320 0 (2^w) 0 0 rfl rfl (by simp only[sum];norm_cast) (by simp only[sum];norm_cast);generalize Qv (P/2^102) (2^w) 320 (2^w) 0 0 0=T at *;obtain⟨t,c,s⟩:=T;dsimp only at h ht;rw[bVQ,show 4*320=1280 from rfl]at ht;obtain⟨ht0,bMT,bEX⟩:=ht;obtain⟨z0,h⟩:=fD h;have z0:=bWD z0;rw[z0]at ht0;have hW:(0:Rat)<((2^w:Nat):Rat):=by exact_mod_cast aOI
 have bEU:((2^100:Nat):Rat)*x<=1:=by
  refine bV hW ?_;have h1:((P/2^102:Nat):Rat)*((2^100:Nat):Rat)<=((2^w:Nat):Rat):=by exact_mod_cast bMQ
  grind
 have aGZ:x<=1/2:=by
  have n1:((2^100:Nat):Rat)=1267650600228229401496703205376:=by norm_cast
  rw[n1]at bEU;grind
 have ec:=aIN aOI hx Ua aGZ (n:=1280) (by omega) (by omega) ht0.symm;have es:=aIM aOI hx Ua aGZ (n:=1280) (by omega) (by omega) ht0.symm;rw[<-bMT]at ec;rw[<-bEX]at es;have aSY:((1280:Nat):Rat)=1280:=by norm_cast
 rw[aSY]at ec es;have aQM:=aDN aTH;have n4:((4^100:Nat):Rat)=1606938044258990275541962092341162602522202993782792835301376:=by norm_cast
 have aWN:(100000000000000000000000000000000000000000000000000000000000000000000000000000000000000000000000000000000000000000000000000000000000000000000000000000000000000000000000000000000000000000000000000000000:Rat)<=((2^w:Nat):Rat):=by
  have e:2^w=2^200*(2^200*(2^200*(2^200*2^(w-800)))):=by simp only[<-cAQ];congr 1;omega
  have h1:100000000000000000000000000000000000000000000000000000000000000000000000000000000000000000000000000000000000000000000000000000000000000000000000000000000000000000000000000000000000000000000000000000000<=2^200*(2^200*(2^200*(2^200*1))):=bXM rfl;have h2:100000000000000000000000000000000000000000000000000000000000000000000000000000000000000000000000000000000000000000000000000000000000000000000000000000000000000000000000000000000000000000000000000000000<=2^w:=by
   rw[e];exact bWK h1 (bYC _ (bYC _ (bYC _ (bYC _ (cX)))))
  exact_mod_cast h2
 have hepp:=vJ;have hept:=Ef;have hd:=aDP (W:=2^w) aOI (E:=4499426523925172771517493858555255287062168382591819938843852800) (cFT (by grind) aWN) (Uk (cFT (by grind) aWN) aQM) 100 x 2564 s c Ua bEU (by grind) (by grind) (by rw[n4];grind);generalize Gk (2^w) 100 s c=R at *;obtain⟨s',c'⟩:=R;dsimp only at h hd;obtain⟨k1,h⟩:=fD h;obtain⟨k2,k3⟩:=fD h;have k1:=bXM k1;have k2:=bXM k2;have rP:=hd.1;rw[n4]at rP;have bAN:((2^100:Nat):Rat)=1267650600228229401496703205376:=by norm_cast
 rw[bAN]at rP bEU;obtain⟨y,hy⟩:∃y:Rat,y=1267650600228229401496703205376*x:=⟨_,rfl⟩;rw[<-hy]at rP bEU;have aTE:0<=y:=by grind
 have bNP:=Pv (x:=y) (by rw[bG aTE];grind);have bMF:2*(s':Rat)*(s':Rat)<=((2^w:Nat):Rat)*((2^w:Nat):Rat)+((2^w:Nat):Rat)*((2^240:Nat):Rat):=by
  rw[cAQ]at k1;exact_mod_cast k1
 have bME:((2^w:Nat):Rat)*((2^w:Nat):Rat)<=2*(s':Rat)*(s':Rat)+((2^w:Nat):Rat)*((2^240:Nat):Rat):=by
  rw[cAQ]at k2;exact_mod_cast k2
 have bAM:((2^240:Nat):Rat)=1766847064778384329583297500742918515827483896875618958121606201292619776:=by norm_cast
 have bAL:((2^250:Nat):Rat)=1809251394333065553493296640760748560207343510400633813116524750123642650624:=by norm_cast
 rw[bAM]at bMF bME;rw[bAL];have aDD:ab (((2^w:Nat):Rat)*(p/2-2*y))<=10141204801825835211973625643008:=by
  have v1:((P/2^102:Nat):Rat)*((2^102:Nat):Rat)<=(P:Rat):=by exact_mod_cast aKN
  have v2:(P:Rat)<((P/2^102:Nat):Rat)*((2^102:Nat):Rat)+((2^102:Nat):Rat):=by exact_mod_cast bEW
  have bHA:((2^102:Nat):Rat)=5070602400912917605986812821504:=by norm_cast
  rw[bHA]at v1 v2;exact aRM hx hy v1 v2 hp
 generalize ((2^w:Nat):Rat)=W at *;have Xv:(0:Rat)<=(s':Rat):=by exact_mod_cast cBX _
 generalize (s':Rat)=S at *;clear hd k1 k2 k3 ec es bMT bEX aSY Ua aGZ aKN bEW bMQ bUX hx n4 bAN bAM bAL;have bTV:S<=W:=by
  refine Rat.not_lt.1 fun hn=>?_
  have:=bZ (cFS hW) (cFS hn) (cFS hW) (cFS hn);have:=aF (cFS hW) (show 0<=W-1000000000000000000000000000000000000000000000000000000000000000000000000000000000000000000 by grind);grind
 have aQR:ab (W*cs (2*y))<=56539106072908298546665520023773392506479484700019806659891398441363832832:=by
  obtain⟨a,ha⟩:∃a,a=S-W*sn y:=⟨_,rfl⟩;rw[<-ha]at rP;have eS:W*sn y=S-a:=by grind
  have q1:=bZ (aM S) (show ab S<=W by rwa [bG Xv]) (aM a) rP;have q2:=bZ (aM a) rP (aM a) rP;rw[<-fI]at q1 q2;have e2:W*(W*(1-2*(sn y*sn y)))=W*W-2*((S-a)*(S-a)):=by rw[<-eS];grind
  have w1:=aF (cFS hW) (cFS hW);rw[bW]at bNP q1 q2 ⊢;have w2:=aF w1 (show 0<=2*vW-(cs (2*y)-(1-2*(sn y*sn y))) by grind);have w3:=aF w1 (show 0<=2*vW+(cs (2*y)-(1-2*(sn y*sn y))) by grind);have w4:=aF (cFS hW) (show 0<=1/1048576-W*vW by grind);generalize cs (2*y)=C2 at *;generalize sn y=Sy at *;constructor
  ·refine bV hW ?_;grind
  ·refine bV hW ?_;grind
 have aTO:ab (p/2-2*y)<=1:=by
  have e3:ab (W*(p/2-2*y))=W*ab (p/2-2*y):=by rw[fI,bG (cFS hW)]
  rw[e3]at aDD;refine bV hW ?_;grind
 have aVJ:ab (2*y)<=4:=by rw[bG (by grind)];grind
 have aQT:=Gl aVJ (show ab (p/2-2*y)<=4 by grind);rw[show 2*y+(p/2-2*y)=p/2 by grind]at aQT;have b1:=Yk aTO;have b2:=aDW (show ab (p/2-2*y)<=4 by grind);have b3:=aBP aVJ;have m1:=bZ (aM _) aQR (aM _) b2;have m2:=bZ (aM _) b3 (aM _) b1;have m3:W*ab (p/2-2*y)<=10141204801825835211973625643008:=by
  rw[fI,bG (cFS hW)]at aDD;exact aDD
 rw[<-fI]at m1 m2;have m4:=aF (cFS hW) (show 0<=(1+vW)*ab (p/2-2*y)-ab (sn (2*y)*sn (p/2-2*y)) by grind);have m5:=aF (show 0<=1+vW by grind) (show 0<=10141204801825835211973625643008-W*ab (p/2-2*y) by grind);have l1:=By (sn (2*y)*sn (p/2-2*y));have l2:=nJ (sn (2*y)*sn (p/2-2*y));have m6:=aF (cFS hW) (show 0<=ab (sn (2*y)*sn (p/2-2*y))-sn (2*y)*sn (p/2-2*y) by grind);have m7:=aF (cFS hW) (show 0<=ab (sn (2*y)*sn (p/2-2*y))+sn (2*y)*sn (p/2-2*y) by grind);rw[bW]at aQT m1 ⊢;have m8:=aF (cFS hW) (show 0<=vW-(cs (p/2)-(cs (2*y)*cs (p/2-2*y)-sn (2*y)*sn (p/2-2*y))) by grind);have m9:=aF (cFS hW) (show 0<=vW+(cs (p/2)-(cs (2*y)*cs (p/2-2*y)-sn (2*y)*sn (p/2-2*y))) by grind);generalize cs (2*y)=C2 at *;generalize sn (2*y)*sn (p/2-2*y)=SS at *;generalize ab SS=aS at *;generalize cs (p/2-2*y)=Cd at *;generalize ab (p/2-2*y)=dd at *;generalize cs (p/2)=X at *;clear bNP rP bMF bME bTV aDD aTO b1 b2 b3 aVJ aQR;constructor <;> grind
theorem aLS{w:Nat}(hw:1000<=w)(aTH:w<=1000000)(h:aXM w=true):∃Q,Tm w Q:=by
 unfold aXM at h;have h5:=Gw (n:=5) (by omega) w 122 122 (by omega);have Sb:=Gw (n:=239) (by omega) w 66 66 (by omega);have bKR:=Gw (n:=18) (by omega) w 92 92 (by omega);have bKN:=Gw (n:=57) (by omega) w 78 78 (by omega);generalize Yc 5 w 122 122=A at *;generalize Yc 239 w 66 66=B at *;generalize Yc 18 w 92 92=C at *;generalize Yc 57 w 78 78=D at *;obtain⟨t5,s5⟩:=A;obtain⟨t239,lS⟩:=B;obtain⟨t18,aOD⟩:=C;obtain⟨t57,aOC⟩:=D;dsimp only at *;obtain⟨z5,h⟩:=fD h;obtain⟨aUB,h⟩:=fD h;obtain⟨bPD,h⟩:=fD h;obtain⟨bPC,h⟩:=fD h;rw[eR,eR]at h;obtain⟨g1,h⟩:=fD h;obtain⟨g2,h⟩:=fD h;rw[eR]at h;obtain⟨q1,h⟩:=fD h;obtain⟨q2,h⟩:=fD h;obtain⟨q3,h⟩:=fD h;obtain⟨r1,h⟩:=fD h;obtain⟨r2,bIA⟩:=fD h;have g1:=bXM g1;have g2:=bXM g2;have q1:=bWD q1;have q2:=bWD q2;have q3:=bWD q3;have h5:=h5 (bWD z5);have Sb:=Sb (bWD aUB);have bKR:=bKR (bWD bPD);have bKN:=bKN (bWD bPC);have aLK:ab (((16*s5-4*lS:Nat):Rat)-((2^w:Nat):Rat)*pi)<=524288:=by
  have qI:4*lS<=16*s5:=by
   refine bYI fun hn=>?_
   rw[show 16*s5-4*lS=0 by omega]at q3;simp at q3
  have hc:((16*s5-4*lS:Nat):Rat)+4*(lS:Rat)=16*(s5:Rat):=by exact_mod_cast(show 16*s5-4*lS+4*lS=16*s5 by omega)
  have n1:((2*(122*122):Nat):Rat)=29768:=by norm_cast
  have n2:((2*(66*66):Nat):Rat)=8712:=by norm_cast
  rw[n1]at h5;rw[n2]at Sb;unfold pi;rw[bW]at *;generalize ((2^w:Nat):Rat)=W at *;grind
 have bKJ:20*lS<=48*aOD+32*aOC->ab (((48*aOD+32*aOC-20*lS:Nat):Rat)-((2^w:Nat):Rat)*bGP)<=2097152:=by
  intro hle;have hc:((48*aOD+32*aOC-20*lS:Nat):Rat)+20*(lS:Rat)=48*(aOD:Rat)+32*(aOC:Rat):=by exact_mod_cast(show 48*aOD+32*aOC-20*lS+20*lS=48*aOD+32*aOC by omega)
  have n1:((2*(92*92):Nat):Rat)=16928:=by norm_cast
  have n3:((2*(78*78):Nat):Rat)=12168:=by norm_cast
  have n2:((2*(66*66):Nat):Rat)=8712:=by norm_cast
  rw[n1]at bKR;rw[n2]at Sb;rw[n3]at bKN;unfold bGP;rw[bW]at *;generalize ((2^w:Nat):Rat)=W at *;grind
 have hple:2^104<=16*s5-4*lS:=by
  refine bYI fun hn=>?_
  have:(16*s5-4*lS)/2^64<2^40:=cBG (by rw[<-cAQ];exact hn);have h2:(16*s5-4*lS)/2^64/2^(w-104)<=(16*s5-4*lS)/2^64:=cFV _ _;omega
 have bKI:20*lS<=48*aOD+32*aOC:=by omega
 have bKJ:=bKJ bKI;generalize hP:16*s5-4*lS=P at *;generalize 48*aOD+32*aOC-20*lS=G at *;have aMH:=tG w (by omega);refine⟨P/2^64,?_,?_,?_,q3,aBW r1,aBW r2,?_⟩
 ·have:2^64*(P/2^64)<=P-2^40:=by
   have:=cGI (P-2^40) (2^64);rwa [q2]at this
  have h2:2^64*(P/2^64)+2^40<=P:=by omega
  have h3:((2^64:Nat):Rat)*((P/2^64:Nat):Rat)+((2^40:Nat):Rat)<=(P:Rat):=by exact_mod_cast h2
  rw[aMH,cFU,bW]at aLK;have n1:((2^64:Nat):Rat)=18446744073709551616:=by norm_cast
  have n2:((2^40:Nat):Rat)=1099511627776:=by norm_cast
  rw[n1]at aLK h3;rw[n2]at h3;refine bV (q:=18446744073709551616) (by grind) ?_;generalize ((2^(w-64):Nat):Rat)=W at *;grind
 ·have:P+2^40<2^64*(P/2^64+1):=by
   have:=cGR (P+2^40) (show 0<2^64 by omega);rwa [q1]at this
  have h3:(P:Rat)+((2^40:Nat):Rat)<((2^64:Nat):Rat)*(((P/2^64:Nat):Rat)+1):=by exact_mod_cast this
  rw[aMH,cFU,bW]at aLK;have n1:((2^64:Nat):Rat)=18446744073709551616:=by norm_cast
  have n2:((2^40:Nat):Rat)=1099511627776:=by norm_cast
  rw[n1]at aLK h3;rw[n2]at h3;refine qO (q:=18446744073709551616) (by grind) ?_;generalize ((2^(w-64):Nat):Rat)=W at *;grind
 ·have c1:(P:Rat)<=(G:Rat)+((2^24:Nat):Rat):=by exact_mod_cast g1
  have c2:(G:Rat)<=(P:Rat)+((2^24:Nat):Rat):=by exact_mod_cast g2
  have n1:((2^24:Nat):Rat)=16777216:=by norm_cast
  rw[n1]at c1 c2;rw[bW]at *;generalize ((2^w:Nat):Rat)=W at *;grind
 ·refine aXH hw aTH ?_ aLK bIA;have h1:P/2^64/2^(w-104)<3454217652358:=by omega
  have h2:P/2^64<2^(w-104)*3454217652358:=(cGS (cX)).1 h1 |> fun h=>by rwa [cAM]at h
  have h3:P<2^64*(2^(w-104)*3454217652358):=by
   have:=(cGS (show 0<2^64 by omega)).1 h2;rwa [cAM]at this
  have e:2^(w-40)=2^64*2^(w-104):=by rw[<-cAQ];congr 1;omega
  rw[e,cAM,cAR];exact h3
theorem bVD:aXM 136064=true:=by kernel_rfl
theorem aCD:∃w,w=136064/\∃Q,Tm w Q:=⟨136064,rfl,aLS (by omega) (by omega) bVD⟩
def pw:Nat:=Classical.choose aCD
theorem Pa:pw=136064:=(Classical.choose_spec aCD).1
def pq:Nat:=Classical.choose (Classical.choose_spec aCD).2
theorem Fu:Tm pw pq:=Classical.choose_spec (Classical.choose_spec aCD).2
theorem gX:314159/100000<pi/\pi<314160/100000:=by
 have h:=Fu;have h1:=h.lo;have h2:=h.hi;have h3:=h.top;have e:2^(pw-64)=2^40*2^(pw-104):=by have:=Pa;rw[<-cAQ];congr 1;omega
 have hp:0<2^(pw-104):=cX;have l1:=cGP pq (2^(pw-104));have l2:=cGQ hp (a:=pq);rw[h3]at l1 l2;have bQK:(3454217652357:Rat)*((2^(pw-104):Nat):Rat)<=(pq:Rat):=by exact_mod_cast l1
 have bQJ:(pq:Rat)+1<=(3454217652357:Rat)*((2^(pw-104):Nat):Rat)+((2^(pw-104):Nat):Rat):=by exact_mod_cast l2
 rw[e,cFU]at h1 h2;have n40:((2^40:Nat):Rat)=1099511627776:=by norm_cast
 rw[n40]at h1 h2;have hq:(0:Rat)<((2^(pw-104):Nat):Rat):=by exact_mod_cast hp
 generalize ((2^(pw-104):Nat):Rat)=W at *;generalize (pq:Rat)=Q at *;clear h h3 e hp l1 l2 n40;constructor
 ·refine qO hq ?_;grind
 ·refine qO hq ?_;grind
def Eg:Rat:=hf (pw-264)
theorem aDO:0<Eg:=vR _
theorem Sk:1048576*vW<=Eg:=by
 have h1:=Lk (pw-264) 20;have h4:hf 20=1/1048576:=by simp only[hf];grind
 have h2:=Bg (n:=pw-264+20) (by rw[Pa];omega);rw[h1,h4]at h2;unfold Eg;grind
theorem Ps{n:Nat}(h:n<=135800):Eg<=hf n:=aLC (by rw[Pa];exact h)
theorem aLY:Eg<=1/1048576:=by
 have:=Ps (n:=20) (by omega);simp only[hf]at this;grind
theorem Mc:16384*ab (cs (pi/2))<=Eg:=by
 have h:=Fu.cos;have e:2^pw=2^(pw-264)*(2^250*2^14):=by
  have:=Pa;have e0:pw=pw-264+250+14:=by omega
  conv=>lhs;rw[e0,cAQ,cAQ]
  exact cAR _ _ _
 rw[fI,bG (show(0:Rat)<=((2^pw:Nat):Rat) by exact_mod_cast cBX _),e,cFU,cFU]at h;have bMB:((2^14:Nat):Rat)=16384:=by norm_cast
 have h2:=Rx (pw-264);have hq:(0:Rat)<((2^250:Nat):Rat):=by exact_mod_cast(cX)
 rw[bMB]at h;unfold Eg;have hp:=vR (pw-264);generalize hf (pw-264)=H at *;generalize ((2^(pw-264):Nat):Rat)=W at *;generalize ((2^250:Nat):Rat)=B at *;generalize ab (cs (pi/2))=X at *;clear bMB e;have h3:B*(16384*(W*X))<=B*1:=by grind
 have h4:=bV hq h3;have:=aF (cFS hp) (show 0<=1-16384*(W*X) by grind);have h5:H*W*X=X:=by rw[h2];grind
 grind
theorem Um:1024*ab (sn (pi/2)-1)<=Eg:=by
 obtain⟨p1,p2⟩:=gX;have a2:ab (pi/2)<=4:=by rw[bW];grind
 have h1:=aPL a2;have hc:=Mc;have he:=Sk;have het:=aLY;have hd:=Ow (x:=pi/4) (by rw[bW];grind);rw[show 2*(pi/4)=pi/2 by grind]at hd;have s1:=(zC (x:=pi/4) (by grind) (by grind)).1;have c1:=(Lz (x:=pi/4) (by grind) (by grind)).1;have bPL:=bZ (a:=0) (b:=pi/4) (c:=pi/4) (d:=pi/4) (by grind) (by grind) (by grind) (by grind);have q1:=bZ (a:=pi/4) (b:=4/5) (c:=pi/4) (d:=4/5) (by grind) (by grind) (by grind) (by grind);have q2:=bZ (a:=pi/4*(pi/4)) (b:=16/25) (c:=pi/4) (d:=4/5) (by grind) (by grind) (by grind) (by grind);have s2:1/2<=sn (pi/4):=by grind
 have c2:1/2<=cs (pi/4):=by grind
 have m:=bZ (by grind) s2 (by grind) c2;have qI:1/4<=sn (pi/2):=by rw[bW]at hd;have:=Ef;grind
 have bON:=bZ (aM (cs (pi/2))) (show ab (cs (pi/2))<=Eg/16384 by grind) (aM (cs (pi/2))) (show ab (cs (pi/2))<=1/16384 by grind);rw[<-fI]at bON;have l1:=By (cs (pi/2)*cs (pi/2));have bMX:ab (sn (pi/2)*sn (pi/2)-1)<=Eg/16384:=by
  have:=bGI (cs (pi/2));rw[bW]at h1 ⊢;grind
 have e:sn (pi/2)*sn (pi/2)-1=(sn (pi/2)-1)*(sn (pi/2)+1):=by grind
 rw[e,fI,bG (show 0<=sn (pi/2)+1 by grind)]at bMX;have m2:=aF (aM (sn (pi/2)-1)) (show 0<=sn (pi/2)+1-1 by grind);have m3:=aDO;clear e l1 bON hd s1 c1 bPL q1 q2 m h1 hc a2;generalize ab (sn (pi/2)-1)=d at *;grind
theorem aUE{x:Rat}(hx:ab x<=4):ab (sn (x+pi/2)-cs x)<=Eg:=by
 obtain⟨p1,p2⟩:=gX;have h:=aIW hx (show ab (pi/2)<=4 by rw[bW];grind);have hc:=Mc;have hs:=Um;have he:=Sk;have het:=Ef;have aQM:=vJ;have m1:=bZ (aM _) (aBP hx) (aM _) (show ab (cs (pi/2))<=Eg/16384 by grind);have m2:=bZ (aM _) (aDW hx) (aM _) (show ab (sn (pi/2)-1)<=Eg/1024 by grind);have m3:=aF (show 0<=Eg by grind) (show 0<=1/1048576-vW by grind);rw[<-fI]at m1 m2;rw[bW]at *;grind
theorem aUF{x:Rat}(hx:ab x<=4):ab (cs (x+pi/2)+sn x)<=Eg:=by
 obtain⟨p1,p2⟩:=gX;have h:=Gl hx (show ab (pi/2)<=4 by rw[bW];grind);have hc:=Mc;have hs:=Um;have he:=Sk;have het:=Ef;have aQM:=vJ;have m1:=bZ (aM _) (aDW hx) (aM _) (show ab (cs (pi/2))<=Eg/16384 by grind);have m2:=bZ (aM _) (aBP hx) (aM _) (show ab (sn (pi/2)-1)<=Eg/1024 by grind);have m3:=aF (show 0<=Eg by grind) (show 0<=1/1048576-vW by grind);rw[<-fI]at m1 m2;rw[bW]at *;grind
def rs(k:Int)(s c:Rat):Rat:=if k%4=0 then s else if k%4=1 then c else if k%4=2 then -s else -c
def rc(k:Int)(s c:Rat):Rat:=if k%4=0 then c else if k%4=1 then -s else if k%4=2 then -c else s
def Sf(x:Rat)(k:Int):Rat:=rs k (sn (x-(k:Rat)*(pi/2))) (cs (x-(k:Rat)*(pi/2)))
def Cf(x:Rat)(k:Int):Rat:=rc k (sn (x-(k:Rat)*(pi/2))) (cs (x-(k:Rat)*(pi/2)))
theorem aIS{x:Rat}{k:Int}(h:ab (x-(k:Rat)*(pi/2))<=2):ab (Sf x (k+1)-Sf x k)<=Eg/\ab (Cf x (k+1)-Cf x k)<=Eg:=by
 obtain⟨p1,p2⟩:=gX;obtain⟨y,hy⟩:∃y,y=x-((k+1:Int):Rat)*(pi/2):=⟨_,rfl⟩;have hk:((k+1:Int):Rat)=(k:Rat)+1:=by norm_cast
 have e:x-(k:Rat)*(pi/2)=y+pi/2:=by rw[hy,hk];grind
 have bMI:ab y<=4:=by rw[bW]at *;grind
 have h1:=aUE bMI;have h2:=aUF bMI;unfold Sf Cf;rw[<-hy,e];unfold rs rc;have hm:k%4=0\/k%4=1\/k%4=2\/k%4=3:=by omega
 have aTK:(k+1)%4=(k%4+1)%4:=by omega
 rw[aTK];rw[bW]at h1 h2;rcases hm with hm |hm |hm |hm <;> rw[hm] <;> simp <;> rw[bW,bW] <;> grind
theorem aUO{x:Rat}{k l:Int}(hk:ab (x-(k:Rat)*(pi/2))<=1)(hl:ab (x-(l:Rat)*(pi/2))<=1):ab (Sf x k-Sf x l)<=Eg/\ab (Cf x k-Cf x l)<=Eg:=by
 obtain⟨p1,p2⟩:=gX;have he:=aDO;have h3:l=k\/l=k+1\/k=l+1:=by
  have h1:(k:Rat)-(l:Rat)<2:=by
   refine Rat.not_le.1 fun hn=>?_
   have:=bZ (show(0:Rat)<=2 by grind) hn (show(0:Rat)<=3/2 by grind) (show 3/2<=pi/2 by grind);rw[bW]at *;grind
  have h2:(l:Rat)-(k:Rat)<2:=by
   refine Rat.not_le.1 fun hn=>?_
   have:=bZ (show(0:Rat)<=2 by grind) hn (show(0:Rat)<=3/2 by grind) (show 3/2<=pi/2 by grind);rw[bW]at *;grind
  have Xy:k-l<2:=by exact_mod_cast h1
  have aQW:l-k<2:=by exact_mod_cast h2
  omega
 rcases h3 with rfl |rfl |rfl
 ·rw[show Sf x l-Sf x l=0 by grind,show Cf x l-Cf x l=0 by grind,bG (by grind)];grind
 ·obtain⟨a,b⟩:=aIS (x:=x) (k:=k) (by rw[bW]at *;grind);rw[bW]at a b;rw[bW,bW];grind
 ·exact aIS (x:=x) (k:=l) (by rw[bW]at *;grind)
end R
namespace R
def pF(q:Nat):Nat:=pq/2^(pw-64-q)
theorem aFP{x:Rat}{Q m:Nat}(h1:(Q:Rat)<=((2^m:Nat):Rat)*x)(h2:((2^m:Nat):Rat)*x<(Q:Rat)+1):((Q/2^m:Nat):Rat)<=x/\x<((Q/2^m:Nat):Rat)+1:=by
 have hp:0<2^m:=cX;obtain⟨d1,d2⟩:=xK Q hp;have hq:(0:Rat)<((2^m:Nat):Rat):=by exact_mod_cast hp
 have hs:(Q:Rat)+1<=((2^m:Nat):Rat)*((Q/2^m:Nat):Rat)+((2^m:Nat):Rat):=by
  have:=cGR Q hp;exact_mod_cast(show Q+1<=2^m*(Q/2^m)+2^m by rw[cAO,bVY]at this;omega)
 constructor
 ·exact bV hq (by grind)
 ·exact qO hq (by grind)
theorem zH{q:Nat}(hq:q<=136000):(pF q:Rat)<=((2^q:Nat):Rat)*pi/\((2^q:Nat):Rat)*pi<(pF q:Rat)+1:=by
 have h:=Fu;have h1:=h.lo;have h2:=h.hi;have hw:=Pa;have e:2^(pw-64)=2^(pw-64-q)*2^q:=by rw[<-cAQ];congr 1;omega
 rw[e,cFU,cGT]at h1 h2;exact aFP h1 h2
theorem aUU{q:Nat}(hq:q+24<=136000):16777216*(pF q:Rat)+1<=((2^(q+24):Nat):Rat)*pi/\((2^(q+24):Nat):Rat)*pi<16777216*(pF q:Rat)+16777215:=by
 obtain⟨h1,h2⟩:=zH hq;have hw:=Pa;have e:pF q=pF (q+24)/2^24:=by
  unfold pF;rw[cCA,<-cAQ];congr 2;omega
 have bRY:pF (q+24)%2^24≠2^24-1:=Pg Fu.bGT _;have hx:pq<2^(pw-62):=by
  have h3:=Fu.top;have hp:0<2^(pw-104):=cX;have l2:=cGQ hp (a:=pq);rw[h3]at l2;have e:2^(pw-62)=4398046511104*2^(pw-104):=by
   rw[show 4398046511104=2^42 from rfl,<-cAQ];congr 1;omega
  omega
 have aFG:pF (q+24)%2^24≠0:=aFZ hx (by omega) (Pg Fu.aPU _);have hd:=cAT (pF (q+24)) (2^24);rw[<-e]at hd;have l1:16777216*pF q+1<=pF (q+24):=by omega
 have bBV:=bXW (pF (q+24)) (show 0<2^24 by omega);have l2:pF (q+24)+1<=16777216*pF q+16777215:=by omega
 have bQK:(16777216:Rat)*(pF q:Rat)+1<=(pF (q+24):Rat):=by exact_mod_cast l1
 have bQJ:(pF (q+24):Rat)+1<=(16777216:Rat)*(pF q:Rat)+16777215:=by exact_mod_cast l2
 grind
theorem bAH{q g X off:Nat}(hq:q+24<=136000)(hg:24<=g)(bIK:2*off<=2^(g-24))(hX:ab ((X:Rat)-((2^(q+g):Nat):Rat)*pi)<=(off:Rat)):off<=X/\(X-off)/2^g=pF q/\(X+off)/2^g=pF q:=by
 obtain⟨h1,h2⟩:=aUU hq;have e:2^(q+g)=2^(g-24)*2^(q+24):=by rw[<-cAQ];congr 1;omega
 have eg:2^g=2^(g-24)*16777216:=by rw[show 16777216=2^24 from rfl,<-cAQ];congr 1;omega
 rw[e,cFU,cGT,bW]at hX;have hG:(0:Rat)<=((2^(g-24):Nat):Rat):=by exact_mod_cast cBX _
 have ho:(2:Rat)*(off:Rat)<=((2^(g-24):Nat):Rat):=by exact_mod_cast bIK
 have m1:=aF hG (show 0<=((2^(q+24):Nat):Rat)*pi-(16777216*(pF q:Rat)+1) by grind);have bUE:(0:Rat)<((2^(g-24):Nat):Rat):=by exact_mod_cast cX
 have m2:=cFX bUE (show 0<16777216*(pF q:Rat)+16777215-((2^(q+24):Nat):Rat)*pi by grind);have r1:2^(g-24)*16777216*pF q+off<=X:=by
  have:((2^(g-24):Nat):Rat)*16777216*(pF q:Rat)+(off:Rat)<=(X:Rat):=by grind
  exact_mod_cast this
 have r2:X+off<2^(g-24)*16777216*(pF q+1):=by
  have:(X:Rat)+(off:Rat)<((2^(g-24):Nat):Rat)*16777216*((pF q:Rat)+1):=by grind
  exact_mod_cast this
 rw[eg];generalize 2^(g-24)*16777216=B at *;refine⟨by omega,?_,?_⟩
 ·refine cGE ?_ ?_
  ·rw[cAM];omega
  ·rw[cAM];omega
 ·refine cGE ?_ ?_
  ·rw[cAM];omega
  ·rw[cAM];omega
theorem aBK{u W:Nat}(h:2*u<=W)(hW:0<W):∀k,sq u W k*2^k<=W
 |0=>by simp[sq]
 |k+1=>by
  have ih:=aBK h hW k;have h1:sq u W (k+1)<=sq u W k/2:=by
   rw[sq];refine bWK (cFV _ _) ?_;rw[cHG (by omega)];have h2:=cGP (sq u W k*u) W;have h3:sq u W k*u*2<=sq u W k*W:=by
    rw[cAR];exact bYC _ (by omega)
   generalize sq u W k*u/W=z at *;have h4:z*2*W<=sq u W k*W:=by
    rw[cHH];omega
   exact Nat.le_of_mul_le_mul_right h4 hW
  have h2:sq u W (k+1)*2<=sq u W k:=by omega
  rw[cAN,cAM (2^k) 2,<-cAR];exact bWK (bXD _ h2) ih
theorem aBJ{u w:Nat}(h:2*u<=2^w):sq u (2^w) (w+1)=0:=by
 have h1:=aBK h (cX) (w+1);refine Nat.eq_zero_of_not_pos fun hp=>?_
 have:1*2^(w+1)<=sq u (2^w) (w+1)*2^(w+1):=bXD _ hp;rw[cAN]at this h1;have:=bYO (n:=w) (show 0<2 by omega);omega
theorem Ug{u W m:Nat}(h:sq u W m=0):∀k,sq u W (m+k)=0
 |0=>h
 |k+1=>by rw[<-bZF,sq,Ug h k];simp
theorem Lt(h:Nat):4^h=2^(2*h):=by rw[Nat.pow_mul]
theorem aEB{T:Rat}(hT0:0<=T)(bTU:T<=1){w1 h u s0 c0:Nat}(aKN:(u:Rat)<=((2^w1:Nat):Rat)*T)(bEW:((2^w1:Nat):Rat)*T<(u:Rat)+1)(hh:1<=h)(hw:w1+h<=1000000)(bET:4*h+50<=w1+h)
  (Xv:(s0:Rat)=sum (fun k=>ss k*(sq u (2^(w1+h)) k:Rat)) (w1+h+1)) (bCS:(c0:Rat)=sum (fun k=>cc k*(sq u (2^(w1+h)) k:Rat)) (w1+h+1)) :
  ab (((Gk (2^(w1+h)) h s0 c0).1:Rat)-((2^(w1+h):Nat):Rat)*sn T)<=((4^h*(2*(w1+h)+10):Nat):Rat)/\ab (((Gk (2^(w1+h)) h s0 c0).2:Rat)-((2^(w1+h):Nat):Rat)*cs T)<=((4^h*(2*(w1+h)+10):Nat):Rat):=by
 have aOI:0<2^(w1+h):=cX;have bDC:(0:Rat)<((2^w1:Nat):Rat):=by exact_mod_cast cX
 have eW:((2^(w1+h):Nat):Rat)=((2^w1:Nat):Rat)*((2^h:Nat):Rat):=by rw[cAQ,cFU]
 have g2:=Kl 2 h (by omega);have g2':(2:Rat)<=((2^h:Nat):Rat):=by
  exact_mod_cast(show 2<=2^h from bYP (n:=2) (by omega) hh)
 have bHU:u<=2^w1:=by
  have:=aF (cFS bDC) (show 0<=1-T by grind);have:(u:Rat)<=((2^w1:Nat):Rat):=by grind
  exact_mod_cast this
 have bHW:2*u<=2^(w1+h):=by
  have e:2^(w1+h)=2^w1*2^h:=cAQ _ _ _;have:2^w1*2<=2^w1*2^h:=bYC _ (bYP (n:=2) (by omega) hh);omega
 obtain⟨x,hx,Ua⟩:=aCL (u:=u) aOI;have bQU:((2^h:Nat):Rat)*x*((2^w1:Nat):Rat)=(u:Rat):=by rw[eW]at hx;grind
 have bAX:((2^h:Nat):Rat)*x<=1:=by
  have:(u:Rat)<=((2^w1:Nat):Rat):=by exact_mod_cast bHU
  refine bV bDC ?_;grind
 have aGZ:x<=1/2:=by
  have:=aF (show 0<=((2^h:Nat):Rat)-2 by grind) Ua;grind
 have hz:=aBJ bHW;have ec:=aIN aOI hx Ua aGZ (n:=w1+h+1) (by omega) (by omega) hz;have es:=aIM aOI hx Ua aGZ (n:=w1+h+1) (by omega) (by omega) hz;rw[<-bCS]at ec;rw[<-Xv]at es;have hn:((w1+h+1:Nat):Rat)=((w1+h:Nat):Rat)+1:=by norm_cast
 have Zh:((w1+h:Nat):Rat)<=1000000:=by exact_mod_cast hw
 have Br:(0:Rat)<=((w1+h:Nat):Rat):=by exact_mod_cast cBX _
 rw[hn]at ec es;have aQM:=aDN (w:=w1+h) (by omega);have e4:((4^h*(2*(w1+h)+10):Nat):Rat)=((4^h:Nat):Rat)*(2*((w1+h:Nat):Rat)+10):=by
  rw[cFU];congr 1;push_cast;grind
 have aLJ:((4^h:Nat):Rat)*((4^h:Nat):Rat)*1125899906842624<=((2^(w1+h):Nat):Rat):=by
  have:4^h*4^h*2^50<=2^(w1+h):=by
   rw[Lt,<-cAQ,<-cAQ];exact gO
  have bQD:(2^50:Nat)=1125899906842624:=by rfl
  rw[bQD]at this;exact_mod_cast this
 have g4:=Kl 4 h (by omega);have g42:((2^h:Nat):Rat)<=((4^h:Nat):Rat):=by exact_mod_cast Nat.pow_le_pow_left (show 2<=4 by omega) h
 have hq4:=aF (show 0<=((4^h:Nat):Rat) by grind) (show 0<=((4^h:Nat):Rat)-1 by grind);have hE:((4^h:Nat):Rat)*(2*((w1+h:Nat):Rat)+8)<=((4^h:Nat):Rat)*2097152:=by
  have:=aF (show 0<=((4^h:Nat):Rat) by grind) (show 0<=2097152-(2*((w1+h:Nat):Rat)+8) by grind);grind
 have bOC:0<=((4^h:Nat):Rat)*(2*((w1+h:Nat):Rat)+8):=aF (by grind) (by grind);have tY:100*(((4^h:Nat):Rat)*(2*((w1+h:Nat):Rat)+8)*(((4^h:Nat):Rat)*(2*((w1+h:Nat):Rat)+8)))<=((2^(w1+h):Nat):Rat):=by
  refine cFT ?_ aLJ;have:=bZ bOC hE bOC hE;grind
 have aDG:((4^h:Nat):Rat)*(2*((w1+h:Nat):Rat)+8)<=((2^(w1+h):Nat):Rat):=by
  refine cFT (cFT hE ?_) aLJ;grind
 have hd:=aDP (W:=2^(w1+h)) aOI tY (Uk aDG aQM) h x (2*((w1+h:Nat):Rat)+6) s0 c0 Ua bAX (cFT es (by grind)) (cFT ec (by grind)) (by grind);have hT:ab T<=1:=by rw[bG hT0];exact bTU
 have hX:ab (((2^h:Nat):Rat)*x)<=1:=by rw[bG (aF (by grind) Ua)];exact bAX
 have l1:=aBM hX hT;have l2:=aMP hX hT;have hd0:0<=T-((2^h:Nat):Rat)*x:=by
  have:((2^w1:Nat):Rat)*(((2^h:Nat):Rat)*x)<=((2^w1:Nat):Rat)*T:=by grind
  have:=bV bDC this;grind
 have bNQ:((2^(w1+h):Nat):Rat)*(T-((2^h:Nat):Rat)*x)<=((2^h:Nat):Rat):=by
  rw[eW];have:((2^w1:Nat):Rat)*(T-((2^h:Nat):Rat)*x)<=1:=by grind
  have:=aF (show 0<=((2^h:Nat):Rat) by grind) (show 0<=1-((2^w1:Nat):Rat)*(T-((2^h:Nat):Rat)*x) by grind);grind
 rw[bG hd0]at l1 l2;have hW:(0:Rat)<=((2^(w1+h):Nat):Rat):=by exact_mod_cast cBX _
 obtain⟨r1,r2⟩:=hd;rw[e4];clear aKN bEW tY aDG aLJ bQU hx eW ec es Xv bCS hz;generalize ((2^(w1+h):Nat):Rat)=W at *;generalize ((w1+h:Nat):Rat)=wr at *;generalize ((4^h:Nat):Rat)=F at *;generalize ((2^h:Nat):Rat)*x=y at *;generalize ((2^h:Nat):Rat)=H at *;rw[bW]at l1 l2 r1 r2;have m1:=aF hW (show 0<=2*(T-y)-(sn T-sn y) by grind);have m2:=aF hW (show 0<=2*(T-y)+(sn T-sn y) by grind);have m3:=aF hW (show 0<=(T-y+2*vW)-(cs T-cs y) by grind);have m4:=aF hW (show 0<=(T-y+2*vW)+(cs T-cs y) by grind);rw[bW,bW];refine⟨⟨?_,?_⟩,?_,?_⟩ <;> grind
end R
namespace R
def pz(e:Int):Rat:=if 0<=e then((2^e.toNat:Nat):Rat)else hf (-e).toNat
theorem lT(k:Nat):pz (k:Int)=((2^k:Nat):Rat):=by unfold pz;rw[aU,bZL]
theorem xG(k:Nat):pz (-(k:Int))=hf k:=by
 unfold pz
 by_cases h:k=0
 ·subst h;simp[hf]
 ·rw[aW,Int.neg_neg,bZL]
theorem fV:pz 0=1:=by rw[show(0:Int)=((0:Nat):Int)from rfl,lT];norm_cast
theorem dJ(e:Int):0<pz e:=by
 unfold pz;split
 ·exact_mod_cast cX
 ·exact vR _
theorem kF(e:Int):pz (e+1)=2*pz e:=by
 by_cases h:0<=e
 ·obtain⟨k,rfl⟩:=cAS h;rw[show(k:Int)+1=((k+1:Nat):Int) by omega,lT,lT,Iv]
 ·obtain⟨k,hk⟩:=cAS (show 0<=-e by omega);have e1:e=-(k:Int):=by omega
  subst e1;obtain⟨j,rfl⟩:∃j,k=j+1:=⟨k-1,by omega⟩;rw[show -((j+1:Nat):Int)+1=-(j:Int) by omega,xG,xG,hf];grind
theorem dY(a:Int):∀k:Nat,pz (a+k)=pz a*((2^k:Nat):Rat)
 |0=>by rw[show a+((0:Nat):Int)=a by omega,cFJ];grind
 |k+1=>by
  rw[show a+((k+1:Nat):Int)=(a+k)+1 by omega,kF,dY a k,Iv];grind
theorem jJ(a b:Int):pz (a+b)=pz a*pz b:=by
 by_cases h:0<=b
 ·obtain⟨k,rfl⟩:=cAS h;rw[dY,lT]
 ·obtain⟨k,hk⟩:=cAS (show 0<=-b by omega);have h1:=dY (a+b) k;rw[show a+b+(k:Int)=a by omega]at h1;have e1:b=-(k:Int):=by omega
  have h2:=Rx k;rw[show pz b=hf k by rw[e1,xG],h1];rw[cGT,Rat.mul_comm ((2^k:Nat):Rat),h2];grind
theorem cG{a b:Int}(h:a<=b):pz a<=pz b:=by
 obtain⟨k,hk⟩:=cAS (show 0<=b-a by omega);rw[show b=a+(k:Int) by omega,dY];have h1:=dJ a;have:=aF (cFS h1) (show 0<=((2^k:Nat):Rat)-1 by have:=Kl 2 k (by omega);grind);grind
theorem bAE(k:Nat):hf k=pz (-(k:Int)):=(xG k).symm
theorem Yu(e:Int):pz e*pz (-e)=1:=by rw[<-jJ,Int.add_right_neg,fV]
def qz(p:Int×Int):Rat:=(p.1:Rat)*pz p.2
theorem oC{p:Int×Int}(h:p.1=0):qz p=0:=by
 unfold qz;rw[h];have:((0:Int):Rat)=0:=by norm_cast
 rw[this];grind
theorem Ur{p q:Int×Int}{g:Int}(hp:g<=p.2)(hq:g<=q.2):qz p<=qz q↔p.1*((2^(p.2-g).toNat:Nat):Int)<=q.1*((2^(q.2-g).toNat:Nat):Int):=by
 unfold qz;have e1:pz p.2=pz g*((2^(p.2-g).toNat:Nat):Rat):=by
  rw[<-dY];congr 1;omega
 have e2:pz q.2=pz g*((2^(q.2-g).toNat:Nat):Rat):=by
  rw[<-dY];congr 1;omega
 have hg:=dJ g;have c1:((p.1*((2^(p.2-g).toNat:Nat):Int):Int):Rat)=(p.1:Rat)*((2^(p.2-g).toNat:Nat):Rat):=by push_cast;rfl
 have c2:((q.1*((2^(q.2-g).toNat:Nat):Int):Int):Rat)=(q.1:Rat)*((2^(q.2-g).toNat:Nat):Rat):=by push_cast;rfl
 rw[<-Rat.intCast_le_intCast,c1,c2,e1,e2];generalize ((2^(p.2-g).toNat:Nat):Rat)=x;generalize ((2^(q.2-g).toNat:Nat):Rat)=y;constructor
 ·intro h;exact bV hg (by grind)
 ·intro h;have:=aF (cFS hg) (show 0<=(q.1:Rat)*y-(p.1:Rat)*x by grind);grind
end R
namespace M
open Go AI W
def eF(p q:Int×Int):Int:=lH (bI.mY p q) (bI.mW p q)
def bA(p:Int×Int):Int:=p.2+(bl p.1.natAbs:Nat)-1
abbrev wV:=Bool×List Int×Int×Bool×List Int×Int
def gZ(s:wV):gE:=(s.1,s.2.1,s.2.2.1)
def hI(s:wV):gE:=(s.2.2.2.1,s.2.2.2.2.1,s.2.2.2.2.2)
def eQ(s:wV):Prop:=aQ (gZ s)/\aQ (hI s)/\eF (dv (gZ s)) (dv (hI s))<=0
def uX(a b:Int×Int):D:=.agg [.sc (.bool (isNeg a.1)),.ints .u64 (M6.dg a.1.natAbs),.sc (.int .i64 a.2),.sc (.bool (isNeg b.1)),.ints .u64 (M6.dg b.1.natAbs),.sc (.int .i64 b.2)]
def mN(a b:Int×Int):wV:=(isNeg a.1,M6.dg a.1.natAbs,a.2,isNeg b.1,M6.dg b.1.natAbs,b.2)
theorem oN(a b:Int×Int):dv (gZ (mN a b))=a:=dU a
theorem oO(a b:Int×Int):dv (hI (mN a b))=b:=dU b
theorem xF{a b:Int×Int}(ha:jK a)(hb:jK b)(h:eF a b<=0):eQ (mN a b):=by
 refine⟨dG ha,dG hb,?_⟩;rw[oN,oO];exact h
theorem eQ.uX{s:wV}(h:eQ s):M.uX (dv (gZ s)) (dv (hI s))=.agg [.sc (.bool s.1),.ints .u64 s.2.1,.sc (.int .i64 s.2.2.1),.sc (.bool s.2.2.2.1),.ints .u64 s.2.2.2.2.1,.sc (.int .i64 s.2.2.2.2.2)]:=by
 have h1:=h.1.Dh.cells;have h2:=h.2.1.Dh.cells;unfold M.uX;have e1:(dv (gZ s)).1=wv ((gZ s).1,(gZ s).2.1):=rfl;have e2:(dv (hI s)).1=wv ((hI s).1,(hI s).2.1):=rfl;rw[e1,e2,h1.1,h1.2,h2.1,h2.2];rfl
theorem aRR{a b:Int}:lH a b<=0↔a<=b:=by unfold lH;split <;> (try split) <;> omega
theorem aRS{a b:Int}:lH a b=0↔a=b:=by unfold lH;split <;> (try split) <;> omega
theorem Ji(p q:Int×Int):bI.gR p q<=p.2/\bI.gR p q<=q.2:=Rm
theorem kX{p q:Int×Int}:eF p q<=0↔R.qz p<=R.qz q:=by
 obtain⟨h1,h2⟩:=Ji p q;unfold eF;rw[aRR,R.Ur h1 h2];rfl
theorem xS{p q:Int×Int}:0<eF p q↔R.qz q<R.qz p:=by
 have:=kX (p:=p) (q:=q);constructor
 ·intro h;refine Rat.not_le.1 fun hn=>?_;have:=this.2 hn;omega
 ·intro h;refine Int.not_le.1 fun hn=>?_;exact Rat.not_lt.2 (this.1 hn) h
theorem Py(p:Int×Int):eF p p<=0:=kX.2 cGB
theorem oI(z e:Int):R.qz (aN z e)=(z:Rat)*R.pz e:=by
 by_cases hz:z=0
 ·subst hz;rw[fC,R.oC rfl];have:((0:Int):Rat)=0:=by norm_cast
  rw[this];grind
 ·obtain⟨h1,h2⟩:=lE (e:=e) hz;unfold R.qz;rw[h2]
  conv=>rhs;rw[h1]
  rw[Cq,R.dY,cGU,cGV];grind
theorem oW(p:Int×Int):R.qz (-p.1,p.2)=- R.qz p:=by
 unfold R.qz;rw[Rat.intCast_neg];grind
theorem Re(p q:Int×Int):R.qz (bI.nD p q)=R.qz p+R.qz q:=by
 unfold bI.nD;split
 ·rename_i h;rw[R.oC h];grind
 ·split
  ·rename_i h;rw[R.oC h];grind
  ·obtain⟨h1,h2⟩:=Ji p q;rw[oI];unfold bI.mY bI.mW R.qz;have e1:R.pz p.2=R.pz (bI.gR p q)*((2^(p.2-bI.gR p q).toNat:Nat):Rat):=by rw[<-R.dY];congr 1;omega
   have e2:R.pz q.2=R.pz (bI.gR p q)*((2^(q.2-bI.gR p q).toNat:Nat):Rat):=by rw[<-R.dY];congr 1;omega
   rw[e1,e2,Rat.intCast_add,cGU,cGU,cGV,cGV];grind
end M
open Go.Value(int bool slice)
open AI.S(sc ints)
namespace W
open Go AI M
namespace Ig
def E:=mE [] 11 [] [] []
def aE:=bd f52
theorem aX:Nk E aE:=nk
theorem start a:aH E f52 aE [D.s (sc (int i64 a))]=letI A:=int i64 0;aB (a==32) (some [D.agg [sc (int i64 24),sc (int i64 (-149:Int)),sc (int i64 31)]]) (aB (a==64) (some [D.agg [sc (int i64 53),sc (int i64 (-1074:Int)),sc (int i64 63)]]) (some [D.agg [sc A,sc A,sc A]])):=eJ aX
def Ix(f:Int):Int×Int×Int:=if f=32 then(24,-149,31)else if f=64 then(53,-1074,63)else(0,0,0)
def sp(f:Int):Prop×List D:=(True,[.agg [.sc (.int .i64 (Ix f).1),.sc (.int .i64 (Ix f).2.1),.sc (.int .i64 (Ix f).2.2)]])
theorem spec:jE E f52 aE (pN .i64) sp:=by
 intro f h;refine(start f).trans ?_;unfold sp Ix
 by_cases h1:f=32
 ·rw[cO h1,if_pos h1]
 ·rw[bN h1,if_neg h1]
  by_cases h2:f=64
  ·rw[cO h2,if_pos h2]
  ·rw[bN h2,if_neg h2]
def aJ:dK:=orc1 (pN .i64) sp
theorem ok:OK 52 aJ:=(eZ E aE aD func52).pU rfl spec
end Ig
namespace mK
def E:=mE [] 11 [] [] []
def aE:=bd f85
theorem aX:Nk E aE:=nk
theorem start a b c:aH E f85 aE [D.agg [sc (int i64 a),sc (int i64 b),sc (int i64 c)]]=if c<0 then none else if i64.wrap (a-1)<0 then none else some [D.s (sc (int u64 (u64.wrap (u64.wrap ((1:Int)*(↑((2:Nat)^min c.toNat 64):Int))-u64.wrap ((1:Int)*(↑((2:Nat)^min (i64.wrap (a-1)).toNat 64):Int))))))]:=eJ aX
def vB(w:Int×Int×Int):Prop:=w=(24,-149,31)\/w=(53,-1074,63)
def rN(w:Int×Int×Int):Int:=if w.1=24 then 2139095040 else 9218868437227405312
def sp(w:Int×Int×Int):Prop×List D:=(vB w,[.s (.sc (.int .u64 (rN w)))])
theorem spec:jE E f85 aE (pG (.pair (sN .i64) (.pair (sN .i64) (sN .i64)))) sp:=by
 intro w h;refine(start w.1 w.2.1 w.2.2).trans ?_;rcases(show vB w from h)with rfl |rfl <;> rfl
def aJ:dK:=orc1 (pG (.pair (sN .i64) (.pair (sN .i64) (sN .i64)))) sp
theorem ok:OK 85 aJ:=(eZ E aE aD func85).pU rfl spec
end mK
namespace aGK
def E:=mE [] 24 [] [(3,[0,1])] [3]
def aE:=bd f189
theorem aX:Nk E aE:=nk
def J3 a b:=mD E f189 aE 3 [iM a,bP b]
theorem start a b:aH E f189 aE [D.s (ints u64 a),D.s (sc (int i64 b))]=letI A:=some [D.s (sc (bool false))];aB (decide (b<0)) A (aB (decide ((a.length:Int)<=i64.wrap (b.tdiv 64))) A (aGK.J3 a b)):=eJ aX
theorem gU a b:J3 a b=letI A:=b.tdiv 64;if 0<=i64.wrap A/\i64.wrap A<(a.length:Int)then if b.tmod 64<(0:Int)then none else some [D.s (sc (bool (gA BinOp.and u64 (a.getD (i64.wrap A).toNat 0/(↑((2:Nat)^min (b.tmod 64).toNat 64):Int)) 1==(1:Int))))]else none:=cJ aX
def sp(a:List Int)(i:Int):Prop×List D:=(M6.cY a/\a.length<=1099511627776/\-9223372036854775808<=i/\i<9223372036854775808,[.s (.sc (.bool (decide (0<=i)&&decide (M6.val a/2^i.toNat%2=1))))])
theorem aSA{x:Int}(h:0<=x)(h':x<18446744073709551616):gA .and .u64 x 1=x%2:=by
 rw[Xe h h' (by omega) (by omega)];have:x.toNat &&& 1=x.toNat%2:=Nat.and_one_is_mod _;show((x.toNat &&& 1:Nat):Int)=_;rw[this];omega
theorem spec:gT E f189 aE (pI .u64) (pN .i64) sp:=by
 rintro a i ⟨ha,hl,h1,h2⟩;refine(start a i).trans ?_;show _=some [D.s (.sc (.bool (decide (0<=i)&&decide (M6.val a/2^i.toNat%2=1))))]
 by_cases hn:i<0
 ·rw[aP hn,decide_eq_false (show ¬0<=i by omega),cAV]
 ·have t1:i.tdiv 64=i/64:=cDZ (by omega);have t2:i.tmod 64=i%64:=cEA (by omega);have e1:(i/64).toNat=i.toNat/64:=by omega
  have e2:(i%64).toNat=i.toNat%64:=by omega
  have ps:2^i.toNat=18446744073709551616^(i.toNat/64)*2^(i.toNat%64):=by
   rw[show(18446744073709551616:Nat)=2^64 from rfl,<-Nat.pow_mul,<-cAQ];congr 1;omega
  rw[aL hn,decide_eq_true (show 0<=i by omega),bYQ,t1,wrap_i64 (n:=i/64),ps,<-cCA]
  by_cases hz:(a.length:Int)<=i/64
  ·have hv:M6.val a/18446744073709551616^(i.toNat/64)=0:=by
    apply cBI;exact bWL (M6.dT ha) (gO)
   rw[aP hz,hv,cFC];rfl
  ·have g:=ha.get (i.toNat/64);have hv:=M6.iZ a (n:=i.toNat/64) (by omega);have hq:M6.val a/18446744073709551616^(i.toNat/64)=M6.val (a.drop (i.toNat/64)):=by
    rw[hv,cCS _ _ (cX),cBI (M6.iN ha _),bVQ]
   rw[aL hz,gU,t1,t2,wrap_i64 (n:=i/64),aU,aW,e1,e2,hq,M6.jM];have em:min (i.toNat%64) 64=i.toNat%64:=by omega
   have jB:i.toNat%64<64:=bXW _ (by omega);rw[em];generalize i.toNat%64=k at *;generalize a.getD (i.toNat/64) 0=x at *;generalize M6.val (a.drop (i.toNat/64+1))=r at *;have hp:0<2^k:=cX;have e3:(x.toNat+18446744073709551616*r)/2^k%2=x.toNat/2^k%2:=by
    have:18446744073709551616*r=2^k*(2*(2^(63-k)*r)):=by
     rw[show(18446744073709551616:Nat)=2^64 from rfl,show 64=k+(1+(63-k))from by omega,cAQ,cAQ,cAR,cAR]
    rw[this,cCS _ _ hp];omega
   rw[e3];have ex:x/((2^k:Nat):Int)=((x.toNat/2^k:Nat):Int):=by
    obtain⟨n,rfl⟩:=cAS g.1;rw[<-cBO];rfl
   have hle:x.toNat/2^k<=x.toNat:=cFV _ _;rw[ex];clear ex e3 hq hv ps;generalize x.toNat/2^k=q at *;rw[aSA (by omega) (by omega)];congr 4
   by_cases h:q%2=1
   ·rw[decide_eq_true h];have:((q:Int)%2)=1:=by omega
    rw[this];rfl
   ·rw[decide_eq_false h];have:((q:Int)%2)=0:=by omega
    rw[this];rfl
def aJ:dK:=orc2 (pI .u64) (pN .i64) sp
theorem ok:OK 189 aJ:=(eZ E aE aD func189).mT rfl spec
end aGK
namespace mV
def E:=mE [] 34 [] [] []
def aE:=bd f225
theorem aX:Nk E aE:=nk
theorem start a b c d e:aH E f225 aE [D.s (sc (int i64 a)),D.s (sc (bool b)),D.s (sc (bool c)),D.s (sc (bool d)),D.s (sc (int i64 e))]=letI B:=some [D.s (sc (bool d))];letI A:=some [D.s (sc (bool false))];aB (a==0) (aB b B A) (aB (a==1) (aB (!b) B A) (aB (decide (0<e)) (some [D.s (sc (bool true))]) (aB (e==0) (some [D.s (sc (bool c))]) A))):=eJ aX
def mU(w:Int)(neg bQB rest:Bool)(half:Int):Bool:=bif w==0 then neg&&rest else bif w==1 then !neg&&rest else(decide (0<half)||(half==0&&bQB))
def sp(a:Int)(b c d:Bool)(e:Int):Prop×List D:=(True,[.s (.sc (.bool (mU a b c d e)))])
theorem spec(a:Int)(b c d:Bool)(e:Int)(h:(sp a b c d e).1):aH E f225 aE [(pN .i64).put a,pB.put b,pB.put c,pB.put d,(pN .i64).put e]=some (sp a b c d e).2:=by
 refine(start a b c d e).trans ?_;show _=some [D.s (.sc (.bool (mU a b c d e)))];unfold mU aB;cases (a==0) <;> cases (a==1) <;> cases b <;> cases c <;> cases d <;> cases (decide (0<e)) <;> cases (e==0) <;> rfl
def aJ:dK:=orc5 (pN .i64) pB pB pB (pN .i64) sp
theorem ok:OK 225 aJ:=(eZ E aE aD func225).bGW rfl spec
end mV
namespace oA
def E:=mE [] 7 [] [] []
def aE:=bd f95
theorem aX:Nk E aE:=nk
theorem start a:aH E f95 aE [D.s (sc (int u64 a))]=aB (a==0) (some [D.s (sc (slice none 0 0))]) (some [D.own 22 u64 [a]]):=eJ aX
def sp(w:Int):Prop×List D:=(0<=w/\w<18446744073709551616,[.s (.ints .u64 (M6.dg w.toNat))])
theorem spec:aNH E f95 aE (pN .u64) sp:=by
 intro w h;have e:=start w;obtain⟨h1,h2⟩:=h;unfold sp;simp only
 by_cases hz:w=0
 ·rw[cO hz]at e;subst hz;rw[show(0:Int).toNat=0 from rfl,M6.cK];exact⟨_,e,.cons (yO.nil _) .nil⟩
 ·rw[bN hz]at e;have:M6.dg w.toNat=[w]:=by
   rw[M6.pA (by omega),cFW (by omega),cBI (by omega),M6.cK];congr 1;omega
  rw[this];exact⟨_,e,.cons (yO.own _ _ _) .nil⟩
def aJ:dK:=orc1 (pN .u64) sp
theorem ok:OK 95 aJ:=(eZ E aE aD func95).aZT rfl spec
end oA
namespace Xk
def E:=mE [(189,aGK.aJ),(225,mV.aJ),(99,An.aJ),(95,oA.aJ),(100,uF.aJ)] 39 [24,36] [] []
def aE:=bd f190
theorem aX:Nk E aE:=nk
theorem start a b c d e:aH E f190 aE [D.s (sc (int i64 a)),D.s (sc (bool b)),D.s (ints u64 c),D.s (sc (bool d)),D.s (sc (int i64 e))]=letI C:=M6.val c+M6.val (M6.dg 1);letI B:=bif cP.mM C then(0:Int)else(5:Int);letI A:=bif cP.mM C then M6.dg C else [];letI F:=bif B==0 then zs b (M6.val A)else(0:Int);aO (M6.cY c/\c.length<=1099511627776/\(-9223372036854775808:Int)<=(0:Int)/\(0:Int)<(9223372036854775808:Int)) (aO True (aB (!mV.mU a b (true&&decide (M6.val c/1%(2:Nat)=(1:Nat))) d e) (aO (M6.cR c/\c.length<=1099511627776) (some [D.agg [sc (bool (isNeg (zs b (M6.val c)))),ints u64 (M6.dg (zs b (M6.val c)).natAbs)],D.s (sc (int i64 0))])) (aO ((0:Int)<=(1:Int)/\(1:Int)<(18446744073709551616:Int)) (aO (M6.cR c/\M6.cR (M6.dg 1)/\c.length<=8192/\(M6.dg 1).length<=8192) (aO (M6.cR A/\A.length<=1099511627776) (some [D.agg [sc (bool (isNeg F)),ints u64 (M6.dg F.natAbs)],D.s (sc (int i64 B))])))))):=eJ aX
def sp(w:Int)(neg:Bool)(q:List Int)(rest:Bool)(half:Int):Prop×List D:=(M6.cR q/\q.length<=8192,
 wE (fit (M6.val q+bif mV.mU w neg (decide (M6.val q%2=1)) rest half then 1 else 0)) (zs neg (M6.val q+bif mV.mU w neg (decide (M6.val q%2=1)) rest half then 1 else 0)))
theorem spec(w:Int)(neg:Bool)(q:List Int)(rest:Bool)(half:Int)(h:(sp w neg q rest half).1):aH E f190 aE [(pN .i64).put w,pB.put neg,(pI .u64).put q,pB.put rest,(pN .i64).put half]=some (sp w neg q rest half).2:=by
 obtain⟨h1,h2⟩:=h;have hb:=xX h1.kW h2;refine(start w neg q rest half).trans ?_;unfold sp
 try dsimp only
 rw[gP ⟨h1.kW,by omega,by omega,by omega⟩,gP trivial,Nat.div_one,bYQ];cases hm:mV.mU w neg (decide (M6.val q%2=1)) rest half with
 |false =>
  have hf:fit (M6.val q+0)=true:=decide_eq_true (by rw[bWM];omega);rw[cGW,bT,gP ⟨h1,by omega⟩,cond_false,hf];rfl
 |true =>
  have o1:=fL (n:=1) (k:=1) (cZ.2 (by omega));rw[bXO,bF,gP ⟨by omega,by omega⟩,gP ⟨h1,M6.aY _,h2,by omega⟩,M6.bQ,gP (Ja (fun h=>by rw[show cP.mM _=_ from Bd]at h;exact xO h)),Ij,show cP.mM _=_ from Bd,cond_true]
def aJ:dK:=orc5 (pN .i64) pB (pI .u64) pB (pN .i64) sp
theorem ok:OK 190 aJ:=(eZ E aE (aA aGK.ok (aA mV.ok (aA An.ok (aA oA.ok (aA uF.ok aD))))) func190).bGW rfl spec
end Xk
namespace mP
def E:=mE [(96,fH.aJ),(104,Ez.aJ),(103,Dd.aJ),(189,aGK.aJ),(190,Xk.aJ)] 61 [23,58] [(9,[0,2,4,6,8,10]),(14,[0,4,6,8,10,11])] [9,14]
def aE:=bd f149
theorem aX:Nk E aE:=nk
def J9 a b c d e f g:=mD E f149 aE 9 [bP a,bP b,dM 2 27 [cU c,fU d],dM 3 27 [cU e,sc (slice none 0 0)],iM f,Nq g]
def aSE a b c d e f g:=mD E f149 aE 14 [bP a,dM 1 27 [cU b,fU c],dM 2 27 [cU d,sc (slice none 0 0)],iM e,Nq f,bP g]
theorem start a b d c:aH E f149 aE [D.s (sc (int i64 a)),D.agg [sc (bool b),ints u64 d],D.s (sc (int i64 c))]=letI A:=M6.dg (M6.val d/(2:Nat)^c.toNat);aB (decide (c<0)) (some [D.agg [sc (bool false),sc (slice none 0 0)],D.s (sc (int i64 1))]) (aO (d.length<=1099511627776) (aB (!fH.nR (b,d)) (some [D.agg [sc (bool false),sc (slice none 0 0)],D.s (sc (int i64 2))]) (aO (M6.cR d/\d.length<=8192/\0<=c/\c<4611686018427387904) (aB (decide (0<(d.length:Int))) (aO (M6.cY d/\d.length<=1099511627776) (mP.J9 a c b d false A (decide ((↑(tz (M6.val d)):Int)<c)))) (mP.J9 a c b d false A false))))):=eJ aX
theorem Xl a b c d e f g:J9 a b c d e f g=aO (M6.cY d/\d.length<=1099511627776/\(-9223372036854775808:Int)<=i64.wrap (b-1)/\i64.wrap (b-1)<9223372036854775808) (aB (decide (0<=i64.wrap (b-1))&&decide (M6.val d/(2:Nat)^(i64.wrap (b-1)).toNat%2=(1:Nat))) (aO (M6.cY d/\d.length<=1099511627776) (aB ((↑(tz (M6.val d)):Int)==i64.wrap (b-1)) (mP.aSE a c d e f g 0) (mP.aSE a c d e f g 1))) (mP.aSE a c d e f g (-1:Int))):=cJ aX
theorem Tp a b c d e f g:aSE a b c d e f g=letI A:=M6.val e+bif mV.mU a b (decide (M6.val e%2=(1:Nat))) f g then(1:Nat)else(0:Nat);letI B:=bif fit A then zs b A else(0:Int);aO (M6.cR e/\e.length<=8192) (some [D.agg [sc (bool (isNeg B)),ints u64 (M6.dg B.natAbs)],D.s (sc (int i64 (bif fit A then(0:Int)else(5:Int))))]):=cJ aX
def aBY(v:Nat)(n:Int):Bool:=decide (v≠0)&&decide ((tz v:Int)<n)
def Lp(v:Nat)(n:Int):Int:=bif decide (0<=n-1)&&decide (v/2^(n-1).toNat%2=1)then(bif ((tz v:Int)==n-1)then 0 else 1)else -1
def uJ(w:Int)(neg:Bool)(v:Nat)(n:Int):Nat:=v/2^n.toNat+bif mV.mU w neg (decide (v/2^n.toNat%2=1)) (aBY v n) (Lp v n)then 1 else 0
def sp(w:Int)(x:Bool×List Int)(n:Int):Prop×List D:=(gL x/\0<=n/\n<4611686018427387904,wE (fit (uJ w x.1 (M6.val x.2) n)) (zs x.1 (uJ w x.1 (M6.val x.2) n)))
theorem spec:oK E f149 aE (pN .i64) oD (pN .i64) sp:=by
 rintro w x n ⟨hx,h0,h1⟩;refine(start w x.1 x.2 n).trans ?_;have l1:=hx.len;have f1:=fH.kU hx;have b1:=hx.bl;obtain⟨p,a⟩:=x;have n1:M6.cR a:=hx.1
 try dsimp only at *
 unfold sp
 try dsimp only
 have hq:=fL (n:=M6.val a/2^n.toNat) (k:=8192) (bWK (fY (cFV _ _)) b1);have j14:∀(r:Bool) (hf:Int),aSE w p a false (M6.dg (M6.val a/2^n.toNat)) r hf=some (wE (fit (M6.val a/2^n.toNat+bif mV.mU w p (decide (M6.val a/2^n.toNat%2=1)) r hf then 1 else 0)) (zs p (M6.val a/2^n.toNat+bif mV.mU w p (decide (M6.val a/2^n.toNat%2=1)) r hf then 1 else 0))):=by
  intro r hf;rw[Tp,gP ⟨M6.aY _,hq⟩,M6.bQ];rfl
 have wn:i64.wrap (n-1)=n-1:=by rw[wrap_i64]
 have j9:∀r:Bool,J9 w n p a false (M6.dg (M6.val a/2^n.toNat)) r=some (wE (fit (M6.val a/2^n.toNat+bif mV.mU w p (decide (M6.val a/2^n.toNat%2=1)) r (Lp (M6.val a) n)then 1 else 0)) (zs p (M6.val a/2^n.toNat+bif mV.mU w p (decide (M6.val a/2^n.toNat%2=1)) r (Lp (M6.val a) n)then 1 else 0))):=by
  intro r;rw[Xl,wn,gP ⟨n1.kW,by omega,by omega,by omega⟩,j14,j14,j14,gP ⟨n1.kW,by omega⟩];unfold Lp aB;cases (decide (0<=n-1)&&decide (M6.val a/2^(n-1).toNat%2=1))with
  |false=>rfl
  |true=>cases ((tz (M6.val a):Int)==n-1) <;> rfl
 have hz:=M6.dZ n1;rw[aL,gP,f1,bXO,bF,gP ⟨n1,l1,h0,h1⟩,j9,j9,gP ⟨n1.kW,by omega⟩];unfold uJ aBY
 by_cases h:M6.val a=0
 ·rw[aL (by have:=hz.2 h;omega),decide_eq_false (show ¬(M6.val a≠0) by omega),cAV]
 ·rw[aP (by have:a.length≠0:=fun hl=>h (hz.1 hl);omega),decide_eq_true (show(M6.val a≠0) by omega),bYQ]
def aJ:dK:=orc3 (pN .i64) oD (pN .i64) sp
theorem ok:OK 149 aJ:=(eZ E aE (aA fH.ok (aA Ez.ok (aA Dd.ok (aA aGK.ok (aA Xk.ok aD))))) func149).yK rfl spec
end mP
namespace oB
def E:=mE [(149,mP.aJ)] 11 [8] [] []
def aE:=bd f107
theorem aX:Nk E aE:=nk
theorem start a c b:aH E f107 aE [D.agg [sc (bool a),ints u64 c],D.s (sc (int i64 b))]=letI A:=mP.uJ 2 a (M6.val c) b;letI B:=bif fit A then zs a A else(0:Int);aO (gL (a,c)/\0<=b/\b<4611686018427387904) (some [D.agg [sc (bool (isNeg B)),ints u64 (M6.dg B.natAbs)],D.s (sc (int i64 (bif fit A then(0:Int)else(5:Int))))]):=eJ aX
def zI(v:Nat)(n:Int):Nat:=mP.uJ 2 false v n
theorem aPV(p:Bool)(v:Nat)(n:Int):mP.uJ 2 p v n=zI v n:=rfl
theorem small{v:Nat}{n:Int}(h:0<=n)(hb:bl v<=524288):fit (zI v n)=true:=by
 refine decide_eq_true (bWK (fY ?_) hb);unfold zI mP.uJ mV.mU;rw[show((2:Int)==0)=false from rfl,show((2:Int)==1)=false from rfl,cond_false,cond_false];unfold mP.Lp
 by_cases hc:0<=n-1/\v/2^(n-1).toNat%2=1
 ·have hv:v≠0:=fun hz=>by rw[hz,cFC]at hc;omega
  have hn:2^n.toNat=2^(n-1).toNat*2:=by rw[<-cAN];congr 1;omega
  have hp:=bYO (n:=(n-1).toNat) (show 0<2 by omega);have h1:v/2^n.toNat<=v/2:=cGD (by omega) (by omega);have h2:∀b:Bool,(bif b then(1:Nat)else 0)<=1:=by intro b;cases b <;> decide
  by_cases bUI:v=1
  ·subst bUI;have zS:2^(n-1).toNat=1:=by
    rcases bWE 1 (2^(n-1).toNat)with h |h
    ·rw[cBI h]at hc;omega
    ·omega
   have ht:tz 1=0:=by simp[tz]
   have Zh:n=1:=by
    rcases cHJ (n-1).toNat with h |h
    ·omega
    ·have:=bYP (n:=2) (by omega) h;omega
   subst Zh;rw[ht];decide
  ·exact bWK (Nat.add_le_add h1 (h2 _)) (by omega)
 ·have:(decide (0<=n-1)&&decide (v/2^(n-1).toNat%2=1))=false:=by
   rw[cHC]
   by_cases h0:0<=n-1
   ·exact .inr (decide_eq_false fun h=>hc ⟨h0,h⟩)
   ·exact .inl (decide_eq_false h0)
  rw[this];exact bWK (Nat.le_of_eq (bWM _)) (cFV _ _)
def sp(x:Bool×List Int)(n:Int):Prop×List D:=(gL x/\0<=n/\n<4611686018427387904,[wD (zs x.1 (zI (M6.val x.2) n)),.s (.sc (.int .i64 0))])
theorem spec:gT E f107 aE oD (pN .i64) sp:=by
 intro x n h;have h':=h;obtain⟨hx,h0,h1⟩:=h;refine(start x.1 x.2 n).trans ((gP h').trans ?_);unfold sp
 try dsimp only
 rw[aPV,small h0 hx.bl];rfl
def aJ:dK:=orc2 oD (pN .i64) sp
theorem ok:OK 107 aJ:=(eZ E aE (aA mP.ok aD) func107).mT rfl spec
end oB
namespace jG
def E:=mE [(106,rY.aJ),(85,mK.aJ),(107,oB.aJ),(48,Ao.aJ)] 71 [19] [(9,[3,8,9]),(12,[3,8,10])] [9,12]
def aE:=bd f54
theorem aX:Nk E aE:=nk
def J9 a b c d e f:=mD E f54 aE 9 [dM 0 98 [cV a,cV b,cV c],bP d,dM 2 27 [cU e,fU f]]
def aYG a b c d e:=mD E f54 aE 12 [dM 0 98 [cV a,cV b,cV c],bP d,dC e]
theorem start a d e b c:aH E f54 aE [D.agg [sc (int i64 a),sc (int i64 d),sc (int i64 e)],D.s (ints u64 b),D.s (sc (int i64 c))]=letI G:=i64.wrap (c+(↑(bl (M6.val b)):Int))-1;letI A:=i64.wrap (i64.wrap G-a)+1;letI F:=zs false (oB.zI (M6.val b) (i64.wrap ((if d>i64.wrap A then d else i64.wrap A)-c)));letI B:=c-if d>i64.wrap A then d else i64.wrap A;letI C:=bif fit (M6.val b*(2:Nat)^(i64.wrap B).toNat)then wv (false,b)*(↑((2:Nat)^(i64.wrap B).toNat):Int)else(0:Int);aO (M6.cY b/\b.length<=1099511627776) (aB (decide (1100<i64.wrap G)) (aO (mK.vB (a,d,e)) (aC (mK.rN (a,d,e)) fun f=>some [D.s (sc (int u64 f))])) (aB (decide (c<=if d>i64.wrap A then d else i64.wrap A)) (aO (gL (false,b)/\0<=i64.wrap ((if d>i64.wrap A then d else i64.wrap A)-c)/\i64.wrap ((if d>i64.wrap A then d else i64.wrap A)-c)<4611686018427387904) (aC (isNeg F) fun g=>aC (M6.dg F.natAbs) fun h=>jG.J9 a d e (if d>i64.wrap A then d else i64.wrap A) g h)) (aO (gL (false,b)/\0<=i64.wrap B/\i64.wrap B<4611686018427387904) (aC (isNeg C) fun i=>aC (M6.dg C.natAbs) fun j=>jG.J9 a d e (if d>i64.wrap A then d else i64.wrap A) i j)))):=eJ aX
theorem Xl a b c d e f:J9 a b c d e f=aB (decide (0<(f.length:Int))) (if(0:Int)<=(0:Int)/\0<(f.length:Int)then jG.aYG a b c d (f.getD 0 0)else none) (jG.aYG a b c d 0):=cJ aX
theorem aAT a b c d e:aYG a b c d e=letI A:=u64.wrap (u64.wrap (i64.wrap (d-b))*(↑((2:Nat)^min (i64.wrap (a-1)).toNat 64):Int))+e;if i64.wrap (a-1)<0 then none else aO (mK.vB (a,b,c)) (aC (mK.rN (a,b,c)) fun f=>some [D.s (sc (int u64 (if f<u64.wrap A then f else u64.wrap A)))]):=cJ aX
def gB(w:Int×Int×Int)(v:Nat)(e:Int):Int:=if w.2.1>e+(bl v:Nat)-1-w.1+1 then w.2.1 else e+(bl v:Nat)-1-w.1+1
def xD(w:Int×Int×Int)(v:Nat)(e:Int):Nat:=if e<=gB w v e then oB.zI v (gB w v e-e)else v*2^(e-gB w v e).toNat
def zD(w:Int×Int×Int)(v:Nat)(e:Int):Int:=if 1100<e+(bl v:Nat)-1 then mK.rN w else(if mK.rN w<(gB w v e-w.2.1)*((2^(w.1-1).toNat:Nat):Int)+(xD w v e:Nat)then mK.rN w else(gB w v e-w.2.1)*((2^(w.1-1).toNat:Nat):Int)+(xD w v e:Nat))
theorem qU(v:Nat)(n:Int):oB.zI v n<=v/2^n.toNat+1:=by
 unfold oB.zI mP.uJ;generalize mV.mU _ _ _ _ _=b;cases b
 ·exact Nat.le_succ _
 ·exact bVO _
theorem aHW{w:Int×Int×Int}(h:mK.vB w){v:Nat}(e:Int):xD w v e<=2^53:=by
 have hm:w.1<=53:=by rcases h with rfl |rfl <;> decide
 have aFG:1<=w.1:=by rcases h with rfl |rfl <;> decide
 have hu:e+(bl v:Nat)-1-w.1+1<=gB w v e:=by unfold gB;split <;> omega
 have hv:=vG v;unfold xD;split
 ·rename_i he;refine bWK (qU _ _) ?_;have:v/2^(gB w v e-e).toNat<2^53:=by
   apply cBG;rw[<-cAQ];exact bWL hv (gO)
  omega
 ·rename_i he;have h1:v*2^(e-gB w v e).toNat<=2^bl v*2^(e-gB w v e).toNat:=bXD _ (Nat.le_of_lt hv);rw[<-cAQ]at h1;exact bWK h1 (gO)
def sp(w:Int×Int×Int)(b:List Int)(e:Int):Prop×List D:=(mK.vB w/\M6.cR b/\M6.val b≠0/\b.length<=8192/\-2000000<=e/\e<=2000000,[.s (.sc (.int .u64 (zD w (M6.val b) e)))])
theorem spec:oK E f54 aE (pG (.pair (sN .i64) (.pair (sN .i64) (sN .i64)))) (pI .u64) (pN .i64) sp:=by
 rintro w b e ⟨ht,hn,hv,hl,aDC,aQO⟩;have hb:=xX hn.kW hl;have hm:w.1=24\/w.1=53:=by rcases ht with rfl |rfl <;> decide
 have bNF:-1074<=w.2.1/\w.2.1<=-149:=by rcases ht with rfl |rfl <;> decide
 refine(start w.1 w.2.1 w.2.2 b e).trans ?_;have w1:i64.wrap (i64.wrap (e+(bl (M6.val b):Int))-1)=e+(bl (M6.val b):Int)-1:=by
  rw[wrap_i64 (n:=e+_),wrap_i64]
 have w2:i64.wrap (i64.wrap (e+(bl (M6.val b):Int)-1-w.1)+1)=e+(bl (M6.val b):Int)-1-w.1+1:=by
  rw[wrap_i64 (n:=e+(bl (M6.val b):Int)-1-w.1) (by omega) (by omega),wrap_i64]
 have Nn:gL (false,b):=⟨hn,fun h=>(by cases h),hl⟩;have hu:(if w.2.1>e+(bl (M6.val b):Int)-1-w.1+1 then w.2.1 else e+(bl (M6.val b):Int)-1-w.1+1)=gB w (M6.val b) e:=rfl;unfold sp zD
 try dsimp only
 rw[gP ⟨hn.kW,by omega⟩,w1,w2,hu];have bMR:gB w (M6.val b) e<=3000000/\-3000000<=gB w (M6.val b) e:=by unfold gB;split <;> omega
 by_cases hc:1100<e+(bl (M6.val b):Int)-1
 ·rw[aP hc,if_pos hc,gP ht];simp only[aG]
 ·rw[aL hc,if_neg hc];have Lb:=aHW ht (v:=M6.val b) e;have bBA:w.2.1<=gB w (M6.val b) e/\gB w (M6.val b) e-w.2.1<=2122/\(w.1=24->gB w (M6.val b) e-w.2.1<=2122):=by
   unfold gB;rcases ht with rfl |rfl <;> ((try dsimp only);split <;> omega)
  have hU:xD w (M6.val b) e=if e<=gB w (M6.val b) e then oB.zI (M6.val b) (gB w (M6.val b) e-e)else M6.val b*2^(e-gB w (M6.val b) e).toNat:=rfl
  have j9:∀(p:Bool) (m:Nat),m<=2^53->J9 w.1 w.2.1 w.2.2 (gB w (M6.val b) e) p (M6.dg m)=some [D.s (.sc (.int .u64 (if mK.rN w<(gB w (M6.val b) e-w.2.1)*((2^(w.1-1).toNat:Nat):Int)+(m:Nat)then mK.rN w else(gB w (M6.val b) e-w.2.1)*((2^(w.1-1).toNat:Nat):Int)+(m:Nat))))]:=by
   intro p m bNE;have hd0:(M6.dg m).getD 0 0=(m:Int):=by
    have h1:=M6.jM (a:=M6.dg m) 0;rw[cCE,M6.bQ]at h1;have h2:=(M6.lG m).get 0;generalize M6.val ((M6.dg m).drop (0+1))=r at *;have:r=0:=by
     rcases cHJ r with h |h
     ·exact h
     ·omega
    omega
   have j12:aYG w.1 w.2.1 w.2.2 (gB w (M6.val b) e) (m:Int)=some [D.s (.sc (.int .u64 (if mK.rN w<(gB w (M6.val b) e-w.2.1)*((2^(w.1-1).toNat:Nat):Int)+(m:Nat)then mK.rN w else(gB w (M6.val b) e-w.2.1)*((2^(w.1-1).toNat:Nat):Int)+(m:Nat))))]:=by
    rw[aAT,wrap_i64 (n:=w.1-1),aW,gP ht,wrap_i64 (n:=gB w (M6.val b) e-w.2.1),wrap_u64 (n:=gB w (M6.val b) e-w.2.1)];simp only[aG];have aYU:0<=gB w (M6.val b) e-w.2.1/\gB w (M6.val b) e-w.2.1<=2122:=by omega
    generalize gB w (M6.val b) e-w.2.1=u at *;have hmul:u64.wrap (u64.wrap (u*((2^min (w.1-1).toNat 64:Nat):Int))+(m:Int))=u*((2^(w.1-1).toNat:Nat):Int)+(m:Int):=by
     rcases hm with h |h
     ·rw[h];show u64.wrap (u64.wrap (u*8388608)+(m:Int))=u*8388608+(m:Int);rw[wrap_u64 (n:=u*8388608),wrap_u64]
     ·rw[h];show u64.wrap (u64.wrap (u*4503599627370496)+(m:Int))=u*4503599627370496+(m:Int);rw[wrap_u64 (n:=u*4503599627370496),wrap_u64]
    rw[hmul]
   have hz:=M6.iQ (n:=m);rw[Xl]
   by_cases aFG:m=0
   ·rw[aL (by have:=hz.2 aFG;omega)];subst aFG;exact j12
   ·rw[aP (by have:=fun h=>aFG (hz.1 h);omega),if_pos ⟨by omega,by have:=fun h=>aFG (hz.1 h);omega⟩,hd0,j12]
  rw[hU]at Lb ⊢
  by_cases hle:e<=gB w (M6.val b) e
  ·rw[if_pos hle]at Lb ⊢;rw[aP hle,wrap_i64 (n:=gB w (M6.val b) e-e),gP ⟨Nn,by omega,by omega⟩];simp only[aG];rw[lP,j9 _ _ Lb]
  ·rw[if_neg hle]at Lb ⊢;have bBE:fit (M6.val b*2^(e-gB w (M6.val b) e).toNat)=true:=decide_eq_true (by
    have:bl (M6.val b*2^(e-gB w (M6.val b) e).toNat)<=54:=cZ.2 (by omega);omega)
   rw[aL hle,wrap_i64 (n:=e-gB w (M6.val b) e),gP ⟨Nn,by omega,by omega⟩];simp only[aG];have bQW:wv (false,b)=(M6.val b:Int):=rfl;rw[bBE,cond_true,bQW,<-cBP,Int.natAbs_natCast,j9 _ _ Lb]
def aJ:dK:=orc3 (pG (.pair (sN .i64) (.pair (sN .i64) (sN .i64)))) (pI .u64) (pN .i64) sp
theorem ok:OK 54 aJ:=(eZ E aE (aA rY.ok (aA mK.ok (aA oB.ok (aA Ao.ok aD)))) func54).yK rfl spec
end jG
namespace yE
def E:=mE [] 14 [] [] []
def aE:=bd f53
theorem aX:Nk E aE:=nk
theorem start a d e b c:aH E f53 aE [D.agg [sc (int i64 a),sc (int i64 d),sc (int i64 e)],D.s (sc (bool b)),D.s (sc (int u64 c))]=aB b (if e<0 then none else some [D.s (sc (int u64 (gA BinOp.or u64 c (u64.wrap ((1:Int)*(↑((2:Nat)^min e.toNat 64):Int))))))]) (some [D.s (sc (int u64 c))]):=eJ aX
def aYR(w:Int×Int×Int)(b:Bool)(c:Int):Int:=bif b then c+(if w.1=24 then 2147483648 else 9223372036854775808)else c
def sp(w:Int×Int×Int)(b:Bool)(c:Int):Prop×List D:=(mK.vB w/\0<=c/\c<=mK.rN w,[.s (.sc (.int .u64 (aYR w b c)))])
theorem spec:oK E f53 aE (pG (.pair (sN .i64) (.pair (sN .i64) (sN .i64)))) pB (pN .u64) sp:=by
 rintro w b c ⟨ht,h0,h1⟩;refine(start w.1 w.2.1 w.2.2 b c).trans ?_;unfold sp aYR;obtain⟨n,rfl⟩:=cAS h0;rcases ht with rfl |rfl
 ·have h1:(n:Int)<=2139095040:=h1;have e:=cDY (i:=31) (b:=n) (by omega) 1;cases b with
  |false=>rfl
  |true =>
   rw[bT,if_neg (by decide)];show some [D.s (.sc (.int .u64 (gA .or .u64 (n:Int) 2147483648)))]=_;rw[Uy (by omega) (by omega) (by omega) (by omega),bZL,cDX];rw[bVY]at e;rw[show(2147483648:Int).toNat=2^31 from rfl,<-e];show some [D.s (.sc (.int .u64 ((2^31+n:Nat):Int)))]=some [D.s (.sc (.int .u64 ((n:Int)+2147483648)))];rw[cGJ,Int.add_comm];rfl
 ·have h1:(n:Int)<=9218868437227405312:=h1;have e:=cDY (i:=63) (b:=n) (by omega) 1;cases b with
  |false=>rfl
  |true =>
   rw[bT,if_neg (by decide)];show some [D.s (.sc (.int .u64 (gA .or .u64 (n:Int) 9223372036854775808)))]=_;rw[Uy (by omega) (by omega) (by omega) (by omega),bZL,cDX];rw[bVY]at e;rw[show(9223372036854775808:Int).toNat=2^63 from rfl,<-e];show some [D.s (.sc (.int .u64 ((2^63+n:Nat):Int)))]=some [D.s (.sc (.int .u64 ((n:Int)+9223372036854775808)))];rw[cGJ,Int.add_comm];rfl
def aJ:dK:=orc3 (pG (.pair (sN .i64) (.pair (sN .i64) (sN .i64)))) pB (pN .u64) sp
theorem ok:OK 53 aJ:=(eZ E aE aD func53).yK rfl spec
end yE
namespace jH
def E:=mE [(52,Ig.aJ),(45,lO.aJ),(54,jG.aJ),(53,yE.aJ)] 35 [34] [] []
def aE:=bd f15
theorem aX:Nk E aE:=nk
theorem start a b c d:aH E f15 aE [D.s (sc (int i64 a)),D.agg [sc (bool b),ints u64 c,sc (int i64 d)]]=letI A:=Ig.Ix a;aO True (aC A.snd.fst fun e=>aC A.snd.snd fun f=>letI B:=(A.fst,e,f);aB (A.fst==0&&(e==0&&(f==0&&true))) (some [D.s (sc (int u64 0)),D.s (sc (int i64 1))]) (aO (aQ (b,c,d)) (aB ((c.length:Int)==(0:Int)) (some [D.s (sc (int u64 0)),D.s (sc (int i64 0))]) (aO (mK.vB B/\M6.cR c/\M6.val c≠0/\c.length<=8192/\(-2000000:Int)<=d/\d<=2000000) (aC (jG.zD B (M6.val c) d) fun g=>aO (mK.vB B/\0<=g/\g<=mK.rN B) (aC (yE.aYR B b g) fun h=>some [D.s (sc (int u64 h)),D.s (sc (int i64 0))])))))):=eJ aX
def kT(f:Int)(p:Int×Int):Int:=if p.1=0 then 0 else yE.aYR (Ig.Ix f) (isNeg p.1) (jG.zD (Ig.Ix f) p.1.natAbs p.2)
theorem Qt{f:Int}(h:f=32\/f=64):mK.vB (Ig.Ix f):=by
 rcases h with rfl |rfl
 ·exact .inl rfl
 ·exact .inr rfl
theorem aBS{w:Int×Int×Int}(h:mK.vB w)(v:Nat)(e:Int):0<=jG.zD w v e/\jG.zD w v e<=mK.rN w:=by
 have hi:0<=mK.rN w:=by unfold mK.rN;split <;> omega
 have hu:0<=jG.gB w v e-w.2.1:=by unfold jG.gB;split <;> omega
 have hm:=cHN hu (cFA (2^(w.1-1).toNat));unfold jG.zD;split
 ·omega
 ·split <;> omega
def sp(f:Int)(x:gE):Prop×List D:=((f=32\/f=64)/\aQ x,[.s (.sc (.int .u64 (kT f (dv x)))),.s (.sc (.int .i64 0))])
theorem spec:gT E f15 aE (pN .i64) iX sp:=by
 rintro f x ⟨hf,hx⟩;have ht:=Qt hf;have he:=hx.2.1;refine(start f x.1 x.2.1 x.2.2).trans ?_;have h0:((Ig.Ix f).1==0)=false:=by rcases hf with rfl |rfl <;> rfl
 simp only[aG];rw[gP trivial,h0,cAV,bF,gP hx];have hz:=M6.dZ hx.Hv;have hd:(dv x).1=wv (x.1,x.2.1):=rfl;have ha:(dv x).1.natAbs=M6.val x.2.1:=iG (x.1,x.2.1);have hs:isNeg (dv x).1=x.1:=hx.Dh.cells.1;unfold sp kT
 try dsimp only
 rw[ha,hs]
 by_cases hl:x.2.1.length=0
 ·rw[cO,if_pos (by have:=hz.1 hl;omega)]
 ·have hv:M6.val x.2.1≠0:=fun h=>hl (hz.2 h)
  have hb:=aBS ht (M6.val x.2.1) x.2.2;rw[bN,aW,gP ⟨ht,hx.Hv,hv,hx.len,by omega,by omega⟩,gP ⟨ht,hb⟩];rfl
def aJ:dK:=orc2 (pN .i64) iX sp
theorem ok:OK 15 aJ:=(eZ E aE (aA Ig.ok (aA lO.ok (aA jG.ok (aA yE.ok aD)))) func15).mT rfl spec
end jH
namespace iW
def E:=mE [(149,mP.aJ)] 11 [8] [] []
def aE:=bd f192
theorem aX:Nk E aE:=nk
theorem start a c b:aH E f192 aE [D.agg [sc (bool a),ints u64 c],D.s (sc (int i64 b))]=letI A:=mP.uJ 0 a (M6.val c) b;letI B:=bif fit A then zs a A else(0:Int);aO (gL (a,c)/\0<=b/\b<4611686018427387904) (some [D.agg [sc (bool (isNeg B)),ints u64 (M6.dg B.natAbs)],D.s (sc (int i64 (bif fit A then(0:Int)else(5:Int))))]):=eJ aX
theorem Up{v:Nat}{n:Int}(h:0<=n):mP.aBY v n=decide (v%2^n.toNat≠0):=by
 unfold mP.aBY
 by_cases hv:v=0
 ·subst hv;rw[decide_eq_false (by omega),cAV,cDB];rfl
 ·rw[decide_eq_true hv,bYQ];have hs:=tM v hv;obtain⟨k,rfl⟩:=cAS h;rw[bZL];generalize tz v=j at *
  by_cases hk:j<k
  ·have:v%2^k≠0:=by
    intro hm;have e1:v=2^k*(v/2^k):=by have:=cAT v (2^k);omega
    have e2:v/2^j=2*(2^(k-j-1)*(v/2^k)):=by
     have hp:2^k=2^j*(2*2^(k-j-1)):=by
      rw[<-Nat.pow_succ',<-cAQ];congr 1;omega
     generalize v/2^k=t at e1 ⊢;rw[e1,hp,cAR,Nat.mul_div_cancel_left _ (bYO (by decide)),cAR]
    omega
   rw[decide_eq_true (by omega),decide_eq_true this]
  ·have:v%2^k=0:=by
    have hp:2^j=2^k*2^(j-k):=by rw[<-cAQ];congr 1;omega
    have e1:v=2^j*(v/2^j):=by have:=cAT v (2^j);omega
    rw[e1,hp,cAR,Nat.mul_mod_right]
   rw[decide_eq_false (by omega),decide_eq_false (by omega)]
theorem down{p:Bool}{v:Nat}{n:Int}(h:0<=n):zs p (mP.uJ 0 p v n)=zs p v/((2^n.toNat:Nat):Int):=by
 unfold mP.uJ mV.mU;rw[Up h,show((0:Int)==0)=true from rfl,cond_true];have hp:0<2^n.toNat:=cX;have hd:=cAT v (2^n.toNat);have hm:=bXW v hp;generalize 2^n.toNat=q at *;cases p with
 |false =>
  rw[cAV,cond_false,bWM];show((v/q:Nat):Int)=(v:Int)/(q:Int);rw[cBO]
 |true =>
  rw[bYQ];show -(((v/q+bif decide (v%q≠0)then 1 else 0:Nat)):Int)=-(v:Int)/(q:Int)
  by_cases hz:v%q=0
  ·rw[decide_eq_false (by omega),cond_false,bWM];have e:-(v:Int)=(q:Int)*(-((v/q:Nat):Int)):=by
    rw[cEE,<-cBP];omega
   rw[e,Int.mul_ediv_cancel_left _ (by omega)]
  ·rw[decide_eq_true hz,cond_true];have e:-(v:Int)=((q-v%q:Nat):Int)+(q:Int)*(-((v/q+1:Nat):Int)):=by
    rw[cEE,<-cBP,cAO];omega
   rw[e,Int.add_mul_ediv_left _ _ (by omega),Int.ediv_eq_zero_of_lt (by omega) (by omega),Int.zero_add]
theorem small{p:Bool}{v:Nat}{n:Int}(h:0<=n)(hb:bl v<=524288):fit (mP.uJ 0 p v n)=true:=by
 refine decide_eq_true (bWK (fY ?_) hb);unfold mP.uJ mV.mU;rw[Up h,show((0:Int)==0)=true from rfl,cond_true];have hp:0<2^n.toNat:=cX
 by_cases hz:v%2^n.toNat=0
 ·rw[decide_eq_false (by omega),cBA,cond_false];exact cFV _ _
 ·have h2:2<=2^n.toNat:=by
   refine bYI fun hc=>hz ?_
   rw[show 2^n.toNat=1 from by omega,Nat.mod_one]
  have:v/2^n.toNat<=v/2:=cGD h2 (by omega);have hv:v≠0:=fun h=>hz (by rw[h,cDB])
  have:(bif p&&decide (v%2^n.toNat≠0)then(1:Nat)else 0)<=1:=by cases p <;> cases decide (v%2^n.toNat≠0) <;> decide
  omega
def sp(x:Bool×List Int)(n:Int):Prop×List D:=(gL x/\0<=n/\n<4611686018427387904,[wD (wv x/((2^n.toNat:Nat):Int)),.s (.sc (.int .i64 0))])
theorem spec:gT E f192 aE oD (pN .i64) sp:=by
 intro x n h;have h':=h;obtain⟨hx,h0,h1⟩:=h;refine(start x.1 x.2 n).trans ((gP h').trans ?_);unfold sp
 try dsimp only
 rw[small h0 hx.bl];show some (wE true _)=_;rw[down h0];rfl
def aJ:dK:=orc2 oD (pN .i64) sp
theorem ok:OK 192 aJ:=(eZ E aE (aA mP.ok aD) func192).mT rfl spec
end iW
namespace aYO
def E:=mE [(192,iW.aJ)] 22 [] [] []
def aE:=bd f150
theorem aX:Nk E aE:=nk
theorem start a d b c:aH E f150 aE [D.agg [sc (bool a),ints u64 d],D.s (sc (int i64 b)),D.s (sc (bool c))]=letI A:=wv (a,d)/(↑((2:Nat)^b.toNat):Int);aB c none (aO (gL (a,d)/\0<=b/\b<4611686018427387904) (some [D.agg [sc (bool (isNeg A)),ints u64 (M6.dg A.natAbs)]])):=eJ aX
def sp(x:Bool×List Int)(n:Int)(up:Bool):Prop×List D:=(gL x/\(0<=n/\n<4611686018427387904)/\up=false,[wD (wv x/((2^n.toNat:Nat):Int))])
theorem spec:oK E f150 aE oD (pN .i64) pB sp:=by
 rintro x n up ⟨h1,h2,rfl⟩;refine(start x.1 x.2 n false).trans ?_;rw[bF,gP ⟨h1,h2⟩];rfl
def aJ:dK:=orc3 oD (pN .i64) pB sp
theorem ok:OK 150 aJ:=(eZ E aE (aA iW.ok aD) func150).yK rfl spec
end aYO
namespace pO
def E:=mE [(45,lO.aJ),(46,mB.aJ),(47,Fb.aJ),(106,rY.aJ),(150,aYO.aJ),(50,iY.aJ)] 49 [46] [(5,[1,2,3,6]),(8,[1,2,3,6,8])] [5,8]
def aE:=bd f108
theorem aX:Nk E aE:=nk
def J5 a b c d e f g:=mD E f108 aE 5 [bP a,Nq b,dM 2 29 [cU c,fU d,cV e],dM 3 29 [cU f,sc (slice none 0 0),cV g]]
def J8 a b c d e f g h:=mD E f108 aE 8 [bP a,Nq b,dM 2 29 [cU c,fU d,cV e],dM 3 29 [cU f,sc (slice none 0 0),cV g],bP h]
theorem start a d e b c:aH E f108 aE [D.agg [sc (bool a),ints u64 d,sc (int i64 e)],D.s (sc (int i64 b)),D.s (sc (bool c))]=letI A:=aO (d.length<=1099511627776) (some [D.agg [sc (bool a),ints u64 d,sc (int i64 e)],D.s (sc (int i64 0))]);aO (aQ (a,d,e)) (aO True (aB ((d.length:Int)==(0:Int)) A (aB (decide (b<=e)) A (pO.J5 b c a d e false 0)))):=eJ aX
theorem Xm a b c d e f g:J5 a b c d e f g=letI A:=(↑(bl (M6.val d)):Int);aO (M6.cY d/\d.length<=1099511627776) (aB (decide (a<i64.wrap (e+i64.wrap (A+(1:Int))))) (pO.J8 a b c d e f g (i64.wrap (a-e))) (pO.J8 a b c d e f g (i64.wrap (A+(1:Int))))):=cJ aX
theorem yP a b c d e f g h:J8 a b c d e f g h=letI C:=wv (c,d)/(↑((2:Nat)^h.toNat):Int);letI A:=(isNeg C,M6.dg C.natAbs);letI B:=bif gY (wv A) a then aN (wv A) a else((0:Int),(0:Int));aO (gL (c,d)/\(0<=h/\h<4611686018427387904)/\b=false) (aO (gL A/\(-9223372036854775808:Int)<=a/\a<9223372036854775808) (some [D.agg [sc (bool (isNeg B.fst)),ints u64 (M6.dg B.fst.natAbs),sc (int i64 B.snd)],D.s (sc (int i64 (bif gY (wv A) a then(0:Int)else(5:Int))))])):=cJ aX
def zX(p:Int×Int)(b:Int):Int×Int:=if p.1=0\/b<=p.2 then p else aN (p.1/((2^(b-p.2).toNat:Nat):Int)) b
def sU(p:Int×Int)(b:Int):Bool:=decide (p.1=0\/b<=p.2)||gY (p.1/((2^(b-p.2).toNat:Nat):Int)) b
def sp(x:gE)(b:Int)(up:Bool):Prop×List D:=(aQ x/\(-4611686018427387904<=b/\b<4611686018427387904)/\up=false,dE (sU (dv x) b) (zX (dv x) b))
theorem spec:oK E f108 aE iX (pN .i64) pB sp:=by
 rintro x k up ⟨h,hk,rfl⟩;refine(start x.1 x.2.1 x.2.2 k false).trans ?_;have hl:=h.len;have hd:=h.dD;have hr:=h.2.1;have hb:=h.Dh.bl;have hw:=h.Dh;have hn:=h.Hv;obtain⟨b,a,e⟩:=x
 try dsimp only at *
 unfold sp
 try dsimp only
 have hz:=M6.dZ hn;have ha:=iG (b,a)
 try dsimp only at ha hz
 rw[gP h,gP trivial];have same:((dv (b,a,e)).1=0\/k<=(dv (b,a,e)).2)->dE (sU (dv (b,a,e)) k) (zX (dv (b,a,e)) k)=[D.agg [.sc (.bool b),.ints .u64 a,.sc (.int .i64 e)],.s (.sc (.int .i64 0))]:=by
  intro hc;unfold sU zX;rw[decide_eq_true hc,cAW,if_pos hc];show [M.dD (dv (b,a,e)),_]=_;rw[hd];rfl
 by_cases h0:a.length=0
 ·rw[cO,gP,same (.inl (by have:=hz.1 h0;show wv (b,a)=0;omega))]
 ·rw[bN]
  by_cases h1:k<=e
  ·rw[aP h1,gP,same (.inr h1)]
  ·have Zf:wv (b,a)≠0:=by have:M6.val a≠0:=fun h=>h0 (hz.2 h);omega
   have yS:¬((dv (b,a,e)).1=0\/k<=(dv (b,a,e)).2):=by
    rintro (hc |hc)
    ·exact Zf hc
    ·exact h1 hc
   have j8:∀n:Int,0<=n->n<4611686018427387904->wv (b,a)/((2^n.toNat:Nat):Int)=wv (b,a)/((2^(k-e).toNat:Nat):Int)->J8 k false b a e false 0 n=some (dE (sU (dv (b,a,e)) k) (zX (dv (b,a,e)) k)):=by
    intro n Br Zh he;have hq:bl (wv (b,a)/((2^(k-e).toNat:Nat):Int)).natAbs<=524288:=bWK (fY (uB (bYO (by decide)))) (by rw[ha];exact hb);rw[yP,gP ⟨hw,⟨Br,Zh⟩,rfl⟩,he,gP ⟨fT hq,by omega,by omega⟩,nA];unfold sU zX;rw[decide_eq_false yS,bXP,if_neg yS];rfl
   rw[aL h1,Xm,gP ⟨hn.kW,by omega⟩,wrap_i64 (n:=(bl (M6.val a):Int)+1) (by omega) (by omega),wrap_i64 (n:=e+((bl (M6.val a):Int)+1)) (by omega) (by omega),wrap_i64 (n:=k-e)]
   by_cases h2:k<e+((bl (M6.val a):Int)+1)
   ·rw[aP h2,j8 _ (by omega) (by omega) rfl]
   ·rw[aL h2,j8 _ (by omega) (by omega) (bUO (by rw[ha];omega) (by rw[ha];omega))]
def aJ:dK:=orc3 iX (pN .i64) pB sp
theorem ok:OK 108 aJ:=(eZ E aE (aA lO.ok (aA mB.ok (aA Fb.ok (aA rY.ok (aA aYO.ok (aA iY.ok aD)))))) func108).yK rfl spec
end pO
end W
namespace M
open Go AI W
theorem aFM{z e b:Int}(h:e<=b):pO.zX (aN z e) b=aN (z/p2 (b-e)) b:=by
 unfold pO.zX
 by_cases hz:z=0
 ·subst hz;rw[fC,if_pos (.inl rfl),Int.zero_ediv,fC]
 ·obtain⟨h1,h2⟩:=lE (e:=e) hz;have hn:(aN z e).1≠0:=fun h=>hz (dX.1 h)
  by_cases hb:b<=(aN z e).2
  ·rw[if_pos (.inr hb)];have g:=uH (e:=e) hz (Int.le_refl e);rw[Int.sub_self,aCI,cGX]at g;have e1:p2 ((aN z e).2-e)=p2 ((aN z e).2-b)*p2 (b-e):=by rw[<-sL (by omega) (by omega)];congr 1;omega
   rw[e1,<-cAZ]at g;have hp:=Kn (b-e);have:z/p2 (b-e)=(aN z e).1*p2 ((aN z e).2-b):=by
    generalize aN z e=p at *;rw[<-g,Int.mul_ediv_cancel _ (by omega)]
   rw[this,Bb _ _ (by omega),show b+((aN z e).2-b)=(aN z e).2 by omega,Pf Cr Dv]
  ·rw[aW];have e1:p2 (b-e)=p2 (b-(aN z e).2)*p2 (tz z.natAbs:Int):=by rw[<-sL (by omega) (by omega)];congr 1;omega
   rw[e1];have hp:=Kn (tz z.natAbs:Int);have:z/(p2 (b-(aN z e).2)*p2 (tz z.natAbs:Int))=(aN z e).1/p2 (b-(aN z e).2):=by
    generalize aN z e=p at *;generalize p2 (tz z.natAbs:Int)=q at *;rw[h1,cHQ _ _ hp]
   rw[this];rfl
theorem Zr{z e b:Int}(_:e<=b)(hb0:-1048576<=b)(hb:b+((bl (z/p2 (b-e)).natAbs:Nat):Int)<=1048577):pO.sU (aN z e) b=true:=by
 unfold pO.sU
 by_cases hc:(aN z e).1=0\/b<=(aN z e).2
 ·rw[decide_eq_true hc,cAW]
 ·have hz:z≠0:=fun h=>hc (.inl (dX.2 h))
  obtain⟨h1,h2⟩:=lE (e:=e) hz;have e1:p2 (b-e)=p2 (b-(aN z e).2)*p2 (tz z.natAbs:Int):=by rw[<-sL (by omega) (by omega)];congr 1;omega
  have hp:=Kn (tz z.natAbs:Int);have:z/p2 (b-e)=(aN z e).1/p2 (b-(aN z e).2):=by
   rw[e1];generalize aN z e=p at *;generalize p2 (tz z.natAbs:Int)=q at *;rw[h1,cHQ _ _ hp]
  rw[this]at hb;rw[decide_eq_false hc,bXP];exact gQ hb0 hb
end M
namespace W
open Go AI M
namespace aI
def E:=mE [] 11 [] [] []
def aE:=bd f78
theorem aX:Nk E aE:=nk
theorem start a:aH E f78 aE [D.s (sc (int i64 a))]=letI A:=int i64 0;aB (a==32) (some [D.agg [sc (int i64 32),sc (int i64 24),sc (int i64 (-149:Int)),sc (int u64 2143289345)]]) (aB (a==64) (some [D.agg [sc (int i64 64),sc (int i64 53),sc (int i64 (-1074:Int)),sc (int u64 9221120237041090561)]]) (some [D.agg [sc A,sc A,sc A,sc (int u64 0)]])):=eJ aX
def fR(f:Int):Int×Int×Int×Int:=if f=32 then(32,24,-149,2143289345)else if f=64 then(64,53,-1074,9221120237041090561)else(0,0,0,0)
def bEO(s:Int×Int×Int×Int):D:=.agg [.sc (.int .i64 s.1),.sc (.int .i64 s.2.1),.sc (.int .i64 s.2.2.1),.sc (.int .u64 s.2.2.2)]
def vB(s:Int×Int×Int×Int):Prop:=s=(32,24,-149,2143289345)\/s=(64,53,-1074,9221120237041090561)
theorem two32:vB (32,24,-149,2143289345):=.inl rfl
theorem tG:vB (64,53,-1074,9221120237041090561):=.inr rfl
def sp(f:Int):Prop×List D:=(True,[bEO (fR f)])
theorem spec:jE E f78 aE (pN .i64) sp:=by
 intro f h;refine(start f).trans ?_;unfold sp fR
 try dsimp only
 by_cases h1:f=32
 ·rw[cO h1,if_pos h1];rfl
 ·rw[bN h1,if_neg h1]
  by_cases h2:f=64
  ·rw[cO h2,if_pos h2];rfl
  ·rw[bN h2,if_neg h2];rfl
def aJ:dK:=orc1 (pN .i64) sp
theorem ok:OK 78 aJ:=(eZ E aE aD func78).pU rfl spec
end aI
namespace cF
def E:=mE [] 7 [] [] []
def aE:=bd f135
theorem aX:Nk E aE:=nk
theorem start a b c d:aH E f135 aE [D.agg [sc (int i64 a),sc (int i64 b),sc (int i64 c),sc (int u64 d)]]=if i64.wrap (a-1)<0 then none else some [D.s (sc (int u64 (u64.wrap ((1:Int)*(↑((2:Nat)^min (i64.wrap (a-1)).toNat 64):Int)))))]:=eJ aX
def cT(s:Int×Int×Int×Int):Int:=if s.1=32 then 2147483648 else 9223372036854775808
def sp(s:Int×Int×Int×Int):Prop×List D:=(aI.vB s,[.s (.sc (.int .u64 (cT s)))])
theorem spec:jE E f135 aE (pG (.pair (sN .i64) (.pair (sN .i64) (.pair (sN .i64) (sN .u64))))) sp:=by
 intro s h;refine(start s.1 s.2.1 s.2.2.1 s.2.2.2).trans ?_;rcases h with rfl |rfl
 ·rfl
 ·rfl
def aJ:dK:=orc1 (pG (.pair (sN .i64) (.pair (sN .i64) (.pair (sN .i64) (sN .u64))))) sp
theorem ok:OK 135 aJ:=(eZ E aE aD func135).pU rfl spec
end cF
namespace cS
def E:=mE [(78,aI.aJ),(135,cF.aJ)] 36 [] [(6,[1,4,8])] [6]
def aE:=bd f77
theorem aX:Nk E aE:=nk
def J6 a b c d e f g h i:=mD E f77 aE 6 [dC a,dM 1 84 [cV b,cV c,cV d,Yg e],dM 2 84 [cV f,cV g,cV h,Yg i]]
theorem start a b:aH E f77 aE [D.s (sc (int i64 a)),D.s (sc (int u64 b))]=letI A:=aI.fR a;letI G:=int i64 A.snd.fst;letI F:=int u64 A.snd.snd.snd;letI C:=int i64 A.snd.snd.fst;letI B:=cS.J6 b 0 0 0 0 A.fst A.snd.fst A.snd.snd.fst A.snd.snd.snd;aO True (aB (A.fst==0&&(A.snd.fst==0&&(A.snd.snd.fst==0&&(A.snd.snd.snd==0&&true)))) (some [D.agg [sc (int i64 A.fst),sc G,sc C,sc F],D.s (sc (bool false)),D.s (sc (int u64 0)),D.s (sc (int i64 1))]) (aB (decide (A.fst<64)) (if A.fst<0 then none else aB (b/(↑((2:Nat)^min A.fst.toNat 64):Int) !=(0:Int)) (some [D.agg [sc (int i64 A.fst),sc G,sc C,sc F],D.s (sc (bool false)),D.s (sc (int u64 0)),D.s (sc (int i64 2))]) B) B)):=eJ aX
theorem Nb a b c d e f g h i:J6 a b c d e f g h i=letI A:=(f,g,h,i);aO (aI.vB A) (aO (aI.vB A) (some [D.agg [sc (int i64 f),sc (int i64 g),sc (int i64 h),sc (int u64 i)],D.s (sc (bool (gA BinOp.and u64 a (cF.cT A) !=0))),D.s (sc (int u64 (gA BinOp.andNot u64 a (cF.cT A)))),D.s (sc (int i64 0))])):=cJ aX
theorem Xd{a b:Int}(ha:0<=a)(bFN:a<18446744073709551616)(hb:0<=b)(uZ:b<18446744073709551616):gA .andNot .u64 a b=((a.toNat &&& (2^64-(b.toNat+1)):Nat):Int):=by
 obtain⟨n,rfl⟩:=cAS ha;obtain⟨m,rfl⟩:=cAS hb;rw[wS];unfold bitsI0;simp only;have e:(BitVec.ofInt u64.bits (n:Int) &&& ~~~ BitVec.ofInt u64.bits (m:Int)).toNat=n &&& (2^64-(m+1)):=by
  show(BitVec.ofInt 64 (n:Int) &&& ~~~ BitVec.ofInt 64 (m:Int)).toNat=_;rw[BitVec.toNat_and,BitVec.toNat_not];have e1:(BitVec.ofInt 64 (n:Int)).toNat=n:=by simp;omega
  have e2:(BitVec.ofInt 64 (m:Int)).toNat=m:=by simp;omega
  rw[e1,e2];congr 1;omega
 have hle:n &&& (2^64-(m+1))<=n:=Nat.and_le_left;rw[e,wrap_u64];rfl
theorem Pz{n k:Nat}(hk:k<64)(h:n<2^(k+1)):n &&& (2^64-(2^k+1))=n%2^k:=by
 refine cGO fun i=>?_
 have hp:2^k<2^64:=cCW (by decide) hk;rw[cGM,cHE hp,cGH,cGY]
 by_cases h1:i<k
 ·have:¬k=i:=by omega
  have bOH:i<64:=by omega
  simp[h1,this,bOH]
 ·by_cases h2:i=k
  ·subst h2;simp
  ·have:n<2^i:=bWL h (bYP (by decide) (by omega));rw[cHR this];simp
theorem aBC{n k:Nat}(h:n<2^(k+1)):(n &&& 2^k)=if 2^k<=n then 2^k else 0:=by
 refine cGO fun i=>?_
 rw[cGM,cGY]
 by_cases h1:2^k<=n
 ·have ht:n.testBit k=true:=by
   rw[Nat.testBit_eq_decide_div_mod_eq];have:=cGE (k:=1) (show 1*2^k<=n by omega) (show n<(1+1)*2^k by rw[cAN]at h;omega);rw[this];rfl
  rw[if_pos h1,cGY]
  by_cases hi:k=i
  ·subst hi;simp[ht]
  ·simp[hi]
 ·rw[if_neg h1,Nat.zero_testBit]
  by_cases hi:k=i
  ·subst hi;rw[cHR (by omega)];rfl
  ·simp[hi]
def fN(f b:Int):Bool:=decide (f=64)||decide (b<4294967296)
def sp(f b:Int):Prop×List D:=((f=32\/f=64)/\0<=b/\b<18446744073709551616,[aI.bEO (aI.fR f),.s (.sc (.bool (fN f b&&decide (cF.cT (aI.fR f)<=b)))),.s (.sc (.int .u64 (bif fN f b then b%cF.cT (aI.fR f)else 0))),.s (.sc (.int .i64 (bif fN f b then 0 else 2)))])
theorem spec:gT E f77 aE (pN .i64) (pN .u64) sp:=by
 rintro f b ⟨hf,h0,h1⟩;obtain⟨n,rfl⟩:=cAS h0;refine(start f n).trans ((gP trivial).trans ?_);unfold sp
 try dsimp only
 rcases hf with rfl |rfl
 ·rw[show aI.fR 32=(32,24,-149,2143289345)from rfl]
  try dsimp only
  rw[Sx (by decide),aP (by decide),if_neg (by decide),show min (32:Int).toNat 64=32 from rfl,show cF.cT (32,24,-149,2143289345)=2147483648 from rfl]
  by_cases hc:(n:Int)<4294967296
  ·have hp:fN 32 n=true:=by unfold fN;rw[decide_eq_true hc,Bool.or_true]
   have a1:gA .and .u64 (n:Int) 2147483648=if(2147483648:Int)<=n then 2147483648 else 0:=by
    rw[Xe (by omega) (by omega) (by omega) (by omega),bZL];have:=aBC (n:=n) (k:=31) (by omega);rw[show(2147483648:Int).toNat=2^31 from rfl,this];split <;> split <;> first |rfl |omega
   have a2:gA .andNot .u64 (n:Int) 2147483648=(n:Int)%2147483648:=by
    rw[Xd (by omega) (by omega) (by omega) (by omega),bZL,show(2147483648:Int).toNat=2^31 from rfl,Pz (by omega) (by omega)];omega
   rw[gG,Nb,gP aI.two32,gP aI.two32,show cF.cT (32,24,-149,2143289345)=2147483648 from rfl,a1,a2,hp]
   by_cases hd:(2147483648:Int)<=n
   ·rw[if_pos hd,decide_eq_true hd];rfl
   ·rw[if_neg hd,decide_eq_false hd];rfl
  ·have hp:fN 32 n=false:=by unfold fN;rw[decide_eq_false hc];rfl
   rw[nC,hp];rfl
 ·rw[show aI.fR 64=(64,53,-1074,9221120237041090561)from rfl]
  try dsimp only
  have hp:fN 64 n=true:=rfl;have a1:gA .and .u64 (n:Int) 9223372036854775808=if(9223372036854775808:Int)<=n then 9223372036854775808 else 0:=by
   rw[Xe (by omega) (by omega) (by omega) (by omega),bZL];have:=aBC (n:=n) (k:=63) (by omega);rw[show(9223372036854775808:Int).toNat=2^63 from rfl,this];split <;> split <;> first |rfl |omega
  have a2:gA .andNot .u64 (n:Int) 9223372036854775808=(n:Int)%9223372036854775808:=by
   rw[Xd (by omega) (by omega) (by omega) (by omega),bZL,show(9223372036854775808:Int).toNat=2^63 from rfl,Pz (by omega) (by omega)];omega
  rw[Sx (by decide),aL (by decide),Nb,gP aI.tG,gP aI.tG,show cF.cT (64,53,-1074,9221120237041090561)=9223372036854775808 from rfl,a1,a2,hp]
  by_cases hd:(9223372036854775808:Int)<=n
  ·rw[if_pos hd,decide_eq_true hd];rfl
  ·rw[if_neg hd,decide_eq_false hd];rfl
def aJ:dK:=orc2 (pN .i64) (pN .u64) sp
theorem ok:OK 77 aJ:=(eZ E aE (aA aI.ok (aA cF.ok aD)) func77).mT rfl spec
end cS
namespace cN
def E:=mE [] 7 [] [] []
def aE:=bd f94
theorem aX:Nk E aE:=nk
theorem start a b c d:aH E f94 aE [D.agg [sc (int i64 a),sc (int i64 b),sc (int i64 c),sc (int u64 d)]]=if i64.wrap (b-1)<0 then none else some [D.s (sc (int u64 (u64.wrap ((1:Int)*(↑((2:Nat)^min (i64.wrap (b-1)).toNat 64):Int)))))]:=eJ aX
def kJ(s:Int×Int×Int×Int):Int:=if s.1=32 then 8388608 else 4503599627370496
def sp(s:Int×Int×Int×Int):Prop×List D:=(aI.vB s,[.s (.sc (.int .u64 (kJ s)))])
theorem spec:jE E f94 aE (pG (.pair (sN .i64) (.pair (sN .i64) (.pair (sN .i64) (sN .u64))))) sp:=by
 intro s h;refine(start s.1 s.2.1 s.2.2.1 s.2.2.2).trans ?_;rcases h with rfl |rfl
 ·rfl
 ·rfl
def aJ:dK:=orc1 (pG (.pair (sN .i64) (.pair (sN .i64) (.pair (sN .i64) (sN .u64))))) sp
theorem ok:OK 94 aJ:=(eZ E aE aD func94).pU rfl spec
end cN
namespace jZ
def E:=mE [(135,cF.aJ),(94,cN.aJ)] 8 [] [] []
def aE:=bd f81
theorem aX:Nk E aE:=nk
theorem start a b c d:aH E f81 aE [D.agg [sc (int i64 a),sc (int i64 b),sc (int i64 c),sc (int u64 d)]]=letI A:=(a,b,c,d);aO (aI.vB A) (aO (aI.vB A) (some [D.s (sc (int u64 (u64.wrap (cF.cT A-cN.kJ A))))])):=eJ aX
def lK(s:Int×Int×Int×Int):Int:=if s.1=32 then 2139095040 else 9218868437227405312
def sp(s:Int×Int×Int×Int):Prop×List D:=(aI.vB s,[.s (.sc (.int .u64 (lK s)))])
theorem spec:jE E f81 aE (pG (.pair (sN .i64) (.pair (sN .i64) (.pair (sN .i64) (sN .u64))))) sp:=by
 intro s h;refine(start s.1 s.2.1 s.2.2.1 s.2.2.2).trans ((gP h).trans ((gP h).trans ?_));rcases h with rfl |rfl
 ·rfl
 ·rfl
def aJ:dK:=orc1 (pG (.pair (sN .i64) (.pair (sN .i64) (.pair (sN .i64) (sN .u64))))) sp
theorem ok:OK 81 aJ:=(eZ E aE (aA cF.ok (aA cN.ok aD)) func81).pU rfl spec
end jZ
namespace cB
def E:=mE [(77,cS.aJ),(81,jZ.aJ)] 33 [15] [] []
def aE:=bd f42
theorem aX:Nk E aE:=nk
theorem start a b:aH E f42 aE [D.s (sc (int i64 a)),D.s (sc (int u64 b))]=letI F:=bif cS.fN a b then(0:Int)else(2:Int);letI B:=aI.fR a;letI I:=int i64 B.snd.fst;letI H:=int u64 B.snd.snd.snd;letI G:=int i64 B.snd.snd.fst;letI C:=(B.fst,B.snd.fst,B.snd.snd.fst,B.snd.snd.snd);letI A:=some [D.agg [sc (int i64 B.fst),sc I,sc G,sc H],D.s (sc (bool (cS.fN a b&&decide (cF.cT B<=b)))),D.s (sc (int u64 (bif cS.fN a b then b%cF.cT B else(0:Int)))),D.s (sc (int i64 F))];aO ((a=32\/a=64)/\0<=b/\b<18446744073709551616) (aB (F==0) (aO (aI.vB C) (aB (decide (jZ.lK C<=bif cS.fN a b then b%cF.cT B else(0:Int))) (some [D.agg [sc (int i64 B.fst),sc I,sc G,sc H],D.s (sc (bool false)),D.s (sc (int u64 0)),D.s (sc (int i64 6))]) A)) A):=eJ aX
def jD(f b:Int):Bool:=decide (b%cF.cT (aI.fR f)<jZ.lK (aI.fR f))
theorem Dk{f:Int}(h:f=32\/f=64):aI.vB (aI.fR f):=by
 rcases h with rfl |rfl
 ·exact .inl rfl
 ·exact .inr rfl
def sp(f b:Int):Prop×List D:=((f=32\/f=64)/\0<=b/\b<18446744073709551616,[aI.bEO (aI.fR f),.s (.sc (.bool (cS.fN f b&&(jD f b&&decide (cF.cT (aI.fR f)<=b))))),.s (.sc (.int .u64 (bif cS.fN f b&&jD f b then b%cF.cT (aI.fR f)else 0))),.s (.sc (.int .i64 (bif cS.fN f b then(bif jD f b then 0 else 6)else 2)))])
theorem spec:gT E f42 aE (pN .i64) (pN .u64) sp:=by
 intro f b h;refine(start f b).trans ((gP h).trans ?_);unfold sp jD
 try dsimp only
 have ht:=Dk h.1;generalize aI.fR f=s at *;obtain⟨s1,s2,s3,s4⟩:=s;cases hp:cS.fN f b with
 |false=>rfl
 |true =>
  try dsimp only[cond_true,bYQ]
  rw[cO rfl,gP ht]
  by_cases hc:b%cF.cT (s1,s2,s3,s4)<jZ.lK (s1,s2,s3,s4)
  ·rw[aL,decide_eq_true hc];rfl
  ·rw[aP,decide_eq_false hc];rfl
def aJ:dK:=orc2 (pN .i64) (pN .u64) sp
theorem ok:OK 42 aJ:=(eZ E aE (aA cS.ok (aA jZ.ok aD)) func42).mT rfl spec
end cB
namespace dV
def E:=mE [(94,cN.aJ)] 31 [] [] []
def aE:=bd f43
theorem aX:Nk E aE:=nk
theorem start a c d e b:aH E f43 aE [D.agg [sc (int i64 a),sc (int i64 c),sc (int i64 d),sc (int u64 e)],D.s (sc (int u64 b))]=letI B:=(a,c,d,e);letI C:=aI.vB B;letI A:=cN.kJ B;aO C (if cN.kJ B=0 then none else aO C (if cN.kJ B=0 then none else aB (u64.wrap (b.tdiv A)==0) (some [D.s (sc (int u64 (b.tmod A))),D.s (sc (int i64 d))]) (aO C (some [D.s (sc (int u64 (u64.wrap (cN.kJ B+b.tmod A)))),D.s (sc (int i64 (i64.wrap (i64.wrap (d+i64.wrap (u64.wrap (b.tdiv A)))-1))))])))):=eJ aX
def qF(s:Int×Int×Int×Int)(n:Int):Int:=if n/cN.kJ s=0 then n%cN.kJ s else cN.kJ s+n%cN.kJ s
def uA(s:Int×Int×Int×Int)(n:Int):Int:=if n/cN.kJ s=0 then s.2.2.1 else s.2.2.1+n/cN.kJ s-1
def sp(s:Int×Int×Int×Int)(n:Int):Prop×List D:=(aI.vB s/\0<=n/\n<9223372036854775808,[.s (.sc (.int .u64 (qF s n))),.s (.sc (.int .i64 (uA s n)))])
theorem spec:gT E f43 aE (pG (.pair (sN .i64) (.pair (sN .i64) (.pair (sN .i64) (sN .u64))))) (pN .u64) sp:=by
 rintro s n ⟨ht,h0,h1⟩;obtain⟨s1,s2,s3,s4⟩:=s;refine(start s1 s2 s3 s4 n).trans ?_;have hh:cN.kJ (s1,s2,s3,s4)=8388608\/cN.kJ (s1,s2,s3,s4)=4503599627370496:=by
  unfold cN.kJ;split <;> simp
 have hs:-1074<=s3/\s3<=0:=by rcases ht with ht |ht <;> (cases ht;omega)
 unfold sp qF uA
 try dsimp only
 rw[gP ht,gP ht,gP ht];generalize cN.kJ (s1,s2,s3,s4)=d at *;have t1:n.tdiv d=n/d:=cDZ h0;have t2:n.tmod d=n%d:=cEA h0;have b1:0<=n/d/\n/d<9223372036854775808:=by rcases hh with rfl |rfl <;> omega
 have b2:0<=n%d/\n%d<4503599627370496:=by rcases hh with rfl |rfl <;> omega
 rw[t1,t2,aW,aW,wrap_u64 (n:=n/d)]
 by_cases hz:n/d=0
 ·rw[cO hz,if_pos hz,if_pos hz]
 ·rw[bN hz,if_neg hz,if_neg hz,wrap_u64,wrap_i64 (n:=n/d),wrap_i64 (n:=s3+n/d),wrap_i64]
def aJ:dK:=orc2 (pG (.pair (sN .i64) (.pair (sN .i64) (.pair (sN .i64) (sN .u64))))) (pN .u64) sp
theorem ok:OK 43 aJ:=(eZ E aE (aA cN.ok aD) func43).mT rfl spec
end dV
namespace Tv
def E:=mE [(95,oA.aJ),(50,iY.aJ)] 20 [17] [] []
def aE:=bd f44
theorem aX:Nk E aE:=nk
theorem start a b c:aH E f44 aE [D.s (sc (bool a)),D.s (sc (int u64 b)),D.s (sc (int i64 c))]=letI G:=(b !=0,M6.dg b.toNat);letI F:=wv (bif true then b !=0 else false,M6.dg b.toNat);letI C:=(false,M6.dg b.toNat);letI B:=bif gY (wv C) c then aN (wv C) c else((0:Int),(0:Int));letI A:=bif gY F c then aN F c else((0:Int),(0:Int));aB a (aO (0<=b/\b<18446744073709551616) (aO (gL G/\(-9223372036854775808:Int)<=c/\c<9223372036854775808) (some [D.agg [sc (bool (isNeg A.fst)),ints u64 (M6.dg A.fst.natAbs),sc (int i64 A.snd)],D.s (sc (int i64 (bif gY (wv G) c then(0:Int)else(5:Int))))]))) (aO (0<=b/\b<18446744073709551616) (aO (gL C/\(-9223372036854775808:Int)<=c/\c<9223372036854775808) (some [D.agg [sc (bool (isNeg B.fst)),ints u64 (M6.dg B.fst.natAbs),sc (int i64 B.snd)],D.s (sc (int i64 (bif gY (wv C) c then(0:Int)else(5:Int))))]))):=eJ aX
def sp(a:Bool)(b c:Int):Prop×List D:=((0<=b/\b<18446744073709551616)/\-9223372036854775808<=c/\c<9223372036854775808,dE (gY (zs a b.toNat) c) (aN (zs a b.toNat) c))
theorem spec:oK E f44 aE pB (pN .u64) (pN .i64) sp:=by
 rintro a b c ⟨hb,hc⟩;refine(start a b c).trans ?_;have hl:=fL (n:=b.toNat) (k:=1) (cZ.2 (by omega));have aSH:∀s:Bool,wv (s,M6.dg b.toNat)=zs s b.toNat:=fun s=>by show zs s (M6.val (M6.dg b.toNat))=_;rw[M6.bQ]
 have h0:gL (false,M6.dg b.toNat):=⟨M6.aY _,fun h=>Bool.noConfusion h,(by omega:(M6.dg b.toNat).length<=8192)⟩;cases a with
 |false =>
  rw[bF,gP hb,gP ⟨h0,hc⟩,aSH];rfl
 |true =>
  have h1:gL (b !=0,M6.dg b.toNat):=⟨M6.aY _,fun h=>by
   have hb0:b≠0:=bne_iff_ne.1 h;show M6.val (M6.dg b.toNat)≠0;rw[M6.bQ];omega,by show(M6.dg b.toNat).length<=8192;omega⟩
  have e:zs (b !=0) b.toNat=zs true b.toNat:=by
   by_cases hb0:b=0
   ·subst hb0;rfl
   ·rw[bne_iff_ne.2 hb0]
  rw[bT]
  try dsimp only[cond_true]
  rw[gP hb,gP ⟨h1,hc⟩,aSH,e];rfl
def aJ:dK:=orc3 pB (pN .u64) (pN .i64) sp
theorem ok:OK 44 aJ:=(eZ E aE (aA oA.ok (aA iY.ok aD)) func44).yK rfl spec
end Tv
namespace bR
def E:=mE [(42,cB.aJ),(43,dV.aJ),(44,Tv.aJ)] 36 [15,33] [] []
def aE:=bd f12
theorem aX:Nk E aE:=nk
theorem start a b:aH E f12 aE [D.s (sc (int i64 a)),D.s (sc (int u64 b))]=letI H:=bif cS.fN a b then bif cB.jD a b then(0:Int)else(6:Int)else(2:Int);letI C:=aI.fR a;letI F:=(C.fst,C.snd.fst,C.snd.snd.fst,C.snd.snd.snd);letI B:=bif cS.fN a b&&cB.jD a b then b%cF.cT C else(0:Int);letI I:=dV.uA F B;letI G:=zs (cS.fN a b&&(cB.jD a b&&decide (cF.cT C<=b))) (dV.qF F B).toNat;letI A:=bif gY G I then aN G I else((0:Int),(0:Int));aO ((a=32\/a=64)/\0<=b/\b<18446744073709551616) (aB (H !=0) (some [D.agg [sc (bool false),sc (slice none 0 0),sc (int i64 0)],D.s (sc (int i64 H))]) (aO (aI.vB F/\(0<=bif cS.fN a b&&cB.jD a b then b%cF.cT C else(0:Int))/\B<9223372036854775808) (aO ((0<=dV.qF F B/\dV.qF F B<18446744073709551616)/\(-9223372036854775808:Int)<=dV.uA F B/\dV.uA F B<9223372036854775808) (some [D.agg [sc (bool (isNeg A.fst)),ints u64 (M6.dg A.fst.natAbs),sc (int i64 A.snd)],D.s (sc (int i64 (bif gY G I then(0:Int)else(5:Int))))])))):=eJ aX
def nB(f b:Int):Int:=zs (decide (cF.cT (aI.fR f)<=b)) (dV.qF (aI.fR f) (b%cF.cT (aI.fR f))).toNat
def nI(f b:Int):Int:=dV.uA (aI.fR f) (b%cF.cT (aI.fR f))
def sp(f b:Int):Prop×List D:=((f=32\/f=64)/\0<=b/\b<18446744073709551616,[dD (bif cS.fN f b&&cB.jD f b then aN (nB f b) (nI f b)else(0,0)),.s (.sc (.int .i64 (bif cS.fN f b then(bif cB.jD f b then 0 else 6)else 2)))])
theorem Rp{s:Int×Int×Int×Int}{n:Int}(_:aI.vB s)(_:0<=n):0<=dV.qF s n/\dV.qF s n<9007199254740992:=by
 unfold dV.qF cN.kJ;split <;> split <;> omega
theorem Sg{s:Int×Int×Int×Int}{n:Int}(ht:aI.vB s)(h0:0<=n)(h1:n<jZ.lK s):-1074<=dV.uA s n/\dV.uA s n<1024:=by
 rcases ht with rfl |rfl
 ·unfold dV.uA;have:n<2139095040:=h1;rw[show cN.kJ (32,24,-149,2143289345)=8388608 from rfl]
  try dsimp only
  split <;> omega
 ·unfold dV.uA;have:n<9218868437227405312:=h1;rw[show cN.kJ (64,53,-1074,9221120237041090561)=4503599627370496 from rfl]
  try dsimp only
  split <;> omega
theorem aVH{z e:Int}(hz:z.natAbs<9007199254740992)(h0:-1074<=e)(h1:e<1024):gY z e=true:=by
 unfold gY
 by_cases hc:z=0
 ·rw[decide_eq_true hc,cAW]
 ·have h2:=Dj (n:=z.natAbs) (by omega);have h3:bl z.natAbs<=53:=cZ.2 (by omega);rw[decide_eq_true (show -1048576<=e+(tz z.natAbs:Int) by omega),decide_eq_true (show e+(tz z.natAbs:Int)<=1048576 by omega),bYQ,Bool.or_true]
theorem spec:Mt E f12 aE (pN .i64) (pN .u64) sp:=by
 intro f b h;have e:=(start f b).trans (gP h);have ht:=cB.Dk h.1;have hb0:0<=b:=h.2.1;unfold sp
 try dsimp only
 cases hp:cS.fN f b with
 |false =>
  rw[hp]at e;refine⟨_,e,.cons ?_ (iD.refl _)⟩;unfold dD;rw[cAV,cond_false,show((0,0):Int×Int).1.natAbs=0 from rfl,M6.cK];exact yO.agg (.cons (Da.refl _) (.cons (Da.nil _) (yH.refl _)))
 |true =>
  rw[hp]at e;cases hq:cB.jD f b with
  |false =>
   rw[hq]at e;refine⟨_,e,.cons ?_ (iD.refl _)⟩;unfold dD;rw[cBA,cond_false,show((0,0):Int×Int).1.natAbs=0 from rfl,M6.cK];exact yO.agg (.cons (Da.refl _) (.cons (Da.nil _) (yH.refl _)))
  |true =>
   rw[hq]at e;have Br:0<=b%cF.cT (aI.fR f):=by
    unfold cF.cT;split <;> omega
   have oX:b%cF.cT (aI.fR f)<jZ.lK (aI.fR f):=of_decide_eq_true hq;have hinf:jZ.lK (aI.fR f)<=9218868437227405312:=by unfold jZ.lK;split <;> omega
   have hm:=Rp ht Br;have hx:=Sg ht Br oX;rw[show(true&&true)=true from rfl]at e
   try dsimp only[cond_true]at e
   rw[show((aI.fR f).1,(aI.fR f).2.1,(aI.fR f).2.2.1,(aI.fR f).2.2.2)=aI.fR f from rfl]at e;rw[gG rfl,gP ⟨ht,Br,by omega⟩,gP ⟨⟨hm.1,by omega⟩,by omega,by omega⟩]at e;refine⟨_,e,?_⟩;have hi:gY (nB f b) (nI f b)=true:=aVH (by unfold nB;rw[lP];omega) hx.1 hx.2;unfold nB nI at hi;unfold nB nI;rw[show(true&&(true&&decide (cF.cT (aI.fR f)<=b)))=decide (cF.cT (aI.fR f)<=b)from rfl,hi];exact iD.refl _
def aJ:dK:=orc2 (pN .i64) (pN .u64) sp
theorem ok:OK 12 aJ:=(eZ E aE (aA cB.ok (aA dV.ok (aA Tv.ok aD))) func12).aHQ rfl spec
end bR
namespace aGM
def E:=mE [(95,oA.aJ),(105,De.aJ)] 14 [] [] []
def aE:=bd f51
theorem aX:Nk E aE:=nk
theorem start a:aH E f51 aE [D.s (sc (int i64 a))]=letI B:=M6.dg (u64.wrap a).toNat;letI C:=zs false (M6.val B);letI A:=M6.dg (u64.wrap ((0:Int)-u64.wrap a)).toNat;letI F:=zs true (M6.val A);aB (decide (a<0)) (aO (0<=u64.wrap ((0:Int)-u64.wrap a)/\u64.wrap ((0:Int)-u64.wrap a)<18446744073709551616) (aO (M6.cR A/\A.length<=1099511627776) (some [D.agg [sc (bool (isNeg F)),ints u64 (M6.dg F.natAbs)]]))) (aO (0<=u64.wrap a/\u64.wrap a<18446744073709551616) (aO (M6.cR B/\B.length<=1099511627776) (some [D.agg [sc (bool (isNeg C)),ints u64 (M6.dg C.natAbs)]]))):=eJ aX
def sp(a:Int):Prop×List D:=(-9223372036854775808<=a/\a<9223372036854775808,[wD a])
theorem spec:jE E f51 aE (pN .i64) sp:=by
 rintro a ⟨h1,h2⟩;refine(start a).trans ?_;show _=some [wD a]
 by_cases hn:a<0
 ·have w1:u64.wrap (0-u64.wrap a)=(a.natAbs:Int):=by rw[fJ,fJ];omega
  have hl:=fL (n:=a.natAbs) (k:=1) (cZ.2 (by omega));rw[aP hn,w1,bZL,gP ⟨by omega,by omega⟩,gP ⟨M6.aY _,by omega⟩,M6.bQ];have:zs true a.natAbs=a:=by show -(a.natAbs:Int)=a;omega
  rw[this];rfl
 ·have w1:u64.wrap a=(a.natAbs:Int):=by rw[fJ];omega
  have hl:=fL (n:=a.natAbs) (k:=1) (cZ.2 (by omega));rw[aL hn,w1,bZL,gP ⟨by omega,by omega⟩,gP ⟨M6.aY _,by omega⟩,M6.bQ];have:zs false a.natAbs=a:=by show((a.natAbs:Nat):Int)=a;omega
  rw[this];rfl
def aJ:dK:=orc1 (pN .i64) sp
theorem ok:OK 51 aJ:=(eZ E aE (aA oA.ok (aA De.ok aD)) func51).pU rfl spec
end aGM
namespace Xi
def E:=mE [(51,aGM.aJ),(50,iY.aJ)] 15 [] [] []
def aE:=bd f57
theorem aX:Nk E aE:=nk
theorem start a b:aH E f57 aE [D.s (sc (int i64 a)),D.s (sc (int i64 b))]=letI B:=(isNeg a,M6.dg a.natAbs);letI A:=bif gY (wv B) b then aN (wv B) b else((0:Int),(0:Int));aO ((-9223372036854775808:Int)<=a/\a<9223372036854775808) (aO (gL B/\(-9223372036854775808:Int)<=b/\b<9223372036854775808) (some [D.agg [sc (bool (isNeg A.fst)),ints u64 (M6.dg A.fst.natAbs),sc (int i64 A.snd)]])):=eJ aX
def sp(m e:Int):Prop×List D:=((-9223372036854775808<=m/\m<9223372036854775808)/\-9223372036854775808<=e/\e<9223372036854775808,[dD (bif gY m e then aN m e else(0,0))])
theorem spec:gT E f57 aE (pN .i64) (pN .i64) sp:=by
 rintro m e ⟨h1,h2⟩;refine(start m e).trans ?_;have hb:bl m.natAbs<=64:=cZ.2 (by omega);rw[gP h1,gP ⟨fT (by omega),h2⟩,nA];rfl
def aJ:dK:=orc2 (pN .i64) (pN .i64) sp
theorem ok:OK 57 aJ:=(eZ E aE (aA aGM.ok (aA iY.ok aD)) func57).mT rfl spec
end Xi
namespace Tr
def E:=mE [(108,pO.aJ)] 11 [8] [] []
def aE:=bd f58
theorem aX:Nk E aE:=nk
theorem start a c d b:aH E f58 aE [D.agg [sc (bool a),ints u64 c,sc (int i64 d)],D.s (sc (int i64 b))]=letI B:=dv (a,c,d);letI A:=bif pO.sU B b then pO.zX B b else((0:Int),(0:Int));aO (aQ (a,c,d)/\((-4611686018427387904:Int)<=b/\b<4611686018427387904)/\false=false) (some [D.agg [sc (bool (isNeg A.fst)),ints u64 (M6.dg A.fst.natAbs),sc (int i64 A.snd)],D.s (sc (int i64 (bif pO.sU B b then(0:Int)else(5:Int))))]):=eJ aX
def sp(x:gE)(b:Int):Prop×List D:=(aQ x/\-4611686018427387904<=b/\b<4611686018427387904,dE (pO.sU (dv x) b) (pO.zX (dv x) b))
theorem spec:gT E f58 aE iX (pN .i64) sp:=fun x b h =>
 (start x.1 x.2.1 x.2.2 b).trans (gP ⟨h.1,h.2,rfl⟩)
def aJ:dK:=orc2 iX (pN .i64) sp
theorem ok:OK 58 aJ:=(eZ E aE (aA pO.ok aD) func58).mT rfl spec
end Tr
namespace aNZ
def E:=mE [(45,lO.aJ),(47,Fb.aJ),(46,mB.aJ)] 22 [] [] []
def aE:=bd f68
theorem aX:Nk E aE:=nk
theorem start a b c:aH E f68 aE [D.agg [sc (bool a),ints u64 b,sc (int i64 c)]]=aO (aQ (a,b,c)) (aO (b.length<=1099511627776) (aB (!a) (aO True (some [D.agg [sc (bool !(b.length:Int)==(0:Int)),ints u64 b,sc (int i64 c)],D.s (sc (int i64 0))])) (some [D.agg [sc (bool false),ints u64 b,sc (int i64 c)],D.s (sc (int i64 0))]))):=eJ aX
def sp(x:gE):Prop×List D:=(aQ x,dE true (-(dv x).1,(dv x).2))
theorem spec:jE E f68 aE iX sp:=by
 intro x h;have h:aQ x:=h;have hl:=h.len;have hc:=h.Dh.cells;refine(start x.1 x.2.1 x.2.2).trans ?_;obtain⟨b,a,e⟩:=x
 try dsimp only at *
 unfold sp
 try dsimp only
 rw[gP h,gP];have hz:=M6.dZ h.Hv;have ha:=iG (b,a)
 try dsimp only at ha hz
 have e1:dE true (-(dv (b,a,e)).1,(dv (b,a,e)).2)=[D.agg [.sc (.bool (isNeg (-(wv (b,a))))),.ints .u64 a,.sc (.int .i64 e)],.s (.sc (.int .i64 0))]:=by
  show [M.dD (-(wv (b,a)),e),_]=_;unfold M.dD
  try dsimp only
  rw[Int.natAbs_neg,hc.2];rfl
 rw[e1];cases b with
 |true =>
  have:wv (true,a)=-(M6.val a:Int):=Qp (x:=(true,a)) rfl;rw[bXO,bF,iO.2 (by omega)]
 |false =>
  have hw:wv (false,a)=(M6.val a:Int):=Fe (x:=(false,a)) rfl;rw[cGW,bT,gP trivial]
  by_cases h0:a.length=0
  ·rw[beq_iff_eq.2 (show(a.length:Int)=0 by omega),iO.2 (by have:=hz.1 h0;omega)];rfl
  ·rw[beq_eq_false_iff_ne.2 (show(a.length:Int)≠0 by omega),nL.2 (by have:M6.val a≠0:=fun h=>h0 (hz.2 h);omega)];rfl
def aJ:dK:=orc1 iX sp
theorem ok:OK 68 aJ:=(eZ E aE (aA lO.ok (aA Fb.ok (aA mB.ok aD))) func68).pU rfl spec
end aNZ
namespace Tq
def E:=mE [(68,aNZ.aJ),(13,bI.aJ)] 22 [10,19] [] []
def aE:=bd f59
theorem aX:Nk E aE:=nk
theorem start a b c d e f:aH E f59 aE [D.agg [sc (bool a),ints u64 b,sc (int i64 c)],D.agg [sc (bool d),ints u64 e,sc (int i64 f)]]=letI G:=dv (a,b,c);letI F:=dv (d,e,f);letI C:=bif true then(-F.fst,F.snd)else((0:Int),(0:Int));letI A:=dv (isNeg C.fst,M6.dg C.fst.natAbs,C.snd);letI B:=bif bI.jW G A then bI.nD G A else((0:Int),(0:Int));aO (aQ (d,e,f)) (aO (aQ (a,b,c)/\aQ (isNeg (-F.fst),M6.dg (-F.fst).natAbs,F.snd)) (some [D.agg [sc (bool (isNeg B.fst)),ints u64 (M6.dg B.fst.natAbs),sc (int i64 B.snd)],D.s (sc (int i64 (bif bI.jW G A then(0:Int)else(5:Int))))])):=eJ aX
def sp(x y:gE):Prop×List D:=(aQ x/\aQ y,dE (bI.jW (dv x) (-(dv y).1,(dv y).2)) (bI.nD (dv x) (-(dv y).1,(dv y).2)))
theorem spec:gT E f59 aE iX iX sp:=by
 rintro x y ⟨hx,hy⟩;refine(start x.1 x.2.1 x.2.2 y.1 y.2.1 y.2.2).trans ?_;have hn:=dG hy.vD.neg;have hv:=dU (-(dv y).1,(dv y).2);rw[gP hy,gP ⟨hx,hn⟩]
 try dsimp only[cond_true]at hv ⊢
 rw[hv];rfl
def aJ:dK:=orc2 iX iX sp
theorem ok:OK 59 aJ:=(eZ E aE (aA aNZ.ok (aA bI.ok aD)) func59).mT rfl spec
end Tq
end W
namespace M6
open Go M
def pT(n v:Nat):List Int:=dg v ++ bXR (n-(dg v).length) 0
theorem lV{n v:Nat}:val (pT n v)=v:=by
 unfold pT;rw[jI,jU,bQ];omega
theorem lW{n v:Nat}:cY (pT n v):=qL.2 ⟨lG _,kZ _⟩
theorem iH{n v:Nat}(h:v<18446744073709551616^n):(pT n v).length=n:=by
 have:=eB h;unfold pT;rw[List.length_append,List.length_replicate];omega
theorem oY {a : List Int} {n v : Nat} (h : cY a) (hl : a.length = n) (hv : val a = v) : a = pT n v := by
  subst hl; subst hv
  obtain ⟨k, hk⟩ := Gj h
  unfold pT
  have : a.length = (dg (val a)).length + k := by conv => lhs; rw [hk]
                                                  simp
  rw [this, Nat.add_sub_cancel_left]
  exact hk
theorem aLQ{n:Nat}:pT n 0=bXR n 0:=by simp[pT,cK]
theorem aLR{n v:Nat}:(pT n v).take (dg v).length=dg v:=by
 unfold pT;exact List.take_left
theorem qR{a:List Int}{j:Nat}(hj:j<a.length)(d:Int):val (a.set j d)+18446744073709551616^j*(a.getD j 0).toNat=val a+18446744073709551616^j*d.toNat:=by
 have h1:=iZ (a.set j d) (n:=j) (by simp;omega);have h2:=iZ a (n:=j) (by omega);rw[xC hj,cGF (bVO j)]at h1;rw[jM (a:=a) j]at h2;rw[h1,h2,cAO,cAO];omega
theorem qB{m n:Nat}(h:m<=n):18446744073709551616^m<=18446744073709551616^n:=bYP (by omega) h
theorem Ve{a:List Int}(h:cR a):∀k,cR (a.drop k)
 |0=>h
 |k+1=>by
  match a,h with
  | [],h=>simpa using h
  |d :: a,h=>exact Ve (Vd h) k
theorem tL{a:List Int}(h:cY a)(k:Nat):val (a.take k)=val a%18446744073709551616^k:=by
 by_cases hk:k<=a.length
 ·rw[iZ a hk,cHS,cFW (iN h k)]
 ·rw[dS (by omega),cFW];exact bWL (dT h) (qB (by omega))
theorem nH{a:List Int}(h:cY a)(k:Nat):val (a.drop k)=val a/18446744073709551616^k:=by
 by_cases hk:k<=a.length
 ·have h1:=iZ a hk;have h2:=iN h k;rw[h1,cCS _ _ (cX),cBI h2,bVQ]
 ·rw[cGZ (by omega),cBI]
  ·rfl
  ·exact bWL (dT h) (qB (by omega))
theorem Ax(v o n:Nat):v=v%18446744073709551616^o+18446744073709551616^o*(v/18446744073709551616^o%18446744073709551616^n)+18446744073709551616^(o+n)*(v/18446744073709551616^(o+n)):=by
 have h1:=cGA v (18446744073709551616^o);have h2:=cGA (v/18446744073709551616^o) (18446744073709551616^n);rw[cCA,<-cAQ]at h2
 conv=>lhs;rw[<-h1,<-h2]
 rw[cAO,<-cAR,<-cAQ];omega
theorem Uc{v v' o n X c:Nat}(h1:v'%18446744073709551616^o=v%18446744073709551616^o)(h2:v'/18446744073709551616^(o+n)=v/18446744073709551616^(o+n))(h:v'+18446744073709551616^o*X=v+18446744073709551616^(o+n)*c) :
  v'/18446744073709551616^o%18446744073709551616^n+X=v/18446744073709551616^o%18446744073709551616^n+18446744073709551616^n*c:=by
 have e1:=Ax v o n;have e2:=Ax v' o n;rw[h1,h2]at e2;apply Nat.eq_of_mul_eq_mul_left (bYO (n:=o) (by omega:0<18446744073709551616));have e3:18446744073709551616^(o+n)*c=18446744073709551616^o*(18446744073709551616^n*c):=by rw[cAQ,cAR]
 rw[e3]at h;rw[cAO,cAO];omega
theorem Yf(v o n:Nat):v/18446744073709551616^o%18446744073709551616^n<18446744073709551616^n:=bXW _ (cX)
theorem Ud{z z':List Int}(hd:cY z)(yV:cY z'){o n:Nat}(h1:z'.take o=z.take o)(h2:z'.drop (o+n)=z.drop (o+n)):val z'%18446744073709551616^o=val z%18446744073709551616^o/\val z'/18446744073709551616^(o+n)=val z/18446744073709551616^(o+n):=by
 rw[<-tL hd,<-tL yV,h1,<-nH hd,<-nH yV,h2];exact⟨rfl,rfl⟩
end M6
namespace W
open Go AI M
namespace aNN
def E:=mE [(147,Ak.aJ)] 18 [] [] []
def aE:=bd f193
theorem aX:Nk E aE:=nk
theorem start a:aH E f193 aE [D.s (ints u64 a)]=letI B:=M6.dg (M6.val a);letI A:=(B.length:Int);aO (M6.cY a/\a.length<=1099511627776) (aB (decide (8192<A)) (some [D.s (sc (slice none 0 0)),D.s (sc (int i64 5))]) (if 0<=A/\A<=A/\A<=(8796093022208:Int)then some [D.own 22 u64 (cER A.toNat B ++ cEQ (min B.length A.toNat) (bXR A.toNat (0:Int))),D.s (sc (int i64 0))]else none)):=eJ aX
def sp(a:List Int):Prop×List D:=(M6.cY a/\a.length<=1099511627776,[.s (.ints .u64 (bif cP.mM (M6.val a)then M6.dg (M6.val a)else [])),.s (.sc (.int .i64 (bif cP.mM (M6.val a)then 0 else 5)))])
theorem spec:aNH E f193 aE (pI .u64) sp:=by
 intro a h;have hl:=M6.tT h.1;have h2:=h.2;have e:=(start a).trans (gP h);unfold sp cP.mM;simp only;generalize M6.dg (M6.val a)=d at *
 by_cases hc:d.length<=8192
 ·rw[aL,if_pos ⟨by omega,by omega,by omega⟩]at e;rw[decide_eq_true hc];refine⟨_,e,.cons ?_ (iD.refl _)⟩;simp only[bZL,cCD,Nat.min_self,cond_true];have:cEQ d.length (bXR d.length (0:Int))=[]:=List.drop_eq_nil_of_le (by simp);rw[this,cAX];exact yO.own _ _ _
 ·rw[aP]at e;rw[decide_eq_false hc];exact⟨_,e,.cons (yO.nil _) (iD.refl _)⟩
def aJ:dK:=orc1 (pI .u64) sp
theorem ok:OK 193 aJ:=(eZ E aE (aA Ak.ok aD) func193).aZT rfl spec
end aNN
namespace aNP
def E:=mE [(137,Ap.aJ)] 6 [] [] []
def aE:=bd f195
theorem aX:Nk E aE:=nk
theorem start a:aH E f195 aE [D.s (sc (int u64 a))]=aO (0<=a/\a<18446744073709551616) (some [D.s (sc (int i64 (i64.wrap ((64:Int)-(↑(bl a.toNat):Int)))))]):=eJ aX
def sp(a:Int):Prop×List D:=(0<=a/\a<18446744073709551616,[.s (.sc (.int .i64 (64-(bl a.toNat:Int))))])
theorem spec:jE E f195 aE (pN .u64) sp:=by
 intro a h;refine(start a).trans ((gP h).trans ?_);obtain⟨h1,h2⟩:=h;have:bl a.toNat<=64:=cZ.2 (by omega);rw[wrap_i64];rfl
def aJ:dK:=orc1 (pN .u64) sp
theorem ok:OK 195 aJ:=(eZ E aE (aA Ap.ok aD) func195).pU rfl spec
end aNP
namespace sE
def E:=mE [(195,aNP.aJ)] 135 [] [(24,[2,8,9,10,14,15,16,17,18]),(17,[2,8,9,10,11,13,14,15,16]),(3,[0,1,2]),(5,[0,1,2]),(18,[2,8,9,10,11,13,14,15,16]),(21,[2,8,9,10,11,13,14,15]),(25,[2,8,9,10,14,15,16,17,18]),(28,[2,8,14,15,17,18])] [3,5,18,21,25,28]
def aE:=bd f226
theorem aX:Nk E aE:=nk
def J3 a b c:=mD E f226 aE 3 [dC a,dC b,dC c]
def J5 a b c:=mD E f226 aE 5 [dC a,dC b,dC c]
def aZP a b c d e f g h i:=qV E f226 aE 17 [dC a,dC b,dC c,dC d,dC e,dC f,dC g,dC h,dC i]
def bLR a b c d e f g h i:=mD E f226 aE 18 [dC a,dC b,dC c,dC d,dC e,dC f,dC g,dC h,dC i]
def bEK a b c d e f g h:=mD E f226 aE 21 [dC a,dC b,dC c,dC d,dC e,dC f,dC g,dC h]
def bEH a b c d e f g h i:=qV E f226 aE 24 [dC a,dC b,dC c,dC d,dC e,dC f,dC g,dC h,dC i]
def bLQ a b c d e f g h i:=mD E f226 aE 25 [dC a,dC b,dC c,dC d,dC e,dC f,dC g,dC h,dC i]
def bEJ a b c d e f:=mD E f226 aE 28 [dC a,dC b,dC c,dC d,dC e,dC f]
theorem start a b c:aH E f226 aE [D.s (sc (int u64 a)),D.s (sc (int u64 b)),D.s (sc (int u64 c))]=aB (c==0) none (sE.J3 a b c):=eJ aX
theorem gU a b c:J3 a b c=aB (decide (c<=a)) none (sE.J5 a b c):=cJ aX
theorem Xm a b c:J5 a b c=letI C:=(↑(bl c.toNat):Int);letI H:=u64.wrap ((64:Int)-C);letI B:=b/(↑((2:Nat)^min (u64.wrap ((64:Int)-u64.wrap ((64:Int)-C))).toNat 64):Int);letI A:=(↑((2:Nat)^min H.toNat 64):Int);letI G:=gA BinOp.or u64 (u64.wrap (a*A)) B;letI F:=u64.wrap (c*A)/4294967296;aB (a==0) (if c=0 then none else if c=0 then none else some [D.s (sc (int u64 (u64.wrap (b.tdiv c)))),D.s (sc (int u64 (b.tmod c)))]) (aO (0<=c/\c<18446744073709551616) (if u64.wrap ((64:Int)-C)<0 then none else if u64.wrap ((64:Int)-C)<0 then none else if u64.wrap ((64:Int)-u64.wrap ((64:Int)-C))<0 then none else if u64.wrap ((64:Int)-C)<0 then none else if u64.wrap (c*A)/4294967296=(0:Int)then none else sE.aZP (u64.wrap (c*A)) H F (gA BinOp.and u64 (u64.wrap (c*A)) 4294967295) G (u64.wrap (b*A)/4294967296) (gA BinOp.and u64 (u64.wrap (b*A)) 4294967295) (u64.wrap (G.tdiv F)) (u64.wrap (gA BinOp.or u64 (u64.wrap (a*A)) B-u64.wrap (u64.wrap (G.tdiv F)*F))))):=cJ aX
theorem aXZ a b c d e f g h i:aZP a b c d e f g h i=letI A:=sE.bLR a b c d e f g h i;aB (decide (4294967296<=h)) A (aB (decide (u64.wrap (u64.wrap ((4294967296:Int)*i)+f)<u64.wrap (h*d))) A (sE.bEK a b c d e f g h)):=lJ aX
theorem aYE a b c d e f g h i:bLR a b c d e f g h i=aB (decide (4294967296<=u64.wrap (i+c))) (sE.bEK a b c d e f g (u64.wrap (h-1))) (sE.aZP a b c d e f g (u64.wrap (h-1)) (u64.wrap (i+c))):=cJ aX
theorem aYD a b c d e f g h:bEK a b c d e f g h=letI A:=u64.wrap (u64.wrap (e*4294967296)+f)-u64.wrap (h*a);letI B:=u64.wrap A;if c=0 then none else sE.bEH a b c d g h (u64.wrap (u64.wrap A-u64.wrap (u64.wrap (B.tdiv c)*c))) B (u64.wrap (B.tdiv c)):=cJ aX
theorem aXY a b c d e f g h i:bEH a b c d e f g h i=letI A:=sE.bLQ a b c d e f g h i;aB (decide (4294967296<=i)) A (aB (decide (u64.wrap (u64.wrap ((4294967296:Int)*g)+e)<u64.wrap (i*d))) A (sE.bEJ a b e f h i)):=lJ aX
theorem aYC a b c d e f g h i:bLQ a b c d e f g h i=aB (decide (4294967296<=u64.wrap (g+c))) (sE.bEJ a b e f h (u64.wrap (i-1))) (sE.bEH a b c d e f (u64.wrap (g+c)) h (u64.wrap (i-1))):=cJ aX
theorem aYB a b c d e f:bEJ a b c d e f=if b<0 then none else some [D.s (sc (int u64 (u64.wrap (u64.wrap (d*4294967296)+f)))),D.s (sc (int u64 (u64.wrap (u64.wrap (u64.wrap (e*4294967296)+c)-u64.wrap (f*a))/(↑((2:Nat)^min b.toNat 64):Int))))]:=cJ aX
theorem aHP{n:Nat}(h:n<18446744073709551616):u64.wrap (n:Int)=(n:Int):=wrap_u64 (cFA _) (Int.ofNat_lt.2 h)
theorem loop{y1 y0 u u1:Nat}(aKL:2147483648<=y1)(aVK:y1<4294967296)(aTE:y0<4294967296)(hu:u<y1*4294967296+y0)(aKN:u1<4294967296)
  (Lf Jf:Int->Int->Option (List D)) (Kf:Int->Option (List D))
  (hL:∀q r,Lf q r=aB (decide (4294967296<=q)) (Jf q r) (aB (decide (u64.wrap (u64.wrap (4294967296*r)+(u1:Int))<u64.wrap (q*(y0:Int)))) (Jf q r) (Kf q)))
  (hJ:∀q r,Jf q r=aB (decide (4294967296<=u64.wrap (r+(y1:Int)))) (Kf (u64.wrap (q-1))) (Lf (u64.wrap (q-1)) (u64.wrap (r+(y1:Int))))) :
  ∀(q r:Nat),u=q*y1+r->r<4294967296->u*4294967296+u1<(q+1)*(y1*4294967296+y0) ->
   Lf (q:Int) (r:Int)=Kf (((u*4294967296+u1)/(y1*4294967296+y0):Nat):Int):=by
 have hy:0<y1*4294967296+y0:=by omega
 intro q
 induction q with
 |zero =>
  intro r h1 h2 h3;have h0:(u*4294967296+u1)/(y1*4294967296+y0)=0:=cBI (by omega);rw[hL,aL,h0,show(((0:Nat):Int)*(y0:Int))=0 from by omega,wrap_u64 (n:=0),aL ?_];rw[wrap_u64 (n:=4294967296*(r:Int)),wrap_u64];omega
 |succ q ih =>
  intro r h1 h2 h3;have hq:q<=4294967296:=by
   refine bYI fun hc=>?_
   have:4294967297*y1<=q*y1:=bXD _ hc;rw[bWI]at h1;omega
  have w1:u64.wrap (((q+1:Nat):Int)-1)=(q:Int):=by rw[wrap_u64];omega
  have w2:u64.wrap ((r:Int)+(y1:Int))=((r+y1:Nat):Int):=by rw[wrap_u64];omega
  have hle:(q+1)*y0<=4294967297*4294967295:=cFZ (by omega) (by omega);have w3:u64.wrap (((q+1:Nat):Int)*(y0:Int))=(((q+1)*y0:Nat):Int):=by
   rw[<-cBP];exact wrap_u64
  have w4:u64.wrap (u64.wrap (4294967296*(r:Int))+(u1:Int))=((4294967296*r+u1:Nat):Int):=by
   rw[wrap_u64 (n:=4294967296*(r:Int)),wrap_u64];omega
  have ex:(q+1)*(y1*4294967296+y0)=(q*y1+y1)*4294967296+(q+1)*y0:=by
   rw[cAO,<-cAR,bWI q 1 y1,bZS]
  have bUS:q*(y1*4294967296+y0)=(q*y1)*4294967296+q*y0:=by
   rw[cAO,<-cAR]
  have Xy:u=q*y1+(r+y1):=by rw[bWI]at h1;omega
  have aFL:u*4294967296+u1<(q+1)*(y1*4294967296+y0)->Jf ((q+1:Nat):Int) r=Kf (((u*4294967296+u1)/(y1*4294967296+y0):Nat):Int):=by
   intro hT;rw[hJ,w1,w2]
   by_cases hc:4294967296<=r+y1
   ·have aYW:q*y0<=4294967296*4294967295:=cFZ hq (by omega);have:(u*4294967296+u1)/(y1*4294967296+y0)=q:=by
     refine cGE ?_ hT;rw[bUS,Xy];omega
    rw[aP,this]
   ·rw[aL];exact ih (r+y1) Xy (by omega) hT
  rw[hL,w3,w4]
  by_cases hb:4294967296<=q+1
  ·rw[aP];apply aFL;have:4294967296*(y1*4294967296+y0)<=(q+1)*(y1*4294967296+y0):=bXD _ hb;omega
  ·rw[aL]
   by_cases hc:4294967296*r+u1<(q+1)*y0
   ·rw[aP];apply aFL;rw[ex];omega
   ·have:(u*4294967296+u1)/(y1*4294967296+y0)=q+1:=by
     refine cGE ?_ h3;rw[ex,Xy];rw[bWI (q*y1)];omega
    rw[aL,this]
theorem aZS(P b Q:Int):u64.wrap (u64.wrap (u64.wrap P+b)-u64.wrap Q)=u64.wrap (P+b-Q):=by
 rw[fJ,fJ,fJ,fJ,fJ];omega
theorem bAP{u u1 y:Nat}(hy:0<y)(bHP:y<=18446744073709551616):u64.wrap ((u:Int)*4294967296+(u1:Int)-(((u*4294967296+u1)/y:Nat):Int)*(y:Int))=(((u*4294967296+u1)%y:Nat):Int):=by
 have h:=cAT (u*4294967296+u1) y;have hm:=bXW (u*4294967296+u1) hy;rw[<-cBP,cAM _ y];generalize y*((u*4294967296+u1)/y)=z at *;generalize (u*4294967296+u1)%y=m at *;rw[wrap_u64];omega
theorem bAR{y1 y0 u u1 u0 s:Nat}(aKL:2147483648<=y1)(aVK:y1<4294967296)(aTE:y0<4294967296)(hu:u<y1*4294967296+y0)(aKN:u1<4294967296)(aYU:u0<4294967296)(hs:s<=63) :
  aZP ((y1*4294967296+y0:Nat):Int) s y1 y0 u u1 u0 ((u/y1:Nat):Int) ((u%y1:Nat):Int) =
   some [D.s (.sc (.int .u64 (((u*18446744073709551616+(u1*4294967296+u0))/(y1*4294967296+y0):Nat):Int))),D.s (.sc (.int .u64 (((u*18446744073709551616+(u1*4294967296+u0))%(y1*4294967296+y0)/2^s:Nat):Int)))]:=by
 have hy:0<y1*4294967296+y0:=by omega
 have aIU:∀v:Nat,∀w:Nat,w<4294967296->v*4294967296+w<(v/y1+1)*(y1*4294967296+y0):=by
  intro v w hw;have h:=cAT v y1;have hm:=bXW v (show 0<y1 by omega);have:(v/y1+1)*(y1*4294967296+y0)=(y1*(v/y1)+y1)*4294967296+(v/y1+1)*y0:=by
   rw[cAO,<-cAR,bWI,bZS,cAM y1]
  rw[this];omega
 have dm:∀v:Nat,v=v/y1*y1+v%y1:=by
  intro v;rw[cAM];exact(cAT v y1).symm
 obtain⟨Y,hY⟩:∃Y:Int,Y=((y1*4294967296+y0:Nat):Int):=⟨_,rfl⟩;rw[<-hY];have l1:aZP Y s y1 y0 u u1 u0 ((u/y1:Nat):Int) ((u%y1:Nat):Int)=bEK Y s y1 y0 u u1 u0 (((u*4294967296+u1)/(y1*4294967296+y0):Nat):Int) :=
  loop aKL aVK aTE hu aKN (aZP Y s y1 y0 u u1 u0) (bLR Y s y1 y0 u u1 u0) (bEK Y s y1 y0 u u1 u0) (fun q r=>aXZ ..) (fun q r=>aYE ..) (u/y1) (u%y1) (dm u) (by have:=bXW u (show 0<y1 by omega);omega) (aIU u u1 aKN)
 refine l1.trans ?_;rw[aYD,aW,aZS];have m1:=bAP (u:=u) (u1:=u1) hy (by omega);rw[<-hY]at m1;rw[m1];obtain⟨q1,Nm⟩:∃q1,(u*4294967296+u1)/(y1*4294967296+y0)=q1:=⟨_,rfl⟩;rw[Nm];have hv:=bXW (u*4294967296+u1) hy;have hT:=cAT (u*4294967296+u1) (y1*4294967296+y0);rw[Nm]at hT;obtain⟨v,bQZ⟩:∃v,(u*4294967296+u1)%(y1*4294967296+y0)=v:=⟨_,rfl⟩;rw[bQZ]at hv hT ⊢;have hd:v/y1<=v:=cFV _ _;have w5:u64.wrap ((v:Int).tdiv (y1:Int))=((v/y1:Nat):Int):=by
  rw[cDZ (by omega),<-cBO];exact aHP (by omega)
 have w6:u64.wrap ((v:Int)-u64.wrap (((v/y1:Nat):Int)*(y1:Int)))=((v%y1:Nat):Int):=by
  have:=dm v;have hm:=bXW v (show 0<y1 by omega);rw[<-cBP];generalize v/y1*y1=z at *;generalize v%y1=m at *;rw[wrap_u64 (n:=(z:Int)),wrap_u64];omega
 have l2:bEH Y s y1 y0 u0 q1 ((v%y1:Nat):Int) v ((v/y1:Nat):Int)=bEJ Y s u0 q1 v (((v*4294967296+u0)/(y1*4294967296+y0):Nat):Int) :=
  loop aKL aVK aTE hv aYU (fun q r=>bEH Y s y1 y0 u0 q1 r v q) (fun q r=>bLQ Y s y1 y0 u0 q1 r v q) (bEJ Y s u0 q1 v) (fun q r=>aXY ..) (fun q r=>aYC ..) (v/y1) (v%y1) (dm v) (by have:=bXW v (show 0<y1 by omega);omega) (aIU v u0 aYU)
 rw[w5,w6,l2];rw[aYB,aW,aZS];have m2:=bAP (u:=v) (u1:=u0) hy (by omega);rw[<-hY]at m2;rw[m2];have hw:=bXW (v*4294967296+u0) hy;have hT0:=cAT (v*4294967296+u0) (y1*4294967296+y0);have aYW:(v*4294967296+u0)/(y1*4294967296+y0)<4294967296:=cBG (by omega);have hq1':q1<4294967296:=by rw[<-Nm];exact cBG (by omega)
 obtain⟨q0,bRN⟩:∃q0,(v*4294967296+u0)/(y1*4294967296+y0)=q0:=⟨_,rfl⟩;obtain⟨w,bQX⟩:∃w,(v*4294967296+u0)%(y1*4294967296+y0)=w:=⟨_,rfl⟩;rw[bRN]at hT0 aYW ⊢;rw[bQX]at hT0 hw ⊢;have key:u*18446744073709551616+(u1*4294967296+u0)=(y1*4294967296+y0)*(q1*4294967296+q0)+w:=by
  rw[cAO,<-cAR];generalize (y1*4294967296+y0)*q1=A at *;generalize (y1*4294967296+y0)*q0=C at *;omega
 rw[key,cEZ hy,cBI hw,cHT,cFW hw,bWM,bZL,show min s 64=s from by omega];have w7:u64.wrap (u64.wrap ((q1:Int)*4294967296)+(q0:Int))=((q1*4294967296+q0:Nat):Int):=by
  rw[wrap_u64 (n:=(q1:Int)*4294967296),wrap_u64];omega
 rw[w7,<-cBO]
def sp(a b c:Int):Prop×List D:=((0<=a/\a<c)/\(0<=b/\b<18446744073709551616)/\c<18446744073709551616,[.s (.sc (.int .u64 (((a.toNat*18446744073709551616+b.toNat)/c.toNat:Nat):Int))),.s (.sc (.int .u64 (((a.toNat*18446744073709551616+b.toNat)%c.toNat:Nat):Int)))])
theorem spec:oK E f226 aE (pN .u64) (pN .u64) (pN .u64) sp:=by
 rintro a b c ⟨⟨h1,h2⟩,⟨h3,h4⟩,h5⟩;refine(start a b c).trans ?_;obtain⟨x,rfl⟩:=cAS h1;obtain⟨l,rfl⟩:=cAS h3;obtain⟨y,rfl⟩:=cAS (show 0<=c by omega);show _=some [D.s (.sc (.int .u64 ((((x:Int).toNat*18446744073709551616+(l:Int).toNat)/(y:Int).toNat:Nat):Int))),D.s (.sc (.int .u64 ((((x:Int).toNat*18446744073709551616+(l:Int).toNat)%(y:Int).toNat:Nat):Int)))];rw[bZL,bZL,bZL,bN,gU,aL,Xm]
 by_cases hx:x=0
 ·subst hx;have hd:l/y<=l:=cFV _ _;rw[cO (a:=((0:Nat):Int)) (b:=0) rfl,aW,aW,cDZ (by omega),cEA (by omega),<-cBO,<-cCX,aHP (by omega),Nat.zero_mul,bVQ]
 ·have aTE:y≠0:=by omega
  have bNV:=pD aTE;have hb64:bl y<=64:=cZ.2 (by omega);have Ca:=Ww aTE;have jB:=vG y;obtain⟨s,hs⟩:∃s,s=64-bl y:=⟨_,rfl⟩;have bIE:s<=63:=by omega
  have w1:u64.wrap (64-(bl y:Int))=(s:Int):=by rw[wrap_u64];omega
  have w2:u64.wrap (64-(s:Int))=((64-s:Nat):Int):=by rw[wrap_u64];omega
  have aMH:2^(64-s)*2^s=18446744073709551616:=by rw[<-cAQ,show 64-s+s=64 from by omega]
  have bKY:2^(bl y-1)*2^s=9223372036854775808:=by rw[<-cAQ,show bl y-1+s=63 from by omega]
  have Gf:0<2^s:=cX;have hyp:y+1<=2^(64-s):=by rw[show 64-s=bl y from by omega];omega
  have bHO:(y+1)*2^s<=18446744073709551616:=by rw[<-aMH];exact bXD _ hyp
  have hyp2:9223372036854775808<=y*2^s:=by rw[<-bKY];exact bXD _ Ca
  have aYT:(x+1)*2^s<=y*2^s:=bXD _ (by omega);rw[bWI,bZS]at bHO aYT;have wy:u64.wrap ((y:Int)*((2^s:Nat):Int))=((y*2^s:Nat):Int):=by rw[<-cBP];exact wrap_u64
  have wx:u64.wrap ((x:Int)*((2^s:Nat):Int))=((x*2^s:Nat):Int):=by rw[<-cBP];exact wrap_u64
  have wl:u64.wrap ((l:Int)*((2^s:Nat):Int))=((l*2^s%18446744073709551616:Nat):Int):=by rw[<-cBP,fJ];omega
  have Zk:l/2^(64-s)<2^s:=by
   apply cBG;rw[aMH];omega
  have aVO:=Fj l s (by omega);have bLS:gA .or .u64 ((x*2^s:Nat):Int) (((l/2^(64-s):Nat)):Int)=((x*2^s+l/2^(64-s):Nat):Int):=by
   have:=Fv (n:=x) Zk;rw[Uy (by omega) (by omega) (by omega) (by omega),bZL,bZL,cDX,cAM x,this,Nat.add_comm]
  have aZU:∀z:Nat,z<18446744073709551616->gA .and .u64 (z:Int) 4294967295=((z%4294967296:Nat):Int):=by
   intro z hz;rw[xZ (by omega) (by omega)];omega
  rw[bN,gP ⟨by omega,by omega⟩,bZL,w1,w2,aW,aW,aW,aW,
   bZL,bZL,show min s 64=s from by omega,show min (64-s) 64=64-s from by omega,wy,wx,wl,<-cBO l,bLS]
  have hu:x*2^s+l/2^(64-s)<y*2^s:=by omega
  have hU:(x*18446744073709551616+l)*2^s=(x*2^s+l/2^(64-s))*18446744073709551616+l*2^s%18446744073709551616:=by
   rw[bWI,aVO,cHH];omega
  have bSA:l*2^s%18446744073709551616<18446744073709551616:=bXW _ (by omega);have hdiv:(x*18446744073709551616+l)/y=((x*2^s+l/2^(64-s))*18446744073709551616+l*2^s%18446744073709551616)/(y*2^s):=by
   rw[<-hU,cEB _ _ Gf]
  have aFF:(x*18446744073709551616+l)%y=((x*2^s+l/2^(64-s))*18446744073709551616+l*2^s%18446744073709551616)%(y*2^s)/2^s:=by
   rw[<-hU,cEC,cFL _ Gf]
  rw[hdiv,aFF];clear hdiv aFF hU bLS wl wx wy aVO Zk aYT;generalize x*2^s+l/2^(64-s)=U at *;generalize y*2^s=Y at *;generalize l*2^s%18446744073709551616=V at *;have k:=bAR (y1:=Y/4294967296) (y0:=Y%4294967296) (u:=U) (u1:=V/4294967296) (u0:=V%4294967296) (s:=s) (by omega) (by omega) (by omega) (by omega) (by omega) (by omega) bIE;rw[show Y/4294967296*4294967296+Y%4294967296=Y from by omega,show V/4294967296*4294967296+V%4294967296=V from by omega]at k;have bTN:(Y:Int)/4294967296=((Y/4294967296:Nat):Int):=by omega
  have bNX:(V:Int)/4294967296=((V/4294967296:Nat):Int):=by omega
  have hd:U/(Y/4294967296)<=U:=cFV _ _;have aZF:=cAT U (Y/4294967296);have q1:u64.wrap ((U:Int).tdiv ((Y/4294967296:Nat):Int))=((U/(Y/4294967296):Nat):Int):=by
   rw[cDZ (by omega),<-cBO];exact aHP (by omega)
  have r1:u64.wrap ((U:Int)-u64.wrap (((U/(Y/4294967296):Nat):Int)*((Y/4294967296:Nat):Int)))=((U%(Y/4294967296):Nat):Int):=by
   rw[<-cBP,cAM];generalize Y/4294967296*(U/(Y/4294967296))=z at *;generalize U%(Y/4294967296)=m at *;rw[wrap_u64 (n:=(z:Int)),wrap_u64];omega
  rw[bTN,bNX,aW,aZU _ (by omega),aZU _ bSA,q1,r1];exact k
def aJ:dK:=orc3 (pN .u64) (pN .u64) (pN .u64) sp
theorem ok:OK 226 aJ:=(eZ E aE (aA aNP.ok aD) func226).yK rfl spec
end sE
namespace nG
def E:=mE [(144,gN.aJ),(145,cP.aJ),(226,sE.aJ)] 45 [34,40] [(8,[0,1,7,8,9])] []
def aE:=bd f194
theorem aX:Nk E aE:=nk
def L8 a b (c:Nat) (d:List Int) e f:=qV E f194 aE 8 [iM a,dC b,Ck 2 c 22 d,dC e,bP f]
theorem start a b:aH E f194 aE [D.s (ints u64 a),D.s (sc (int u64 b))]=letI B:=sc (slice none 0 0);letI A:=(a.length:Int);aO (a.length<=1099511627776) (aB (!gN.oQ a) (some [D.s B,D.s (sc (int u64 0)),D.s (sc (int i64 2))]) (aB (b==0) (some [D.s B,D.s (sc (int u64 0)),D.s (sc (int i64 4))]) (if 0<=A/\A<=A/\A<=(8796093022208:Int)then nG.L8 a b A.toNat (bXR A.toNat (0:Int)) 0 (i64.wrap (A-(1:Int)))else none))):=eJ aX
theorem Hs a b c d e f:L8 a b c d e f=letI A:=e.toNat*18446744073709551616+(a.getD f.toNat 0).toNat;aB (decide (0<=f)) (if 0<=f/\f<(a.length:Int)then aO ((0<=e/\e<b)/\(0<=a.getD f.toNat 0/\a.getD f.toNat 0<(18446744073709551616:Int))/\b<18446744073709551616) (if 0<=f/\f<(c:Int)then nG.L8 a b c (d.set f.toNat (↑(A/b.toNat):Int)) (↑(A%b.toNat):Int) (i64.wrap (f-1))else none)else none) (aO (M6.cY d/\d.length<=1099511627776) (some [D.s (ints u64 (bif cP.mM (M6.val d)then M6.dg (M6.val d)else [])),D.s (sc (int u64 e)),D.s (sc (int i64 0))])):=lJ aX
theorem L{a:List Int}{b:Nat}(ha:M6.cR a)(hl:a.length<=8192)(hb0:0<b)(hb:b<18446744073709551616):∀(i:Nat) (Q:List Int),i+Q.length=a.length->M6.cY Q->M6.val Q=M6.val (a.drop i)/b ->
  L8 a b a.length (bXR i 0 ++ Q) ((M6.val (a.drop i)%b:Nat):Int) ((i:Int)-1)=some [D.s (.ints .u64 (M6.dg (M6.val a/b))),D.s (.sc (.int .u64 ((M6.val a%b:Nat):Int))),D.s (.sc (.int .i64 0))]:=by
 intro i
 induction i with
 |zero =>
  intro Q hi hd hv;have Nn:cP.mM (M6.val a/b)=true:=by
   refine decide_eq_true ?_;rw[cCE]at hv;rw[<-hv];have:=M6.tT hd;omega
  rw[cCE]at hv ⊢;rw[List.replicate_zero,bZR,Hs,aL,gP ⟨hd,by omega⟩,hv,Nn];rfl
 |succ i ih =>
  intro Q hi hd hv;have g:=ha.kW.get i;have hm:=bXW (M6.val (a.drop (i+1))) hb0;have aZF:=cAT (M6.val (a.drop (i+1))) b;have w:i64.wrap ((i:Int)-1)=(i:Int)-1:=by rw[wrap_i64]
  have hs:(bXR i (0:Int) ++ 0 :: Q).set i ((((M6.val (a.drop (i+1))%b)*18446744073709551616+(a.getD i 0).toNat)/b:Nat):Int)=bXR i 0 ++ (((((M6.val (a.drop (i+1))%b)*18446744073709551616+(a.getD i 0).toNat)/b:Nat):Int) :: Q):=Fl (by simp) _ _ _;have hN:M6.val (a.drop i)=b*(18446744073709551616*(M6.val (a.drop (i+1))/b))+((M6.val (a.drop (i+1))%b)*18446744073709551616+(a.getD i 0).toNat):=by
   rw[M6.jM,cFB];generalize b*(M6.val (a.drop (i+1))/b)=z at *;omega
  have hq:((M6.val (a.drop (i+1))%b)*18446744073709551616+(a.getD i 0).toNat)/b<18446744073709551616:=by
   apply cBG;have:(M6.val (a.drop (i+1))%b+1)*18446744073709551616<=b*18446744073709551616:=bXD _ hm;omega
  have aTP:(0:Int)<=((M6.val (a.drop (i+1))%b:Nat):Int)/\((M6.val (a.drop (i+1))%b:Nat):Int)<(b:Int):=⟨cFA _,Int.ofNat_lt.2 hm⟩;have aTM:=ih (((((M6.val (a.drop (i+1))%b)*18446744073709551616+(a.getD i 0).toNat)/b:Nat):Int) :: Q) (by rw[List.length_cons];omega) (M6.mI.2 ⟨⟨cFA _,Int.ofNat_lt.2 hq⟩,hd⟩) (by
    show(((((M6.val (a.drop (i+1))%b)*18446744073709551616+(a.getD i 0).toNat)/b:Nat):Int)).toNat+18446744073709551616*M6.val Q=_;rw[bZL,hN,cEZ hb0,hv,Nat.add_comm])
  rw[Hs,show(((i+1:Nat):Int)-1)=(i:Int)from by omega,aP,if_pos ⟨by omega,by omega⟩,bZL,gP ⟨aTP,g,by omega⟩,if_pos ⟨by omega,by omega⟩,bZL,bZL,w,List.replicate_succ',bXJ,cCF,hs];rw[hN,cHT]at aTM;exact aTM
def sp(a:List Int)(n:Int):Prop×List D:=(M6.cR a/\a.length<=8192/\0<n/\n<18446744073709551616,[.s (.ints .u64 (M6.dg (M6.val a/n.toNat))),.s (.sc (.int .u64 ((M6.val a%n.toNat:Nat):Int))),.s (.sc (.int .i64 0))])
theorem spec:gT E f194 aE (pI .u64) (pN .u64) sp:=by
 rintro a n ⟨ha,hl,h0,h1⟩;obtain⟨b,rfl⟩:=cAS (show 0<=n by omega);refine(start a b).trans ?_;show _=some [D.s (.ints .u64 (M6.dg (M6.val a/(b:Int).toNat))),D.s (.sc (.int .u64 ((M6.val a%(b:Int).toNat:Nat):Int))),D.s (.sc (.int .i64 0))];have w:i64.wrap ((a.length:Int)-1)=(a.length:Int)-1:=by rw[wrap_i64]
 rw[bZL,bZL,gP,gN.nM ha hl,bXO,bF,bN,if_pos ⟨by omega,by omega,by omega⟩,w];have:=L (b:=b) ha hl (by omega) (by omega) a.length [] (by simp) M6.oZ (by simp[M6.val]);rw[cAX,List.drop_length]at this;simp only[M6.val,cDB]at this;exact this
def aJ:dK:=orc2 (pI .u64) (pN .u64) sp
theorem ok:OK 194 aJ:=(eZ E aE (aA gN.ok (aA cP.ok (aA sE.ok aD))) func194).mT rfl spec
end nG
namespace Ae
def E:=mE [] 43 [] [(7,[1,7,8,19,20])] []
def aE:=bd f196
theorem aX:Nk E aE:=nk
def L7 a (b:Nat) (c:List Int) d e f:=qV E f196 aE 7 [bP a,Ck 1 b 22 c,dC d,bP e,bP f]
theorem start a b c:aH E f196 aE [D.s (ints u64 a),D.s (sc (int i64 b)),D.s (sc (int i64 c))]=letI A:=cER c.toNat a ++ cEQ (min a.length c.toNat) (bXR c.toNat (0:Int));if 0<=c/\c<=c/\c<=8796093022208 then aB (b==0) (some [D.own 22 u64 A]) (Ae.L7 b c.toNat A 0 (c.toNat:Int) 0)else none:=eJ aX
theorem wW a b c d e f:L7 a b c d e f=aB (decide (f<e)) (if 0<=f/\f<(b:Int)then if a<0 then none else if 0<=f/\f<(b:Int)then if i64.wrap ((64:Int)-a)<0 then none else if 0<=f/\f<(b:Int)then Ae.L7 a b (c.set f.toNat (gA BinOp.or u64 (u64.wrap (c.getD f.toNat 0*(↑((2:Nat)^min a.toNat 64):Int))) d)) (c.getD f.toNat 0/(↑((2:Nat)^min (i64.wrap ((64:Int)-a)).toNat 64):Int)) e (i64.wrap (f+1))else none else none else none) (some [D.own 22 u64 c]):=lJ aX
def sp(a:List Int)(s n:Int):Prop×List D:=(M6.cY a/\0<=s/\s<64/\0<=n/\a.length<=n.toNat/\n<=549755813888/\M6.val a*2^s.toNat<18446744073709551616^n.toNat,[.own gJ .u64 (M6.pT n.toNat (M6.val a*2^s.toNat))])
theorem L{A:List Int}{s n:Nat}(hA:M6.cY A)(bKL:A.length=n)(hn:n<=549755813888)(Xv:0<s)(hs:s<64)(hT:M6.val A*2^s<18446744073709551616^n):∀(r i:Nat) (P:List Int) (c:Int),i+r=n->P.length=i->M6.cY P->0<=c->c<((2^s:Nat):Int) ->
  M6.val P+18446744073709551616^i*c.toNat=M6.val (A.take i)*2^s ->
  L7 s n (P ++ A.drop i) c n i=some [.own gJ .u64 (M6.pT n (M6.val A*2^s))]:=by
 have Gf:2^s<2^64:=cCW (by omega) hs;intro r
 induction r with
 |zero =>
  intro i P c hi hP hd h0 h1 hv;have Zm:i=n:=by omega
  subst Zm;rw[M6.dS (by omega)]at hv;have hc:c=0:=by
   rcases Int.lt_or_le 0 c with h |h
   ·have h2:18446744073709551616^i*1<=18446744073709551616^i*c.toNat:=bYC _ (by omega);omega
   ·omega
  subst hc;simp at hv;rw[wW,aL,cGZ (by omega),cAX,M6.oY hd hP hv]
 |succ r ih =>
  intro i P c hi hP hd h0 h1 hv;have g:=hA.get i;have w1:i64.wrap ((i:Int)+1)=((i+1:Nat):Int):=by rw[wrap_i64];omega
  have w3:i64.wrap (64-(s:Int))=((64-s:Nat):Int):=by rw[wrap_i64];omega
  have m1:min s 64=s:=by omega
  have m2:min (64-s) 64=64-s:=by omega
  have aLD:A.drop i=A.getD i 0 :: A.drop (i+1):=by
   rw[List.drop_eq_getElem_cons (by omega)];simp[List.getD_eq_getElem?_getD,List.getElem?_eq_getElem (show i<A.length by omega)]
  obtain⟨x,hx⟩:=cAS g.1;have jB:x*2^s%18446744073709551616<18446744073709551616:=bXW _ (by omega);have Zk:u64.wrap ((x:Int)*((2^s:Nat):Int))=((x*2^s%18446744073709551616:Nat):Int):=by
   rw[fJ,<-cBP,cCX];rfl
  have aQG:c.toNat+x*2^s%18446744073709551616<18446744073709551616:=by
   rw[Il x s hs];have hm:x%2^(64-s)<2^(64-s):=bXW _ (cX);have e:(18446744073709551616:Nat)=2^s*2^(64-s):=by rw[<-cAQ,show s+(64-s)=64 from by omega]
   have h3:2^s*(x%2^(64-s)+1)<=2^s*2^(64-s):=bYC _ hm;rw[<-e,cAO]at h3;omega
  have bBO:gA .or .u64 ((x*2^s%18446744073709551616:Nat):Int) c=c+((x*2^s%18446744073709551616:Nat):Int):=by
   rw[Uy (by omega) (by omega) h0 (by omega),bZL,cDX,Il x s hs,Fv (by omega)];omega
  have Xx:x/2^(64-s)<2^s:=by
   apply cBG;rw[<-cAQ,show 64-s+s=64 from by omega];omega
  rw[aLD,wW,aP,aU,aW,aU,w3,aW,aU,w1,bZL,bZL,bZL,m1,m2,Gh hP,Fl hP,hx,Zk,bBO];have aVO:=Fj x s hs;have:=ih (i+1) (P ++ [c+((x*2^s%18446744073709551616:Nat):Int)]) ((x/2^(64-s):Nat):Int) (by omega) (by simp[hP]) (M6.nZ hd ⟨by omega,by omega⟩) (by omega) (by omega) (by
   rw[M6.nV,hP,M6.dR,hx,bZL,bZL,cAN,cAR,bWI];have e1:(c+(((x*2^s%18446744073709551616:Nat)):Int)).toNat=c.toNat+x*2^s%18446744073709551616:=by omega
   rw[e1];have e2:18446744073709551616^i*(c.toNat+x*2^s%18446744073709551616)+18446744073709551616^i*(18446744073709551616*(x/2^(64-s)))=18446744073709551616^i*c.toNat+18446744073709551616^i*x*2^s:=by
    rw[cAR,<-cAO,<-cAO];congr 1;omega
   omega)
  rw[bXJ,cCF,cBO]at this;exact this
theorem spec:oK E f196 aE (pI .u64) (pN .i64) (pN .i64) sp:=by
 rintro a s n ⟨hd,Xv,hs,Br,hl,hn,hT⟩;obtain⟨s,rfl⟩:=cAS Xv;obtain⟨n,rfl⟩:=cAS Br;simp only[sp,bZL]at hl hT ⊢;refine(start a s n).trans ?_;have hA:cER n a ++ cEQ (min a.length n) (bXR n (0:Int))=a ++ bXR (n-a.length) 0:=by
  rw[List.take_of_length_le hl,List.drop_replicate,Nat.min_eq_left hl]
 have aLM:M6.val (a ++ bXR (n-a.length) 0)=M6.val a:=by rw[M6.jI,M6.jU];omega
 have bOF:M6.cY (a ++ bXR (n-a.length) 0):=M6.qL.2 ⟨hd,M6.kZ _⟩;have bKL:(a ++ bXR (n-a.length) 0).length=n:=by simp;omega
 rw[aU,bZL,hA]
 by_cases hz:s=0
 ·subst hz;rw[cO (by rfl),cFJ,bVY,M6.oY bOF bKL aLM]
 ·rw[bN];have hp:0<((2^s:Nat):Int):=by
   have:0<2^s:=cX;omega
  have:=L (s:=s) bOF bKL (by omega) (by omega) (by omega) (by rw[aLM];exact hT) n 0 [] 0 (by omega) rfl M6.oZ (by omega) hp (by simp[M6.val]);rw[bZR,cCE,aLM]at this;exact this
def aJ:dK:=orc3 (pI .u64) (pN .i64) (pN .i64) sp
theorem ok:OK 196 aJ:=(eZ E aE aD func196).yK rfl spec
end Ae
namespace aAO
def E:=mE [(226,sE.aJ)] 20 [16] [] []
def aE:=bd f227
theorem aX:Nk E aE:=nk
theorem start a b c:aH E f227 aE [D.s (sc (int u64 a)),D.s (sc (int u64 b)),D.s (sc (int u64 c))]=aB (decide (c<=a)) (some [D.s (sc (int u64 18446744073709551615))]) (aO ((0<=a/\a<c)/\(0<=b/\b<18446744073709551616)/\c<18446744073709551616) (some [D.s (sc (int u64 (↑((a.toNat*18446744073709551616+b.toNat)/c.toNat):Int)))])):=eJ aX
def sp(a b c:Int):Prop×List D:=(0<=a/\0<=b/\b<18446744073709551616/\c<18446744073709551616,[.s (.sc (.int .u64 (if c<=a then 18446744073709551615 else(((a.toNat*18446744073709551616+b.toNat)/c.toNat:Nat):Int))))])
theorem spec:oK E f227 aE (pN .u64) (pN .u64) (pN .u64) sp:=by
 rintro a b c ⟨h1,h2,h3,h4⟩;refine(start a b c).trans ?_;simp only[sp]
 by_cases hc:c<=a
 ·rw[aP hc,if_pos hc]
 ·rw[aL hc,if_neg hc,gP ⟨⟨h1,by omega⟩,⟨h2,h3⟩,h4⟩]
def aJ:dK:=orc3 (pN .u64) (pN .u64) (pN .u64) sp
theorem ok:OK 227 aJ:=(eZ E aE (aA sE.ok aD) func227).yK rfl spec
end aAO
namespace Mw
def E:=mE [] 51 [] [] []
def aE:=bd f250
theorem aX:Nk E aE:=nk
theorem start a b:aH E f250 aE [D.s (sc (int u64 a)),D.s (sc (int u64 b))]=letI A:=u64.wrap (a/4294967296*gA BinOp.and u64 b 4294967295)+u64.wrap (gA BinOp.and u64 a 4294967295*gA BinOp.and u64 b 4294967295)/4294967296;some [D.s (sc (int u64 (u64.wrap (u64.wrap (u64.wrap (a/4294967296*(b/4294967296))+u64.wrap A/4294967296)+u64.wrap (gA BinOp.and u64 (u64.wrap A) 4294967295+u64.wrap (gA BinOp.and u64 a 4294967295*(b/4294967296)))/4294967296)))),D.s (sc (int u64 (u64.wrap (a*b))))]:=eJ aX
def sp(a b:Int):Prop×List D:=(0<=a/\a<18446744073709551616/\0<=b/\b<18446744073709551616,[.s (.sc (.int .u64 (a*b/18446744073709551616))),.s (.sc (.int .u64 (a*b%18446744073709551616)))])
theorem spec:gT E f250 aE (pN .u64) (pN .u64) sp:=by
 rintro a b ⟨ha,bFN,hb,uZ⟩;refine(start a b).trans ?_;simp only[sp];have m1:gA .and .u64 a 4294967295=a%4294967296:=xZ ha bFN;have m2:gA .and .u64 b 4294967295=b%4294967296:=xZ hb uZ;rw[m1,m2];have bd:∀x y:Int,0<=x->x<=4294967295->0<=y->y<=4294967295->0<=x*y/\x*y<=18446744065119617025:=fun x y h1 h2 h3 h4 =>
  ⟨cHN h1 h3,by have:=Int.mul_le_mul h2 h4 h3 (by omega:(0:Int)<=4294967295);omega⟩
 have q11:=bd (a/4294967296) (b/4294967296) (by omega) (by omega) (by omega) (by omega);have bGM:=bd (a/4294967296) (b%4294967296) (by omega) (by omega) (by omega) (by omega);have q01:=bd (a%4294967296) (b/4294967296) (by omega) (by omega) (by omega) (by omega);have bPS:=bd (a%4294967296) (b%4294967296) (by omega) (by omega) (by omega) (by omega);have e:a*b=(a/4294967296)*(b/4294967296)*18446744073709551616+((a/4294967296)*(b%4294967296)+(a%4294967296)*(b/4294967296))*4294967296+(a%4294967296)*(b%4294967296):=by
  conv=>lhs;rw[<-cEH a 4294967296,<-cEH b 4294967296]
  generalize a/4294967296=x;generalize a%4294967296=y;generalize b/4294967296=z;generalize b%4294967296=t;grind
 have e0:u64.wrap (a*b)=a*b%18446744073709551616:=fJ _;rw[e0];generalize a*b=ab at *;generalize (a/4294967296)*(b/4294967296)=bGR at *;generalize (a/4294967296)*(b%4294967296)=aUV at *;generalize (a%4294967296)*(b/4294967296)=bGS at *;generalize (a%4294967296)*(b%4294967296)=aUW at *;rw[wrap_u64 (n:=aUW),wrap_u64 (n:=bGR),wrap_u64 (n:=bGS),wrap_u64 (n:=aUV)];rw[wrap_u64 (n:=aUV+aUW/4294967296),xZ (w:=aUV+aUW/4294967296) (by omega) (by omega)];rw[wrap_u64 (n:=(aUV+aUW/4294967296)%4294967296+bGS),wrap_u64 (n:=bGR+(aUV+aUW/4294967296)/4294967296),wrap_u64];have:bGR+(aUV+aUW/4294967296)/4294967296+((aUV+aUW/4294967296)%4294967296+bGS)/4294967296=ab/18446744073709551616:=by omega
 rw[this]
def aJ:dK:=orc2 (pN .u64) (pN .u64) sp
theorem ok:OK 250 aJ:=(eZ E aE aD func250).mT rfl spec
end Mw
namespace tJ
def E:Env:={ ({ base with C:=callsOf [(250,Mw.aJ)],n0:=1,io:=[0] })with nt:=66,own:=[45,61],keep:=fun k=>(tlook [(3,[0,1,2,7,8,14,15])] k).getD [],cut:=tlook [] }
def aE:=bd f228
theorem aX:Nk E aE:=nk
def L3(a:List Int)(b:Nat)(c:Nat) d f g h i j:=qV E f228 aE 3 [(A.any,some { e:=(22:Nat),cont:=wX.ints u64 a }),(A.v (V.one (L.view 0 b c)),none),iM d,dC f,dC g,dC h,bP i,bP j]
theorem start al ao an b c:aH E f228 aE [D.io gJ u64 al ao an,D.s (ints u64 b),D.s (sc (int u64 c))]=tJ.L3 al ao an b c 0 0 (b.length:Int) 0:=eJ aX
theorem Aq a b c d e f g h i:L3 a b c d e f g h i=letI C:=b+i.toNat;letI B:=(d.length:Int);letI F:=b+B.toNat;letI A:=d.getD i.toNat 0*e%18446744073709551616+f+0;aB (decide (i<h)) (if 0<=i/\i<B then aO (0<=d.getD i.toNat 0/\d.getD i.toNat 0<(18446744073709551616:Int)/\0<=e/\e<18446744073709551616) (aO (0<=d.getD i.toNat 0*e%18446744073709551616/\0<=f/\(0:Int)<=(0:Int)/\(0:Int)<=(1:Int)) (if 0<=i/\i<(c:Int)then aO (0<=a.getD C 0/\0<=A%18446744073709551616/\A%18446744073709551616<(18446744073709551616:Int)/\0<=g/\g<=1) (if 0<=i/\i<(c:Int)then tJ.L3 (a.set C ((a.getD C 0-A%18446744073709551616-g)%18446744073709551616)) b c d e (u64.wrap (d.getD i.toNat 0*e/18446744073709551616+A/18446744073709551616)) (if a.getD C 0<A%18446744073709551616+g then(1:Int)else(0:Int)) h (i64.wrap (i+1))else none)else none))else none) (if 0<=B/\B<(c:Int)then aO (0<=a.getD F 0/\0<=f/\f<18446744073709551616/\0<=g/\g<=1) (if 0<=B/\B<(c:Int)then some [D.s (sc (int u64 (if a.getD F 0<f+g then(1:Int)else(0:Int)))),D.io 22 u64 (a.set F ((a.getD F 0-f-g)%18446744073709551616)) 0 0]else none)else none):=lJ aX
def Tz(v o n X:Nat):Nat:=if v/18446744073709551616^o%18446744073709551616^n<X then 1 else 0
def sp(x:List Int×Nat×Nat)(b:List Int)(w:Int):Prop×List D:=(M6.cY x.1/\x.2.2=b.length+1/\x.2.1+x.2.2<=x.1.length/\M6.cY b/\x.1.length<=1099511627776/\0<=w/\w<18446744073709551616,
 [.s (.sc (.int .u64 (Tz (M6.val x.1) x.2.1 x.2.2 (M6.val b*w.toNat)))),.io gJ .u64 (M6.pT x.1.length (M6.val x.1+18446744073709551616^(x.2.1+x.2.2)*Tz (M6.val x.1) x.2.1 x.2.2 (M6.val b*w.toNat)-18446744073709551616^x.2.1*(M6.val b*w.toNat))) 0 0])
theorem fin{a z':List Int}{o n X c N:Nat}(aWM:c<=1)(hd:M6.cY a)(yV:M6.cY z')(hl:z'.length=N)(h1:z'.take o=a.take o)(h2:z'.drop (o+n)=a.drop (o+n))(h:M6.val z'+18446744073709551616^o*X=M6.val a+18446744073709551616^(o+n)*c) :
  c=Tz (M6.val a) o n X/\z'=M6.pT N (M6.val a+18446744073709551616^(o+n)*Tz (M6.val a) o n X-18446744073709551616^o*X):=by
 obtain⟨k1,k2⟩:=M6.Ud hd yV h1 h2;have e:=M6.Uc k1 k2 h;have jB:=M6.Yf (M6.val z') o n;have hc:c=Tz (M6.val a) o n X:=by
  unfold Tz;have:c=0\/c=1:=by omega
  rcases this with rfl |rfl
  ·rw[aW]
  ·rw[aU]
 subst hc;exact⟨rfl,M6.oY yV hl (by omega)⟩
theorem aZX{x C s:Int}{p:Nat}(hp:p<=340282366920938463426481119284349108225)(h0:0<=x)(h1:x<18446744073709551616)(h2:0<=C)(h3:C<18446744073709551616)(h4:0<=s)(h5:s<=1) :
  (0<=(p:Int)/18446744073709551616+((p:Int)%18446744073709551616+C+0)/18446744073709551616/\(p:Int)/18446744073709551616+((p:Int)%18446744073709551616+C+0)/18446744073709551616<18446744073709551616) /\
  ((x-((p:Int)%18446744073709551616+C+0)%18446744073709551616-s)%18446744073709551616).toNat+p+C.toNat+s.toNat=x.toNat+18446744073709551616*(((p:Int)/18446744073709551616+((p:Int)%18446744073709551616+C+0)/18446744073709551616).toNat+(if x<((p:Int)%18446744073709551616+C+0)%18446744073709551616+s then(1:Int)else 0).toNat):=by
 split <;> omega
theorem L{a b:List Int}{o:Nat}{w:Int}(hN:a.length<=1099511627776)(ha:M6.cY a)(hb:M6.cY b)(ho:o+(b.length+1)<=a.length)(aFA:0<=w)(bHR:w<18446744073709551616):∀(r i:Nat) (z:List Int) (C s:Int),i+r=b.length->z.length=a.length->M6.cY z->0<=C->C<18446744073709551616->0<=s->s<=1->z.take o=a.take o->z.drop (o+(b.length+1))=a.drop (o+(b.length+1)) ->
  M6.val z+18446744073709551616^o*(M6.val (b.take i)*w.toNat)=M6.val a+18446744073709551616^(o+i)*(C.toNat+s.toNat) ->
  L3 z o (b.length+1) b w C s b.length i=some [.s (.sc (.int .u64 (Tz (M6.val a) o (b.length+1) (M6.val b*w.toNat)))),.io gJ .u64 (M6.pT a.length (M6.val a+18446744073709551616^(o+(b.length+1))*Tz (M6.val a) o (b.length+1) (M6.val b*w.toNat)-18446744073709551616^o*(M6.val b*w.toNat))) 0 0]:=by
 intro r
 induction r with
 |zero =>
  intro i z C s hi hz hd h0 h1 h2 h3 ht aFK hv;have aWB:i=b.length:=by omega
  subst aWB;rw[cCD]at hv;have g:=hd.get (o+b.length);rw[Aq,aL,aU,bZL,gP ⟨g.1,h0,h1,h2,h3⟩,aU];have hs:=M6.qR (a:=z) (j:=o+b.length) (by omega) ((z.getD (o+b.length) 0-C-s)%18446744073709551616);have hf:=fin (a:=a) (z':=z.set (o+b.length) ((z.getD (o+b.length) 0-C-s)%18446744073709551616)) (o:=o) (n:=b.length+1) (X:=M6.val b*w.toNat) (c:=(if z.getD (o+b.length) 0<C+s then(1:Int)else 0).toNat) (N:=a.length) (by split <;> omega) ha (M6.oF hd (by omega)) (by simp[hz]) (by rw[cGF (by omega)];exact ht) (by rw[cGK (by omega)];exact aFK) (by
   rw[<-bZF o,cAN,cAR];generalize z.getD (o+b.length) 0=x at *;generalize M6.val (z.set (o+b.length) _)=W at *;generalize 18446744073709551616^(o+b.length)=P at *;have e:((x-C-s)%18446744073709551616).toNat+(C.toNat+s.toNat)=x.toNat+18446744073709551616*(if x<C+s then(1:Int)else 0).toNat:=by split <;> omega
   have e2:P*((x-C-s)%18446744073709551616).toNat+P*(C.toNat+s.toNat)=P*x.toNat+P*(18446744073709551616*(if x<C+s then(1:Int)else 0).toNat):=by
    rw[<-cAO,e,cAO]
   omega)
  rw[<-hf.2,<-hf.1,cHU (by split <;> omega)]
 |succ r ih =>
  intro i z C s hi hz hd h0 h1 h2 h3 ht aFK hv;have g:=hd.get (o+i);have g2:=hb.get i;have w2:i64.wrap ((i:Int)+1)=((i+1:Nat):Int):=by rw[wrap_i64];omega
  obtain⟨X,hX⟩:=cAS g2.1;obtain⟨Y,hY⟩:=cAS aFA;have bJZ:X*Y<=340282366920938463426481119284349108225:=by
   have h2:X<=18446744073709551615:=by omega
   have h3:Y<=18446744073709551615:=by omega
   have:=cFZ h2 h3;omega
  obtain⟨k1,k2⟩:=aZX bJZ g.1 g.2 h0 h1 h2 h3;rw[Aq,aP,aU,w2];simp only[bZL];have hq:b.getD i 0*w=((X*Y:Nat):Int):=by rw[hX,hY];simp
  rw[gP ⟨g2.1,g2.2,aFA,bHR⟩];simp only[hq];rw[gP ⟨by omega,by omega,by omega,by omega⟩,aU,gP ⟨g.1,by omega,by omega,h2,h3⟩,aU,wrap_u64 k1.1 k1.2];refine ih (i+1) _ _ (if z.getD (o+i) 0<(((X*Y:Nat):Int)%18446744073709551616+C+0)%18446744073709551616+s then(1:Int)else 0) (by omega) (by simp[hz]) (M6.oF hd (by omega)) k1.1 k1.2 (by split <;> omega) (by split <;> omega) (by rw[cGF (by omega)];exact ht) (by rw[cGK (by omega)];exact aFK) ?_;have hs:=M6.qR (a:=z) (j:=o+i) (by omega) ((z.getD (o+i) 0-(((X*Y:Nat):Int)%18446744073709551616+C+0)%18446744073709551616-s)%18446744073709551616);have e0:18446744073709551616^o*(M6.val (b.take (i+1))*w.toNat)=18446744073709551616^o*(M6.val (b.take i)*w.toNat)+18446744073709551616^(o+i)*(X*Y):=by
   rw[M6.dR,hX,hY,bZL,bZL,bWI,cAO,cAQ,cAR,cAR]
  rw[e0,show o+(i+1)=(o+i)+1 from by omega,cAN,cAR];generalize ((z.getD (o+i) 0-(((X*Y:Nat):Int)%18446744073709551616+C+0)%18446744073709551616-s)%18446744073709551616)=d at *;generalize (((X*Y:Nat):Int)/18446744073709551616+(((X*Y:Nat):Int)%18446744073709551616+C+0)/18446744073709551616).toNat=C' at *;generalize (if z.getD (o+i) 0<(((X*Y:Nat):Int)%18446744073709551616+C+0)%18446744073709551616+s then(1:Int)else 0).toNat=s' at *;generalize X*Y=q at *;generalize 18446744073709551616^(o+i)=P at *;generalize M6.val (z.set (o+i) d)=W at *;generalize (z.getD (o+i) 0).toNat=x at *;generalize 18446744073709551616^o*(M6.val (b.take i)*w.toNat)=U at *;have e2:P*d.toNat+P*q+P*(C.toNat+s.toNat)=P*x+P*(18446744073709551616*(C'+s')):=by
   rw[<-cAO,<-cAO,<-cAO];congr 1;omega
  omega
theorem bound{v o n N X:Nat}(hv:v<18446744073709551616^N)(bRT:o+n<=N)(hX:X<18446744073709551616^n):v+18446744073709551616^(o+n)*Tz v o n X-18446744073709551616^o*X<18446744073709551616^N:=by
 have e1:=M6.Ax v o n;have hW:=M6.Yf v o n;have hT:v/18446744073709551616^(o+n)<18446744073709551616^(N-(o+n)):=by
  apply cBG;rw[<-cAQ,show o+n+(N-(o+n))=N from by omega];exact hv
 have hL:v%18446744073709551616^o<18446744073709551616^o:=bXW _ (cX);have s2:18446744073709551616^(o+n)*(v/18446744073709551616^(o+n)+1)<=18446744073709551616^N:=by
  have:=bYC (18446744073709551616^(o+n)) hT;rw[<-cAQ,show o+n+(N-(o+n))=N from by omega]at this;exact this
 rw[cAO]at s2;unfold Tz;generalize v/18446744073709551616^o%18446744073709551616^n=W at *;generalize v%18446744073709551616^o=L at *;generalize v/18446744073709551616^(o+n)=T at *;split
 ·rename_i jB;have:18446744073709551616^o*(W+1)<=18446744073709551616^o*X:=bYC _ jB;rw[cAO]at this;omega
 ·omega
theorem spec(x:List Int×Nat×Nat)(b:List Int)(w:Int)(h:(sp x b w).1):aH E f228 aE [(Ds gJ .u64).put x,(pI .u64).put b,(pN .u64).put w]=some (sp x b w).2/\∃rs mZ,(sp x b w).2=rs ++ [.io gJ .u64 mZ 0 0]/\mZ.length=x.1.length:=by
 obtain⟨xl,o,n⟩:=x;obtain⟨hd,hn,ho,hb,hN,aFA,bHR⟩:=h;simp only at hd hn ho hN;subst hn;refine⟨(start xl o (b.length+1) b w).trans ?_,[_],_,rfl,M6.iH (bound (M6.dT hd) ho ?_)⟩
 ·exact L hN hd hb ho aFA bHR b.length 0 xl 0 0 (by omega) rfl hd (by omega) (by omega) (by omega) (by omega) rfl rfl (by simp[M6.val])
 ·rw[cAN];exact cDP (M6.dT hb) (by omega)
def aJ:dK:=orc3 (Ds gJ .u64) (pI .u64) (pN .u64) sp
theorem fnok:mA prog E 228 f228 aE:=vU rI mixed (lY _ rfl (aA Mw.ok aD) (nT)) func228 rfl rfl rfl rfl rfl
theorem ok:pW prog base.glob 228 aJ:=fnok.yK rfl spec
end tJ
namespace yM
def E:Env:={ ({ base with n0:=1,io:=[0] })with nt:=44,own:=[24,39],keep:=fun k=>(tlook [(3,[0,1,5,8,9])] k).getD [],cut:=tlook [] }
def aE:=bd f229
theorem aX:Nk E aE:=nk
def L3(a:List Int)(b:Nat)(c:Nat) d f g h:=qV E f229 aE 3 [(A.any,some { e:=(22:Nat),cont:=wX.ints u64 a }),(A.v (V.one (L.view 0 b c)),none),iM d,dC f,bP g,bP h]
theorem start al ao an b:aH E f229 aE [D.io gJ u64 al ao an,D.s (ints u64 b)]=yM.L3 al ao an b 0 (b.length:Int) 0:=eJ aX
theorem Aq a b c d e f g:L3 a b c d e f g=letI G:=b+g.toNat;letI B:=a.getD G 0+d.getD g.toNat 0+e;letI A:=(d.length:Int);letI F:=b+A.toNat;letI C:=a.getD F 0+(0:Int)+e;aB (decide (g<f)) (if 0<=g/\g<(c:Int)then if 0<=g/\g<A then aO (0<=a.getD G 0/\0<=d.getD g.toNat 0/\0<=e/\e<=1) (if 0<=g/\g<(c:Int)then yM.L3 (a.set G (B%18446744073709551616)) b c d (B/18446744073709551616) f (i64.wrap (g+1))else none)else none else none) (if 0<=A/\A<(c:Int)then aO (0<=a.getD F 0/\(0:Int)<=(0:Int)/\0<=e/\e<=1) (if 0<=A/\A<(c:Int)then some [D.s (sc (int u64 (C/18446744073709551616))),D.io 22 u64 (a.set F (C%18446744073709551616)) 0 0]else none)else none):=lJ aX
def Xz(v o n X:Nat):Nat:=(v/18446744073709551616^o%18446744073709551616^n+X)/18446744073709551616^n
def sp(x:List Int×Nat×Nat)(b:List Int):Prop×List D:=(M6.cY x.1/\x.2.2=b.length+1/\x.2.1+x.2.2<=x.1.length/\M6.cY b/\x.1.length<=1099511627776,
 [.s (.sc (.int .u64 (Xz (M6.val x.1) x.2.1 x.2.2 (M6.val b)))),.io gJ .u64 (M6.pT x.1.length (M6.val x.1+18446744073709551616^x.2.1*M6.val b-18446744073709551616^(x.2.1+x.2.2)*Xz (M6.val x.1) x.2.1 x.2.2 (M6.val b))) 0 0])
theorem fin{a z':List Int}{o n X c N:Nat}(hd:M6.cY a)(yV:M6.cY z')(hl:z'.length=N)(h1:z'.take o=a.take o)(h2:z'.drop (o+n)=a.drop (o+n))(h:M6.val z'+18446744073709551616^(o+n)*c=M6.val a+18446744073709551616^o*X) :
  c=Xz (M6.val a) o n X/\z'=M6.pT N (M6.val a+18446744073709551616^o*X-18446744073709551616^(o+n)*Xz (M6.val a) o n X):=by
 obtain⟨k1,k2⟩:=M6.Ud hd yV h1 h2;have e:=M6.Uc k1.symm k2.symm h.symm;have jB:=M6.Yf (M6.val z') o n;have hc:c=Xz (M6.val a) o n X:=by
  unfold Xz;rw[e];rw[cCS _ _ (cX),cBI jB,bVQ]
 subst hc;exact⟨rfl,M6.oY yV hl (by omega)⟩
theorem L{a b:List Int}{o:Nat}(hN:a.length<=1099511627776)(ha:M6.cY a)(hb:M6.cY b)(ho:o+(b.length+1)<=a.length):∀(r i:Nat) (z:List Int) (c:Int),i+r=b.length->z.length=a.length->M6.cY z->0<=c->c<=1->z.take o=a.take o->z.drop (o+(b.length+1))=a.drop (o+(b.length+1)) ->
  M6.val z+18446744073709551616^(o+i)*c.toNat=M6.val a+18446744073709551616^o*M6.val (b.take i) ->
  L3 z o (b.length+1) b c b.length i=some [.s (.sc (.int .u64 (Xz (M6.val a) o (b.length+1) (M6.val b)))),.io gJ .u64 (M6.pT a.length (M6.val a+18446744073709551616^o*M6.val b-18446744073709551616^(o+(b.length+1))*Xz (M6.val a) o (b.length+1) (M6.val b))) 0 0]:=by
 intro r
 induction r with
 |zero =>
  intro i z c hi hz hd h0 h1 ht aFK hv;have aWB:i=b.length:=by omega
  subst aWB;rw[cCD]at hv;have g:=hd.get (o+b.length);rw[Aq,aL,aU,bZL,gP ⟨g.1,by omega,h0,h1⟩,aU];have hs:=M6.qR (a:=z) (j:=o+b.length) (by omega) ((z.getD (o+b.length) 0+0+c)%18446744073709551616);have hf:=fin (a:=a) (z':=z.set (o+b.length) ((z.getD (o+b.length) 0+0+c)%18446744073709551616)) (o:=o) (n:=b.length+1) (X:=M6.val b) (c:=((z.getD (o+b.length) 0+0+c)/18446744073709551616).toNat) (N:=a.length) ha (M6.oF hd (by omega)) (by simp[hz]) (by rw[cGF (by omega)];exact ht) (by rw[cGK (by omega)];exact aFK) (by
   rw[<-bZF o,cAN,cAR];generalize z.getD (o+b.length) 0=x at *;generalize M6.val (z.set (o+b.length) _)=W at *;generalize 18446744073709551616^(o+b.length)=P at *;have e:((x+0+c)%18446744073709551616).toNat+18446744073709551616*((x+0+c)/18446744073709551616).toNat=x.toNat+c.toNat:=by omega
   have e2:P*((x+0+c)%18446744073709551616).toNat+P*(18446744073709551616*((x+0+c)/18446744073709551616).toNat)=P*x.toNat+P*c.toNat:=by
    rw[<-cAO,e,cAO]
   omega)
  rw[<-hf.2,<-hf.1,cHU (by omega)]
 |succ r ih =>
  intro i z c hi hz hd h0 h1 ht aFK hv;have g:=hd.get (o+i);have g2:=hb.get i;have w2:i64.wrap ((i:Int)+1)=((i+1:Nat):Int):=by rw[wrap_i64];omega
  rw[Aq,aP,aU,aU,bZL,gP ⟨g.1,g2.1,h0,h1⟩,aU,w2];refine ih (i+1) _ _ (by omega) (by simp[hz]) (M6.oF hd (by omega)) (by omega) (by omega) (by rw[cGF (by omega)];exact ht) (by rw[cGK (by omega)];exact aFK) ?_;have hs:=M6.qR (a:=z) (j:=o+i) (by omega) ((z.getD (o+i) 0+b.getD i 0+c)%18446744073709551616);rw[M6.dR,cAO,<-cAR,<-cAQ,show o+(i+1)=(o+i)+1 from by omega,cAN,cAR];generalize z.getD (o+i) 0=x at *;generalize b.getD i 0=y at *;generalize M6.val (z.set (o+i) _)=W at *;generalize 18446744073709551616^(o+i)=P at *;generalize 18446744073709551616^o*M6.val (b.take i)=U at *;have e:((x+y+c)%18446744073709551616).toNat+18446744073709551616*((x+y+c)/18446744073709551616).toNat=x.toNat+y.toNat+c.toNat:=by omega
  have e2:P*((x+y+c)%18446744073709551616).toNat+P*(18446744073709551616*((x+y+c)/18446744073709551616).toNat)=P*x.toNat+P*y.toNat+P*c.toNat:=by
   rw[<-cAO,e,cAO,cAO]
  omega
theorem bound{v o n N X:Nat}(hv:v<18446744073709551616^N)(bRT:o+n<=N):v+18446744073709551616^o*X-18446744073709551616^(o+n)*Xz v o n X<18446744073709551616^N:=by
 have e1:=M6.Ax v o n;unfold Xz;generalize hW:v/18446744073709551616^o%18446744073709551616^n=W at *;have h2:=cGA (W+X) (18446744073709551616^n);have h3:(W+X)%18446744073709551616^n<18446744073709551616^n:=bXW _ (cX);generalize (W+X)/18446744073709551616^n=c at *;generalize (W+X)%18446744073709551616^n=M at *;have hL:v%18446744073709551616^o<18446744073709551616^o:=bXW _ (cX);have hT:v/18446744073709551616^(o+n)<18446744073709551616^(N-(o+n)):=by
  apply cBG;rw[<-cAQ,show o+n+(N-(o+n))=N from by omega];exact hv
 generalize v%18446744073709551616^o=L at *;generalize v/18446744073709551616^(o+n)=T at *;have e3:18446744073709551616^(o+n)*c=18446744073709551616^o*(18446744073709551616^n*c):=by rw[cAQ,cAR]
 have e4:18446744073709551616^o*(W+X)=18446744073709551616^o*M+18446744073709551616^o*(18446744073709551616^n*c):=by rw[<-h2,cAO]
 rw[cAO]at e4;have e5:v+18446744073709551616^o*X-18446744073709551616^(o+n)*c=L+18446744073709551616^o*M+18446744073709551616^(o+n)*T:=by omega
 rw[e5];have s1:L+18446744073709551616^o*M<18446744073709551616^(o+n):=by
  have:18446744073709551616^o*(M+1)<=18446744073709551616^o*18446744073709551616^n:=bYC _ h3;rw[<-cAQ,cAO]at this;omega
 have s2:18446744073709551616^(o+n)*(T+1)<=18446744073709551616^N:=by
  have:=bYC (18446744073709551616^(o+n)) hT;rw[<-cAQ,show o+n+(N-(o+n))=N from by omega]at this;exact this
 rw[cAO]at s2;omega
theorem spec(x:List Int×Nat×Nat)(b:List Int)(h:(sp x b).1):aH E f229 aE [(Ds gJ .u64).put x,(pI .u64).put b]=some (sp x b).2/\∃rs mZ,(sp x b).2=rs ++ [.io gJ .u64 mZ 0 0]/\mZ.length=x.1.length:=by
 obtain⟨xl,o,n⟩:=x;obtain⟨hd,hn,ho,hb,hN⟩:=h;simp only at hd hn ho hN;subst hn;refine⟨(start xl o (b.length+1) b).trans ?_,[_],_,rfl,M6.iH (bound (M6.dT hd) ho)⟩;exact L hN hd hb ho b.length 0 xl 0 (by omega) rfl hd (by omega) (by omega) rfl rfl (by simp[M6.val])
def aJ:dK:=orc2 (Ds gJ .u64) (pI .u64) sp
theorem fnok:mA prog E 229 f229 aE:=vU rI mixed (lY _ rfl aD (nT)) func229 rfl rfl rfl rfl rfl
theorem ok:pW prog base.glob 229 aJ:=fnok.mT rfl spec
end yM
namespace Es
def E:Env:={ ({ base with C:=rA [(228,tJ.aJ),(229,yM.aJ)] (callsOf [(227,aAO.aJ)]),ioF:=Nv [(228,tJ.aJ),(229,yM.aJ)],n0:=1,io:=[0] })with nt:=72,own:=[],keep:=fun k=>(tlook [(10,[0,1,5,6,7,8,9]),(4,[0,1,5,6,7])] k).getD [],cut:=tlook [] }
def aE:=bd f197
theorem aX:Nk E aE:=nk
def L4(a:List Int)(b:Nat)(c:Nat) d f (g:Nat) (h:List Int) i:=qV E f197 aE 4 [(A.any,some { e:=(22:Nat),cont:=wX.ints u64 a }),(A.v (V.one (L.view 0 b c)),none),iM d,bP f,Ck 4 g 22 h,bP i]
def He(a:List Int)(b:Nat)(c:Nat) d f (g:Nat) (h:List Int) i j (k:Nat) (l:Nat):=qV E f197 aE 10 [(A.any,some { e:=(22:Nat),cont:=wX.ints u64 a }),(A.v (V.one (L.view 0 b c)),none),iM d,bP f,Ck 4 g 22 h,bP i,dC j,(A.v (V.one (L.view 0 k l)),none)]
theorem start al ao an b:aH E f197 aE [D.io gJ u64 al ao an,D.s (ints u64 b)]=letI B:=(an:Int);letI A:=(b.length:Int);if 0<=i64.wrap (B-A)/\i64.wrap (B-A)<=i64.wrap (B-A)/\i64.wrap (B-A)<=8796093022208 then Es.L4 al ao an b A (i64.wrap (B-A)).toNat (bXR (i64.wrap (B-A)).toNat (0:Int)) (i64.wrap (i64.wrap (B-A)-1))else none:=eJ aX
theorem rZ a b c d e f g h:L4 a b c d e f g h=letI N:=b+h.toNat;letI K:=i64.wrap (e-1);letI H:=i64.wrap (h+e)+1;letI G:=i64.wrap (h+e)-1;letI F:=b+(i64.wrap (h+e)).toNat;letI B:=b+(i64.wrap G).toNat;letI A:=i64.wrap H;letI C:=A.toNat-h.toNat;aB (decide (0<=h)) (if 0<=i64.wrap (h+e)/\i64.wrap (h+e)<(c:Int)then if 0<=i64.wrap G/\i64.wrap G<(c:Int)then if 0<=i64.wrap (e-1)/\i64.wrap (e-1)<(d.length:Int)then aO (0<=a.getD F 0/\0<=a.getD B 0/\a.getD B 0<(18446744073709551616:Int)/\d.getD K.toNat 0<(18446744073709551616:Int)) (aC (if d.getD K.toNat 0<=a.getD F 0 then(18446744073709551615:Int)else(↑(((a.getD F 0).toNat*18446744073709551616+(a.getD B 0).toNat)/(d.getD K.toNat 0).toNat):Int)) fun i=>letI I:=M6.val d*i.toNat;if 0<=h/\h<=i64.wrap H/\i64.wrap H<=(c:Int)then aO (M6.cY a/\A.toNat-h.toNat=d.length+1/\b+h.toNat+C<=a.length/\M6.cY d/\a.length<=1099511627776/\0<=i/\i<18446744073709551616) (aC (↑(tJ.Tz (M6.val a) N C I):Int) fun j=>aC (M6.pT a.length (M6.val a+(18446744073709551616:Nat)^(b+h.toNat+C)*tJ.Tz (M6.val a) N C I-(18446744073709551616:Nat)^N*I)) fun k=>aB (j==0) (if 0<=h/\h<(f:Int)then Es.L4 k b c d e f (g.set h.toNat i) (i64.wrap (h-1))else none) (Es.He k b c d e f g h i N C))else none)else none else none else none) (some [D.own 22 u64 g,D.io 22 u64 a 0 0]):=lJ aX
theorem qQ a b c d e f g h i j k:He a b c d e f g h i j k=aO (M6.cY a/\k=d.length+1/\j+k<=a.length/\M6.cY d/\a.length<=1099511627776) (aC (↑(yM.Xz (M6.val a) j k (M6.val d)):Int) fun l=>aC (M6.pT a.length (M6.val a+(18446744073709551616:Nat)^j*M6.val d-(18446744073709551616:Nat)^(j+k)*yM.Xz (M6.val a) j k (M6.val d))) fun m=>aB (l==1) (if 0<=h/\h<(f:Int)then Es.L4 m b c d e f (g.set h.toNat (u64.wrap (i-1))) (i64.wrap (h-1))else none) (Es.He m b c d e f g h (u64.wrap (i-1)) j k)):=lJ aX
def sp(x:List Int×Nat×Nat)(b:List Int):Prop×List D:=(M6.cY x.1/\x.2.1=0/\x.2.2=x.1.length/\M6.cY b/\0<b.length/\b.length<=x.1.length/\x.1.length<=549755813888/\M6.val x.1/18446744073709551616^(x.1.length-b.length)<M6.val b,
 [.own gJ .u64 (M6.pT (x.1.length-b.length) (M6.val x.1/M6.val b)),.io gJ .u64 (M6.pT x.1.length (M6.val x.1%M6.val b)) 0 0])
theorem digit{z:List Int}(hd:M6.cY z)(k:Nat):(z.getD k 0).toNat=M6.val z/18446744073709551616^k%18446744073709551616:=by
 rw[<-M6.nH hd,M6.jM];have:=hd.get k;omega
theorem Ii{v j n:Nat}(h:v/18446744073709551616^j<18446744073709551616^n):v/18446744073709551616^j%18446744073709551616^n=v/18446744073709551616^j:=cFW h
theorem minus{v j R X:Nat}(hR:R=v/18446744073709551616^j)(hX:X<=R):(v-18446744073709551616^j*X)/18446744073709551616^j=R-X/\18446744073709551616^j*X<=v:=by
 have h1:=cGA v (18446744073709551616^j);have h2:v%18446744073709551616^j<18446744073709551616^j:=bXW _ (cX);rw[<-hR]at h1;obtain⟨D,rfl⟩:=bWT hX;rw[cAO]at h1;have h3:v-18446744073709551616^j*X=v%18446744073709551616^j+18446744073709551616^j*D:=by omega
 rw[h3,cCS _ _ (cX),cBI h2];omega
theorem plus{v j n R X:Nat}(hR:R=v/18446744073709551616^j)(hX:R<X)(aZI:X<=18446744073709551616^n):(v+18446744073709551616^(j+n)-18446744073709551616^j*X)/18446744073709551616^j%18446744073709551616^n=R+18446744073709551616^n-X:=by
 have h1:=cGA v (18446744073709551616^j);have h2:v%18446744073709551616^j<18446744073709551616^j:=bXW _ (cX);rw[<-hR]at h1;have h4:18446744073709551616^j*(R+18446744073709551616^n)=18446744073709551616^j*R+18446744073709551616^(j+n):=by rw[cAO,cAQ]
 obtain⟨D,hD⟩:∃D,R+18446744073709551616^n=X+D:=bWT (by omega);rw[hD,cAO]at h4;have h3:v+18446744073709551616^(j+n)-18446744073709551616^j*X=v%18446744073709551616^j+18446744073709551616^j*D:=by omega
 rw[h3,cCS _ _ (cX),cBI h2,bVQ,cFW (by omega)];omega
theorem aIB{R V n:Nat}{hi lo d:Int}(hn:0<n)(hV:V<18446744073709551616^n)(bFT:R<18446744073709551616*V)(Xx:hi.toNat=R/18446744073709551616^n)(Zk:lo.toNat=R/18446744073709551616^(n-1)%18446744073709551616)(hd:d.toNat=V/18446744073709551616^(n-1))(h0:0<=hi) :
  R/V<=(if d<=hi then(18446744073709551615:Int)else(((hi.toNat*18446744073709551616+lo.toNat)/d.toNat:Nat):Int)).toNat/\(0<=if d<=hi then(18446744073709551615:Int)else(((hi.toNat*18446744073709551616+lo.toNat)/d.toNat:Nat):Int))/\(if d<=hi then(18446744073709551615:Int)else(((hi.toNat*18446744073709551616+lo.toNat)/d.toNat:Nat):Int))<18446744073709551616:=by
 by_cases hc:d<=hi
 ·rw[if_pos hc];refine⟨?_,by omega,by omega⟩;have:R/V<18446744073709551616:=by
   apply cBG;rw[cAM];exact bFT
  show R/V<=18446744073709551615;omega
 ·rw[if_neg hc];obtain⟨k,rfl⟩:∃k,n=k+1:=⟨n-1,by omega⟩;rw[Nat.add_sub_cancel]at Zk hd;have e1:hi.toNat*18446744073709551616+lo.toNat=R/18446744073709551616^k:=by
   rw[Xx,Zk,cAN,<-cCA];omega
  have bTD:0<d.toNat:=by omega
  have jB:hi.toNat<d.toNat:=by omega
  refine⟨?_,cFA _,?_⟩
  ·rw[bZL,e1,cCA];apply cGD
   ·rw[hd];exact cGI _ _
   ·exact cGG (cX) bTD
  ·have hlo2:lo.toNat<18446744073709551616:=by rw[Zk];exact bXW _ (by omega)
   have:(hi.toNat*18446744073709551616+lo.toNat)/d.toNat<18446744073709551616:=by
    apply cBG;have:(hi.toNat+1)*18446744073709551616<=d.toNat*18446744073709551616:=bXD _ jB;omega
   exact Int.ofNat_lt.2 this
theorem bLP{u b qs:List Int}{L j R q:Nat}(hL:L<=549755813888)(hu:u.length=L)(hd:M6.cY u)(hb:M6.cY b)(hj:j+(b.length+1)<=L)(hR:R=M6.val u/18446744073709551616^j)(aTU:R<18446744073709551616^(b.length+1))(hV:0<M6.val b)(hq:q=R/M6.val b)(hqs:qs.length=L-b.length):∀(k w:Nat),w=q+(k+1)->w<18446744073709551616 ->
  He (M6.pT L (M6.val u+18446744073709551616^(j+(b.length+1))-18446744073709551616^j*(M6.val b*w))) 0 L b b.length (L-b.length) qs j w j (b.length+1)=L4 (M6.pT L (M6.val u-18446744073709551616^j*(M6.val b*q))) 0 L b b.length (L-b.length) (qs.set j (q:Int)) ((j:Int)-1):=by
 have bDE:=M6.dT hb;have bFC:M6.val b*q<=R:=by rw[hq];exact cGI _ _
 have aVR:R<M6.val b*(q+1):=by rw[hq];exact cGR _ hV
 have bAZ:=M6.dT hd;rw[hu]at bAZ;intro k
 induction k with
 |zero =>
  intro w hw bQY;subst hw;have aZI:M6.val b*(q+(0+1))<=18446744073709551616^(b.length+1):=by
   rw[cAN];exact cFZ (by omega) (by omega)
  have Pl:=plus (n:=b.length+1) hR (X:=M6.val b*(q+(0+1))) aVR aZI;have bCX:M6.val u+18446744073709551616^(j+(b.length+1))-18446744073709551616^j*(M6.val b*(q+(0+1)))<18446744073709551616^L:=by
   have:=tJ.bound bAZ hj (X:=M6.val b*(q+(0+1))) (by rw[cAN];exact cDP bDE (by omega));unfold tJ.Tz at this;rw[Ii (by rw[<-hR];exact aTU),<-hR,if_pos aVR,bVY]at this;exact this
  have aWK:yM.Xz (M6.val u+18446744073709551616^(j+(b.length+1))-18446744073709551616^j*(M6.val b*(q+(0+1)))) j (b.length+1) (M6.val b)=1:=by
   unfold yM.Xz;rw[Pl];have e:R+18446744073709551616^(b.length+1)-M6.val b*(q+(0+1))+M6.val b=18446744073709551616^(b.length+1)*1+(R-M6.val b*q):=by
    rw[cAO]at aZI ⊢;omega
   have jB:R-M6.val b*q<18446744073709551616^(b.length+1):=by omega
   rw[e,cEZ (cX),cBI jB]
  have w1:u64.wrap (((q+(0+1):Nat):Int)-1)=(q:Int):=by rw[wrap_u64];omega
  have w2:i64.wrap ((j:Int)-1)=(j:Int)-1:=by rw[wrap_i64]
  rw[qQ,aG,aG,M6.iH bCX,M6.lV,aWK,gP ⟨M6.lW,by trivial,hj,hb,by omega⟩,cO (by rfl),aU,w1,w2,bZL];congr 1;congr 1;have e1:18446744073709551616^j*(M6.val b*(q+(0+1)))=18446744073709551616^j*(M6.val b*q)+18446744073709551616^j*M6.val b:=by rw[cAO,cAO];simp
  have e2:=(minus hR bFC).2;have e3:18446744073709551616^j*M6.val b<=18446744073709551616^(j+(b.length+1)):=by
   rw[cAQ,cAN];exact bYC _ (by omega)
  omega
 |succ k ih =>
  intro w hw bQY;subst hw;have bBZ:R<M6.val b*(q+(k+1)):=bWL aVR (bYC _ (by omega));have aKO:M6.val b*(q+(k+1+1))=M6.val b*(q+(k+1))+M6.val b:=by rw[<-bZF q,Nat.mul_succ]
  have aZI:M6.val b*(q+(k+1+1))<=18446744073709551616^(b.length+1):=by
   rw[cAN];exact cFZ (by omega) (by omega)
  have Pl:=plus (n:=b.length+1) hR (X:=M6.val b*(q+(k+1+1))) (by omega) aZI;have bCX:M6.val u+18446744073709551616^(j+(b.length+1))-18446744073709551616^j*(M6.val b*(q+(k+1+1)))<18446744073709551616^L:=by
   have:=tJ.bound bAZ hj (X:=M6.val b*(q+(k+1+1))) (by rw[cAN];exact cDP bDE (by omega));unfold tJ.Tz at this;rw[Ii (by rw[<-hR];exact aTU),<-hR,aU,bVY]at this;exact this
  have aWK:yM.Xz (M6.val u+18446744073709551616^(j+(b.length+1))-18446744073709551616^j*(M6.val b*(q+(k+1+1)))) j (b.length+1) (M6.val b)=0:=by
   unfold yM.Xz;rw[Pl];exact cBI (by omega)
  have w1:u64.wrap (((q+(k+1+1):Nat):Int)-1)=((q+(k+1):Nat):Int):=by rw[wrap_u64];omega
  rw[qQ,aG,aG,M6.iH bCX,M6.lV,aWK,gP ⟨M6.lW,by trivial,hj,hb,by omega⟩,bN (by decide),w1];have e4:M6.val u+18446744073709551616^(j+(b.length+1))-18446744073709551616^j*(M6.val b*(q+(k+1+1)))+18446744073709551616^j*M6.val b-18446744073709551616^(j+(b.length+1))*0=M6.val u+18446744073709551616^(j+(b.length+1))-18446744073709551616^j*(M6.val b*(q+(k+1))):=by
   have e1:18446744073709551616^j*(M6.val b*(q+(k+1+1)))=18446744073709551616^j*(M6.val b*(q+(k+1)))+18446744073709551616^j*M6.val b:=by rw[aKO,cAO]
   have e3:18446744073709551616^j*(M6.val b*(q+(k+1+1)))<=18446744073709551616^(j+(b.length+1)):=by
    rw[cAQ];exact bYC _ aZI
   omega
  rw[e4];exact ih _ rfl (by omega)
theorem aOR{α R:Type}{x:α}{k:α->Option R}{r:Option R}(Q:α->Prop)(hx:Q x)(hk:∀w,Q w->k w=r):aC x k=r:=hk x hx
theorem bVM{b:List Int}{L U0:Nat}(hL:L<=549755813888)(hb:M6.cY b)(hn:0<b.length)(hbL:b.length<=L):∀(t:Nat) (u qs:List Int),t<=L-b.length->u.length=L->M6.cY u->qs.length=L-b.length->M6.cY qs->M6.val u/18446744073709551616^t<M6.val b->U0=M6.val u+M6.val b*(18446744073709551616^t*M6.val (qs.drop t)) ->
  L4 u 0 L b b.length (L-b.length) qs ((t:Int)-1)=some [.own gJ .u64 (M6.pT (L-b.length) (U0/M6.val b)),.io gJ .u64 (M6.pT L (U0%M6.val b)) 0 0]:=by
 have bDE:=M6.dT hb;intro t
 induction t with
 |zero =>
  intro u qs _ hu hd hq bJH jB hU;rw[cFJ,Nat.div_one]at jB;rw[cFJ,bZS,cCE]at hU;rw[rZ,aL];have e1:U0/M6.val b=M6.val qs:=by rw[hU,cCS _ _ (by omega),cBI jB,bVQ]
  have e2:U0%M6.val b=M6.val u:=by rw[hU,cHS,cFW jB]
  rw[M6.oY hd hu e2.symm,M6.oY bJH hq e1.symm]
 |succ j ih =>
  intro u qs hj hu hd hq bJH jB hU;obtain⟨R,hR⟩:∃R,R=M6.val u/18446744073709551616^j:=⟨_,rfl⟩;have hV:0<M6.val b:=cBY (cBX _) jB;have bFT:R<18446744073709551616*M6.val b:=by
   rw[cAN,<-cCA,<-hR]at jB;rw[cAM];exact(cGS (by omega)).1 jB
  have aTU:R<18446744073709551616^(b.length+1):=by rw[cAN];omega
  obtain⟨q,bFB⟩:∃q,q=R/M6.val b:=⟨_,rfl⟩;have bFC:M6.val b*q<=R:=by rw[bFB];exact cGI _ _
  have hqB:q<18446744073709551616:=by
   rw[bFB];apply cBG;rw[cAM];exact bFT
  have bAZ:=M6.dT hd;rw[hu]at bAZ;have bMA:L4 (M6.pT L (M6.val u-18446744073709551616^j*(M6.val b*q))) 0 L b b.length (L-b.length) (qs.set j (q:Int)) ((j:Int)-1)=some [.own gJ .u64 (M6.pT (L-b.length) (U0/M6.val b)),.io gJ .u64 (M6.pT L (U0%M6.val b)) 0 0]:=by
   obtain⟨m1,m2⟩:=minus hR bFC;refine ih _ _ (by omega) (M6.iH (by omega)) M6.lW (by simp[hq]) (M6.oF bJH ⟨by omega,by omega⟩) ?_ ?_
   ·rw[M6.lV,m1];have h1:=cGA R (M6.val b);have h2:=bXW R hV;rw[<-bFB]at h1;omega
   ·rw[M6.lV,M6.xC (by omega),bZL,hU,cAN];have e1:M6.val b*(18446744073709551616^j*(q+18446744073709551616*M6.val (qs.drop (j+1))))=18446744073709551616^j*(M6.val b*q)+M6.val b*(18446744073709551616^j*18446744073709551616*M6.val (qs.drop (j+1))):=by
     rw[cAO,cAO,cFB,cAR (18446744073709551616^j)]
    rw[e1];omega
  have hx:((j+1:Nat):Int)-1=(j:Int):=by omega
  have w1:i64.wrap ((j:Int)+(b.length:Int))=((j+b.length:Nat):Int):=by rw[wrap_i64];omega
  have w2:i64.wrap (((j+b.length:Nat):Int)-1)=((j+b.length-1:Nat):Int):=by rw[wrap_i64];omega
  have w3:i64.wrap ((b.length:Int)-1)=((b.length-1:Nat):Int):=by rw[wrap_i64];omega
  have w4:i64.wrap (((j+b.length:Nat):Int)+1)=((j+b.length+1:Nat):Int):=by rw[wrap_i64];omega
  have w5:i64.wrap ((j:Int)-1)=(j:Int)-1:=by rw[wrap_i64]
  have e5:j+b.length+1-j=b.length+1:=by omega
  have g1:=hd.get (j+b.length);have g2:=hd.get (j+b.length-1);have g3:=hb.get (b.length-1);have Xx:(u.getD (j+b.length) 0).toNat=R/18446744073709551616^b.length:=by
   rw[digit hd,cAQ,<-cCA,<-hR,cFW];apply cBG;rw[cAN]at aTU;exact aTU
  have Zk:(u.getD (j+b.length-1) 0).toNat=R/18446744073709551616^(b.length-1)%18446744073709551616:=by
   rw[digit hd,show j+b.length-1=j+(b.length-1)from by omega,cAQ,<-cCA,<-hR]
  have aTO:(b.getD (b.length-1) 0).toNat=M6.val b/18446744073709551616^(b.length-1):=by
   rw[digit hb,cFW];apply cBG;rw[<-cAN,show(b.length-1).succ=b.length from by omega];exact bDE
  have ht:=aIB hn bDE bFT Xx Zk aTO g1.1;rw[hx,rZ,aP,w1,w2,w3,w4,aU,aU,aU,bZL,bZL,bZL,bVQ,bVQ,gP ⟨g1.1,g2.1,g2.2,g3.2⟩];refine aOR (fun w:Int=>R/M6.val b<=w.toNat/\0<=w/\w<18446744073709551616) ht ?_;rintro w ⟨Ca,h0,h1⟩;obtain⟨w,rfl⟩:=cAS h0;rw[bZL]at Ca;rw[aU];simp only[bZL,bVQ,e5];rw[hu,gP ⟨hd,by trivial,by omega,hb,by omega,h0,h1⟩,aG,aG]
  by_cases hc:M6.val b*w<=R
  ·have ho:tJ.Tz (M6.val u) j (b.length+1) (M6.val b*w)=0:=by
    unfold tJ.Tz;rw[Ii (by rw[<-hR];exact aTU),<-hR,aW]
   have bML:w=q:=by
    have:w<=R/M6.val b:=by rw[cHG hV,cAM];exact hc
    omega
   subst bML;rw[ho,cO (by rfl),aU,Nat.mul_zero,bWM,w5];exact bMA
  ·have ho:tJ.Tz (M6.val u) j (b.length+1) (M6.val b*w)=1:=by
    unfold tJ.Tz;rw[Ii (by rw[<-hR];exact aTU),<-hR,aU]
   have bML:q<w:=by
    rcases bWE q w with h |h
    ·exact h
    ·exact absurd (bWK (bYC _ h) bFC) hc
   rw[ho,bN (by decide),bVY];rw[bLP hL hu hd hb (by omega) hR aTU hV bFB hq (w-q-1) w (by omega) (by omega)];exact bMA
theorem spec(x:List Int×Nat×Nat)(b:List Int)(h:(sp x b).1):aH E f197 aE [(Ds gJ .u64).put x,(pI .u64).put b]=some (sp x b).2/\∃rs mZ,(sp x b).2=rs ++ [.io gJ .u64 mZ 0 0]/\mZ.length=x.1.length:=by
 obtain⟨xl,xo,xn⟩:=x;obtain⟨hd,ho,hn,hb,h0,Jd,hL,jB⟩:=h;simp only at hd ho hn Jd hL jB;subst ho;subst hn;refine⟨(start xl 0 xl.length b).trans ?_,[_],_,rfl,M6.iH ?_⟩
 ·have w1:i64.wrap ((xl.length:Int)-(b.length:Int))=((xl.length-b.length:Nat):Int):=by rw[wrap_i64];omega
  have w2:i64.wrap (((xl.length-b.length:Nat):Int)-1)=((xl.length-b.length:Nat):Int)-1:=by rw[wrap_i64]
  rw[w1,w2,aU,bZL];refine bVM hL hb h0 Jd (xl.length-b.length) xl _ (bVO _) rfl hd (by simp) (M6.kZ _) jB ?_;rw[cGZ (by simp)];simp[M6.val]
 ·show _<18446744073709551616^xl.length;exact cBY (Nat.mod_le _ _) (M6.dT hd)
def aJ:dK:=orc2 (Ds gJ .u64) (pI .u64) sp
theorem fnok:mA prog E 197 f197 aE:=vU rI mixed (lZ _ _ rfl rfl (mH tJ.ok (mH yM.ok xN)) (aA aAO.ok aD) (nT)) func197 rfl rfl rfl rfl rfl
theorem ok:pW prog base.glob 197 aJ:=fnok.mT rfl spec
end Es
namespace Ai
def E:Env:={ ({ base with C:=rA [(197,Es.aJ)] (callsOf [(144,gN.aJ),(101,Am.aJ),(193,aNN.aJ),(194,nG.aJ),(95,oA.aJ),(195,aNP.aJ),(196,Ae.aJ),(104,Ez.aJ)]),ioF:=Nv [(197,Es.aJ)] })with nt:=98,own:=[37,49,55,68,76,88,93],keep:=fun k=>(tlook [] k).getD [],cut:=tlook [(3,[0,1])] }
def aE:=bd f151
theorem aX:Nk E aE:=nk
def J3 a b:=mD E f151 aE 3 [iM a,iM b]
theorem start a b:aH E f151 aE [D.s (ints u64 a),D.s (ints u64 b)]=letI B:=sc (slice none 0 0);letI A:=some [D.s B,D.s B,D.s (sc (int i64 2))];aO (a.length<=1099511627776) (aB (!gN.oQ a) A (aO (b.length<=1099511627776) (aB (!gN.oQ b) A (Ai.J3 a b)))):=eJ aX
theorem gU a b:J3 a b=letI K:=sc (int i64 0);letI H:=(a.length:Int);letI O:=H+(1:Int);letI G:=sc (slice none 0 0);letI C:=i64.wrap O;letI A:=(b.length:Int);letI N:=A-(1:Int);letI F:=i64.wrap N;aB (A==(0:Int)) (some [D.s G,D.s G,D.s (sc (int i64 4))]) (aO (M6.cY a/\M6.cY b/\a.length<=1099511627776/\b.length<=1099511627776) (aB (decide (lB (M6.val a) (M6.val b)<0)) (aO (M6.cY a/\a.length<=1099511627776) (aC (bif cP.mM (M6.val a)then M6.dg (M6.val a)else []) fun c=>some [D.s G,D.s (ints u64 c),D.s K])) (aB (A==(1:Int)) (if(0:Int)<=(0:Int)/\0<A then aO (M6.cR a/\a.length<=8192/\0<b.getD 0 0/\b.getD 0 0<(18446744073709551616:Int)) (aC (M6.dg (M6.val a/(b.getD 0 0).toNat)) fun d=>aC (↑(M6.val a%(b.getD 0 0).toNat):Int) fun e=>aO (0<=e/\e<18446744073709551616) (some [D.s (ints u64 d),D.s (ints u64 (M6.dg e.toNat)),D.s K]))else none) (if 0<=i64.wrap N/\i64.wrap N<A then aO (0<=b.getD F.toNat 0/\b.getD F.toNat 0<(18446744073709551616:Int)) (aC ((64:Int)-(↑(bl (b.getD F.toNat 0).toNat):Int)) fun f=>aO (M6.cY a/\0<=f/\f<64/\0<=i64.wrap O/\a.length<=C.toNat/\i64.wrap O<=549755813888/\M6.val a*(2:Nat)^f.toNat<(18446744073709551616:Nat)^C.toNat) (aC (M6.pT C.toNat (M6.val a*(2:Nat)^f.toNat)) fun g=>aO (M6.cY b/\0<=f/\f<64/\0<=A/\b.length<=A.toNat/\A<=(549755813888:Int)/\M6.val b*(2:Nat)^f.toNat<(18446744073709551616:Nat)^A.toNat) (aC (M6.pT A.toNat (M6.val b*(2:Nat)^f.toNat)) fun h=>letI P:=g.length-h.length;letI I:=(h.length:Int);aO (M6.cY g/\(0:Nat)=(0:Nat)/\g.length=g.length/\M6.cY h/\0<h.length/\h.length<=g.length/\g.length<=549755813888/\M6.val g/(18446744073709551616:Nat)^P<M6.val h) (aC (M6.pT P (M6.val g/M6.val h)) fun i=>aC (M6.pT g.length (M6.val g%M6.val h)) fun j=>letI B:=cER (I.toNat-0) (cEQ 0 j);if(0:Int)<=(0:Int)/\0<=I/\I<=(g.length:Int)then aO (M6.cY B/\B.length<=1099511627776) (aC (bif cP.mM (M6.val B)then M6.dg (M6.val B)else []) fun k=>aO (M6.cR k/\k.length<=8192/\0<=f/\f<4611686018427387904) (aC (M6.dg (M6.val k/(2:Nat)^f.toNat)) fun l=>aO (M6.cY i/\i.length<=1099511627776) (aC (bif cP.mM (M6.val i)then M6.dg (M6.val i)else []) fun m=>some [D.s (ints u64 m),D.s (ints u64 l),D.s K])))else none))))else none)))):=cJ aX
def sp(a b:List Int):Prop×List D:=(M6.cR a/\a.length<=8192/\M6.cR b/\1<=b.length/\b.length<=8192,[.s (.ints .u64 (M6.dg (M6.val a/M6.val b))),.s (.ints .u64 (M6.dg (M6.val a%M6.val b))),.s (.sc (.int .i64 0))])
theorem Yx{n k:Nat}(h:n<18446744073709551616^k)(hk:k<=8192):cP.mM n=true:=decide_eq_true (by have:=M6.eB h;omega)
theorem spec:Mt E f151 aE (pI .u64) (pI .u64) sp:=by
 rintro a b ⟨ha,hl,hb,h1,Jd⟩;have e:=start a b;have g:=hb.kW.get 0;have hz:M6.val b≠0:=fun h=>by have:=(M6.dZ hb).2 h;omega
 rw[gP,gN.nM ha hl,bXO,bF,gP,gN.nM hb (by omega),bXO,bF,gU,bN,gP ⟨ha.kW,hb.kW,by omega,by omega⟩]at e;unfold sp;simp only
 by_cases hc:M6.val a<M6.val b
 ·have Nn:cP.mM (M6.val a)=true:=Yx (M6.dT ha.kW) hl;rw[aP (by unfold lB;rw[if_pos hc];omega),gP ⟨ha.kW,by omega⟩,aG,Nn]at e;rw[cBI hc,cFW hc,M6.cK];exact⟨_,e,.cons (yO.nil _) (iD.refl _)⟩
 have hm:=bXW (M6.val a) (show 0<M6.val b by omega);rw[aL (by unfold lB;rw[if_neg hc];split <;> omega)]at e
 by_cases Le:b.length=1
 ·have hv:M6.val b=(b.getD 0 0).toNat:=by
   have:=M6.dR (a:=b) 0;rw[M6.dS (by omega)]at this;simpa [M6.val] using this
  rw[cO,if_pos ⟨by omega,by omega⟩,gP ⟨ha,by omega,by omega,by omega⟩,<-hv,aG,aG,gP ⟨cFA _,by generalize M6.val a%M6.val b=m at *;omega⟩,bZL]at e;exact⟨_,e,iD.refl _⟩
 ·have w1:i64.wrap ((b.length:Int)-1)=((b.length-1:Nat):Int):=by rw[wrap_i64];omega
  have w2:i64.wrap ((a.length:Int)+1)=((a.length+1:Nat):Int):=by rw[wrap_i64];omega
  have gt:=hb.kW.get (b.length-1);have htop:b.getD (b.length-1) 0≠0:=by
   have:=M6.getLast_take (a:=b) (n:=b.length-1) (by omega);rw[show b.length-1+1=b.length from by omega,cCD]at this;exact hb.top this
  have bHT:=M6.dR (a:=b) (b.length-1);rw[show b.length-1+1=b.length from by omega,cCD]at bHT;have bMP:=M6.iN hb.kW (b.length-1);obtain⟨x,hx⟩:=cAS gt.1;have Ua:x≠0:=by omega
  have hbx:bl x<=64:=cZ.2 (by omega);have bNV:=pD Ua;have bMK:=vG x;obtain⟨s,hs⟩:∃s:Nat,s=64-bl x:=⟨_,rfl⟩;have ws:(64-(bl x:Int))=(s:Int):=by omega
  have aLM:=M6.dT ha.kW;have bFW:=M6.dT hb.kW;have Gf:2^s<18446744073709551616:=by
   have:2^s<2^64:=cCW (by omega) (by omega);omega
  have aKT:0<2^s:=cX;have bOG:M6.val a*2^s<18446744073709551616^(a.length+1):=by rw[cAN];exact cDP aLM Gf
  have aDH:M6.val b*2^s<18446744073709551616^b.length:=by
   have h2:(x+1)*2^s<=2^bl x*2^s:=bXD _ bMK;rw[<-cAQ,show bl x+s=64 from by omega]at h2;have h3:M6.val b+1<=18446744073709551616^(b.length-1)*(x+1):=by
    rw[bHT,hx,bZL,cAO];omega
   have h4:(M6.val b+1)*2^s<=18446744073709551616^(b.length-1)*(x+1)*2^s:=bXD _ h3;have h5:18446744073709551616^(b.length-1)*((x+1)*2^s)<=18446744073709551616^(b.length-1)*2^64:=bYC _ h2;have h6:18446744073709551616^(b.length-1)*2^64=18446744073709551616^b.length:=by
    conv=>rhs;rw[show b.length=(b.length-1)+1 from by omega,cAN]
   rw[h6]at h5;rw[cAR]at h4;rw[bWI]at h4;omega
  have hlab:b.length<=a.length:=by
   rcases bWE a.length b.length with h |h
   ·exact absurd (M6.uL ha.kW hb h) hc
   ·exact h
  have Ca:18446744073709551616^(b.length-1)<=M6.val b:=by
   rw[bHT,hx,bZL];have:18446744073709551616^(b.length-1)*1<=18446744073709551616^(b.length-1)*x:=bYC _ (by omega);omega
  have aDA:M6.val a*2^s/18446744073709551616^(a.length+1-b.length)<M6.val b*2^s:=by
   apply cBG;have h1:18446744073709551616^(a.length+1-b.length)*18446744073709551616^(b.length-1)<=18446744073709551616^(a.length+1-b.length)*M6.val b:=bYC _ Ca;rw[<-cAQ,show a.length+1-b.length+(b.length-1)=a.length from by omega]at h1;rw[<-cAR];exact cHV (bWL aLM h1) aKT
  have hQ:M6.val a*2^s/(M6.val b*2^s)=M6.val a/M6.val b:=cEB _ _ aKT;have hR:M6.val a*2^s%(M6.val b*2^s)=M6.val a%M6.val b*2^s:=cEC _ _ _;have bFS:M6.val a%M6.val b*2^s<18446744073709551616^b.length:=Nat.lt_trans (cHV hm aKT) aDH;have hRl2:M6.val a%M6.val b*2^s<18446744073709551616^(a.length+1):=bWL bFS (M6.qB (by omega));have bTX:M6.val a/M6.val b<18446744073709551616^a.length:=cBY (cFV _ _) aLM;have bKB:M6.val a/M6.val b<18446744073709551616^(a.length+1-b.length):=by
   apply cBG;have h1:18446744073709551616^(b.length-1)*18446744073709551616^(a.length+1-b.length)<=M6.val b*18446744073709551616^(a.length+1-b.length):=bXD _ Ca;rw[<-cAQ,show b.length-1+(a.length+1-b.length)=a.length from by omega]at h1;omega
  have bBD:M6.val ((M6.pT (a.length+1) (M6.val a%M6.val b*2^s)).take b.length)=M6.val a%M6.val b*2^s:=by
   rw[M6.tL M6.lW,M6.lV,cFW bFS]
  rw[bN,w1,w2,aU,bZL,bZL,bZL,gP gt,hx,bZL,ws,aG,bZL,
   gP ⟨ha.kW,by omega,by omega,by omega,by omega,by omega,bOG⟩,aG,gP ⟨hb.kW,by omega,by omega,by omega,bVO _,by omega,aDH⟩,aG,
   M6.iH bOG,M6.iH aDH,M6.lV,M6.lV,bZL,gP ⟨M6.lW,rfl,rfl,M6.lW,by omega,by omega,by omega,aDA⟩,aG,aG,hQ,hR,
   aU,cCE,Nat.sub_zero,bBD,gP ⟨M6.lW.take _,by rw[List.length_take];omega⟩,Yx bFS Jd,cond_true,aG,
   gP ⟨M6.aY _,by have:=M6.eB bFS;omega,by omega,by omega⟩,M6.bQ,cFL _ aKT,aG,gP ⟨M6.lW,by rw[M6.iH bKB];omega⟩,M6.lV,Yx bTX hl,cond_true,aG]at e
  exact⟨_,e,iD.refl _⟩
def aJ:dK:=orc2 (pI .u64) (pI .u64) sp
theorem fnok:tB prog E 151 f151 aE:=aFO rI mixed (lZ _ _ rfl rfl (mH Es.ok xN) (aA gN.ok (aA Am.ok (aA aNN.ok (aA nG.ok (aA oA.ok (aA aNP.ok (aA Ae.ok (aA Ez.ok aD)))))))) (nT)) func151 rfl rfl rfl
theorem ok:kY prog base.glob 151 aJ:=fnok.aHQ rfl spec
end Ai
namespace aGO
def E:=mE [(96,fH.aJ),(151,Ai.aJ),(102,uE.aJ),(99,An.aJ)] 60 [28,50,57] [(3,[2,3,4])] [3]
def aE:=bd f109
theorem aX:Nk E aE:=nk
def J3 a b c d e:=mD E f109 aE 3 [dM 0 27 [cU a,fU b],dM 1 27 [cU c,fU d],dM 2 27 [cU e,sc (slice none 0 0)]]
theorem start a b c d:aH E f109 aE [D.agg [sc (bool a),ints u64 b],D.agg [sc (bool c),ints u64 d]]=letI A:=some [D.agg [sc (bool false),sc (slice none 0 0)],D.s (sc (int i64 2))];aO (b.length<=1099511627776) (aB (!fH.nR (a,b)) A (aO (d.length<=1099511627776) (aB (!fH.nR (c,d)) A (aGO.J3 a b c d false)))):=eJ aX
theorem gU a b c d e:J3 a b c d e=letI A:=M6.dg (M6.val b%M6.val d);letI F:=M6.dg (M6.val d-M6.val A);letI C:=bif (if M6.val d<M6.val A then(3:Int)else(0:Int))==0 then zs c (M6.val F)else(0:Int);letI B:=aO (M6.cR A/\A.length<=1099511627776) (some [D.agg [sc (bool (isNeg (zs c (M6.val A)))),ints u64 (M6.dg (zs c (M6.val A)).natAbs)],D.s (sc (int i64 0))]);aB ((d.length:Int)==(0:Int)) (some [D.agg [sc (bool false),sc (slice none 0 0)],D.s (sc (int i64 4))]) (aO (M6.cR b/\b.length<=8192/\M6.cR d/\1<=d.length/\d.length<=8192) (aB (a !=c) (aB (decide (0<(A.length:Int))) (aO (M6.cR d/\M6.cR A/\d.length<=8192/\A.length<=8192) (aO (M6.cR F/\F.length<=1099511627776) (some [D.agg [sc (bool (isNeg C)),ints u64 (M6.dg C.natAbs)],D.s (sc (int i64 (if M6.val d<M6.val A then(3:Int)else(0:Int))))]))) B) B)):=cJ aX
def sp(x y:Bool×List Int):Prop×List D:=(gL x/\gL y/\y.1=false/\1<=y.2.length,[wD (wv x%wv y),.s (.sc (.int .i64 0))])
theorem spec:gT E f109 aE oD oD sp:=by
 rintro x y ⟨hx,hy,hn,h1⟩;refine(start x.1 x.2 y.1 y.2).trans ?_;have l1:=hx.len;have l2:=hy.len;have f1:=fH.kU hx;have f2:=fH.kU hy;have b2:=hy.bl;obtain⟨p,a⟩:=x;obtain⟨q,b⟩:=y;have n1:M6.cR a:=hx.1;have n2:M6.cR b:=hy.1
 try dsimp only at *
 subst hn;unfold sp
 try dsimp only
 have hz:M6.val b≠0:=fun h=>by have:=(M6.dZ n2).2 h;omega
 have hm:=bXW (M6.val a) (show 0<M6.val b by omega);have hl:=fL (n:=M6.val a%M6.val b) (k:=8192) (bWK (fY (Nat.le_of_lt hm)) b2);have bFF:=fL (n:=M6.val b-M6.val a%M6.val b) (k:=8192) (bWK (fY (Nat.sub_le _ _)) b2);have hb:wv (false,b)=(M6.val b:Int):=Fe (x:=(false,b)) rfl;have zf:∀n:Nat,zs false n=(n:Int):=fun n=>rfl
 rw[gP,f1,bXO,bF,gP,f2,bXO,bF,gU,bN,gP ⟨n1,l1,n2,h1,l2⟩];simp only[M6.bQ];cases p with
 |false =>
  have ha:wv (false,a)=(M6.val a:Int):=Fe (x:=(false,a)) rfl;rw[show(false !=false)=false from rfl,bF,gP ⟨M6.aY _,by omega⟩,ha,hb,<-cCX];rfl
 |true =>
  have ha:wv (true,a)=-(M6.val a:Int):=Qp (x:=(true,a)) rfl;rw[show(true !=false)=true from rfl,bT]
  by_cases hr:M6.val a%M6.val b=0
  ·have e0:-(M6.val a:Int)%(M6.val b:Int)=0:=by
    have aZF:=cAT (M6.val a) (M6.val b);rw[hr,bWM]at aZF;rw[<-aZF,cBP,<-cEE];exact Int.mul_emod_right _ _
   rw[hr,M6.cK,aL (by simp),gP ⟨M6.Iy,by simp⟩,ha,hb,e0];rfl
  ·have hd:(M6.dg (M6.val a%M6.val b)).length≠0:=fun h=>hr (M6.iQ.1 h)
   have e0:-(M6.val a:Int)%(M6.val b:Int)=((M6.val b-M6.val a%M6.val b:Nat):Int):=by
    have aZF:=cAT (M6.val a) (M6.val b);have e1:-(M6.val a:Int)=((M6.val b-M6.val a%M6.val b:Nat):Int)+(M6.val b:Int)*(-(((M6.val a/M6.val b+1:Nat)):Int)):=by
     have e2:((M6.val b*(M6.val a/M6.val b)+M6.val a%M6.val b:Nat):Int)=(M6.val a:Int):=by rw[aZF]
     rw[cGJ,cBP]at e2;rw[cEE,cGJ,Int.mul_add];generalize M6.val a%M6.val b=r at *;generalize (M6.val b:Int)*((M6.val a/M6.val b:Nat):Int)=z at *;omega
    rw[e1,Int.add_mul_emod_self_left];exact Int.emod_eq_of_lt (by omega) (by omega)
   rw[aP,gP ⟨n2,M6.aY _,l2,hl⟩,gP ⟨M6.aY _,by omega⟩,aW,ha,hb,e0];rfl
def aJ:dK:=orc2 oD oD sp
theorem ok:OK 109 aJ:=(eZ E aE (aA fH.ok (aA Ai.ok (aA uE.ok (aA An.ok aD)))) func109).mT rfl spec
end aGO
namespace sW
def E:=mE [(96,fH.aJ)] 40 [] [(8,[1,4])] [8]
def aE:=bd f110
theorem aX:Nk E aE:=nk
def J8 a b c:=mD E f110 aE 8 [dM 0 27 [cU a,fU b],dC c]
theorem start a b:aH E f110 aE [D.agg [sc (bool a),ints u64 b]]=letI F:=sW.J8 a b (b.getD 0 0);letI C:=(b.length:Int);letI B:=sc (int i64 0);letI A:=some [D.s B,D.s (sc (int i64 5))];aO (b.length<=1099511627776) (aB (!fH.nR (a,b)) (some [D.s B,D.s (sc (int i64 2))]) (aB (C==(0:Int)) (some [D.s B,D.s B]) (if(0:Int)<=(0:Int)/\0<C then aB (decide (1<C)) A (aB (decide (9223372036854775808<b.getD 0 0)) A (aB (b.getD 0 0==(9223372036854775808:Int)) (aB (!a) A F) F))else none))):=eJ aX
theorem yP a b c:J8 a b c=aB a (some [D.s (sc (int i64 (i64.wrap (u64.wrap ((0:Int)-c))))),D.s (sc (int i64 0))]) (some [D.s (sc (int i64 (i64.wrap c))),D.s (sc (int i64 0))]):=cJ aX
def sG(z:Int):Bool:=decide (-9223372036854775808<=z)&&decide (z<9223372036854775808)
def sp(x:Bool×List Int):Prop×List D:=(gL x,[.s (.sc (.int .i64 (bif sG (wv x)then wv x else 0))),.s (.sc (.int .i64 (bif sG (wv x)then 0 else 5)))])
theorem spec:jE E f110 aE oD sp:=by
 intro x h;have h:gL x:=h;refine(start x.1 x.2).trans ?_;obtain⟨b,a⟩:=x;have hl:a.length<=8192:=h.len;have h1:M6.cR a:=h.1;have g:=h1.kW.get 0;have hf:=fH.kU h
 try dsimp only
 unfold sp
 try dsimp only
 rw[gP,hf,bXO,bF];have yes:∀z:Int,-9223372036854775808<=z->z<9223372036854775808->sG z=true:=fun z h h'=>by unfold sG;rw[decide_eq_true h,decide_eq_true h'];rfl
 have no:∀z:Int,(z < -9223372036854775808\/9223372036854775808<=z)->sG z=false:=fun z h=>by
  unfold sG;rcases h with h |h
  ·rw[decide_eq_false (by omega),cAV]
  ·rw[decide_eq_false (show ¬z<_ by omega),cBA]
 by_cases hz:a.length=0
 ·have hv:=(M6.dZ h1).1 hz;have:wv (b,a)=0:=by
   have:=iG (b,a);rw[show M6.val (b,a).2=0 from hv]at this;omega
  rw[cO,this];rfl
 ·rw[bN,if_pos ⟨by omega,by omega⟩];have bHS:M6.val a≠0:=fun h=>hz ((M6.dZ h1).2 h)
  have aLH:=iG (b,a)
  try dsimp only at aLH
  by_cases h2:1<a.length
  ·have Ca:18446744073709551616<=M6.val a:=by
    have:=M6.Bf (n:=M6.val a) (k:=1) (by rw[aJR h1];exact h2);omega
   rw[aP,no _ (by omega)];rfl
  ·have hv:M6.val a=(a.getD 0 0).toNat:=by
    have:=M6.dR (a:=a) 0;rw[M6.dS (by omega)]at this;simpa [M6.val] using this
   rw[aL];generalize a.getD 0 0=w at *
   by_cases h3:9223372036854775808<w
   ·rw[aP h3,no _ (by omega)];rfl
   ·rw[aL h3,yP];cases b with
    |true =>
     have hw:wv (true,a)=-(M6.val a:Int):=Qp (x:=(true,a)) rfl;have e1:i64.wrap (u64.wrap (0-w))=wv (true,a):=by rw[hw,fJ,Hf];omega
     rw[yes _ (by omega) (by omega),bXO,bF,bT,e1];unfold aB;cases (w==9223372036854775808) <;> rfl
    |false =>
     have hw:wv (false,a)=(M6.val a:Int):=Fe (x:=(false,a)) rfl;rw[cGW,bT,bF]
     by_cases h4:w=9223372036854775808
     ·rw[cO h4,no _ (by omega)];rfl
     ·rw[bN h4,yes _ (by omega) (by omega),wrap_i64];rw[show w=wv (false,a)from by omega];rfl
def aJ:dK:=orc1 oD sp
theorem ok:OK 110 aJ:=(eZ E aE (aA fH.ok aD) func110).pU rfl spec
end sW
namespace Xh
def E:=mE [(51,aGM.aJ),(109,aGO.aJ),(110,sW.aJ)] 19 [15] [] []
def aE:=bd f60
theorem aX:Nk E aE:=nk
theorem start a b:aH E f60 aE [D.agg [sc (bool a),ints u64 b]]=letI B:=(isNeg 4,M6.dg 4);letI A:=(isNeg (wv (a,b)%wv B),M6.dg (wv (a,b)%wv B).natAbs);aO ((-9223372036854775808:Int)<=(4:Int)/\(4:Int)<(9223372036854775808:Int)) (aO (gL (a,b)/\gL B/\isNeg 4=false/\1<=(M6.dg 4).length) (aO (gL A) (some [D.s (sc (int i64 (bif sW.sG (wv A)then wv A else(0:Int))))]))):=eJ aX
def sp(x:Bool×List Int):Prop×List D:=(gL x,[.s (.sc (.int .i64 (wv x%4)))])
theorem spec:jE E f60 aE oD sp:=by
 intro x h;have h:gL x:=h;have e4:wv (isNeg 4,M6.dg 4)=4:=nA 4;have w4:gL (isNeg 4,M6.dg 4):=fT (z:=4) (bWK (cZ.2 (show(4:Int).natAbs<2^3 by decide)) (by omega));have l4:(M6.dg 4).length=1:=by
  have h1:=M6.eB (n:=4) (k:=1) (by decide);have h2:(M6.dg 4).length≠0:=fun h=>by have:=M6.iQ.1 h;omega
  omega
 have hr:0<=wv x%4/\wv x%4<4:=by omega
 refine(start x.1 x.2).trans ?_;rw[gP,gP ⟨h,w4,rfl,Nat.le_of_eq l4.symm⟩,e4,nA];show aO _ _=some [D.s (.sc (.int .i64 (wv x%4)))];generalize wv (x.1,x.2)%4=r at *;rw[gP (fT (bWK (cZ.2 (show r.natAbs<2^3 by omega)) (by omega)))];have:sW.sG r=true:=by unfold sW.sG;rw[decide_eq_true (by omega),decide_eq_true (by omega)];rfl
 rw[this];rfl
def aJ:dK:=orc1 oD sp
theorem ok:OK 60 aJ:=(eZ E aE (aA aGM.ok (aA aGO.ok (aA sW.ok aD))) func60).pU rfl spec
end Xh
namespace dA
def E:=mE [(12,bR.aJ),(56,jQ.aJ),(13,bI.aJ),(57,Xi.aJ),(58,Tr.aJ),(59,Tq.aJ),(48,Ao.aJ),(60,Xh.aJ)] 71 [22,68] [] []
def aE:=bd f18
theorem aX:Nk E aE:=nk
theorem start a:aH E f18 aE [D.s (sc (int u64 a))]=letI N:=sc (int i64 0);letI I:=bif gY 1 (-1:Int)then aN 1 (-1:Int)else((0:Int),(0:Int));letI B:=bif cS.fN 64 a&&cB.jD 64 a then aN (bR.nB 64 a) (bR.nI 64 a)else((0:Int),(0:Int));aO (((64:Int)=(32:Int)\/(64:Int)=(64:Int))/\0<=a/\a<18446744073709551616) (aC (isNeg B.fst) fun b=>aC (M6.dg B.fst.natAbs) fun c=>aC B.snd fun d=>letI O:=dv (b,c,d);letI H:=bif jQ.Fm O 1 then jQ.Ng O 1 else((0:Int),(0:Int));aC (bif cS.fN 64 a then bif cB.jD 64 a then(0:Int)else(6:Int)else(2:Int)) fun e=>aB (e !=0) (some [D.s N,D.agg [sc (bool false),sc (slice none 0 0),sc (int i64 0)],D.s (sc (int i64 e))]) (aO (aQ (b,c,d)/\(-9223372036854775808:Int)<=(1:Int)/\(1:Int)<(9223372036854775808:Int)) (aC (isNeg H.fst) fun f=>aC (M6.dg H.fst.natAbs) fun g=>aC H.snd fun h=>aO (((-9223372036854775808:Int)<=(1:Int)/\(1:Int)<(9223372036854775808:Int))/\(-9223372036854775808:Int)<=(-1:Int)/\(-1:Int)<(9223372036854775808:Int)) (aC (isNeg I.fst) fun i=>aC (M6.dg I.fst.natAbs) fun j=>aC I.snd fun k=>letI C:=bif bI.jW (dv (f,g,h)) (dv (i,j,k))then bI.nD (dv (f,g,h)) (dv (i,j,k))else((0:Int),(0:Int));aO (aQ (f,g,h)/\aQ (i,j,k)) (aC (isNeg C.fst) fun l=>aC (M6.dg C.fst.natAbs) fun m=>aC C.snd fun n=>letI G:=bif pO.sU (dv (l,m,n)) 0 then pO.zX (dv (l,m,n)) 0 else((0:Int),(0:Int));aO (aQ (l,m,n)/\(-4611686018427387904:Int)<=(0:Int)/\(0:Int)<(4611686018427387904:Int)) (aC (isNeg G.fst) fun o=>aC (M6.dg G.fst.natAbs) fun p=>aC G.snd fun q=>letI K:=bif fit (M6.val p*(2:Nat)^q.toNat)then wv (o,p)*(↑((2:Nat)^q.toNat):Int)else(0:Int);letI F:=bif jQ.Fm (dv (o,p,q)) (-1:Int)then jQ.Ng (dv (o,p,q)) (-1:Int)else((0:Int),(0:Int));aO (aQ (o,p,q)/\(-9223372036854775808:Int)<=(-1:Int)/\(-1:Int)<(9223372036854775808:Int)) (aC (isNeg F.fst) fun r=>aC (M6.dg F.fst.natAbs) fun s=>aC F.snd fun t=>letI P:=dv (r,s,t);letI A:=bif bI.jW O (-P.fst,P.snd)then bI.nD O (-P.fst,P.snd)else((0:Int),(0:Int));aO (aQ (b,c,d)/\aQ (r,s,t)) (aC (isNeg A.fst) fun u=>aC (M6.dg A.fst.natAbs) fun v=>aC A.snd fun w=>aB (decide (q<2)) (aO (gL (o,p)/\0<=q/\q<4611686018427387904) (aC (isNeg K) fun x=>aC (M6.dg K.natAbs) fun y=>aO (gL (x,y)) (aC (wv (x,y)%4) fun z=>some [D.s (sc (int i64 z)),D.agg [sc (bool u),ints u64 v,sc (int i64 w)],D.s N]))) (some [D.s N,D.agg [sc (bool u),ints u64 v,sc (int i64 w)],D.s N]))))))))):=eJ aX
def Bp(p:Int×Int):Int:=if 0<=p.2 then p.1*p2 (p.2+1)else(p.1*4+p2 (-p.2))/p2 (1-p.2)
def Uq(p:Int×Int):Int:=if 0<=p.2 then 0 else p.1*2-Bp p*p2 (-p.2)
def Hu(p:Int×Int):Int×Int:=aN (Uq p) (p.2-1)
def rJ(a:Int):Int×Int:=aN (bR.nB 64 a) (bR.nI 64 a)
def sp(a:Int):Prop×List D:=(0<=a/\a<18446744073709551616,[.s (.sc (.int .i64 (bif cB.jD 64 a then Bp (rJ a)%4 else 0))),dD (bif cB.jD 64 a then Hu (rJ a)else(0,0)),.s (.sc (.int .i64 (bif cB.jD 64 a then 0 else 6)))])
theorem dT{a:Int}(_:0<=a)(hf:cB.jD 64 a=true):(bR.nB 64 a).natAbs<2^53/\-1074<=bR.nI 64 a/\bR.nI 64 a<=971:=by
 have Br:0<=a%cF.cT (aI.fR 64):=by rw[show cF.cT (aI.fR 64)=9223372036854775808 from rfl];omega
 have oX:a%cF.cT (aI.fR 64)<jZ.lK (aI.fR 64):=of_decide_eq_true hf;have hm:=bR.Rp aI.tG Br;have hx:=bR.Sg aI.tG Br oX;refine⟨?_,hx.1,?_⟩
 ·unfold bR.nB;rw[lP];have:=hm.2;rw[show aI.fR 64=(64,53,-1074,9221120237041090561)from rfl]at *;omega
 ·unfold bR.nI dV.uA;rw[show jZ.lK (aI.fR 64)=9218868437227405312 from rfl]at oX;rw[show cN.kJ (aI.fR 64)=4503599627370496 from rfl];rw[show(aI.fR 64).2.2.1=-1074 from rfl];split <;> omega
theorem aJO{a:Int}(h0:0<=a)(hf:cB.jD 64 a=true):jK (rJ a)/\(rJ a).1.natAbs<2^53/\-1074<=(rJ a).2/\(rJ a).2<=1024:=by
 obtain⟨h1,h2,h3⟩:=dT h0 hf;have hb:bl (bR.nB 64 a).natAbs<=53:=cZ.2 h1;have ha:=Kq (bR.nB 64 a) (bR.nI 64 a);refine⟨gM (gQ (by omega) (by omega)) (by omega),?_,?_⟩
 ·unfold rJ;omega
 ·unfold rJ
  by_cases hz:bR.nB 64 a=0
  ·rw[hz,fC];exact⟨by show(-1074:Int)<=0;omega,by show(0:Int)<=1024;omega⟩
  ·have:=(lE (e:=bR.nI 64 a) hz).2;have:=Dj (n:=(bR.nB 64 a).natAbs) (by omega);omega
theorem spec:aNH E f18 aE (pN .u64) sp:=by
 rintro a ⟨h0,h1⟩;have hp:cS.fN 64 a=true:=rfl;unfold sp
 try dsimp only
 cases hf:cB.jD 64 a with
 |false =>
  have s:=start a;rw[gP ⟨.inr rfl,h0,h1⟩,hp,hf,vl,vl,vl,vl,nC (by decide)]at s;refine⟨_,s,.cons (yO.refl _) (.cons ?_ (iD.refl _))⟩;unfold dD;rw[cond_false,show((0,0):Int×Int).1.natAbs=0 from rfl,M6.cK];exact yO.agg (.cons (Da.refl _) (.cons (Da.nil _) (yH.refl _)))
 |true =>
  refine⟨_,(start a).trans ((gP ⟨.inr rfl,h0,h1⟩).trans ?_),iD.refl _⟩
  try dsimp only[cond_true]
  have e1:(bif cS.fN 64 a&&cB.jD 64 a then aN (bR.nB 64 a) (bR.nI 64 a)else((0:Int),(0:Int)))=rJ a:=by rw[hp,hf];rfl
  have bUZ:(bif cS.fN 64 a then bif cB.jD 64 a then(0:Int)else 6 else 2)=0:=by rw[hp,hf];rfl
  rw[e1,bUZ,Bv,vl,gG rfl];obtain⟨aFC,hm,aQP,aDC⟩:=aJO h0 hf;generalize rJ a=p at *;obtain⟨m,e⟩:=p;have hs:aN m e=(m,e):=aFC.same
  try dsimp only at hm aQP aDC
  have bm:bl m.natAbs<=53:=cZ.2 hm;rw[gP ⟨dG aFC,by omega,by omega⟩,dU];have bK:bl (Bp (m,e)).natAbs<=1100:=by
   unfold Bp
   try dsimp only
   split
   ·have:=Ab (n:=e+1) (k:=1025) bm (by omega);omega
   ·refine aXP ?_ _;have b1:=Ab (z:=m) (n:=2) (k:=2) bm (by omega);have b2:=Ab (z:=1) (n:=-e) (k:=1074) Gs (by omega);rw[Int.one_mul]at b2;exact bWK (aAF (n:=1075) (bWK b1 (by omega)) b2) (by omega)
  have hR:Hu (m,e)=aN (if 0<=e then 0 else m*2-Bp (m,e)*p2 (-e)) (e-1):=rfl;have hK:Bp (m,e)=if 0<=e then m*p2 (e+1)else(m*4+p2 (-e))/p2 (1-e):=rfl
  generalize Bp (m,e)=K at *;generalize Hu (m,e)=R at *;rw[<-hs];have e2:(bif jQ.Fm (aN m e) 1 then jQ.Ng (aN m e) 1 else((0:Int),(0:Int)))=aN m (e+1):=by
   rw[Uo (by omega) (by omega),aBV];rfl
  have e3:(bif gY 1 (-1)then aN 1 (-1)else((0:Int),(0:Int)))=aN 1 (-1):=by
   rw[gQ (by omega) (by have:=Gs;omega)];rfl
  have bPW:jK (aN m (e+1)):=gM (gQ (by omega) (by omega)) (by omega);have p3:jK (aN 1 (-1)):=gM (gQ (by omega) (by have:=Gs;omega)) (by have:=Gs;omega);rw[e2,e3,Bv,gP ⟨by omega,by omega⟩,Bv,gP ⟨dG bPW,dG p3⟩,dU,dU];obtain⟨S,G,hS,hG0,bKJ,Nn,aQT,aZD⟩:∃S G:Int,bl S.natAbs<=1100/\-1100<=G/\G<=-1/\bI.jW (aN m (e+1)) (aN 1 (-1))=true/\bI.nD (aN m (e+1)) (aN 1 (-1))=aN S G/\S/p2 (0-G)=K:=by
   by_cases hc:0<=e
   ·have b1:=Ab (z:=m) (n:=e+1 - -1) (k:=1026) bm (by omega);have b2:=Ab (z:=1) (n:=-1 - -1) (k:=0) Gs (by omega);refine⟨_,-1,bWK (aAF (n:=1080) (bWK b1 (by omega)) (bWK b2 (by omega))) (by omega),by omega,by omega,Bl (G:=-1) (by omega) (by omega) (by omega) (by omega) (by omega) (by omega),Er (by omega) (by omega),?_⟩;rw[hK,if_pos hc,show e+1 - -1=e+1+1 by omega,sL (by omega) (by omega),show p2 (0 - -1)=2 from rfl,show p2 (-1 - -1)=1 from rfl,aJI];generalize p2 (e+1)=q;rw[<-cAZ];omega
   ·have b1:=Ab (z:=m) (n:=e+1-(e-1)) (k:=2) bm (by omega);have b2:=Ab (z:=1) (n:=-1-(e-1)) (k:=1074) Gs (by omega);refine⟨_,e-1,bWK (aAF (n:=1080) (bWK b1 (by omega)) (bWK b2 (by omega))) (by omega),by omega,by omega,Bl (G:=e-1) (by omega) (by omega) (by omega) (by omega) (by omega) (by omega),Er (by omega) (by omega),?_⟩;rw[hK,if_neg hc,show e+1-(e-1)=2 by omega,show -1-(e-1)=-e by omega,Int.one_mul,show p2 2=4 from rfl,show 0-(e-1)=1-e by omega]
  have e4:(bif bI.jW (aN m (e+1)) (aN 1 (-1))then bI.nD (aN m (e+1)) (aN 1 (-1))else((0:Int),(0:Int)))=aN S G:=by rw[Nn,aQT];rfl
  have p4:jK (aN S G):=gM (gQ (by omega) (by omega)) (by omega);have e5:(bif pO.sU (aN S G) 0 then pO.zX (aN S G) 0 else((0:Int),(0:Int)))=aN K 0:=by
   rw[Zr (by omega) (by omega) (by rw[aZD];omega),aFM (by omega),aZD];rfl
  have p5:jK (aN K 0):=gM (gQ (by omega) (by omega)) (by omega);rw[e4,Bv,gP ⟨dG p4,by omega,by omega⟩,dU,e5,Bv,gP ⟨dG p5,by omega,by omega⟩,dU];have e6:(bif jQ.Fm (aN K 0) (-1)then jQ.Ng (aN K 0) (-1)else((0:Int),(0:Int)))=aN K (-1):=by
   rw[Uo (by omega) (by omega),aBV];rfl
  have p6:jK (aN K (-1)):=gM (gQ (by omega) (by omega)) (by omega);rw[e6,Bv,gP ⟨dG (hs▸aFC),dG p6⟩,dU,<-aJQ];have e7:(bif bI.jW (aN m e) (aN (-K) (-1))then bI.nD (aN m e) (aN (-K) (-1))else((0:Int),(0:Int)))=R:=by
   rw[hR]
   by_cases hc:0<=e
   ·have b1:=Ab (z:=m) (n:=e - -1) (k:=1026) bm (by omega);have b2:=Ab (z:=-K) (n:=-1 - -1) (k:=0) (aNC bK) (by omega);rw[Bl (G:=-1) (by omega) (by omega) (by omega) (by omega) (by omega) (by omega),Er (G:=-1) (by omega) (by omega),if_pos hc,hK,if_pos hc,show e - -1=e+1 by omega,show p2 (-1 - -1)=1 from rfl,cGX];rw[show m*p2 (e+1)+-(m*p2 (e+1))=0 by omega,fC,fC];rfl
   ·have b1:=Ab (z:=m) (n:=e-(e-1)) (k:=1) bm (by omega);have b2:=Ab (z:=-K) (n:=-1-(e-1)) (k:=1074) (aNC bK) (by omega);rw[Bl (G:=e-1) (by omega) (by omega) (by omega) (by omega) (by omega) (by omega),Er (G:=e-1) (by omega) (by omega),if_neg hc,show e-(e-1)=1 by omega,show -1-(e-1)=-e by omega,aJI,cEW,<-Int.sub_eq_add_neg];rfl
  rw[e7,Bv];have gK:=Yy (z:=K) (e:=0) (G:=0) (by omega);rw[Int.sub_self,Int.sub_zero,aCI,cGX]at gK;have bSG:0<=(aN K 0).2:=by
   by_cases hz:K=0
   ·rw[hz,fC];exact Int.le_refl 0
   ·exact qT hz
  have bRA:M6.val (M6.dg (aN K 0).1.natAbs)=(aN K 0).1.natAbs:=M6.bQ _;have aLB:fit (M6.val (M6.dg (aN K 0).1.natAbs)*2^(aN K 0).2.toNat)=true:=by
   rw[bRA,<-aAM,gK];exact decide_eq_true (by omega)
  by_cases hc:(aN K 0).2<2
  ·rw[aP hc,gP ⟨(dG p5).Dh,by omega,by omega⟩,nA,aLB];have e8:(bif true then(aN K 0).1*((2^(aN K 0).2.toNat:Nat):Int)else(0:Int))=K:=gK;rw[e8,vl,vl,gP (fT (by omega)),nA,vl];rfl
  ·rw[aL hc];have:K%4=0:=by
    have e9:p2 (aN K 0).2=p2 ((aN K 0).2-2)*4:=by
     have:=sL (m:=(aN K 0).2-2) (n:=2) (by omega) (by omega);rwa [show(aN K 0).2-2+2=(aN K 0).2 by omega]at this
    rw[e9,<-cAZ]at gK;generalize (aN K 0).1*p2 ((aN K 0).2-2)=q at *;omega
   rw[this];rfl
def aJ:dK:=orc1 (pN .u64) sp
theorem ok:OK 18 aJ:=(eZ E aE (aA bR.ok (aA jQ.ok (aA bI.ok (aA Xi.ok (aA Tr.ok (aA Tq.ok (aA Ao.ok (aA Xh.ok aD)))))))) func18).aZT rfl spec
end dA
namespace mQ
def E:=mE [(78,aI.aJ)] 12 [] [] []
def aE:=bd f84
theorem aX:Nk E aE:=nk
theorem start a:aH E f84 aE [D.s (sc (int i64 a))]=letI A:=aI.fR a;aO True (aB (A.fst==0&&(A.snd.fst==0&&(A.snd.snd.fst==0&&(A.snd.snd.snd==0&&true)))) (some [D.s (sc (int u64 0)),D.s (sc (int i64 1))]) (some [D.s (sc (int u64 A.snd.snd.snd)),D.s (sc (int i64 0))])):=eJ aX
def Cu(f:Int):Bool:=decide (f=32\/f=64)
def sp(f:Int):Prop×List D:=(True,[.s (.sc (.int .u64 (aI.fR f).2.2.2)),.s (.sc (.int .i64 (bif Cu f then 0 else 1)))])
theorem spec:jE E f84 aE (pN .i64) sp:=by
 intro f h;refine(start f).trans ((gP trivial).trans ?_);unfold sp Cu
 try dsimp only
 by_cases h1:f=32
 ·subst h1;rfl
 ·by_cases h2:f=64
  ·subst h2;rfl
  ·have:aI.fR f=(0,0,0,0):=by unfold aI.fR;rw[if_neg h1,if_neg h2]
   rw[this,decide_eq_false (by omega)];rfl
def aJ:dK:=orc1 (pN .i64) sp
theorem ok:OK 84 aJ:=(eZ E aE (aA aI.ok aD) func84).pU rfl spec
end mQ
namespace uS
def E:=mE [] 13 [] [] []
def aE:=bd f61
theorem aX:Nk E aE:=nk
theorem start a:aH E f61 aE [D.s (sc (int i64 a))]=letI A:=some [D.s (sc (bool true))];aB (a==4) A (aB (a==5) A (some [D.s (sc (bool (a==6)))])):=eJ aX
def zO(a:Int):Bool:=decide (a=4\/a=5\/a=6)
def sp(a:Int):Prop×List D:=(True,[.s (.sc (.bool (zO a)))])
theorem spec:jE E f61 aE (pN .i64) sp:=by
 intro a h;refine(start a).trans ?_;unfold sp zO
 try dsimp only
 by_cases h1:a=4
 ·rw[cO h1,decide_eq_true (by omega)]
 ·rw[bN h1]
  by_cases h2:a=5
  ·rw[cO h2,decide_eq_true (by omega)]
  ·rw[bN h2]
   by_cases h3:a=6
   ·rw[beq_iff_eq.2 h3,decide_eq_true (by omega)]
   ·rw[beq_eq_false_iff_ne.2 h3,decide_eq_false (by omega)]
def aJ:dK:=orc1 (pN .i64) sp
theorem ok:OK 61 aJ:=(eZ E aE aD func61).pU rfl spec
end uS
namespace fB
def E:=mE [(94,cN.aJ),(81,jZ.aJ)] 23 [] [] []
def aE:=bd f79
theorem aX:Nk E aE:=nk
theorem start a c d e b:aH E f79 aE [D.agg [sc (int i64 a),sc (int i64 c),sc (int i64 d),sc (int u64 e)],D.s (sc (int u64 b))]=letI B:=(a,c,d,e);letI A:=aI.vB B;aB (b==0) (some [D.s (sc (int i64 0))]) (aO A (aB (decide (b<cN.kJ B)) (some [D.s (sc (int i64 1))]) (aO A (aB (decide (b<jZ.lK B)) (some [D.s (sc (int i64 2))]) (aO A (aB (b==jZ.lK B) (some [D.s (sc (int i64 3))]) (some [D.s (sc (int i64 4))]))))))):=eJ aX
def fX(s:Int×Int×Int×Int)(n:Int):Int:=if n=0 then 0 else if n<cN.kJ s then 1 else if n<jZ.lK s then 2 else if n=jZ.lK s then 3 else 4
def sp(s:Int×Int×Int×Int)(n:Int):Prop×List D:=(aI.vB s,[.s (.sc (.int .i64 (fX s n)))])
theorem spec:gT E f79 aE (pG (.pair (sN .i64) (.pair (sN .i64) (.pair (sN .i64) (sN .u64))))) (pN .u64) sp:=by
 intro s n h;obtain⟨s1,s2,s3,s4⟩:=s;have h:aI.vB (s1,s2,s3,s4):=h;refine(start s1 s2 s3 s4 n).trans ?_;show _=some [D.s (.sc (.int .i64 (fX (s1,s2,s3,s4) n)))];unfold fX
 by_cases h1:n=0
 ·rw[cO h1,if_pos h1]
 ·rw[bN h1,if_neg h1,gP h]
  by_cases h2:n<cN.kJ (s1,s2,s3,s4)
  ·rw[aP h2,if_pos h2]
  ·rw[aL h2,if_neg h2,gP h]
   by_cases h3:n<jZ.lK (s1,s2,s3,s4)
   ·rw[aP h3,if_pos h3]
   ·rw[aL h3,if_neg h3,gP h]
    by_cases h4:n=jZ.lK (s1,s2,s3,s4)
    ·rw[cO h4,if_pos h4]
    ·rw[bN h4,if_neg h4]
def aJ:dK:=orc2 (pG (.pair (sN .i64) (.pair (sN .i64) (.pair (sN .i64) (sN .u64))))) (pN .u64) sp
theorem ok:OK 79 aJ:=(eZ E aE (aA cN.ok (aA jZ.ok aD)) func79).mT rfl spec
end fB
namespace Av
def E:=mE [(77,cS.aJ),(79,fB.aJ)] 24 [13,23] [] []
def aE:=bd f83
theorem aX:Nk E aE:=nk
theorem start a b:aH E f83 aE [D.s (sc (int i64 a)),D.s (sc (int u64 b))]=letI C:=bif cS.fN a b then(0:Int)else(2:Int);letI A:=aI.fR a;letI B:=(A.fst,A.snd.fst,A.snd.snd.fst,A.snd.snd.snd);aO ((a=32\/a=64)/\0<=b/\b<18446744073709551616) (aB (C !=0) (some [D.s (sc (int i64 0)),D.s (sc (int i64 C))]) (aO (aI.vB B) (some [D.s (sc (int i64 (fB.fX B (bif cS.fN a b then b%cF.cT A else(0:Int))))),D.s (sc (int i64 0))]))):=eJ aX
def sp(f b:Int):Prop×List D:=((f=32\/f=64)/\0<=b/\b<18446744073709551616,[.s (.sc (.int .i64 (bif cS.fN f b then fB.fX (aI.fR f) (b%cF.cT (aI.fR f))else 0))),.s (.sc (.int .i64 (bif cS.fN f b then 0 else 2)))])
theorem spec:gT E f83 aE (pN .i64) (pN .u64) sp:=by
 intro f b h;refine(start f b).trans ((gP h).trans ?_);unfold sp
 try dsimp only
 have ht:aI.vB (aI.fR f):=by
  rcases h.1 with rfl |rfl
  ·exact .inl rfl
  ·exact .inr rfl
 cases hp:cS.fN f b with
 |false=>rfl
 |true =>
  try dsimp only[cond_true]
  rw[gG rfl,gP ht]
def aJ:dK:=orc2 (pN .i64) (pN .u64) sp
theorem ok:OK 83 aJ:=(eZ E aE (aA cS.ok (aA fB.ok aD)) func83).mT rfl spec
end Av
namespace Gy
def E:=mE [] 5 [] [] []
def aE:=bd f142
theorem aX:Nk E aE:=nk
theorem start a:aH E f142 aE [D.s (sc (int i64 a))]=aB (a==32) (some [D.s (sc (int u64 2139095040))]) (some [D.s (sc (int u64 9218868437227405312))]):=eJ aX
def sp(f:Int):Prop×List D:=(f=32\/f=64,[.s (.sc (.int .u64 (jZ.lK (aI.fR f))))])
theorem spec:jE E f142 aE (pN .i64) sp:=by
 intro f h;refine(start f).trans ?_;rcases h with rfl |rfl <;> rfl
def aJ:dK:=orc1 (pN .i64) sp
theorem ok:OK 142 aJ:=(eZ E aE aD func142).pU rfl spec
end Gy
namespace Xo
def E:=mE [(135,cF.aJ)] 13 [] [] []
def aE:=bd f80
theorem aX:Nk E aE:=nk
theorem start a d e f b c:aH E f80 aE [D.agg [sc (int i64 a),sc (int i64 d),sc (int i64 e),sc (int u64 f)],D.s (sc (bool b)),D.s (sc (int u64 c))]=aB b (aO (aI.vB (a,d,e,f)) (some [D.s (sc (int u64 (gA BinOp.or u64 c (cF.cT (a,d,e,f)))))])) (some [D.s (sc (int u64 c))]):=eJ aX
def sp(s:Int×Int×Int×Int)(b:Bool)(c:Int):Prop×List D:=(aI.vB s,[.s (.sc (.int .u64 (bif b then gA .or .u64 c (cF.cT s)else c)))])
theorem spec:oK E f80 aE (pG (.pair (sN .i64) (.pair (sN .i64) (.pair (sN .i64) (sN .u64))))) pB (pN .u64) sp:=by
 intro s b c h;refine(start s.1 s.2.1 s.2.2.1 s.2.2.2 b c).trans ?_;cases b with
 |true=>exact gP h
 |false=>rfl
def aJ:dK:=orc3 (pG (.pair (sN .i64) (.pair (sN .i64) (.pair (sN .i64) (sN .u64))))) pB (pN .u64) sp
theorem ok:OK 80 aJ:=(eZ E aE (aA cF.ok aD) func80).yK rfl spec
end Xo
namespace gW
def E:=mE [(78,aI.aJ),(80,Xo.aJ),(136,aNG.aJ),(137,Ap.aJ),(94,cN.aJ),(81,jZ.aJ)] 102 [25,80,101] [(8,[1,2,3,10]),(13,[1,2,3,10,12])] [8,13]
def aE:=bd f82
theorem aX:Nk E aE:=nk
def J8 a b c d e f g:=mD E f82 aE 8 [Nq a,dC b,bP c,dM 3 84 [cV d,cV e,cV f,Yg g]]
def Ql a b c d e f g h:=mD E f82 aE 13 [Nq a,dC b,bP c,dM 3 84 [cV d,cV e,cV f,Yg g],bP h]
theorem start a b c d:aH E f82 aE [D.s (sc (int i64 a)),D.s (sc (bool b)),D.s (sc (int u64 c)),D.s (sc (int i64 d))]=letI B:=some [D.s (sc (int u64 0)),D.s (sc (int i64 5))];letI A:=aI.fR a;letI C:=(A.fst,A.snd.fst,A.snd.snd.fst,A.snd.snd.snd);aO True (aB (A.fst==0&&(A.snd.fst==0&&(A.snd.snd.fst==0&&(A.snd.snd.snd==0&&true)))) (some [D.s (sc (int u64 0)),D.s (sc (int i64 1))]) (aB (c==0) (aO (aI.vB C) (some [D.s (sc (int u64 (bif b then gA BinOp.or u64 0 (cF.cT C)else(0:Int)))),D.s (sc (int i64 0))])) (aB (decide (d<i64.wrap (A.snd.snd.fst-64))) B (aB (decide (i64.wrap (A.snd.snd.fst+4096)<d)) B (gW.J8 b c d A.fst A.snd.fst A.snd.snd.fst A.snd.snd.snd))))):=eJ aX
theorem yP a b c d e f g:J8 a b c d e f g=letI C:=some [D.s (sc (int u64 0)),D.s (sc (int i64 5))];letI B:=(↑(tz b.toNat):Int);letI A:=(↑((2:Nat)^min (if b=0 then(64:Int)else B).toNat 64):Int);letI F:=(↑(bl (b/A).toNat):Int);aO (0<=b/\b<18446744073709551616) (if(if b=0 then(64:Int)else B)<0 then none else aO (0<=b/A/\b/A<(18446744073709551616:Int)) (aB (decide (e<F)) C (aB (decide (i64.wrap (c+if b=0 then(64:Int)else B)<f)) C (gW.Ql a (b/A) (i64.wrap (c+if b=0 then(64:Int)else B)) d e f g F)))):=cJ aX
theorem yF a b c d e f g h:Ql a b c d e f g h=letI F:=(d,e,f,g);letI C:=aI.vB F;letI B:=b*(↑((2:Nat)^min (if i64.wrap (c-f)<i64.wrap (e-h)then i64.wrap (c-f)else i64.wrap (e-h)).toNat 64):Int);letI A:=u64.wrap (u64.wrap (u64.wrap (i64.wrap (i64.wrap (i64.wrap (c-if i64.wrap (c-f)<i64.wrap (e-h)then i64.wrap (c-f)else i64.wrap (e-h))-f)+1))-1)*cN.kJ F)+u64.wrap B;if(if i64.wrap (c-f)<i64.wrap (e-h)then i64.wrap (c-f)else i64.wrap (e-h))<0 then none else aO C (aB (decide (u64.wrap B<cN.kJ F)) (aO C (some [D.s (sc (int u64 (bif a then gA BinOp.or u64 (u64.wrap B) (cF.cT F)else u64.wrap B))),D.s (sc (int i64 0))])) (aO C (aO C (aB (decide (jZ.lK F<=u64.wrap A)) (some [D.s (sc (int u64 0)),D.s (sc (int i64 5))]) (aO C (some [D.s (sc (int u64 (bif a then gA BinOp.or u64 (u64.wrap A) (cF.cT F)else u64.wrap A))),D.s (sc (int i64 0))])))))):=cJ aX
def Yl(s:Int×Int×Int×Int)(b:Bool)(c:Int):Int:=bif b then c+cF.cT s else c
def Nr(s:Int×Int×Int×Int)(m:Nat)(e:Int):Nat:=(if e-s.2.2.1<s.2.1-(bl m:Int)then e-s.2.2.1 else s.2.1-(bl m:Int)).toNat
def Kb(s:Int×Int×Int×Int)(m:Nat)(e:Int):Option Int :=
 if((m*2^Nr s m e:Nat):Int)<cN.kJ s then some ((m*2^Nr s m e:Nat):Int)
 else if jZ.lK s<=(e-(Nr s m e:Nat)-s.2.2.1)*cN.kJ s+((m*2^Nr s m e:Nat):Int)then none
 else some ((e-(Nr s m e:Nat)-s.2.2.1)*cN.kJ s+((m*2^Nr s m e:Nat):Int))
def aCS(s:Int×Int×Int×Int)(m:Nat)(e:Int):Option Int :=
 if e<s.2.2.1-64\/s.2.2.1+4096<e then none
 else if s.2.1<(bl (m/2^tz m):Int)\/e+(tz m:Int)<s.2.2.1 then none
 else Kb s (m/2^tz m) (e+(tz m:Int))
def Qq(s:Int×Int×Int×Int)(b:Bool)(o:Option Int):Int:=match o with
 |some c=>Yl s b c
 |none=>0
def aLV(o:Option Int):Int:=match o with
 |some _=>0
 |none=>5
def uM(s:Int×Int×Int×Int)(m e:Int):Option Int:=if m=0 then some 0 else aCS s m.toNat e
def bAB(s:Int×Int×Int×Int)(b:Bool)(o:Option Int):List D:=[.s (.sc (.int .u64 (Qq s b o))),.s (.sc (.int .i64 (aLV o)))]
theorem xJ{s:Int×Int×Int×Int}(hs:aI.vB s){b:Bool}{c:Int}(h0:0<=c)(h1:c<cF.cT s):(bif b then gA .or .u64 c (cF.cT s)else c)=Yl s b c:=by
 unfold Yl;cases b with
 |false=>rfl
 |true =>
  try dsimp only[cond_true]
  obtain⟨n,rfl⟩:=cAS h0;rcases hs with rfl |rfl
  ·rw[show cF.cT (32,24,-149,2143289345)=2147483648 from rfl]at *;rw[Uy (by omega) (by omega) (by omega) (by omega)];have:=Fv (c:=n) (n:=1) (k:=31) (by omega);rw[show(2147483648:Int).toNat=2^31*1 from rfl,bZL,this];omega
  ·rw[show cF.cT (64,53,-1074,9221120237041090561)=9223372036854775808 from rfl]at *;rw[Uy (by omega) (by omega) (by omega) (by omega)];have:=Fv (c:=n) (n:=1) (k:=63) (by omega);rw[show(9223372036854775808:Int).toNat=2^63*1 from rfl,bZL,this];omega
theorem j13{s:Int×Int×Int×Int}(hs:aI.vB s)(b:Bool)(m:Nat)(e:Int)(h1:(bl m:Int)<=s.2.1)(h2:s.2.2.1<=e)(h3:e<=3000)(hm:m≠0) :
  Ql b (m:Int) e s.1 s.2.1 s.2.2.1 s.2.2.2 (bl m:Int)=some (bAB s b (Kb s m e)):=by
 have hb:=pD hm;have jB:m*2^Nr s m e<2^(bl m+Nr s m e):=by
  rw[cAQ];exact Nat.mul_lt_mul_of_lt_of_le (vG m) (bVO _) (bYO (by decide))
 have aHC:((bl m+Nr s m e:Nat):Int)<=s.2.1:=by
  unfold Nr;split <;> omega
 have aYU:((Nr s m e:Nat):Int)<=e-s.2.2.1:=by
  unfold Nr;split <;> omega
 rw[yF];have bEV:∀k:Nat,s.2.1<=(k:Int)->m*2^Nr s m e<2^k:=fun k hk=>bWL jB (bYP (by decide) (by omega))
 have low:-1074<=s.2.2.1/\s.2.2.1<=0/\s.2.1<=53:=by rcases hs with rfl |rfl <;> ((try dsimp only);omega)
 rw[wrap_i64 (n:=e-s.2.2.1),wrap_i64 (n:=s.2.1-(bl m:Int))];have bRD:(if e-s.2.2.1<s.2.1-(bl m:Int)then e-s.2.2.1 else s.2.1-(bl m:Int))=((Nr s m e:Nat):Int):=by
  unfold Nr;split <;> omega
 rw[bRD,aW,bZL,show min (Nr s m e) 64=Nr s m e by omega,<-cBP,gP hs];unfold Kb;generalize Nr s m e=u at *;generalize m*2^u=M at *;rcases hs with rfl |rfl
 ·have hM:=bEV 24 (by decide);simp only[show cN.kJ (32,24,-149,2143289345)=8388608 from rfl,show jZ.lK (32,24,-149,2143289345)=2139095040 from rfl]at *;rw[wrap_u64 (n:=(M:Int)),wrap_i64 (n:=e-(u:Int)),wrap_i64 (n:=e-(u:Int) - -149),wrap_i64 (n:=e-(u:Int) - -149+1),wrap_u64 (n:=e-(u:Int) - -149+1),wrap_u64 (n:=e-(u:Int) - -149+1-1),show e-(u:Int) - -149+1-1=e-(u:Int) - -149 by omega,wrap_u64 (n:=(e-(u:Int) - -149)*8388608),wrap_u64 (n:=(e-(u:Int) - -149)*8388608+(M:Int))]
  by_cases c1:(M:Int)<8388608
  ·rw[aP c1,if_pos c1,gP aI.two32,xJ aI.two32 (by omega) (by show(M:Int)<2147483648;omega)];rfl
  ·rw[aL c1,if_neg c1,gP aI.two32,gP aI.two32]
   by_cases c2:2139095040<=(e-(u:Int) - -149)*8388608+(M:Int)
   ·rw[aP c2,if_pos c2];rfl
   ·rw[aL c2,if_neg c2,gP aI.two32,xJ aI.two32 (by omega) (by show _<2147483648;omega)];rfl
 ·have hM:=bEV 53 (by decide);simp only[show cN.kJ (64,53,-1074,9221120237041090561)=4503599627370496 from rfl,show jZ.lK (64,53,-1074,9221120237041090561)=9218868437227405312 from rfl]at *
  by_cases c1:(M:Int)<4503599627370496
  ·rw[wrap_u64 (n:=(M:Int)),aP c1,if_pos c1,gP aI.tG,xJ aI.tG (by omega) (by show(M:Int)<9223372036854775808;omega)];rfl
  ·rw[wrap_u64 (n:=(M:Int)),wrap_i64 (n:=e-(u:Int)),wrap_i64 (n:=e-(u:Int) - -1074),wrap_i64 (n:=e-(u:Int) - -1074+1),wrap_u64 (n:=e-(u:Int) - -1074+1),wrap_u64 (n:=e-(u:Int) - -1074+1-1),show e-(u:Int) - -1074+1-1=e-(u:Int) - -1074 by omega];rw[wrap_u64 (n:=(e-(u:Int) - -1074)*4503599627370496),wrap_u64 (n:=(e-(u:Int) - -1074)*4503599627370496+(M:Int)),aL c1,if_neg c1,gP aI.tG,gP aI.tG]
   by_cases c2:9218868437227405312<=(e-(u:Int) - -1074)*4503599627370496+(M:Int)
   ·rw[aP c2,if_pos c2];rfl
   ·rw[aL c2,if_neg c2,gP aI.tG,xJ aI.tG (by omega) (by show _<9223372036854775808;omega)];rfl
def sp(f:Int)(b:Bool)(m e:Int):Prop×List D:=((f=32\/f=64)/\(0<=m/\m<18446744073709551616)/\-4000<=e/\e<=2900,[.s (.sc (.int .u64 (Qq (aI.fR f) b (uM (aI.fR f) m e)))),.s (.sc (.int .i64 (aLV (uM (aI.fR f) m e))))])
theorem spec:Om E f82 aE (pN .i64) pB (pN .u64) (pN .i64) sp:=by
 rintro f b m e ⟨hf,⟨aFG,bRY⟩,aQP,aDC⟩;refine(start f b m e).trans ((gP trivial).trans ?_);show _=some (bAB (aI.fR f) b (uM (aI.fR f) m e));unfold uM;have hs:aI.vB (aI.fR f):=by
  rcases hf with rfl |rfl
  ·exact .inl rfl
  ·exact .inr rfl
 generalize aI.fR f=s at *;obtain⟨n,rfl⟩:=cAS aFG;have low:-1074<=s.2.2.1/\s.2.2.1<=0/\s.2.1<=53:=by rcases hs with rfl |rfl <;> ((try dsimp only);omega)
 have yT:(s.1==0&&(s.2.1==0&&(s.2.2.1==0&&(s.2.2.2==0&&true))))=false:=by rcases hs with rfl |rfl <;> rfl
 have Zf:0<cF.cT s:=by unfold cF.cT;split <;> omega
 rw[Sx yT]
 by_cases h0:(n:Int)=0
 ·rw[cO h0,if_pos h0];refine(gP hs).trans ?_;rw[xJ hs (by omega) Zf];rfl
 ·have Br:n≠0:=by omega
  have ht:=Jo Br;have bEZ:tz n<64:=(Nat.pow_lt_pow_iff_right (by decide:1<2)).1 (cBY ht (by omega));rw[bN h0,if_neg h0,wrap_i64 (n:=s.2.2.1-64),wrap_i64 (n:=s.2.2.1+4096)];unfold aCS
  by_cases c1:e<s.2.2.1-64
  ·rw[aP c1,if_pos (.inl c1)];rfl
  ·rw[aL c1]
   by_cases c2:s.2.2.1+4096<e
   ·rw[aP c2,if_pos (.inr c2)];rfl
   ·rw[aL c2,aW,yP,if_neg h0,bZL,aW,gP,bZL,show min (tz n) 64=tz n by omega,<-cBO,bZL,wrap_i64 (n:=e+(tz n:Int))];have hd:n/2^tz n≠0:=fun h=>by have:=(tM n Br).2;rw[h]at this;cases this
    have hl:n/2^tz n<=n:=cFV _ _;generalize n/2^tz n=q at *;rw[gP]
    by_cases c3:s.2.1<(bl q:Int)
    ·rw[aP c3,if_pos (.inl c3)];rfl
    ·rw[aL c3]
     by_cases c4:e+(tz n:Int)<s.2.2.1
     ·rw[aP c4,if_pos (.inr c4)];rfl
     ·rw[aL c4,aW,j13 hs b _ _ (by omega) (by omega) (by omega) hd]
def aJ:dK:=orc4 (pN .i64) pB (pN .u64) (pN .i64) sp
theorem ok:OK 82 aJ:=(eZ E aE (aA aI.ok (aA Xo.ok (aA aNG.ok (aA Ap.ok (aA cN.ok (aA jZ.ok aD)))))) func82).aOE rfl spec
end gW
namespace Tf
def E:=mE [] 14 [] [] []
def aE:=bd f141
theorem aX:Nk E aE:=nk
theorem start a b c:aH E f141 aE [D.s (sc (int i64 a)),D.s (sc (bool b)),D.s (sc (int u64 c))]=aB b (if i64.wrap (a-1)<0 then none else some [D.s (sc (int u64 (gA BinOp.or u64 c (u64.wrap ((1:Int)*(↑((2:Nat)^min (i64.wrap (a-1)).toNat 64):Int))))))]) (some [D.s (sc (int u64 c))]):=eJ aX
def sp(f:Int)(b:Bool)(c:Int):Prop×List D:=((f=32\/f=64)/\0<=c/\c<cF.cT (aI.fR f),[.s (.sc (.int .u64 (gW.Yl (aI.fR f) b c)))])
theorem spec:oK E f141 aE (pN .i64) pB (pN .u64) sp:=by
 rintro f b c ⟨hf,h0,h1⟩;refine(start f b c).trans ?_;have hs:aI.vB (aI.fR f):=cB.Dk hf;unfold sp
 try dsimp only
 rw[<-gW.xJ hs h0 h1];cases b with
 |false=>rfl
 |true=>rcases hf with rfl |rfl <;> rfl
def aJ:dK:=orc3 (pN .i64) pB (pN .u64) sp
theorem ok:OK 141 aJ:=(eZ E aE aD func141).yK rfl spec
end Tf
namespace pJ
def E:=mE [(142,Gy.aJ),(141,Tf.aJ),(82,gW.aJ)] 27 [15,23] [] []
def aE:=bd f92
theorem aX:Nk E aE:=nk
theorem start a b c:aH E f92 aE [D.s (sc (int i64 a)),D.agg [sc (int i64 b),sc (bool c)]]=letI A:=aI.fR a;aB (b==2) (aO (a=32\/a=64) (aO ((a=32\/a=64)/\0<=jZ.lK A/\jZ.lK A<cF.cT A) (some [D.s (sc (int u64 (gW.Yl A c (jZ.lK A))))]))) (aO ((a=32\/a=64)/\(0<=u64.wrap b/\u64.wrap b<18446744073709551616)/\(-4000:Int)<=(0:Int)/\(0:Int)<=(2900:Int)) (some [D.s (sc (int u64 (gW.Qq A c (gW.uM A (u64.wrap b) 0))))])):=eJ aX
def Uu(f:Int)(s:Int)(n:Bool):Int:=gW.Yl (aI.fR f) n (if s=2 then jZ.lK (aI.fR f)else if s=1 then(if f=32 then 1065353216 else 4607182418800017408)else 0)
def sp(f:Int)(v:Int×Bool):Prop×List D:=((f=32\/f=64)/\(v.1=0\/v.1=1\/v.1=2),[.s (.sc (.int .u64 (Uu f v.1 v.2)))])
theorem Uz:gW.uM (aI.fR 64) 1 0=some 4607182418800017408/\gW.uM (aI.fR 32) 1 0=some 1065353216:=by
 have b1:bl 1=1:=rfl;have t1:tz (1:Int).toNat=0:=yW rfl;unfold gW.uM gW.aCS gW.Kb gW.Nr;rw[t1];exact⟨rfl,rfl⟩
theorem spec:gT E f92 aE (pN .i64) (pG (.pair (sN .i64) sB)) sp:=by
 rintro f v ⟨hf,hv⟩;obtain⟨s,n⟩:=v;refine(start f s n).trans ?_;unfold sp Uu
 try dsimp only at *
 have hi:0<=jZ.lK (aI.fR f)/\jZ.lK (aI.fR f)<cF.cT (aI.fR f):=by
  rcases hf with rfl |rfl
  ·exact⟨by show(0:Int)<=2139095040;omega,by show(2139095040:Int)<2147483648;omega⟩
  ·exact⟨by show(0:Int)<=9218868437227405312;omega,by show(9218868437227405312:Int)<9223372036854775808;omega⟩
 rcases hv with rfl |rfl |rfl
 ·rw[bN,show u64.wrap 0=0 from rfl,gP ⟨hf,by omega,by omega⟩];rfl
 ·rw[bN,show u64.wrap 1=1 from rfl,gP ⟨hf,by omega,by omega⟩];rcases hf with rfl |rfl
  ·rw[Uz.2];rfl
  ·rw[Uz.1];rfl
 ·rw[cO rfl,gP hf,gP ⟨hf,hi⟩];rfl
def aJ:dK:=orc2 (pN .i64) (pG (.pair (sN .i64) sB)) sp
theorem ok:OK 92 aJ:=(eZ E aE (aA Gy.ok (aA Tf.ok (aA gW.ok aD))) func92).mT rfl spec
end pJ
namespace pE
def E:=mE [] 19 [] [] []
def aE:=bd f111
theorem aX:Nk E aE:=nk
theorem start a b c:aH E f111 aE [D.agg [sc (bool a),ints u64 b,sc (int i64 c)]]=aB (decide (0<c)) (some [D.s (sc (int i64 1))]) (aB (c==0) (some [D.s (sc (int i64 2))]) (aB (c==(-1:Int)) (some [D.s (sc (int i64 3))]) (aB (c==(-2:Int)) (some [D.s (sc (int i64 4))]) (some [D.s (sc (int i64 0))])))):=eJ aX
def qC(e:Int):Int:=if 0<e then 1 else if e=0 then 2 else if e=-1 then 3 else if e=-2 then 4 else 0
def sp(x:gE):Prop×List D:=(True,[.s (.sc (.int .i64 (qC x.2.2)))])
theorem spec:jE E f111 aE iX sp:=by
 intro x h;refine(start x.1 x.2.1 x.2.2).trans ?_;unfold sp qC
 try dsimp only
 by_cases h1:0<x.2.2
 ·rw[aP h1,if_pos h1]
 ·rw[aL h1,if_neg h1]
  by_cases h2:x.2.2=0
  ·rw[cO h2,if_pos h2]
  ·rw[bN h2,if_neg h2]
   by_cases h3:x.2.2=-1
   ·rw[cO h3,if_pos h3]
   ·rw[bN h3,if_neg h3]
    by_cases h4:x.2.2=-2
    ·rw[cO h4,if_pos h4]
    ·rw[bN h4,if_neg h4]
def aJ:dK:=orc1 iX sp
theorem ok:OK 111 aJ:=(eZ E aE aD func111).pU rfl spec
end pE
namespace fF
def E:=mE [(111,pE.aJ),(60,Xh.aJ)] 97 [] [] []
def aE:=bd f63
theorem aX:Nk E aE:=nk
theorem start a b c d:aH E f63 aE [D.s (sc (int i64 a)),D.agg [sc (bool b),ints u64 c,sc (int i64 d)]]=letI Z:=bool false;letI Y:=bool (wv (b,c)%4==(3:Int));letI X:=int i64 0;letI U:=pE.qC d==1;letI O:=pE.qC d==3;letI N:=some [D.agg [sc X,sc Z],D.s (sc Z)];letI I:=pE.qC d==2;letI F:=sc (bool true);letI T:=some [D.agg [sc X,sc (bool b)],D.s F];letI Q:=some [D.agg [sc (int i64 1),sc (bool I)],D.s F];letI P:=some [D.agg [sc X,sc (bool (b !=I))],D.s F];letI G:=some [D.agg [sc (int i64 1),sc Y],D.s F];letI C:=aB (a==6) (aB (pE.qC d==4) G N) N;letI H:=aB (a==6) (aB O (some [D.agg [sc (int i64 2),sc Y],D.s F]) C) C;letI A:=aB (a==6) (aB U P (aB I P H)) H;letI K:=aB (a==5) (aB O (some [D.agg [sc X,sc Z],D.s F]) A) A;letI B:=aB (a==5) (aB U Q (aB I Q K)) K;letI W:=aB (a==4) (aB O G B) B;aO True (aO (gL (b,c)) (aB (a==4) (aB U T (aB I T W)) W)):=eJ aX
def Bt(fn:Int)(p:Int×Int):Int×Bool×Bool :=
 if fn=4 then(if 0<=p.2 then(0,isNeg p.1,true)else if p.2=-1 then(1,p.1%4==3,true)else(0,false,false))
 else if fn=5 then(if 0<=p.2 then(1,p.2==0,true)else if p.2=-1 then(0,false,true)else(0,false,false))
 else if fn=6 then(if 0<=p.2 then(0,isNeg p.1 !=(p.2==0),true)else if p.2=-1 then(2,p.1%4==3,true)else if p.2=-2 then(1,p.1%4==3,true)else(0,false,false))
 else(0,false,false)
def sp(fn:Int)(x:gE):Prop×List D:=(aQ x,[.agg [.sc (.int .i64 (Bt fn (dv x)).1),.sc (.bool (Bt fn (dv x)).2.1)],.s (.sc (.bool (Bt fn (dv x)).2.2))])
theorem spec:gT E f63 aE (pN .i64) iX sp:=by
 intro fn x h;have h:aQ x:=h;refine(start fn x.1 x.2.1 x.2.2).trans ((gP trivial).trans ((gP h.Dh).trans ?_));have hw:=h.Dh.cells.1;obtain⟨b,a,e⟩:=x
 try dsimp only at *
 unfold sp Bt dv
 try dsimp only
 rw[hw];generalize wv (b,a)=z;have Pl:(0<e/\pE.qC e=1)\/(e=0/\pE.qC e=2)\/(e=-1/\pE.qC e=3)\/(e=-2/\pE.qC e=4)\/(e < -2/\pE.qC e=0):=by
  unfold pE.qC;split
  ·omega
  ·split
   ·omega
   ·split
    ·omega
    ·split <;> omega
 generalize pE.qC e=pv at *
 by_cases h4:fn=4
 ·subst h4;rcases Pl with ⟨he,rfl⟩ |⟨rfl,rfl⟩ |⟨rfl,rfl⟩ |⟨rfl,rfl⟩ |⟨he,rfl⟩
  ·rw[if_pos rfl,aU];rfl
  ·rfl
  ·rfl
  ·rfl
  ·rw[if_pos rfl,aW,aW];rfl
 ·by_cases h5:fn=5
  ·subst h5;rcases Pl with ⟨he,rfl⟩ |⟨rfl,rfl⟩ |⟨rfl,rfl⟩ |⟨rfl,rfl⟩ |⟨he,rfl⟩
   ·rw[aW,if_pos rfl,aU,beq_eq_false_iff_ne.2 (show e≠0 by omega)];rfl
   ·rfl
   ·rfl
   ·rfl
   ·rw[aW,if_pos rfl,aW,aW];rfl
  ·by_cases h6:fn=6
   ·subst h6;rcases Pl with ⟨he,rfl⟩ |⟨rfl,rfl⟩ |⟨rfl,rfl⟩ |⟨rfl,rfl⟩ |⟨he,rfl⟩
    ·rw[aW,aW,if_pos rfl,aU,beq_eq_false_iff_ne.2 (show e≠0 by omega)];rfl
    ·rfl
    ·rfl
    ·rfl
    ·rw[aW,aW,if_pos rfl,aW,aW,aW];rfl
   ·rw[if_neg h4,if_neg h5,if_neg h6];simp only[beq_eq_false_iff_ne.2 h4,beq_eq_false_iff_ne.2 h5,beq_eq_false_iff_ne.2 h6,bF]
def aJ:dK:=orc2 (pN .i64) iX sp
theorem ok:OK 63 aJ:=(eZ E aE (aA pE.ok (aA Xh.ok aD)) func63).mT rfl spec
end fF
namespace fQ
def E:=mE [(84,mQ.aJ),(61,uS.aJ),(83,Av.aJ),(92,pJ.aJ),(12,bR.aJ),(63,fF.aJ)] 67 [18,31,48,66] [(4,[0,1,2,9]),(15,[0,1,2])] [4,15]
def aE:=bd f39
theorem aX:Nk E aE:=nk
def J4 a b c d:=mD E f39 aE 4 [bP a,bP b,dC c,dC d]
def aHO a b c:=mD E f39 aE 15 [bP a,bP b,dC c]
theorem start a b c:aH E f39 aE [D.s (sc (int i64 a)),D.s (sc (int i64 b)),D.s (sc (int u64 c))]=letI A:=some [D.s (sc (int u64 0)),D.s (sc (bool false)),D.s (sc (int i64 1))];aO True (aC (aI.fR a).snd.snd.snd fun d=>aC (bif mQ.Cu a then(0:Int)else(1:Int)) fun e=>aB (e !=0) A (aO True (aB (!uS.zO b) A (fQ.J4 a b c d)))):=eJ aX
theorem Ci a b c d:J4 a b c d=letI C:=sc (int i64 0);letI B:=sc (bool true);letI A:=some [D.s (sc (int u64 d)),D.s B,D.s C];aO ((a=32\/a=64)/\0<=c/\c<18446744073709551616) (aC (bif cS.fN a c then fB.fX (aI.fR a) (c%cF.cT (aI.fR a))else(0:Int)) fun e=>aC (bif cS.fN a c then(0:Int)else(2:Int)) fun f=>aB (f !=0) (some [D.s (sc (int u64 0)),D.s (sc (bool false)),D.s (sc (int i64 f))]) (aB (e==4) A (aB (e==3) A (aB (e==0) (aB (b==5) (aO ((a=32\/a=64)/\((1:Int)=(0:Int)\/(1:Int)=(1:Int)\/(1:Int)=(2:Int))) (aC (pJ.Uu a 1 false) fun g=>some [D.s (sc (int u64 g)),D.s B,D.s C])) (some [D.s (sc (int u64 c)),D.s B,D.s C])) (fQ.aHO a b c))))):=cJ aX
theorem Nc a b c:aHO a b c=letI A:=bif cS.fN a c&&cB.jD a c then aN (bR.nB a c) (bR.nI a c)else((0:Int),(0:Int));aO ((a=32\/a=64)/\0<=c/\c<18446744073709551616) (aC (isNeg A.fst) fun d=>aC (M6.dg A.fst.natAbs) fun e=>aC A.snd fun f=>letI B:=fF.Bt b (dv (d,e,f));aO (aQ (d,e,f)) (aC B.fst fun g=>aC B.snd.fst fun h=>aC B.snd.snd fun i=>aB (!i) (some [D.s (sc (int u64 0)),D.s (sc (bool false)),D.s (sc (int i64 0))]) (aO ((a=32\/a=64)/\(g=0\/g=1\/g=2)) (some [D.s (sc (int u64 (pJ.Uu a g h))),D.s (sc (bool true)),D.s (sc (int i64 0))])))):=cJ aX
def nY(f b:Int):Int×Int:=aN (bR.nB f b) (bR.nI f b)
theorem Vc{f b:Int}(h:f=32\/f=64)(_:0<=b)(hf:cB.jD f b=true):jK (nY f b)/\(bR.nB f b).natAbs<2^53/\-1074<=bR.nI f b/\bR.nI f b<=1023:=by
 have hs:=cB.Dk h;have Br:0<=b%cF.cT (aI.fR f):=by unfold cF.cT;split <;> omega
 have oX:b%cF.cT (aI.fR f)<jZ.lK (aI.fR f):=of_decide_eq_true hf;have hm:=bR.Rp hs Br;have hx:=bR.Sg hs Br oX;have hz:(bR.nB f b).natAbs<2^53:=by
  unfold bR.nB;rw[lP];omega
 have he:-1074<=bR.nI f b/\bR.nI f b<=1023:=⟨hx.1,by unfold bR.nI;omega⟩;have hb:bl (bR.nB f b).natAbs<=53:=cZ.2 hz;exact⟨gM (gQ (by omega) (by omega)) (by omega),hz,he⟩
def uP(f fn b:Int):Int×Bool×Int :=
 if mQ.Cu f=false\/uS.zO fn=false then(0,false,1)
 else if cS.fN f b=false then(0,false,2)
 else if fB.fX (aI.fR f) (b%cF.cT (aI.fR f))=4\/fB.fX (aI.fR f) (b%cF.cT (aI.fR f))=3 then((aI.fR f).2.2.2,true,0)
 else if fB.fX (aI.fR f) (b%cF.cT (aI.fR f))=0 then(if fn=5 then pJ.Uu f 1 false else b,true,0)
 else if(fF.Bt fn (nY f b)).2.2=true then(pJ.Uu f (fF.Bt fn (nY f b)).1 (fF.Bt fn (nY f b)).2.1,true,0)
 else(0,false,0)
def sp(f fn b:Int):Prop×List D:=(0<=b/\b<18446744073709551616,[.s (.sc (.int .u64 (uP f fn b).1)),.s (.sc (.bool (uP f fn b).2.1)),.s (.sc (.int .i64 (uP f fn b).2.2))])
theorem aDL(fn:Int)(p:Int×Int):(fF.Bt fn p).1=0\/(fF.Bt fn p).1=1\/(fF.Bt fn p).1=2:=by
 unfold fF.Bt
 repeat' split
 all_goals simp
theorem aGB{f b:Int}(h:f=32\/f=64)(c3:fB.fX (aI.fR f) (b%cF.cT (aI.fR f))≠3)(c4:fB.fX (aI.fR f) (b%cF.cT (aI.fR f))≠4):cB.jD f b=true:=by
 unfold cB.jD;have hi:cN.kJ (aI.fR f)<jZ.lK (aI.fR f)/\0<cN.kJ (aI.fR f):=by
  rcases h with rfl |rfl
  ·exact⟨by show(8388608:Int)<2139095040;omega,by show(0:Int)<8388608;omega⟩
  ·exact⟨by show(4503599627370496:Int)<9218868437227405312;omega,by show(0:Int)<4503599627370496;omega⟩
 generalize b%cF.cT (aI.fR f)=n at *;refine decide_eq_true ?_;unfold fB.fX at c3 c4
 by_cases h0:n=0
 ·omega
 ·by_cases h1:n<cN.kJ (aI.fR f)
  ·omega
  ·by_cases h2:n<jZ.lK (aI.fR f)
   ·exact h2
   ·rw[if_neg h0,if_neg h1,if_neg h2]at c3 c4
    by_cases h3:n=jZ.lK (aI.fR f)
    ·rw[if_pos h3]at c3;exact(c3 rfl).elim
    ·rw[if_neg h3]at c4;exact(c4 rfl).elim
theorem spec:oK E f39 aE (pN .i64) (pN .i64) (pN .u64) sp:=by
 intro f fn b h;have h:0<=b/\b<18446744073709551616:=h;refine(start f fn b).trans ((gP trivial).trans ?_);rw[vl,vl,gP trivial];unfold sp uP;cases hq:mQ.Cu f with
 |false=>rw[if_pos (.inl rfl)];rfl
 |true =>
  have hf:f=32\/f=64:=of_decide_eq_true hq;rw[cond_true,gG rfl];cases hk:uS.zO fn with
  |false=>rw[if_pos (.inr rfl)];rfl
  |true =>
   rw[if_neg (by simp),bXO,bF,Ci,gP ⟨hf,h⟩,vl,vl];cases hp:cS.fN f b with
   |false=>rw[if_pos rfl];rfl
   |true =>
    rw[if_neg (by simp),cond_true,cond_true,gG rfl]
    by_cases c4:fB.fX (aI.fR f) (b%cF.cT (aI.fR f))=4
    ·rw[cO c4,if_pos (.inl c4)]
    ·rw[bN c4]
     by_cases c3:fB.fX (aI.fR f) (b%cF.cT (aI.fR f))=3
     ·rw[cO c3,if_pos (.inr c3)]
     ·rw[bN c3,if_neg (fun h=>h.elim c4 c3)];have oX:=aGB hf c3 c4
      by_cases c0:fB.fX (aI.fR f) (b%cF.cT (aI.fR f))=0
      ·rw[cO c0,if_pos c0]
       by_cases h5:fn=5
       ·rw[cO h5,if_pos h5,gP ⟨hf,.inr (.inl rfl)⟩];rfl
       ·rw[bN h5,if_neg h5]
      ·rw[bN c0,if_neg c0,Nc,gP ⟨hf,h⟩];have e1:(bif cS.fN f b&&cB.jD f b then aN (bR.nB f b) (bR.nI f b)else((0:Int),(0:Int)))=nY f b:=by rw[hp,oX];rfl
       rw[e1,Bv,gP (dG (Vc hf h.1 oX).1),dU,vl,vl,vl];cases hv:(fF.Bt fn (nY f b)).2.2 with
       |false=>rw[if_neg (by simp)];try rfl
       |true=>rw[if_pos rfl,bXO,bF,gP ⟨hf,aDL _ _⟩];try rfl
def aJ:dK:=orc3 (pN .i64) (pN .i64) (pN .u64) sp
theorem ok:OK 39 aJ:=(eZ E aE (aA mQ.ok (aA uS.ok (aA Av.ok (aA pJ.ok (aA bR.ok (aA fF.ok aD)))))) func39).yK rfl spec
end fQ
namespace eN
def E:=mE [(77,cS.aJ),(78,aI.aJ),(79,fB.aJ),(80,Xo.aJ),(81,jZ.aJ),(43,dV.aJ),(82,gW.aJ)] 48 [13,35,45] [] []
def aE:=bd f31
theorem aX:Nk E aE:=nk
theorem start a:aH E f31 aE [D.s (sc (int u64 a))]=letI I:=bif cS.fN 32 a then(0:Int)else(2:Int);letI F:=aI.vB ((64:Int),(53:Int),(-1074:Int),(9221120237041090561:Int));letI C:=aI.fR 32;letI H:=(C.fst,C.snd.fst,C.snd.snd.fst,C.snd.snd.snd);letI G:=bif cS.fN 32 a then a%cF.cT C else(0:Int);letI B:=bif cS.fN 32 a then a%2147483648 else(0:Int);letI A:=gW.uM (aI.fR 64) (dV.qF H G) (dV.uA H G);aO (((32:Int)=(32:Int)\/(32:Int)=(64:Int))/\0<=a/\a<18446744073709551616) (aB (I !=0) (some [D.s (sc (int u64 0)),D.s (sc (int i64 I))]) (aO True (aO (aI.vB ((32:Int),(24:Int),(-149:Int),(2143289345:Int))) (aB (fB.fX ((32:Int),(24:Int),(-149:Int),(2143289345:Int)) B==4) (some [D.s (sc (int u64 9221120237041090561)),D.s (sc (int i64 0))]) (aB (fB.fX ((32:Int),(24:Int),(-149:Int),(2143289345:Int)) B==3) (aO F (aO F (some [D.s (sc (int u64 (bif cS.fN 32 a&&decide (2147483648<=a)then gA BinOp.or u64 9218868437227405312 9223372036854775808 else(9218868437227405312:Int)))),D.s (sc (int i64 0))]))) (aO (aI.vB ((32:Int),(24:Int),(-149:Int),(2143289345:Int))/\(0<=bif cS.fN 32 a then a%2147483648 else(0:Int))/\B<9223372036854775808) (aO (((64:Int)=(32:Int)\/(64:Int)=(64:Int))/\(0<=dV.qF ((32:Int),(24:Int),(-149:Int),(2143289345:Int)) B/\dV.qF ((32:Int),(24:Int),(-149:Int),(2143289345:Int)) B<18446744073709551616)/\(-4000:Int)<=dV.uA ((32:Int),(24:Int),(-149:Int),(2143289345:Int)) B/\dV.uA ((32:Int),(24:Int),(-149:Int),(2143289345:Int)) B<=2900) (some [D.s (sc (int u64 (gW.Qq (aI.fR 64) (cS.fN 32 a&&decide (2147483648<=a)) A))),D.s (sc (int i64 (gW.aLV A)))])))))))):=eJ aX
abbrev Fc:Int×Int×Int×Int:=(32,24,-149,2143289345)
abbrev Ty:Int×Int×Int×Int:=(64,53,-1074,9221120237041090561)
def aHS(b:Int):Option Int:=gW.uM Ty (dV.qF Fc (b%2147483648)) (dV.uA Fc (b%2147483648))
def Jm(b:Int):Int:=bif cS.fN 32 b then(if fB.fX Fc (b%2147483648)=4 then 9221120237041090561 else if fB.fX Fc (b%2147483648)=3 then gW.Yl Ty (decide (2147483648<=b)) 9218868437227405312 else gW.Qq Ty (decide (2147483648<=b)) (aHS b))else 0
def aHT(b:Int):Int:=bif cS.fN 32 b then(if fB.fX Fc (b%2147483648)=4 then 0 else if fB.fX Fc (b%2147483648)=3 then 0 else gW.aLV (aHS b))else 2
def sp(b:Int):Prop×List D:=(0<=b/\b<18446744073709551616,[.s (.sc (.int .u64 (Jm b))),.s (.sc (.int .i64 (aHT b)))])
theorem spec:jE E f31 aE (pN .u64) sp:=by
 intro b h;refine(start b).trans ((gP ⟨.inl rfl,h⟩).trans ?_);unfold sp Jm aHT
 try dsimp only
 cases hp:cS.fN 32 b with
 |false=>rfl
 |true =>
  try dsimp only[cond_true,bYQ]
  rw[gG rfl,gP trivial,gP aI.two32];have Br:0<=b%2147483648:=by omega
  by_cases c4:fB.fX Fc (b%2147483648)=4
  ·rw[cO c4,if_pos c4,if_pos c4]
  ·rw[bN c4,if_neg c4,if_neg c4]
   by_cases c3:fB.fX Fc (b%2147483648)=3
   ·rw[cO c3,if_pos c3,if_pos c3,gP aI.tG,gP aI.tG];rw[<-gW.xJ aI.tG (by show(0:Int)<=9218868437227405312;omega) (by show(9218868437227405312:Int)<9223372036854775808;omega)];rfl
   ·have hf:b%2147483648<jZ.lK Fc:=by
     unfold fB.fX at c3 c4;split at c3
     ·rename_i h0;show _<(2139095040:Int);omega
     ·split at c3
      ·rename_i h0 h1;have:cN.kJ Fc=8388608:=rfl;show _<(2139095040:Int);omega
      ·split at c3
       ·assumption
       ·split at c3
        ·exact(c3 rfl).elim
        ·rename_i h0 h1 h2 h3;rw[if_neg h0,if_neg h1,if_neg h2,if_neg h3]at c4;exact(c4 rfl).elim
    have hm:=bR.Rp aI.two32 Br;have hx:=bR.Sg aI.two32 Br hf;rw[bN c3,if_neg c3,if_neg c3,gP ⟨aI.two32,by omega,by omega⟩,gP ⟨.inr rfl,⟨hm.1,by omega⟩,by omega,by omega⟩];rfl
def aJ:dK:=orc1 (pN .u64) sp
theorem ok:OK 31 aJ:=(eZ E aE (aA cS.ok (aA aI.ok (aA fB.ok (aA Xo.ok (aA jZ.ok (aA dV.ok (aA gW.ok aD))))))) func31).pU rfl spec
end eN
end W
namespace W.aZO
open Go AI M W
theorem Wg{fn:Int}(h:4<=fn/\fn<=6):uS.zO fn=true:=by
 have:fn=4\/fn=5\/fn=6:=by omega
 rcases this with rfl |rfl |rfl <;> rfl
theorem aKG{f:Int}(h:f=32\/f=64):0<cN.kJ (aI.fR f)/\cN.kJ (aI.fR f)<jZ.lK (aI.fR f)/\jZ.lK (aI.fR f)<cF.cT (aI.fR f):=by
 rcases h with rfl |rfl
 ·exact⟨by show(0:Int)<8388608;omega,by show(8388608:Int)<2139095040;omega,by show(2139095040:Int)<2147483648;omega⟩
 ·exact⟨by show(0:Int)<4503599627370496;omega,by show(4503599627370496:Int)<9218868437227405312;omega,by show(9218868437227405312:Int)<9223372036854775808;omega⟩
theorem aRD{f fn b:Int}(h:f=32\/f=64)(hf:4<=fn/\fn<=6)(hp:cS.fN f b=true)(hn:b%cF.cT (aI.fR f)=0):fQ.uP f fn b=(if fn=5 then pJ.Uu f 1 false else b,true,0):=by
 have hq:mQ.Cu f=true:=decide_eq_true h;have hc:fB.fX (aI.fR f) (b%cF.cT (aI.fR f))=0:=by unfold fB.fX;rw[if_pos hn]
 unfold fQ.uP;rw[if_neg (by rw[hq,Wg hf];simp),if_neg (by rw[hp];simp),if_neg (by rw[hc];omega),if_pos hc]
theorem aWZ{f fn b:Int}(h:f=32\/f=64)(hf:4<=fn/\fn<=6)(hp:cS.fN f b=true)(hn:0<b%cF.cT (aI.fR f))(aQJ:b%cF.cT (aI.fR f)<jZ.lK (aI.fR f)) :
  fQ.uP f fn b=if(fF.Bt fn (fQ.nY f b)).2.2=true then(pJ.Uu f (fF.Bt fn (fQ.nY f b)).1 (fF.Bt fn (fQ.nY f b)).2.1,true,0)else(0,false,0):=by
 have hq:mQ.Cu f=true:=decide_eq_true h;have hc:fB.fX (aI.fR f) (b%cF.cT (aI.fR f))=1\/fB.fX (aI.fR f) (b%cF.cT (aI.fR f))=2:=by
  unfold fB.fX;rw[aW];split
  ·exact .inl rfl
  ·first |exact .inr rfl | (rw[if_pos aQJ];exact .inr rfl)
 unfold fQ.uP;rw[if_neg (by rw[hq,Wg hf];simp),if_neg (by rw[hp];simp),aW,aW]
theorem aCO{f b:Int}(h:f=32\/f=64)(_:0<=b)(hn:0<b%cF.cT (aI.fR f)):0<(dV.qF (aI.fR f) (b%cF.cT (aI.fR f))):=by
 have hi:=aKG h;unfold dV.qF;split
 ·rename_i hd;have:=Int.emod_add_mul_ediv (b%cF.cT (aI.fR f)) (cN.kJ (aI.fR f));rw[hd,Int.mul_zero]at this;omega
 ·have:=Int.emod_nonneg (b%cF.cT (aI.fR f)) (show cN.kJ (aI.fR f)≠0 by omega);omega
theorem aPT{f b:Int}(h:f=32\/f=64)(h0:0<=b)(hn:0<b%cF.cT (aI.fR f)):(fQ.nY f b).1%2=1:=by
 have hm:=aCO h h0 hn;apply Dv;rw[Ne,dX];unfold bR.nB;rw[Qm];omega
theorem aOQ{b:Int}(h0:0<=b)(h1:b<4294967296)(hn:0<b%2147483648)(aQJ:b%2147483648<2139095040) :
  eN.aHT b=0/\0<=eN.Jm b/\eN.Jm b<18446744073709551616/\0<eN.Jm b%9223372036854775808/\eN.Jm b%9223372036854775808<9218868437227405312/\fQ.nY 64 (eN.Jm b)=fQ.nY 32 b:=by
 have hp:cS.fN 32 b=true:=decide_eq_true (by show b<4294967296;omega);have hc:fB.fX eN.Fc (b%2147483648)=1\/fB.fX eN.Fc (b%2147483648)=2:=by
  unfold fB.fX;rw[aW];split
  ·exact .inl rfl
  ·first |exact .inr rfl | (rw[if_pos (show b%2147483648<jZ.lK eN.Fc from aQJ)];exact .inr rfl)
 have aYV:cF.cT (aI.fR 32)=2147483648:=rfl;have aVX:=aCO (f:=32) (.inl rfl) h0 (by rw[aYV];exact hn);rw[aYV]at aVX;have hmlt:dV.qF eN.Fc (b%2147483648)<16777216:=by
  unfold dV.qF;rw[show cN.kJ eN.Fc=8388608 from rfl];split <;> omega
 have hexp:-149<=dV.uA eN.Fc (b%2147483648)/\dV.uA eN.Fc (b%2147483648)<=104:=by
  unfold dV.uA;rw[show cN.kJ eN.Fc=8388608 from rfl,show eN.Fc.2.2.1=-149 from rfl];split <;> omega
 have aVT:fQ.nY 32 b=aN (zs (decide (2147483648<=b)) (dV.qF eN.Fc (b%2147483648)).toNat) (dV.uA eN.Fc (b%2147483648)):=rfl;have hV:eN.Jm b=gW.Qq eN.Ty (decide (2147483648<=b)) (eN.aHS b):=by
  unfold eN.Jm;rw[hp,cond_true,aW,aW]
 have hE:eN.aHT b=gW.aLV (eN.aHS b):=by
  unfold eN.aHT;rw[hp,cond_true,aW,aW]
 have hO:eN.aHS b=gW.uM eN.Ty (dV.qF eN.Fc (b%2147483648)) (dV.uA eN.Fc (b%2147483648)):=rfl;rw[hE,hV,aVT,hO];have aVX:0<dV.qF eN.Fc (b%2147483648):=aVX;generalize dV.qF eN.Fc (b%2147483648)=M at *;generalize dV.uA eN.Fc (b%2147483648)=e at *;obtain⟨m,rfl⟩:=cAS (show 0<=M by omega);have aFG:m≠0:=by omega
 have bRE:=tM m aFG;have hmul:m=m/2^tz m*2^tz m:=by
  have:=cAT m (2^tz m);rw[bRE.1]at this;rw[cAM];omega
 have bIQ:m/2^tz m≠0:=by omega
 have bCV:bl m<=24:=cZ.2 (by omega);have hbm':bl (m/2^tz m)<=24:=bWK (fY (cFV _ _)) bCV;have htl:=Dj aFG;have hJ:gW.uM eN.Ty (m:Int) e=gW.Kb eN.Ty (m/2^tz m) (e+(tz m:Int)):=by
  unfold gW.uM gW.aCS;rw[bZL,aW,show eN.Ty.2.2.1=-1074 from rfl,show eN.Ty.2.1=53 from rfl,aW,aW]
 rw[hJ];generalize hg:m/2^tz m=m' at *;generalize tz m=t at *;have aHC:gW.Nr eN.Ty m' (e+(t:Int))=53-bl m':=by
  unfold gW.Nr;rw[show eN.Ty.2.2.1=-1074 from rfl,show eN.Ty.2.1=53 from rfl,aW];omega
 have aWN:2^52<=m'*2^(53-bl m')/\m'*2^(53-bl m')<2^53:=by
  have hb:bl (m'*2^(53-bl m'))=53:=by rw[cAM,xW bIQ];omega
  refine⟨?_,cZ.1 (by omega)⟩;have:=(qG (n:=m'*2^(53-bl m')) (k:=52)).1 (by omega);exact this
 have hS:gW.Kb eN.Ty m' (e+(t:Int))=some ((e+(t:Int)-((53-bl m':Nat):Int) - -1074)*4503599627370496+((m'*2^(53-bl m'):Nat):Int)):=by
  unfold gW.Kb;rw[aHC,show cN.kJ eN.Ty=4503599627370496 from rfl,show jZ.lK eN.Ty=9218868437227405312 from rfl,show eN.Ty.2.2.1=-1074 from rfl,aW,aW]
 rw[hS];generalize hu:53-bl m'=u at *;generalize bUC:m'*2^u=MM at *;have bCS:0<=(e+(t:Int)-(u:Int) - -1074)*4503599627370496+(MM:Int)/\(e+(t:Int)-(u:Int) - -1074)*4503599627370496+(MM:Int)<9218868437227405312:=by omega
 generalize bFL:(e+(t:Int)-(u:Int) - -1074)*4503599627370496+(MM:Int)=c at *;have hsgv:cF.cT eN.Ty=9223372036854775808:=rfl;have hval:gW.Qq eN.Ty (decide (2147483648<=b)) (some c)=bif decide (2147483648<=b)then c+9223372036854775808 else c:=rfl
 rw[hval];have aFF:(bif decide (2147483648<=b)then c+9223372036854775808 else c)%9223372036854775808=c:=by
  cases decide (2147483648<=b)with
  |true=>rw[cond_true];omega
  |false=>rw[cond_false];omega
 have bJL:decide (9223372036854775808<=(bif decide (2147483648<=b)then c+9223372036854775808 else c))=decide (2147483648<=b):=by
  cases decide (2147483648<=b)with
  |true=>rw[cond_true];exact decide_eq_true (by omega)
  |false=>rw[cond_false];exact decide_eq_false (by omega)
 refine⟨rfl,?_,?_,?_,?_,?_⟩
 ·cases decide (2147483648<=b)with
  |true=>rw[cond_true];omega
  |false=>rw[cond_false];omega
 ·cases decide (2147483648<=b)with
  |true=>rw[cond_true];omega
  |false=>rw[cond_false];omega
 ·rw[aFF];omega
 ·rw[aFF];omega
 ·unfold fQ.nY bR.nB bR.nI;rw[show cF.cT (aI.fR 64)=9223372036854775808 from rfl,aFF,bJL];have bBX:dV.qF (aI.fR 64) c=(MM:Int):=by
   unfold dV.qF;rw[show cN.kJ (aI.fR 64)=4503599627370496 from rfl,aW];omega
  have bCM:dV.uA (aI.fR 64) c=e+(t:Int)-(u:Int):=by
   unfold dV.uA;rw[show cN.kJ (aI.fR 64)=4503599627370496 from rfl,aW,show(aI.fR 64).2.2.1=-1074 from rfl];omega
  rw[bBX,bCM,bZL,bZL];have z1:zs (decide (2147483648<=b)) MM=zs (decide (2147483648<=b)) m'*p2 (u:Nat):=by
   rw[Cq,<-bUC];unfold zs;cases decide (2147483648<=b) <;> simp[cEW]
  have z2:zs (decide (2147483648<=b)) m=zs (decide (2147483648<=b)) m'*p2 (t:Nat):=by
   rw[Cq,hmul];unfold zs;cases decide (2147483648<=b) <;> simp[cEW]
  rw[z1,z2,Bb _ _ (by omega),Bb _ _ (by omega)];congr 1;omega
end W.aZO
end Go.Proofs.YtplagoepbghhpaaGreatDoor
end
