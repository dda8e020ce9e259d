/- Contracts of functions and laws, for the claim on TurnSquares. -/
import Derived.KernelRfl
import Derived.Laws.Externs
import Derived.Test.YtcnlagnipklcmaaGreatDoorProg
import Derived.Shelf.SlGeneric
import Derived.Ground.SlgnProg
import Derived.Shelf.SlicesE.Clone
import Derived.Test.YtcnlagnipklcmaaGreatDoorBTurnSquares1
set_option linter.unusedVariables false
set_option linter.unusedSimpArgs false
noncomputable section
open Go.IntKind(i8 i16 i32 i64 u8 u16 u32 u64)
open Go.Proofs.Tryz
open Int renaming toNat_natCast->bPS,eq_ofNat_of_zero_le->bQY,natAbs_mul->bRJ,zero_mul->bRK,natCast_ediv->bRM,natAbs_natCast->bRO,natCast_mul->bRU,mul_assoc->bSJ,natCast_emod->bSN,natAbs_neg->bSQ,tdiv_eq_ediv_of_nonneg->bTL,tmod_eq_emod_of_nonneg->bTM,ediv_eq_zero_of_lt->bTP,toNat_zero->bTR,ediv_mul_cancel->bTU,mul_ne_zero->bTV,natAbs_add_le->bTY
open List renaming replicate->bNZ,mem_append->bMY,getD_eq_getElem?_getD->bRA,length_take->bOM,replicate_succ->bRE,length_cons->bPG,append_assoc->bNR,drop_eq_nil_of_le->bRL,cons_append->bNO,take->bRR,drop->bRS,append_nil->bRW,getLast?_cons_cons->bSA,take_succ_eq_append_getElem->bSB,getElem?_eq_none->bNS,drop_zero->bSE,drop_eq_getElem_cons->bSF,replicate_zero->bSI,getElem?_map->bMA,take_length->bSR,range->bNG,singleton_append->bSS,mapM_cons->bND,mem_cons_self->bMD,mem_cons_of_mem->bMP,getElem?_take_of_lt->bMB,mem_of_getElem?->bMF,nodup_cons->bQJ,mem_cons->bNC,length_drop->bPV,getElem?_drop->bMI,mem_of_mem_take->bTB,mem_of_mem_drop->bTC,replicate_succ'->bTD,take_append_drop->bTE,getElem?_eq_getElem->bMM,getLast?_append->bTF,take_of_length_le->bTH,mem_or_eq_of_mem_set->bTI,drop_set->bTJ,set_append_right->bTN,set_cons_zero->bTO,nil_append->bPY
open Nat renaming mul_comm->bQU,beq->bLX,pow_succ->bQV,le_refl->bLW,mul_add->bQW,pow_add->bQX,mul_assoc->bQZ,pow_pos->bOV,mod_lt->bOE,lt_or_ge->bML,eq_of_beq_eq_true->bMK,ble->bLZ,le_of_ble_eq_true->bNU,add_zero->bMX,div_add_mod->bRC,mul_le_mul_left->bOK,pow_le_pow_right->bOW,add_assoc->bPM,zero_add->bLY,lt_of_lt_of_le->bMW,strongRecOn->bRH,le_trans->bMS,div_div_eq_div_mul->bRN,exists_eq_add_of_le->bNB,div_lt_of_lt_mul->bRQ,div_eq_of_lt->bRT,blt->bMH,add_comm->bRX,beq_refl->bQC,zero_le->bRZ,min_eq_left->bSD,add_mod->bSG,mul_mod->bSH,sub_self->bQA,lt_of_le_of_lt->bSL,add_mul_div_left->bSM,pow_mul->bSO,pow_lt_pow_right->bSP,mul_zero->bST,sub_le->bSU,dvd_of_mod_eq_zero->bSV,mul_pos->bSX,add_right_comm->bSZ,mul_left_comm->bTT
open Option renaming bind_some->bNN,isSome_or->bRY
open Rat renaming le_trans->bRB,le_of_lt->bRD,mul_pos->bRP,le_refl->bSK,natCast_mul->bSW
open Bool renaming true_and->bOX,not_true->bNW,false_and->bRF,true_or->bRG,false_or->bNX,and_eq_true->bMC,and_false->bRI,or_true->bRV,or_eq_true->bNF,not_eq_true'->bNE
namespace Go.Proofs.YtcnlagnipklcmaaGreatDoor
namespace AI
open Go Go.RowKit
theorem uX{P:Program}{f:FuncId}{fn:Func}{c:Code}(hf:P.funcs[f]?=some fn)(hb:fn.body=some c)(hn:(fn.name== "runtime.NumGoroutine")=false):tA P f:=by
 intro vs w;have Yz:¬fn.name= "runtime.NumGoroutine":=by simpa using hn
 simp[callFunc,hf,hb,Yz]
theorem Kn{α β:Type}{P:Program}{w:World}{f:α->Sem β}{g:α->β}:∀{l:List α},(∀x∈l,(f x).run P w=.ok (g x) w)->(l.mapM f).run P w=.ok (l.map g) w
 | [],_=>rfl
 |x :: l,h=>by
  rw[bND,Sem.run_bind,h x (bMD ..),Result.andThen_ok,Sem.run_bind,Kn fun y hy=>h y (bMP _ hy)];rfl
theorem aCX{α β:Type}{P:Program}{w:World}{f:α->Sem β}{g:α->β}{arr:Array α}(h:∀x∈arr.toList,(f x).run P w=.ok (g x) w) :
  (arr.mapM f).run P w=.ok (arr.toList.map g).toArray w:=by
 rw[Array.mapM_eq_mapM_toList,map_eq_pure_bind,Sem.run_bind,Kn h];rfl
section
variable {P:Program} {E:Env} {X:Nat->Prop} {w0:Old} {ρ:Nat->Nat} {al:Nat->Prop} {st:St} {a:Act} {w:World}
def ownOf(st:St):ResultVar->Option Nat
 | .tmp t=>match st.fr t with
  | .v (.one (.buf i _))=>some i
  | .v (.one (.view i _ _))=>some i
  |_=>none
 | .cell _ _=>none
def Ca(a:Act):ResultVar->Sem Value
 | .tmp t=>pure (a.tmps.getD t undef)
 | .cell d t=>do loadVar t (<-asAddr (a.tmps.getD d undef))
def Good(E:Env)(X:Nat->Prop)(base:Nat)(st:St)(ρ:Nat->Nat)(w:World)(r:ResultVar)(v:Value):D->Prop
 | .own e k ns=>∃i,ownOf st r=some i/\(∃b,st.hp i=some b)/\Lc base w (ρ i) e k ns v
 | .back i off n=>i∈E.io/\∀blk k ns,st.hp i=some blk->blk.cont=.ints k ns->Uw w (ρ i) ns.length off n v
 |d=>lK (XO X ρ st.hp) w d v
theorem Ta(hT:mG P E.T)(h:gV E X w0 ρ al st.fr st.hp a w){r:ResultVar}{d:D}(hd:resD E st r=some d) :
  ∃v,(Ca a r).run P w=.ok v w/\Good E X w0.w.heap.size st ρ w r v d:=by
 cases r with
 |tmp t =>
  have hr:=h.fr t;refine⟨_,rfl,?_⟩;unfold resD at hd;simp only at hd;split at hd
  ·rename_i cs hf;cases hd;rw[hf]at hr;exact hr
  ·rename_i x hf;cases hd;rw[hf]at hr;exact hr
  ·rename_i i n hf;cases Cm:bMH i E.n0 with
   |true=>rw[Cm]at hd;cases hd
   |false =>
   rw[Cm]at hd;simp only[cond_false]at hd;have Cm:E.n0<=i:=by
    have:¬i<E.n0:=fun h=>by
     have h2:bMH i E.n0=true:=by rw[Nat.blt_eq];exact h
     rw[h2]at Cm;cases Cm
    omega
   split at hd
   ·rename_i e k ns hb;cases hd;rw[hf]at hr;obtain⟨cap,hv,hle,hc,_⟩:=hr;obtain⟨e1,e2,e3⟩:=hc _ k ns hb rfl;obtain⟨hw,arr,hg,Qk⟩:=h.blk i _ hb;have hs:cap<=arr.size:=by unfold jQ at e3;rw[hg]at e3;exact e3
    refine⟨i,by simp[ownOf,hf],⟨_,hb⟩,arr,cap,by rw[<-e1];exact hv,hw.new Cm,hg,by omega,hs,e2,Qk.2⟩
   ·cases hd
  ·rename_i i off n hf;rw[hf]at hr;obtain⟨o',cap,hv,yK,hA,hA0,hc⟩:=hr;cases Hd:E.io.elem i with
   |true =>
    rw[Hd]at hd;simp only[cond_true]at hd;cases hd;exact⟨by simpa using Hd,fun blk k ns hb hk=>⟨o',cap,hv,yK,hA,hA0,hc blk k ns hb hk⟩⟩
   |false =>
   rw[Hd]at hd;simp only[cond_false]at hd;cases Cm:bMH i E.n0 with
   |true=>rw[Cm]at hd;cases hd
   |false =>
   rw[Cm]at hd;simp only[cond_false]at hd;have Cm:E.n0<=i:=by
    have:¬i<E.n0:=fun h=>by
     have h2:bMH i E.n0=true:=by rw[Nat.blt_eq];exact h
     rw[h2]at Cm;cases Cm
    omega
   split at hd
   ·rename_i e k ns hb;cases hd;obtain⟨e1,e2,e3⟩:=hc _ k ns hb rfl;obtain⟨hw,arr,hg,Qk⟩:=h.blk i _ hb;have hs:cap<=arr.size:=by unfold jQ at e3;rw[hg]at e3;exact e3
    have hl:(ns.take n).length=n:=by rw[bOM];omega
    refine⟨i,by simp[ownOf,hf],⟨_,hb⟩,arr,cap,by rw[hl,<-hA0 rfl];exact hv,hw.new Cm,hg,by rw[hl];exact yK,hs,e2,fun j m hj=>Qk.2 j m ?_⟩;have Tt:j<n:=by have:=aR hj;omega
    rw[bMB Tt]at hj;exact hj
   ·cases hd
  ·cases hd
 |cell t ty =>
  have hr:=h.fr t;unfold resD at hd;simp only at hd;split at hd
  ·rename_i i off ti hf uJ;rw[hf]at hr;have hr:a.tmps.getD t undef=.pointer (some ⟨ρ i,off,none⟩):=hr;split at hd
   ·rename_i e cs hb;obtain⟨_,arr,hg,Qk⟩:=h.blk i _ hb;have hl:∀x,partOf ti cs off=some x->∃v,(Ca a (.cell t ty)).run P w=.ok v w/\Bk ρ st.hp (XO X ρ st.hp) w x v/\refsV x=[]:=by
     intro x hx;obtain⟨v,h1,h2,h3⟩:=Ml (P:=P) (hT ty ti uJ) (b:=ρ i) (off:=0) (cs:=cs) (fun j s hs=>by
      obtain⟨u,hu,hr⟩:=Qk.2 j s hs;exact⟨u,by rw[cell_of_row w (ρ i) _ arr e (0,0) hg];simpa using hu,hr⟩) hx (ρ:=ρ) (hp':=st.hp)
     rw[bLY]at h1;refine⟨v,?_,h2,h3⟩;unfold Ca;rw[Sem.run_bind,hr];simpa [asAddr] using h1
    split at hd
    ·rename_i Ho hx;cases hd;obtain⟨v,h1,h2,_⟩:=hl _ hx;exact⟨v,h1,h2⟩
    ·rename_i x hx;cases hd;obtain⟨v,h1,h2,_⟩:=hl _ hx;exact⟨v,h1,h2⟩
    ·cases hd
   ·cases hd
  ·cases hd
theorem wQ{α β:Type}{f:α->Option β}:∀{l:List α} {ys:List β},l.mapM f=some ys->ys.length=l.length/\∀(i:Nat) (x:α),l[i]?=some x->∃y,ys[i]?=some y/\f x=some y
 | [],ys,h=>by simp at h;subst h;simp
 |x :: l,ys,h=>by
  rw[bND]at h;cases hx:f x with
  |none=>rw[hx]at h;cases h
  |some y =>
   cases hl:l.mapM f with
   |none=>rw[hx,hl]at h;cases h
   |some ys' =>
    rw[hx,hl]at h;cases h;obtain⟨h1,h2⟩:=wQ hl;refine⟨by simp[h1],fun i x' hi=>?_⟩
    match i with
    |0=>simp at hi;subst hi;exact⟨y,rfl,hx⟩
    |i+1=>simp at hi;obtain⟨y',e1,e2⟩:=h2 i x' hi;exact⟨y',by simpa using e1,e2⟩
theorem Gp:∀{l:List ResultVar} {j:Nat} {r:ResultVar} {i:Nat},l[j]?=some r->ownOf st r=some i->i∈ownIds st l
 | [],j,r,i,h,_=>by simp at h
 |r0 :: l,0,r,i,h,ho=>by
  simp at h;subst h;cases r0 with
  |cell=>cases ho
  |tmp t =>
   simp only[ownOf]at ho;split at ho
   ·rename_i i' n hf;cases ho;simp[ownIds,hf]
   ·rename_i i' o' n hf;cases ho;simp[ownIds,hf]
   ·cases ho
 |r0 :: l,j+1,r,i,h,ho=>by
  have:=Gp (l:=l) (j:=j) (by simpa using h) ho;cases r0 with
  |cell=>exact this
  |tmp t=>simp only[ownIds];exact List.mem_append_right _ this
theorem xW:∀{xs ys:List Nat},nodup (xs ++ ys)=true->nodup ys=true/\∀x∈xs,x ∉ ys
 | [],ys,h=>⟨h,by simp⟩
 |x :: xs,ys,h=>by
  simp only[bNO,nodup,bMC]at h;obtain⟨h1,h2⟩:=xW h.2;refine⟨h1,fun y hy=>?_⟩;rcases List.mem_cons.1 hy with rfl |hy
  ·intro hm;have:(xs ++ ys).elem y=true:=by simp[hm]
   rw[this]at h;simp at h
  ·exact h2 y hy
theorem Gq:∀{l:List ResultVar} {j j':Nat} {r r':ResultVar} {i:Nat},nodup (ownIds st l)=true->l[j]?=some r->l[j']?=some r'->ownOf st r=some i->ownOf st r'=some i->j=j'
 | [],j,j',r,r',i,_,h,_,_,_=>by simp at h
 |r0 :: l,j,j',r,r',i,hn,h,h',ho,aAN=>by
  have vO:nodup (ownIds st l)=true:=by
   cases r0 with
   |cell=>exact hn
   |tmp t=>simp only[ownIds]at hn;exact(xW hn).1
  have Xa:∀r1,ownOf st r0=some i->∀k:Nat,l[k]?=some r1->ownOf st r1=some i->False:=by
   intro r1 h0 k hk h1;have hm:=Gp hk h1;cases r0 with
   |cell=>cases h0
   |tmp t =>
    simp only[ownOf]at h0;split at h0
    ·rename_i i' n hf;cases h0;simp only[ownIds,hf]at hn;exact(xW hn).2 i (by simp) hm
    ·rename_i i' o' n hf;cases h0;simp only[ownIds,hf]at hn;exact(xW hn).2 i (by simp) hm
    ·cases h0
  match j,j' with
  |0,0=>rfl
  |0,j'+1=>simp at h h';subst h;exact(Xa r' ho j' h' aAN).elim
  |j+1,0=>simp at h h';subst h';exact(Xa r aAN j h ho).elim
  |j+1,j'+1=>simp at h h';exact congrArg (·+1) (Gq vO h h' ho aAN)
theorem Hw:∀{ds:List D} {i t:Nat},(∃d,ds[t]?=some d/\argFrI i ds t=argAt (i+t) d)\/argFrI i ds t=.any
 | [],_,_=>.inr (by simp[argFrI])
 |d :: _,_,0=>.inl ⟨d,rfl,rfl⟩
 |_ :: ds,i,t+1=>by
  rcases Hw (ds:=ds) (i:=i+1) (t:=t)with ⟨d,h1,h2⟩ |h
  ·exact .inl ⟨d,by simpa using h1,by rw[show i+(t+1)=i+1+t by omega];exact h2⟩
  ·exact .inr h
theorem La:∀{ds:List D} {i j:Nat} {b:iM},argHp i ds j=some b->i<=j/\∃e k ns off n,ds[j-i]?=some (.io e k ns off n)/\b=⟨e,.ints k ns⟩
 | [],_,_,_,h=>by cases h
 |d :: ds,i,j,b,h=>by
  have tail:argHp (i+1) ds j=some b->i<=j/\∃e k ns off n,(d :: ds)[j-i]?=some (.io e k ns off n)/\b=⟨e,.ints k ns⟩:=by
   intro h;obtain⟨h1,e,k,ns,off,n,h2,h3⟩:=La h;exact⟨by omega,e,k,ns,off,n,by rw[show j-i=(j-(i+1))+1 by omega];simpa using h2,h3⟩
  cases d with
  |io e k ns off n =>
   simp only[argHp]at h;cases hb:bLX j i with
   |true =>
    rw[hb]at h;have:=bMK hb;subst this;cases h;exact⟨bLW _,e,k,ns,off,n,by simp,rfl⟩
   |false=>rw[hb]at h;exact tail h
  |s=>exact tail h
  |rows=>exact tail h
  |agg=>exact tail h
  |own=>exact tail h
  |back=>exact tail h
theorem Rg:∀{ds:List D} {i t:Nat} {e:TypeId} {k:IntKind} {ns:List Int} {off n:Nat},ds[t]?=some (.io e k ns off n)->argHp i ds (i+t)=some ⟨e,.ints k ns⟩
 | [],_,_,_,_,_,_,_,h=>by simp at h
 |d :: ds,i,0,e,k,ns,off,n,h=>by
  simp at h;subst h;simp[argHp]
 |d :: ds,i,t+1,e,k,ns,off,n,h=>by
  have ih:=Rg (i:=i+1) (ds:=ds) (t:=t) (by simpa using h);rw[show i+1+t=i+(t+1) by omega]at ih;cases d with
  |io e' k' lB aSC n' =>
   simp only[argHp];rw[show bLX (i+(t+1)) i=false from by
    cases hb:bLX (i+(t+1)) i with
    |false=>rfl
    |true=>have:=bMK hb;omega]
   exact ih
  |s=>exact ih
  |rows=>exact ih
  |agg=>exact ih
  |own=>exact ih
  |back=>exact ih
theorem Wh{Y:Nat->Prop}{w:World}{g:Nat->Nat}{i:Nat}{v:Value}{d:D}(hn:Ap d=false)(h:Yc Y w g i v d):lK Y w d v:=by
 cases d with
 |io=>cases hn
 |s x=>exact h
 |rows a b c=>exact h
 |agg cs=>exact h
 |own a b c=>exact h
 |back=>exact h
end
theorem oneOf(vs:List Value):(if h:vs.toArray.size=1 then vs.toArray[0]else Value.tuple vs.toArray)=resV vs:=by
 match vs with
 | []=>simp[resV]
 | [v]=>simp[resV]
 |_ :: _ :: _=>simp[resV]
theorem fn_core{P:Program}{E:Env}(hT:mG P E.T)(hC:iT P E)(hm:P.follows .mixedOrders=true){f:FuncId}{fn:Func}{c:Code}(hf:P.funcs[f]?=some fn)(hb:fn.body=some c)(aTK:E.nt=fn.ntmps)
  {ds rs js:List D} (hle:ds.length<=fn.ntmps) (he:aF E fn c ds=some (rs ++ js)) (aDR:js.length=E.io.length) (iN:∀i,i∈E.io->i<E.n0)
  (Iz:∀(i:Nat) (d:D),ds[i]?=some d->Ap d=true->i∈E.io) (wW:∀i,i∈E.io->∃e k ns off n,ds[i]?=some (.io e k ns off n))
  {Y:Nat->Prop} {w:World} {vs:List Value} {g0:Nat->Nat} (hY:∀b,Y b->b<w.heap.size) (hG:GlobOk E.glob Y w) (hlen:ds.length=vs.length)
  (hargs:∀(i:Nat) (d:D) (v:Value),ds[i]?=some d->vs[i]?=some v->Yc Y w g0 i v d) (aUB:∀i j,i∈E.io->j∈E.io->g0 i=g0 j->i=j) :
  Calls P f vs.toArray w fun e w'=>∃vJ,e=.returned (resV vJ)/\zM (zH E.io g0) w w'/\Ob Y w.heap.size w' E.io js g0 rs vJ/\∀(j i:Nat) (d:D),E.io[j]?=some i->js[j]?=some d->Ol w' (g0 i) d:=by
 refine calls_of_wp hf hb ?_;have bBC:∀i e k ns off n,ds[i]?=some (.io e k ns off n)->Y (g0 i)/\∃v,vs[i]?=some v/\aQF w (g0 i) e k ns off n v:=by
  intro i e k ns off n hi;obtain⟨v,hv⟩:=aY (l:=vs) (i:=i) (by have:=aR hi;omega);have:=hargs i _ v hi hv;exact⟨this.1,v,hv,this.2⟩
 have bAZ:∀b,zH E.io g0 b->Y b:=by
  rintro b ⟨i,hi,rfl⟩;obtain⟨e,k,ns,off,n,h⟩:=wW i hi;exact(bBC i e k ns off n h).1
 obtain⟨w0,Yv⟩:∃w0:Old,w0=⟨w,zH E.io g0,g0,fun b hb=>hY b (bAZ b hb)⟩:=⟨_,rfl⟩;have Yu:w0.w=w:=by rw[Yv]
 have aDH:w0.M=zH E.io g0:=by rw[Yv]
 have aSU:w0.g=g0:=by rw[Yv]
 have aTI:∀j b,argHp 0 ds j=some b->j∈E.io/\∃e k ns off n,ds[j]?=some (.io e k ns off n)/\b=⟨e,.ints k ns⟩:=by
  intro j b hj;obtain⟨_,e,k,ns,off,n,h1,h2⟩:=La hj;rw[Nat.sub_zero]at h1;exact⟨Iz j _ h1 rfl,e,k,ns,off,n,h1,h2⟩
 have Tn:gV E (fun b=>Y b/\¬zH E.io g0 b) w0 g0 (fun i=>i<E.n0) (Rh ds) (argHp 0 ds) { tmps:=vs.toArray ++ Array.replicate (fn.ntmps-vs.toArray.size) undef,defers:=[] } w:=by
  have hx:∀b,XO (fun b=>Y b/\¬zH E.io g0 b) g0 (argHp 0 ds) b->Y b:=by
   rintro b (h |⟨i,bl,h,rfl⟩)
   ·exact h.1
   ·exact bAZ _ ⟨i,(aTI i bl h).1,rfl⟩
  have hl:fV Y w (XO (fun b=>Y b/\¬zH E.io g0 b) g0 (argHp 0 ds)) w:=⟨bLW _,fun b _ h=>⟨rfl,fun h'=>h (hx b h')⟩⟩;have sF:∀t,(∃d,ds[t]?=some d/\Rh ds t=argAt t d)\/Rh ds t=.any:=by
   intro t;have:=Hw (ds:=ds) (i:=0) (t:=t);rw[bLY]at this;exact this
  refine { fr:=?_,sz:=by simp[aTK];omega,nod:=rfl,blk:=?_,inj:=?_,alh:=?_,alr:=?_,below:=by rw[Yu];exact Kept.refl _ _,x0:=?_,glob:=?_,mg:=?_,al0:=fun _ h=>h,qJ:=fun _ _=>by rw[aSU] }
  ·intro t;rcases sF t with ⟨d,h1,h2⟩ |h
   ·rw[h2];have ht:=aR h1;obtain⟨v,hv⟩:=aY (l:=vs) (i:=t) (by omega);have e:(vs.toArray ++ Array.replicate (fn.ntmps-vs.toArray.size) undef).getD t undef=v:=by
     rw[Array.getD_eq_getD_getElem?,Array.getElem?_append_left (by simp;omega)];simp[hv]
    rw[e];cases hd:Ap d with
    |false =>
     have hr:=(Wh hd (hargs t d v h1 hv)).later hl;cases d with
     |io=>cases hd
     |own e k ns=>exact hr
     |s x=>exact hr
     |rows a b c=>exact hr
     |agg cs=>exact hr
     |back=>exact hr.elim
    |true =>
     cases d with
     |io e' k ns off n =>
      obtain⟨_,v',aNX,⟨o',cap,h3,h4,h5,h6,h7⟩,_⟩:=bBC t _ _ _ _ _ h1;rw[hv]at aNX;cases aNX;refine⟨o',cap,h3,h4,h5,h6,fun blk k1 Sa vP Eh=>?_⟩;have:=Rg (i:=0) h1;rw[bLY]at this;rw[this]at vP;cases vP;cases Eh;exact h7
     |own=>cases hd
     |s=>cases hd
     |rows=>cases hd
     |agg=>cases hd
     |back=>cases hd
   ·rw[h];trivial
  ·intro id b hb;obtain⟨h1,e,k,ns,off,n,h2,rfl⟩:=aTI id b hb;obtain⟨_,v,_,_,h3⟩:=bBC id _ _ _ _ _ h2;exact⟨.inr ⟨iN id h1,by rw[aDH];exact⟨id,h1,rfl⟩⟩,h3⟩
  ·intro id Sb b b' h1 h2 h3;exact aUB id Sb (aTI id b h1).1 (aTI Sb b' h2).1 h3
  ·intro id b h1;exact iN id (aTI id b h1).1
  ·intro t i hi;rcases sF t with ⟨d,h1,h2⟩ |h
   ·rw[h2]at hi;cases d with
    |io e' k ns off n =>
     simp[argAt,refs,refsV,refsL]at hi;subst hi;exact iN _ (Iz _ _ h1 rfl)
    |own=>cases hi
    |s=>cases hi
    |rows=>cases hi
    |agg=>cases hi
    |back=>cases hi
   ·rw[h]at hi;cases hi
  ·rintro b ⟨h1,h2⟩ (hm |hm)
   ·rw[Yu]at hm;have:=hY b h1;omega
   ·rw[aDH]at hm;exact h2 hm
  ·rw[Yu];intro g k ns hg;obtain⟨h1,h2,h3⟩:=hG g k ns hg;exact⟨h1,fun h=>h2 h.1,h3.later ⟨bLW _,fun b _ hb=>⟨rfl,fun h=>hb h.1⟩⟩⟩
  ·intro g q hg hm;rw[aDH]at hm;obtain⟨k,ns⟩:=q;exact(hG g k ns hg).2.1 (bAZ _ hm)
 have bJY:∀b,Y b->(Y b/\¬zH E.io g0 b)\/zH E.io g0 b:=fun b hb=>by
  by_cases h:zH E.io g0 b
  ·exact .inr h
  ·exact .inl ⟨hb,h⟩
 unfold aF at he;refine Ui hT hC hm _ c _ _ _ g0 _ w Tn he ?_;intro ex st ρ a' w' hK hs;have bAC:(∃i,ex=.exit i)\/(nodup (ownIds st fn.results.toList)=true/\fn.results.toList.mapM (resD E st)=some rs/\E.io.mapM (aSM st)=some js):=by
  have vO:(bif nodup (ownIds st fn.results.toList)then(match E.io with
  | []=>fn.results.toList.mapM (resD E st)
  |p :: ps=>match fn.results.toList.mapM (resD E st),(p :: ps).mapM (aSM st)with
   |some rs,some is=>some (rs ++ is)
   |_,_=>none)else none)=some (rs ++ js)->(nodup (ownIds st fn.results.toList)=true/\fn.results.toList.mapM (resD E st)=some rs/\E.io.mapM (aSM st)=some js):=by
   intro hK;cases hn:nodup (ownIds st fn.results.toList)with
   |false=>rw[hn]at hK;cases hK
   |true =>
    rw[hn]at hK;simp only[cond_true]at hK;refine⟨rfl,?_⟩
    match Hd:E.io,hK with
    | [],hK =>
     rw[Hd]at aDR;have:js=[]:=List.eq_nil_of_length_eq_zero aDR;subst this;rw[bRW]at hK;exact⟨hK,rfl⟩
    |p :: ps,hK =>
     simp only at hK;split at hK
     ·rename_i aIF js' h1 h2;have aZS:=(wQ h2).1;rw[Hd]at aDR;have:=List.append_inj' (Option.some.inj hK) (by rw[aZS,aDR]);rw[h1,h2,this.1,this.2];exact⟨rfl,rfl⟩
     ·cases hK
  cases ex with
  |exit i=>exact .inl ⟨i,rfl⟩
  |normal=>exact .inr (vO hK)
  |ret=>exact .inr (vO hK)
 rcases bAC with ⟨i,rfl⟩ |⟨hn,aTE,bIT⟩
 ·cases hK
 have key:a'.defers=[]/\∃v,(results fn a'.tmps).run P w'=.ok v w'/\∃vJ,Ending.returned v=.returned (resV vJ)/\zM (zH E.io g0) w w'/\Ob Y w.heap.size w' E.io js g0 rs vJ/\∀(j i:Nat) (d:D),E.io[j]?=some i->js[j]?=some d->Ol w' (g0 i) d:=by
  refine⟨hs.nod,?_⟩;obtain⟨aTW,aMD⟩:=wQ aTE
  let X':Nat->Prop:=fun b=>Y b/\¬zH E.io g0 b
  let aOZ (r:ResultVar) (d:D) (v:Value):Prop:=(Ca a' r).run P w'=.ok v w'/\Good E X' w.heap.size st ρ w' r v d
  have hex:∀r,∃v,∀d,resD E st r=some d->aOZ r d v:=by
   intro r;cases hd:resD E st r with
   |none=>exact⟨undef,fun d h=>by cases h⟩
   |some d =>
    obtain⟨v,h1,h2⟩:=Ta hT hs hd;rw[Yu]at h2;exact⟨v,fun d' h=>by cases h;exact⟨h1,h2⟩⟩
  obtain⟨g,bJH⟩:=Classical.axiomOfChoice hex;have hg:∀r d,r∈fn.results.toList->resD E st r=some d->aOZ r d (g r):=fun r d _ hd=>bJH r d hd
  have eY:(fn.results.mapM (Ca a')).run P w'=.ok (fn.results.toList.map g).toArray w' :=
   aCX fun r hr=>by
    obtain⟨i,hi⟩:=List.mem_iff_getElem?.1 hr;obtain⟨d,_,hd⟩:=aMD i r hi;exact(hg r d hr hd).1
  have Tp:(results fn a'.tmps).run P w'=.ok (resV (fn.results.toList.map g)) w':=by
   have e:results fn a'.tmps=(fn.results.mapM (Ca a') >>= fun vs=>pure (if h:vs.size=1 then vs[0]else Value.tuple vs)):=by
    unfold results;congr 1
   rw[e,Sem.run_bind,eY,Result.andThen_ok,Sem.run_pure];congr 1;exact oneOf _
  have Hc:=hs.below;rw[Yu]at Hc;have aTA:zM (zH E.io g0) w w':=⟨Hc.os,Hc.tape,Hc.output,Hc.size,fun b hb hM=>Hc.block b (fun hm=>by
   rcases hm with hm |hm
   ·rw[Yu]at hm;omega
   ·rw[aDH]at hm;exact hM hm),fun b hM=>Hc.room b (by rw[aDH];exact hM)⟩
  have aDS:∀(j i:Nat) (d:D),E.io[j]?=some i->js[j]?=some d->∃e k ns,d=.io e k ns 0 0/\st.hp i=some ⟨e,.ints k ns⟩/\ρ i=g0 i:=by
   intro j i d hj hd;obtain⟨_,h2⟩:=wQ bIT;obtain⟨d',h3,h4⟩:=h2 j i hj;rw[hd]at h3;cases h3;unfold aSM at h4;split at h4
   ·rename_i e k ns hb;cases h4;refine⟨e,k,ns,rfl,hb,?_⟩;have:=hs.qJ i (iN i (bMF hj));rw[aSU]at this;exact this
   ·cases h4
  have bJZ:∀b,Y b->XO X' ρ st.hp b:=by
   intro b hb;rcases bJY b hb with h |⟨i,hi,rfl⟩
   ·exact .inl h
   ·obtain⟨j,hj⟩:=List.mem_iff_getElem?.1 hi;obtain⟨d,hd⟩:=aY (l:=js) (i:=j) (by have:=aR hj;omega);obtain⟨e,k,ns,_,h1,h2⟩:=aDS j i d hj hd;exact .inr ⟨i,_,h1,h2⟩
  refine⟨_,Tp,_,rfl,aTA,?_,?_⟩
  ·have bEU:∀(i:Nat) (d:D),rs[i]?=some d->∃r,fn.results.toList[i]?=some r/\resD E st r=some d/\aOZ r d (g r):=by
    intro i d hi;obtain⟨r,hr⟩:=aY (l:=fn.results.toList) (i:=i) (by have:=aR hi;omega);obtain⟨d',h1,h2⟩:=aMD i r hr;rw[hi]at h1;cases h1;exact⟨r,hr,h2,hg r d (bMF hr) h2⟩
   let blk (i:Nat):Nat:=match fn.results.toList[i]? with
    |some r=>match ownOf st r with
     |some j=>ρ j
     |none=>0
    |none=>0
   have pZ:∀(i:Nat) (d:D),rs[i]?=some d->iV d=true->∃r j b,fn.results.toList[i]?=some r/\ownOf st r=some j/\st.hp j=some b/\blk i=ρ j:=by
    intro i d hi ho;obtain⟨r,h1,h2,h3⟩:=bEU i d hi;cases d with
    |own e k ns =>
     obtain⟨_,j,h4,⟨b,h5⟩,_⟩:=h3;exact⟨r,j,b,h1,h4,h5,by simp only[blk,h1,h4]⟩
    |_=>cases ho
   refine⟨blk,by simp[aTW],?_,?_⟩
   ·intro i j d d' hi hj ho aAN yL;obtain⟨r,k,b,h1,h2,h3,h4⟩:=pZ i d hi ho;obtain⟨r',k',b',Zg,aRA,bKQ,bBI⟩:=pZ j d' hj aAN;rw[h4,bBI]at yL;have:=hs.inj k k' b b' h3 bKQ yL;subst this;exact Gq hn h1 Zg h2 aRA
   ·intro i d v hi hv;obtain⟨r,h1,h2,h3⟩:=bEU i d hi;have e:v=g r:=by
     rw[bMA,h1]at hv;exact(Option.some.inj hv).symm
    subst e;have hl:fV (XO X' ρ st.hp) w' (fun b=>Y b\/∃(j:Nat) (d':D),rs[j]?=some d'/\iV d'=true/\blk j=b) w':=by
     refine⟨bLW _,fun b _ hx=>⟨rfl,fun hb=>hx ?_⟩⟩;rcases hb with hb |⟨j,d',hj,ho,rfl⟩
     ·exact bJZ b hb
     ·obtain⟨r',k,b',_,_,h5,h6⟩:=pZ j d' hj ho;exact .inr ⟨k,b',h5,h6.symm⟩
    cases d with
    |own e k ns =>
     obtain⟨_,j,h4,_,h5⟩:=h3;have:blk i=ρ j:=by simp only[blk,h1,h4]
     show Lc _ _ (blk i) _ _ _ _;rw[this];exact h5
    |s x=>exact lK.later hl (d:=.s x) h3.2
    |rows sz n fr=>exact lK.later hl (d:=.rows sz n fr) h3.2
    |agg cs=>exact lK.later hl (d:=.agg cs) h3.2
    |io=>exact h3.2.elim
    |back p off n =>
     obtain⟨_,h4,h5⟩:=h3;obtain⟨j,hj⟩:=List.mem_iff_getElem?.1 h4;obtain⟨d,hd⟩:=aY (l:=js) (i:=j) (by have:=aR hj;omega);obtain⟨e,k,ns,rfl,h6,h7⟩:=aDS j p d hj hd;have:=h5 _ k ns h6 rfl;rw[h7]at this;exact⟨j,e,k,ns,hj,hd,this⟩
  ·intro j i d hj hd;obtain⟨e,k,ns,rfl,h1,h2⟩:=aDS j i d hj hd;have:=(hs.blk i _ h1).2;rw[h2]at this;exact this
 cases ex with
 |normal=>exact key
 |ret=>exact key
 |exit i=>cases hK
theorem zM.below{M:Nat->Prop}(hM:∀b,¬M b){w w':World}(h:zM M w w'):Below w.heap.size w w':=⟨h.os,h.tape,h.output,h.size,fun k hk=>h.block k hk (hM k)⟩
theorem fn_contract{P:Program}{E:Env}(hT:mG P E.T)(hC:iT P E)(hm:P.follows .mixedOrders=true){f:FuncId}{fn:Func}{c:Code}(hf:P.funcs[f]?=some fn)(hb:fn.body=some c)(aTK:E.nt=fn.ntmps)(Hd:E.io=[])
  {ds rs:List D} (hle:ds.length<=fn.ntmps) (he:aF E fn c ds=some rs):Contract P E.glob f ds rs:=by
 intro Y w vs hY hG hlen hargs;have vV:∀(i:Nat) (d:D),ds[i]?=some d->Ap d=false:=by
  intro i d hi;obtain⟨v,hv⟩:=aY (l:=vs) (i:=i) (by have:=aR hi;omega);have:=hargs i d v hi hv;cases d with
  |io=>exact this.elim
  |s=>rfl
  |rows=>rfl
  |agg=>rfl
  |own=>rfl
  |back=>rfl
 have:=fn_core hT hC hm hf hb aTK (rs:=rs) (js:=[]) hle (by rw[bRW];exact he) (by rw[Hd];rfl) (by rw[Hd];intro i hi;cases hi) (fun i d hi hd=>by rw[vV i d hi]at hd;cases hd) (by rw[Hd];intro i hi;cases hi) (g0:=fun _=>0) hY hG hlen (fun i d v hi hv=>Hv (vV i d hi) (hargs i d v hi hv)) (by rw[Hd];intro i j hi;cases hi);refine this.mono ?_;rintro e w' ⟨vJ,h1,h2,⟨g,h3,h4,h5⟩,_⟩;refine⟨vJ,h1,h2.below (fun b=>by rintro ⟨i,hi,_⟩;rw[Hd]at hi;cases hi),g,h3,h4,fun i d v hi hv=>?_⟩;have:=h5 i d v hi hv;cases d with
 |own e k ns=>exact this
 |s x=>exact this
 |rows a b c=>exact this
 |agg cs=>exact this
 |io=>exact this
 |back p off n =>
  obtain⟨j,e,k,ns,h6,_⟩:=this;rw[Hd]at h6;simp at h6
theorem Jk{P:Program}{E:Env}(hT:mG P E.T)(hC:iT P E)(hm:P.follows .mixedOrders=true){f:FuncId}{fn:Func}{c:Code}(hf:P.funcs[f]?=some fn)(hb:fn.body=some c)(aTK:E.nt=fn.ntmps)(iN:∀i,i∈E.io->i<E.n0)
  {ds rs js:List D} (hle:ds.length<=fn.ntmps) (he:aF E fn c ds=some (rs ++ js)) (aDR:js.length=E.io.length) (hL:aML E.io ds js) (Iz:∀(i:Nat) (d:D),ds[i]?=some d->Ap d=true->i∈E.io):mQ P E.glob f E.io ds rs js:=by
 refine⟨aDR,hL,fun Y w vs g hY hG hlen hargs wU=>?_⟩;refine fn_core hT hC hm hf hb aTK hle he aDR iN Iz (fun i hi=>?_) hY hG hlen hargs wU;obtain⟨j,hj⟩:=List.mem_iff_getElem?.1 hi;obtain⟨e,k,ns,off,n,_,_,_,h1,_⟩:=hL j i hj;exact⟨e,k,ns,off,n,h1⟩
def kindOf(P:Program):TypeDesc->Option TK
 | .bool=>some .bool
 | .int k=>some (.int k)
 | .float k=>some (.float k)
 | .slice e=>some (.slice e)
 | .string=>some .str
 | .struct fields=>(fields.toList.mapM fun(f:Field)=>match P.info? f.type,P.underlying f.type with
  |some fi,some fd=>some (f.offset,fi.size,pW fd)
  |_,_=>none).map .struct
 | .array len e=>match P.info? e,P.underlying e with
  |some ei,some ed=>some (.arr len ei.size (pW ed))
  |_,_=>none
 |_=>some .other
def tiOf(P:Program)(t:TypeId):Option TI:=match P.info? t,P.underlying t with
 |some i,some d=>match i.zero,kindOf P d with
  |some z,some k=>some ⟨i.size,i.bytes,z.cells.toList,k⟩
  |_,_=>none
 |_,_=>none
def aMU(ti:TI):Bool:=bLX ti.zero.length ti.size&&ti.zero.all fun v=>v.oneCell'
theorem Yr{P:Program}{d:TypeDesc}{k:TK}(h:kindOf P d=some k):Io P k d:=by
 unfold kindOf at h;split at h
 ·cases h;rfl
 ·cases h;rfl
 ·cases h;rfl
 ·cases h;rfl
 ·cases h;rfl
 ·rename_i fields;cases hm:(fields.toList.mapM fun(f:Field)=>match P.info? f.type,P.underlying f.type with
   |some fi,some fd=>some (f.offset,fi.size,pW fd)
   |_,_=>none)with
  |none=>rw[hm]at h;cases h
  |some fs =>
   rw[hm]at h;cases h;obtain⟨h1,h2⟩:=wQ hm;refine⟨fields,rfl,by simpa using h1,fun i f hf=>?_⟩;obtain⟨y,e1,e2⟩:=h2 i f (by simpa using hf);split at e2
   ·rename_i fi fd aWS bJJ;cases e2;exact⟨fi,fd,aWS,bJJ,e1⟩
   ·cases e2
 ·rename_i len e;split at h
  ·rename_i ei ed bJQ aWT;cases h;exact⟨e,ei,ed,rfl,bJQ,rfl,aWT,rfl⟩
  ·cases h
 ·rename_i h1 h2 h3 h4 h5 h6 h7;cases h;show pW d=false;cases d <;> first |rfl | (exfalso;exact h6 _ rfl) | (exfalso;exact h7 _ _ rfl)
def eqChk(P:Program)(t:TypeId)(ti:TI):Bool:=match uO ti with
 |some ks=>(match P.underlying t with
  |some (.struct fields)=>!P.stoodInHeld t&&(eqChkF P 0 fields.toList ks&&!P.eqGuardType P.depth t)
  |_=>false)
 |none=>true
theorem aEP{P:Program}{t:TypeId}{ti:TI}(h:eqChk P t ti=true)(ks:List IntKind)(hk:uO ti=some ks):aQH P t ks:=by
 unfold eqChk at h;rw[hk]at h;simp only at h;split at h
 ·rename_i fields hf;simp only[bMC,bNE]at h;exact⟨fields,hf,h.1,h.2.1,h.2.2⟩
 ·cases h
theorem aBB{P:Program}{t:TypeId}{ti:TI}(h:tiOf P t=some ti)(hk:aMU ti=true)(hq:eqChk P t ti=true):xF P t ti:=by
 have heq:=aEP hq;unfold tiOf at h;split at h
 ·rename_i i d hi hd;split at h
  ·rename_i z k hz bIQ;cases h;unfold aMU at hk;simp only[bMC]at hk;exact { i:=⟨i,hi,rfl,rfl,z,hz,rfl⟩,zl:=bMK hk.1,zo:=fun v hv=>List.all_eq_true.1 hk.2 v hv,d:=⟨d,hd,Yr bIQ⟩,eq:=heq }
  ·cases h
 ·cases h
def tlook{α:Type}:List (Nat×α)->Nat->Option α
 | [],_=>none
 |p :: r,t=>bif bLX p.1 t then some p.2 else tlook r t
theorem tK{α:Type}:∀{l:List (Nat×α)} {t:Nat} {x:α},tlook l t=some x->(t,x)∈l
 | [],t,x,h=>by cases h
 |p :: r,t,x,h=>by
  simp only[tlook]at h;cases hb:bLX p.1 t with
  |true =>
   rw[hb]at h;cases h;have:=bMK hb;subst this;exact bMD ..
  |false=>rw[hb]at h;exact bMP _ (tK h)
theorem aHT{P:Program}(Fu:List (Nat×TI))(h:Fu.map (fun p=>tiOf P p.1)=Fu.map fun p=>some p.2)(hk:(Fu.all fun p=>aMU p.2)=true)(hq:(Fu.all fun p=>eqChk P p.1 p.2)=true):mG P (tlook Fu):=by
 intro t ti ht;have hm:=tK ht;have h1:tiOf P t=some ti:=by
  have:=List.map_inj_left.1 h (t,ti) hm;exact this
 exact aBB h1 (List.all_eq_true.1 hk (t,ti) hm) (List.all_eq_true.1 hq (t,ti) hm)
end AI
namespace AI
open Go Go.RowKit
theorem oI{R:Type}(E:Env)(draw:Bool)(ops:Array Oper)(base:Nat):∀(rest:List Oper) (i:Nat) (mJ:List Rec) (st:St) (K:St->Option R),
  opsK E draw ops base rest i mJ st K=(opsK E draw ops base rest i mJ st some).bind K
 | [],i,mJ,st,K=>rfl
 |o :: rest,i,mJ,st,K=>by
  unfold opsK;cases (gY E.nt o&&(!draw||uZ i o))with
  |false=>rfl
  |true =>
   simp only[cond_true];split
   ·rw[mS,mS];cases oX E (base+8*i) o (evA E st.fr) st.hp with
    |none=>rfl
    |some p =>
     simp only[bNN];cases (!draw||mJ.all fun r=>indep ops r i o (qQ o (evA E st.fr) p.2) (p.2.map (·.1)))with
     |false=>rfl
     |true=>exact oI E draw ops base rest (i+1) _ _ K
   ·split
    ·split
     ·rename_i want _ _ d _ _ b _;cases b with
      |true =>
       simp only[cond_true];cases (true==want)with
       |true =>
        simp only[cond_true];rw[mS,mS];cases oX E (base+8*i) o (evA E (xQ st.fr d (yJ (.bool true)))) st.hp with
        |none=>rfl
        |some p =>
         simp only[bNN];cases (!draw||mJ.all fun r=>indep ops r i o (qQ o (evA E (xQ st.fr d (yJ (.bool true)))) p.2) (p.2.map (·.1)))with
         |false=>rfl
         |true=>exact oI E draw ops base rest (i+1) _ _ K
       |false =>
        simp only[cond_false];cases (!draw||mJ.all fun r=>indep ops r i o [] [])with
        |false=>rfl
        |true=>exact oI E draw ops base rest (i+1) _ _ K
      |false =>
       simp only[cond_false];cases (false==want)with
       |true =>
        simp only[cond_true];rw[mS,mS];cases oX E (base+8*i) o (evA E (xQ st.fr d (yJ (.bool false)))) st.hp with
        |none=>rfl
        |some p =>
         simp only[bNN];cases (!draw||mJ.all fun r=>indep ops r i o (qQ o (evA E (xQ st.fr d (yJ (.bool false)))) p.2) (p.2.map (·.1)))with
         |false=>rfl
         |true=>exact oI E draw ops base rest (i+1) _ _ K
       |false =>
        simp only[cond_false];cases (!draw||mJ.all fun r=>indep ops r i o [] [])with
        |false=>rfl
        |true=>exact oI E draw ops base rest (i+1) _ _ K
     ·cases (!draw||mJ.all fun r=>indep ops r i o [] [])with
      |false=>rfl
      |true=>exact oI E draw ops base rest (i+1) _ _ K
     ·rfl
    ·rfl
section
variable (n0:Nat) (keep:List Nat) (f:St->Option (Ex×St))
def runs:Nat->List KV->Option (Ex×St)
 |0,_=>none
 |n+1,l=>(f (mk n0 keep l)).bind fun p=>match p.1 with
  | .normal=>runs n (canon n0 keep p.2)
  | .exit i=>some (.exit i,p.2)
  | .ret=>some (.ret,p.2)
theorem By:∀(n k:Nat) (l:List KV) (p:Ex×St),runs n0 keep f n l=some p->runs n0 keep f (n+k) l=some p
 |0,_,_,_,h=>by cases h
 |n+1,k,l,p,h=>by
  rw[bSZ];simp only[runs]at h ⊢;cases hf:f (mk n0 keep l)with
  |none=>rw[hf]at h;cases h
  |some q =>
   rw[hf]at h;simp only[bNN]at h ⊢;obtain⟨ex,st⟩:=q;cases ex with
   |normal=>exact By n k _ p h
   |exit i=>exact h
   |ret=>exact h
theorem Gb{n m:Nat}{l:List KV}{p q:Ex×St}(h:runs n0 keep f n l=some p)(h':runs n0 keep f m l=some q):p=q:=by
 have h1:=By n0 keep f n m l p h;have h2:=By n0 keep f m n l q h';rw[bRX m n,h1]at h2;exact Option.some.inj h2
open Classical in
def aAK (l:List KV):Option (Ex×St):=if h:∃p,∃n,runs n0 keep f n l=some p then some (Classical.choose h)else none
theorem Gv{n:Nat}{l:List KV}{p:Ex×St}(h:runs n0 keep f n l=some p):aAK n0 keep f l=some p:=by
 unfold aAK;have hex:∃p,∃n,runs n0 keep f n l=some p:=⟨p,n,h⟩;rw[dif_pos hex];obtain⟨m,hm⟩:=Classical.choose_spec hex;rw[Gb n0 keep f hm h]
theorem Md{l:List KV}{p:Ex×St}(h:aAK n0 keep f l=some p):∃n,runs n0 keep f n l=some p:=by
 unfold aAK at h;split at h
 ·rename_i hex;cases h;exact Classical.choose_spec hex
 ·cases h
theorem aNQ(l:List KV):aAK n0 keep f l=(f (mk n0 keep l)).bind fun p=>match p.1 with
  | .normal=>aAK n0 keep f (canon n0 keep p.2)
  | .exit i=>some (.exit i,p.2)
  | .ret=>some (.ret,p.2):=by
 cases hf:f (mk n0 keep l)with
 |none =>
  cases hl:aAK n0 keep f l with
  |none=>rfl
  |some p =>
   obtain⟨n,hn⟩:=Md n0 keep f hl;cases n with
   |zero=>cases hn
   |succ n=>simp only[runs,hf]at hn;cases hn
 |some q =>
  obtain⟨ex,st⟩:=q;simp only[bNN];cases ex with
  |normal =>
   simp only;cases hl:aAK n0 keep f (canon n0 keep st)with
   |some p =>
    obtain⟨n,hn⟩:=Md n0 keep f hl;exact Gv n0 keep f (n:=n+1) (by simp only[runs,hf,bNN];exact hn)
   |none =>
    cases aWP:aAK n0 keep f l with
    |none=>rfl
    |some p =>
     obtain⟨n,hn⟩:=Md n0 keep f aWP;cases n with
     |zero=>cases hn
     |succ n =>
      simp only[runs,hf,bNN]at hn;rw[Gv n0 keep f hn]at hl;cases hl
  |exit i=>exact Gv n0 keep f (n:=1) (by simp only[runs,hf,bNN])
  |ret=>exact Gv n0 keep f (n:=1) (by simp only[runs,hf,bNN])
def aAT{R:Type}(K:Ex->St->Option R)(rec:List KV->Option R)(l:List KV):Option R :=
 (f (mk n0 keep l)).bind fun p=>match p.1 with
  | .normal=>rec (canon n0 keep p.2)
  | .exit i=>K (.exit i) p.2
  | .ret=>K .ret p.2
theorem rQ{R:Type}(K:Ex->St->Option R):∀(n:Nat) (l:List KV),iter (aAT n0 keep f K) n l=(runs n0 keep f n l).bind fun p=>K p.1 p.2
 |0,_=>rfl
 |n+1,l=>by
  simp only[iter,aAT,runs];cases f (mk n0 keep l)with
  |none=>rfl
  |some q =>
   obtain⟨ex,st⟩:=q;simp only[bNN];cases ex with
   |normal=>exact rQ K n _
   |exit i=>rfl
   |ret=>rfl
theorem Mz{R:Type}(K:Ex->St->Option R)(l:List KV):fix (aAT n0 keep f K) l=(aAK n0 keep f l).bind fun p=>K p.1 p.2:=by
 cases hl:aAK n0 keep f l with
 |none =>
  unfold fix;rw[dif_neg]
  ·rfl
  ·rintro ⟨r,n,h⟩;rw[rQ]at h;cases hr:runs n0 keep f n l with
   |none=>rw[hr]at h;cases h
   |some p=>rw[Gv n0 keep f hr]at hl;cases hl
 |some p =>
  obtain⟨n,hn⟩:=Md n0 keep f hl;simp only[bNN];cases hK:K p.1 p.2 with
  |some r =>
   unfold fix;have hex:∃r,∃n,iter (aAT n0 keep f K) n l=some r:=⟨r,n,by rw[rQ,hn];exact hK⟩;rw[dif_pos hex];obtain⟨m,hm⟩:=Classical.choose_spec hex;rw[rQ]at hm;cases hr:runs n0 keep f m l with
   |none=>rw[hr]at hm;cases hm
   |some q =>
    rw[hr,Gb n0 keep f hr hn]at hm;simp only[bNN]at hm;rw[hK]at hm;exact hm.symm
  |none =>
   unfold fix;rw[dif_neg];rintro ⟨r,m,h⟩;rw[rQ]at h;cases hr:runs n0 keep f m l with
   |none=>rw[hr]at h;cases h
   |some q =>
    rw[hr,Gb n0 keep f hr hn]at h;simp only[bNN]at h;rw[hK]at h;cases h
theorem aJL{R:Type}(K:Ex->St->Option R)(l:List KV):fix (aAT n0 keep f K) l=aAT n0 keep f K (fix (aAT n0 keep f K)) l:=by
 rw[Mz,aNQ];unfold aAT;cases f (mk n0 keep l)with
 |none=>rfl
 |some q =>
  obtain⟨ex,st⟩:=q;simp only[bNN];cases ex with
  |normal=>exact(Mz n0 keep f K _).symm
  |exit i=>rfl
  |ret=>rfl
end
def condSt(c:Operand)(st:St):Option (Bool×St):=match c with
 | .tmp s=>match st.fr s with
  | .v (.one (.s (.sc (.bool t))))=>some (t,⟨xQ st.fr s (yJ (.bool t)),st.hp,st.n⟩)
  |_=>none
 | .const (.bool t)=>some (t,st)
 |_=>none
theorem Qx{R:Type}(E:Env)(c:Operand)(a b:Code)(st:St)(K:Ex->St->Option R):evalCode E (.cond c a b) st K=(condSt c st).bind fun p=>bif p.1 then evalCode E a p.2 K else evalCode E b p.2 K:=by
 cases c with
 |tmp s =>
  simp only[evalCode,condSt];split
  ·rename_i t h;simp only[h,bNN];cases t <;> rfl
  ·rename_i h;split
   ·rename_i t h';exact(h t h').elim
   ·rfl
 |const v=>cases v <;> simp only[evalCode,condSt] <;> rfl
 |_=>simp only[evalCode,condSt];rfl
theorem evalCode_bind(E:Env)(c:Code):∃f:St->Option (Ex×St),∀(st:St) {R:Type} (K:Ex->St->Option R),evalCode E c st K=(f st).bind fun p=>K p.1 p.2:=by
 induction c with
 |skip=>exact⟨fun st=>some (.normal,st),fun st R K=>rfl⟩
 |label l=>exact⟨fun st=>some (.normal,st),fun st R K=>rfl⟩
 |exit id=>exact⟨fun st=>some (.exit id,st),fun st R K=>rfl⟩
 |ret=>exact⟨fun st=>some (.ret,st),fun st R K=>rfl⟩
 |region id ops draw =>
  refine⟨fun st=>(opsK E draw ops st.n ops.toList 0 [] st some).bind fun eI=>some (.normal,⟨eI.fr,eI.hp,st.n+8*ops.size⟩),fun st R K=>?_⟩;unfold evalCode;rw[oI];simp only[];cases opsK E draw ops st.n ops.toList 0 [] st some <;> rfl
 |seq a b wT wS =>
  obtain⟨f,hf⟩:=wT;obtain⟨g,hg⟩:=wS;refine⟨fun st=>(f st).bind fun p=>match p.1 with
   | .normal=>match E.cut (keyOf b)with
    |some keep=>g (mk E.n0 keep (canon E.n0 keep p.2))
    |none=>g p.2
   | .exit i=>some (.exit i,p.2)
   | .ret=>some (.ret,p.2),fun st R K=>?_⟩
  unfold evalCode;rw[hf];simp only[];cases f st with
  |none=>rfl
  |some q =>
   obtain⟨ex,eI⟩:=q;cases ex with
   |normal =>
    simp only[bNN];cases E.cut (keyOf b)with
    |none=>exact hg eI K
    |some keep=>exact hg _ K
   |exit i=>rfl
   |ret=>rfl
 |cond cd a b wT wS =>
  obtain⟨f,hf⟩:=wT;obtain⟨g,hg⟩:=wS;refine⟨fun st=>(condSt cd st).bind fun p=>bif p.1 then f p.2 else g p.2,fun st R K=>?_⟩;rw[Qx];simp only[];cases condSt cd st with
  |none=>rfl
  |some p =>
   obtain⟨t,eI⟩:=p;cases t with
   |true=>exact hf _ K
   |false=>exact hg _ K
 |block id c ih =>
  obtain⟨f,hf⟩:=ih;refine⟨fun st=>(f st).bind fun p=>match p.1 with
   | .normal=>some (.normal,p.2)
   | .exit i=>bif bLX i id then some (.normal,p.2)else some (.exit i,p.2)
   | .ret=>some (.ret,p.2),fun st R K=>?_⟩
  unfold evalCode;rw[hf];simp only[];cases f st with
  |none=>rfl
  |some q =>
   obtain⟨ex,eI⟩:=q;cases ex with
   |normal=>rfl
   |exit i =>
    simp only[bNN];cases bLX i id <;> rfl
   |ret=>rfl
 |loop c ih =>
  obtain⟨f,hf⟩:=ih;have hG:∀{R:Type} (keep:List Nat) (K:Ex->St->Option R),(fun(rec:List KV->Option R) l=>evalCode E c (mk E.n0 keep l) fun ex eI=>match ex with
    | .normal=>rec (canon E.n0 keep eI)
    | .exit i=>K (.exit i) eI
    | .ret=>K .ret eI)=aAT E.n0 keep f K:=by
   intro R keep K;funext rec l;rw[hf];unfold aAT;cases f (mk E.n0 keep l)with
   |none=>rfl
   |some q=>obtain⟨ex,eI⟩:=q;cases ex <;> rfl
  refine⟨fun st=>match E.roll (keyOf c)with
   |some n=>runs E.n0 (E.keep (keyOf c)) f n (canon E.n0 (E.keep (keyOf c)) st)
   |none=>aAK E.n0 (E.keep (keyOf c)) f (canon E.n0 (E.keep (keyOf c)) st),fun st R K=>?_⟩
  simp only[evalCode];cases E.roll (keyOf c)with
  |some n=>exact(congrArg (fun G=>iter G n (canon E.n0 (E.keep (keyOf c)) st)) (hG _ K)).trans (rQ _ _ _ _ _ _)
  |none=>exact(congrArg (fun G=>fix G (canon E.n0 (E.keep (keyOf c)) st)) (hG _ K)).trans (Mz _ _ _ _ _)
 |rangeFunc f ps x y _ _=>exact⟨fun _=>none,fun st R K=>rfl⟩
 |scope c ih =>
  obtain⟨f,hf⟩:=ih;exact⟨f,fun st R K=>by unfold evalCode;exact hf st K⟩
 |goto l=>exact⟨fun _=>none,fun st R K=>rfl⟩
 |refuse bCR=>exact⟨fun _=>none,fun st R K=>rfl⟩
theorem aIU{R:Type}(E:Env)(keep:List Nat)(c:Code)(K:Ex->St->Option R)(l:List KV) :
  fix (roundOf (evalCode E) E.n0 keep c K) l=roundOf (evalCode E) E.n0 keep c K (fix (roundOf (evalCode E) E.n0 keep c K)) l:=by
 obtain⟨f,hf⟩:=evalCode_bind E c;have hG:roundOf (evalCode E) E.n0 keep c K=aAT E.n0 keep f K:=by
  funext rec l;unfold roundOf;rw[hf];unfold aAT;cases f (mk E.n0 keep l)with
  |none=>rfl
  |some q=>obtain⟨ex,eI⟩:=q;cases ex <;> rfl
 rw[hG];exact aJL E.n0 keep f K l
def Cj(E:Env)(fn:Func)(c:Code)(key:Nat)(l:List KV):Option (List D) :=
 match findLoop E key c (oM E fn)with
 |some (b,K)=>fix (roundOf (evalCode E) E.n0 (E.keep key) b K) l
 |none=>none
def Lz(E:Env)(fn:Func)(c:Code)(key:Nat)(l:List KV):Option (List D) :=
 match findLoop E key c (oM E fn)with
 |some (b,K)=>roundOf (evalCode E) E.n0 (E.keep key) b K (fix (roundOf (evalCode E) E.n0 (E.keep key) b K)) l
 |none=>none
theorem Yp(E:Env)(fn:Func)(c:Code)(key:Nat)(l:List KV):Cj E fn c key l=Lz E fn c key l:=by
 unfold Cj Lz;cases findLoop E key c (oM E fn)with
 |none=>rfl
 |some p=>exact aIU E _ p.1 p.2 l
def cutAt(E:Env)(fn:Func)(c:Code)(key:Nat)(l:List KV):Option (List D) :=
 match dX E key c (oM E fn),E.cut key with
 |some (b,K),some keep=>yC key l fun l=>evalCode E b (mk E.n0 keep l) K
 |_,_=>none
def Nl(E:Env)(fn:Func)(c:Code)(key:Nat)(l:List KV):Option (List D) :=
 match dX E key c (oM E fn),E.cut key with
 |some (b,K),some keep=>evalCode E b (mk E.n0 keep l) K
 |_,_=>none
theorem aFF(E:Env)(fn:Func)(c:Code)(key:Nat)(l:List KV):cutAt E fn c key l=Nl E fn c key l:=by
 unfold cutAt Nl yC;rfl
end AI
namespace AI
open Go Go.RowKit
theorem Contract.of{P:Program}{G:Nat->Option (IntKind×List Int)}{f:FuncId}{ds ds' rs:List D}(h:Contract P G f ds' rs)(hl:ds.length=ds'.length)
  (hd:∀(i:Nat) (d d':D),ds[i]?=some d->ds'[i]?=some d'->∀(Y:Nat->Prop) (w:World) (v:Value),lK Y w d v->lK Y w d' v):Contract P G f ds rs:=by
 intro Y w vs hY hG hlen hargs;refine h Y w vs hY hG (by omega) fun i d' v hi hv=>?_
 obtain⟨d,Dr⟩:=aY (l:=ds) (i:=i) (by have:=aR hi;omega);exact hd i d d' Dr hi Y w v (hargs i d v Dr hv)
def dI(k:IntKind):D->Option (List Int)
 | .s (.ints k' ns)=>if _h:k=k' then some ns else none
 | .s (.sc (.slice none 0 0))=>some []
 |_=>none
def dN(k:IntKind):D->Option Int
 | .s (.sc (.int k' n))=>if _h:k=k' then some n else none
 |_=>none
def dB:D->Option Bool
 | .s (.sc (.bool b))=>some b
 |_=>none
def zY(d d':D):Prop:=∀(Y:Nat->Prop) (w:World) (v:Value),lK Y w d v->lK Y w d' v
theorem zY.refl(d:D):zY d d:=fun _ _ _ h=>h
theorem aVF{k:IntKind}{d:D}{ns:List Int}(h:dI k d=some ns):zY d (.s (.ints k ns)):=by
 intro Y w v hr;unfold dI at h;split at h
 ·split at h
  ·rename_i hk;cases h;subst hk;exact hr
  ·cases h
 ·cases h;obtain⟨rfl,_⟩:=hr;exact⟨none,0,rfl,bLW _,fun i n hn=>by simp at hn⟩
 ·cases h
theorem aVE{k:IntKind}{d:D}{n:Int}(h:dN k d=some n):d=.s (.sc (.int k n)):=by
 unfold dN at h;split at h
 ·split at h
  ·rename_i hk;cases h;subst hk;rfl
  ·cases h
 ·cases h
theorem aVD{k:IntKind}{d:D}{n:Int}(h:dN k d=some n):zY d (.s (.sc (.int k n))):=by rw[aVE h];exact zY.refl _
theorem aVI{d:D}{b:Bool}(h:dB d=some b):d=.s (.sc (.bool b)):=by
 unfold dB at h;split at h
 ·cases h;rfl
 ·cases h
theorem aVH{d:D}{b:Bool}(h:dB d=some b):zY d (.s (.sc (.bool b))):=by rw[aVI h];exact zY.refl _
theorem Contract.aXY{P:Program}{G:Nat->Option (IntKind×List Int)}{f:FuncId}{d d':D}{rs:List D}(h:Contract P G f [d'] rs)(hd:zY d d'):Contract P G f [d] rs :=
 h.of rfl fun i x x' hx vZ=>by
  match i with
  |0=>simp at hx vZ;subst hx;subst vZ;exact hd
  |i+1=>simp at hx
theorem Contract.aXX{P:Program}{G:Nat->Option (IntKind×List Int)}{f:FuncId}{d d' e e':D}{rs:List D}(h:Contract P G f [d',e'] rs)(hd:zY d d')(he:zY e e'):Contract P G f [d,e] rs :=
 h.of rfl fun i x x' hx vZ=>by
  match i with
  |0=>simp at hx vZ;subst hx;subst vZ;exact hd
  |1=>simp at hx vZ;subst hx;subst vZ;exact he
  |i+2=>simp at hx
theorem Contract.bDE{P:Program}{G:Nat->Option (IntKind×List Int)}{f:FuncId}{d d' e e' g g':D}{rs:List D}(h:Contract P G f [d',e',g'] rs)(hd:zY d d')(he:zY e e')(hg:zY g g'):Contract P G f [d,e,g] rs :=
 h.of rfl fun i x x' hx vZ=>by
  match i with
  |0=>simp at hx vZ;subst hx;subst vZ;exact hd
  |1=>simp at hx vZ;subst hx;subst vZ;exact he
  |2=>simp at hx vZ;subst hx;subst vZ;exact hg
  |i+3=>simp at hx
theorem Contract.bGN{P:Program}{G:Nat->Option (IntKind×List Int)}{f:FuncId}{d d' e e' g g' k k':D}{rs:List D}(h:Contract P G f [d',e',g',k'] rs)(hd:zY d d')(he:zY e e')(hg:zY g g')(hk:zY k k'):Contract P G f [d,e,g,k] rs :=
 h.of rfl fun i x x' hx vZ=>by
  match i with
  |0=>simp at hx vZ;subst hx;subst vZ;exact hd
  |1=>simp at hx vZ;subst hx;subst vZ;exact he
  |2=>simp at hx vZ;subst hx;subst vZ;exact hg
  |3=>simp at hx vZ;subst hx;subst vZ;exact hk
  |i+4=>simp at hx
abbrev dG:=List D->Option (Prop×List D)
def kZ(P:Program)(G:Nat->Option (IntKind×List Int))(f:FuncId)(o:dG):Prop :=
 ∀ds g rs,o ds=some (g,rs)->g->Contract P G f ds rs/\tA P f
def callsOf(Fu:List (Nat×dG))(f:FuncId)(ds:List D):Option (Prop×List D):=match tlook Fu f with
 |some o=>o ds
 |none=>none
theorem kG{P:Program}{E:Env}(Fu:List (Nat×dG))(hC:E.C=callsOf Fu)(h:∀p∈Fu,kZ P E.glob p.1 p.2)
  (hx:∀f vs g rs,E.ext f vs=some (g,rs)->g->(∀v∈rs,v.oneCell'=true)/\∀w,(callFunc f vs.toArray).run P w=.ok (.value (resV rs)) w) (hF:E.ioF=(fun _=>[]):=by rfl):iT P E:=by
 refine⟨fun f ds g rs _ he hg=>?_,fun f p ps ds g rs he=>(by rw[hF]at he;cases he),hx⟩;rw[hC]at he;unfold callsOf at he;split at he
 ·rename_i o ho;exact h _ (tK ho) ds g rs he hg
 ·cases he
theorem aD{P:Program}{G:Nat->Option (IntKind×List Int)}:∀p∈([]:List (Nat×dG)),kZ P G p.1 p.2:=fun _ h=>by cases h
theorem aA{P:Program}{G:Nat->Option (IntKind×List Int)}{f:Nat}{o:dG}{Fu:List (Nat×dG)}(h:kZ P G f o)(ht:∀p∈Fu,kZ P G p.1 p.2):∀p∈(f,o) :: Fu,kZ P G p.1 p.2:=by
 intro p hp;rcases List.mem_cons.1 hp with rfl |hp
 ·exact h
 ·exact ht p hp
def oA(P:Program)(G:Nat->Option (IntKind×List Int))(f:FuncId)(o:dG):Prop :=
 ∀ds g rs,o ds=some (g,rs)->g->(∃Bz js,rs=Bz ++ js/\mQ P G f [0] ds Bz js)/\tA P f
def oY(aHW:List (Nat×dG))(r:FuncId->List D->Option (Prop×List D))(f:FuncId)(ds:List D):Option (Prop×List D):=match tlook aHW f with
 |some o=>o ds
 |none=>r f ds
def Je(aHW:List (Nat×dG))(f:FuncId):List Nat:=match tlook aHW f with
 |some _=>[0]
 |none=>[]
theorem kI{P:Program}{E:Env}(aHW Fu:List (Nat×dG))(hC:E.C=oY aHW (callsOf Fu))(hF:E.ioF=Je aHW)(hi:∀p∈aHW,oA P E.glob p.1 p.2)(h:∀p∈Fu,kZ P E.glob p.1 p.2)
  (hx:∀f vs g rs,E.ext f vs=some (g,rs)->g->(∀v∈rs,v.oneCell'=true)/\∀w,(callFunc f vs.toArray).run P w=.ok (.value (resV rs)) w):iT P E:=by
 refine⟨fun f ds g rs h0 he hg=>?_,fun f p ps ds g rs h0 he hg=>?_,hx⟩
 ·rw[hF]at h0;rw[hC]at he;unfold Je at h0;unfold oY at he;cases ht:tlook aHW f with
  |some o=>rw[ht]at h0;cases h0
  |none =>
   rw[ht]at he;simp only at he;unfold callsOf at he;split at he
   ·rename_i o ho;exact h _ (tK ho) ds g rs he hg
   ·cases he
 ·rw[hF]at h0;rw[hC]at he;unfold Je at h0;unfold oY at he;cases ht:tlook aHW f with
  |none=>rw[ht]at h0;cases h0
  |some o =>
   rw[ht]at h0 he;simp only at h0 he;cases h0;obtain⟨⟨Bz,js,h1,h2⟩,h3⟩:=hi _ (tK ht) ds g rs he hg;exact⟨Bz,js,h1,h2,h3⟩
theorem uW{P:Program}{G:Nat->Option (IntKind×List Int)}:∀p∈([]:List (Nat×dG)),oA P G p.1 p.2:=fun _ h=>by cases h
theorem kR{P:Program}{G:Nat->Option (IntKind×List Int)}{f:Nat}{o:dG}{Fu:List (Nat×dG)}(h:oA P G f o)(ht:∀p∈Fu,oA P G p.1 p.2):∀p∈(f,o) :: Fu,oA P G p.1 p.2:=by
 intro p hp;rcases List.mem_cons.1 hp with rfl |hp
 ·exact h
 ·exact ht p hp
theorem mQ.bGO{P:Program}{G:Nat->Option (IntKind×List Int)}{f:FuncId}{d:D}{ds ds' rs js:List D}(h:mQ P G f [0] (d :: ds') rs js)(hl:ds.length=ds'.length)
  (hd:∀(i:Nat) (x x':D),ds[i]?=some x->ds'[i]?=some x'->Ap x=false/\Ap x'=false/\zY x x'):mQ P G f [0] (d :: ds) rs js:=by
 refine⟨h.len,fun j i hj=>?_,fun Y w vs g hY hG hlen hargs wU=>?_⟩
 ·obtain⟨e,k,ns,off,n,e',k',lB,h1,h2,h3⟩:=h.io j i hj;have hi:i=0:=by
   match j with
   |0=>simp at hj;exact hj.symm
   |j+1=>simp at hj
  subst hi;exact⟨e,k,ns,off,n,e',k',lB,by simpa using h1,h2,h3⟩
 ·refine h.run Y w vs g hY hG (by simp at hlen ⊢;omega) (fun i x' v hi hv=>?_) wU
  match i with
  |0=>exact hargs 0 x' v (by simpa using hi) hv
  |i+1 =>
   have hi:ds'[i]?=some x':=by simpa using hi
   obtain⟨x,hx⟩:=aY (l:=ds) (i:=i) (by have:=aR hi;omega);obtain⟨h1,h2,h3⟩:=hd i x x' hx hi;exact Hv h2 (h3 Y w v (Wh h1 (hargs (i+1) x v (by simpa using hx) hv)))
def Yb(P:Program)(ext:FuncId->List Value->Option (Prop×List Value)):Prop:=∀f vs g rs,ext f vs=some (g,rs)->g->(∀v∈rs,v.oneCell'=true)/\∀w,(callFunc f vs.toArray).run P w=.ok (.value (resV rs)) w
end AI
namespace AI
open Go Go.RowKit
section
variable {R:Type} (E:Env) (J L:Nat->List KV->Option R)
def evalJ:Code->St->(Ex->St->Option R)->Option R
 | .skip,st,K=>K .normal st
 | .label _,st,K=>K .normal st
 | .region _ ops draw,st,K=>opsK E draw ops st.n ops.toList 0 [] st fun eI=>K .normal ⟨eI.fr,eI.hp,st.n+8*ops.size⟩
 | .seq a b,st,K=>evalJ a st fun ex eI=>match ex with
  | .normal=>match E.cut (keyOf b)with
   |some keep=>J (keyOf b) (canon E.n0 keep eI)
   |none=>evalJ b eI K
  | .exit i=>K (.exit i) eI
  | .ret=>K .ret eI
 | .cond c a b,st,K=>match c with
  | .tmp s=>match st.fr s with
   | .v (.one (.s (.sc (.bool t))))=>aB t (evalJ a ⟨xQ st.fr s (yJ (.bool true)),st.hp,st.n⟩ K) (evalJ b ⟨xQ st.fr s (yJ (.bool false)),st.hp,st.n⟩ K)
   |_=>none
  | .const (.bool t)=>aB t (evalJ a st K) (evalJ b st K)
  |_=>none
 | .block id c,st,K=>evalJ c st fun ex eI=>match ex with
  | .normal=>K .normal eI
  | .exit i=>bif bLX i id then K .normal eI else K (.exit i) eI
  | .ret=>K .ret eI
 | .exit id,st,K=>K (.exit id) st
 | .ret,st,K=>K .ret st
 | .loop c,st,_=>L (keyOf c) (canon E.n0 (E.keep (keyOf c)) st)
 | .scope c,st,K=>evalJ c st K
 |_,_,_=>none
def Wd(b:Code)(K:Ex->St->Option R)(ex:Ex)(eI:St):Option R:=match ex with
 | .normal=>match E.cut (keyOf b)with
  |some keep=>J (keyOf b) (canon E.n0 keep eI)
  |none=>evalJ E J L b eI K
 | .exit i=>K (.exit i) eI
 | .ret=>K .ret eI
def Mj(c:Code)(K:Ex->St->Option R)(ex:Ex)(eI:St):Option R:=match ex with
 | .normal=>L (keyOf c) (canon E.n0 (E.keep (keyOf c)) eI)
 | .exit i=>K (.exit i) eI
 | .ret=>K .ret eI
def findLoopJ(key:Nat):Code->(Ex->St->Option R)->Option (Code×(Ex->St->Option R))
 | .seq a b,K=>(findLoopJ key a (Wd E J L b K)).or (findLoopJ key b K)
 | .cond _ a b,K=>(findLoopJ key a K).or (findLoopJ key b K)
 | .block id c,K=>findLoopJ key c (Hr id K)
 | .loop c,K=>bif bLX (keyOf c) key then some (c,K)else findLoopJ key c (Mj E L c K)
 | .scope c,K=>findLoopJ key c K
 |_,_=>none
def jJ(key:Nat):Code->(Ex->St->Option R)->Option (Code×(Ex->St->Option R))
 | .seq a b,K=>bif bLX (keyOf b) key then some (b,K)else(jJ key a (Wd E J L b K)).or (jJ key b K)
 | .cond _ a b,K=>(jJ key a K).or (jJ key b K)
 | .block id c,K=>jJ key c (Hr id K)
 | .loop c,K=>jJ key c (Mj E L c K)
 | .scope c,K=>jJ key c K
 |_,_=>none
end
def loopKeys:Code->List Nat
 | .seq a b=>loopKeys a ++ loopKeys b
 | .cond _ a b=>loopKeys a ++ loopKeys b
 | .block _ c=>loopKeys c
 | .loop c=>keyOf c :: loopKeys c
 | .scope c=>loopKeys c
 |_=>[]
def eR(E:Env):Code->List Nat
 | .seq a b=>(match E.cut (keyOf b)with |some _=>[keyOf b] |none=>[]) ++ (eR E a ++ eR E b)
 | .cond _ a b=>eR E a ++ eR E b
 | .block _ c=>eR E c
 | .loop c=>eR E c
 | .scope c=>eR E c
 |_=>[]
theorem nodup_iff:∀{xs:List Nat},nodup xs=true↔xs.Nodup
 | []=>by simp[nodup]
 |x :: xs=>by
  have ih:=nodup_iff (xs:=xs);simp only[nodup,bMC,bNE,bQJ,ih];constructor
  ·rintro ⟨h1,h2⟩;refine⟨fun hm=>?_,h2⟩;have:xs.elem x=true:=List.elem_eq_true_of_mem hm;rw[this]at h1;cases h1
  ·rintro ⟨h1,h2⟩;refine⟨?_,h2⟩;cases hb:xs.elem x with
   |false=>rfl
   |true=>exact(h1 (List.mem_of_elem_eq_true hb)).elim
section
variable {R:Type} (E:Env)
theorem oV(key:Nat):∀(c:Code) (K:Ex->St->Option R),(findLoop E key c K).isSome=true↔key∈loopKeys c:=by
 intro c
 induction c with
 |seq a b wT wS =>
  intro K;simp only[findLoop,loopKeys,bMY,bRY,bNF,wT,wS]
 |cond cd a b wT wS =>
  intro K;simp only[findLoop,loopKeys,bMY,bRY,bNF,wT,wS]
 |block id c ih=>intro K;simp only[findLoop,loopKeys,ih]
 |scope c ih=>intro K;simp only[findLoop,loopKeys,ih]
 |loop c ih =>
  intro K;simp only[findLoop,loopKeys,bNC];cases hb:bLX (keyOf c) key with
  |true=>simp[(bMK hb)]
  |false =>
   have:key≠keyOf c:=fun h=>by subst h;rw[bQC]at hb;cases hb
   simp only[cond_false,ih,this,false_or]
 |_=>intro K;simp[findLoop,loopKeys]
theorem rA{key:Nat}:∀{c:Code},key∈eR E c->(E.cut key).isSome=true:=by
 intro c
 induction c with
 |seq a b wT wS =>
  intro h;simp only[eR,bMY]at h;rcases h with h |h |h
  ·split at h
   ·rename_i keep hk;simp at h;subst h;rw[hk];rfl
   ·cases h
  ·exact wT h
  ·exact wS h
 |cond cd a b wT wS =>
  intro h;simp only[eR,bMY]at h;exact h.elim wT wS
 |block id c ih=>intro h;exact ih h
 |scope c ih=>intro h;exact ih h
 |loop c ih=>intro h;exact ih h
 |_=>intro h;simp[eR]at h
theorem qZ{key:Nat}(hk:(E.cut key).isSome=true):∀(c:Code) (K:Ex->St->Option R),(dX E key c K).isSome=true↔key∈eR E c:=by
 intro c
 induction c with
 |seq a b wT wS =>
  intro K;simp only[dX,eR,bMY];cases hb:bLX (keyOf b) key with
  |true =>
   have:=bMK hb;subst this;cases hc:E.cut (keyOf b)with
   |none=>rw[hc]at hk;cases hk
   |some x=>simp
  |false =>
   have hn:key≠keyOf b:=fun h=>by subst h;rw[bQC]at hb;cases hb
   simp only[cond_false,bRY,bNF,wT,wS];constructor
   ·intro h;exact .inr h
   ·rintro (h |h)
    ·split at h
     ·simp at h;exact(hn h).elim
     ·cases h
    ·exact h
 |cond cd a b wT wS =>
  intro K;simp only[dX,eR,bMY,bRY,bNF,wT,wS]
 |block id c ih=>intro K;simp only[dX,eR,ih]
 |scope c ih=>intro K;simp only[dX,eR,ih]
 |loop c ih=>intro K;simp only[dX,eR,ih]
 |_=>intro K;simp[dX,eR]
theorem Fb{α:Type}{x y:Option α}(h:x.isSome=true):x.or y=x:=by cases x <;> simp_all
theorem Ak{α:Type}{x y:Option α}(h:¬x.isSome=true):x.or y=y:=by cases x <;> simp_all
structure Sub(c0:Code)(K0:Ex->St->Option R)(c:Code)(K:Ex->St->Option R):Prop where
 lp:∀key,key∈loopKeys c->findLoop E key c0 K0=findLoop E key c K
 ct:∀key,key∈eR E c->dX E key c0 K0=dX E key c K
 dl:(loopKeys c).Nodup
 dc:(eR E c).Nodup
variable {E} {c0:Code} {K0:Ex->St->Option R}
theorem Sub.seq1{a b:Code}{K:Ex->St->Option R}(h:Sub E c0 K0 (.seq a b) K):Sub E c0 K0 a (Sv E b K):=by
 have hl:=h.dl;have hc:=h.dc;simp only[loopKeys]at hl;simp only[eR]at hc;refine⟨fun key hk=>?_,fun key hk=>?_,(List.nodup_append.1 hl).1,(List.nodup_append.1 (List.nodup_append.1 hc).2.1).1⟩
 ·rw[h.lp key (by simp only[loopKeys,bMY];exact .inl hk),findLoop];exact Fb ((oV E key a _).2 hk)
 ·rw[h.ct key (by simp only[eR,bMY];exact .inr (.inl hk)),dX];have hs:=rA E hk;cases hb:bLX (keyOf b) key with
  |true =>
   exfalso;have:=bMK hb;subst this;cases hx:E.cut (keyOf b)with
   |none=>rw[hx]at hs;cases hs
   |some x =>
    rw[hx]at hc;exact(List.nodup_append.1 hc).2.2 (keyOf b) (by simp) (keyOf b) (List.mem_append.2 (.inl hk)) rfl
  |false =>
   simp only[cond_false];exact Fb ((qZ E hs a _).2 hk)
theorem Sub.Sw{a b:Code}{K:Ex->St->Option R}(h:Sub E c0 K0 (.seq a b) K):Sub E c0 K0 b K:=by
 have hl:=h.dl;have hc:=h.dc;simp only[loopKeys]at hl;simp only[eR]at hc;refine⟨fun key hk=>?_,fun key hk=>?_,(List.nodup_append.1 hl).2.1,(List.nodup_append.1 (List.nodup_append.1 hc).2.1).2.1⟩
 ·rw[h.lp key (by simp only[loopKeys,bMY];exact .inr hk),findLoop];refine Ak fun hx=>?_
  exact(List.nodup_append.1 hl).2.2 key ((oV E key a _).1 hx) key hk rfl
 ·rw[h.ct key (by simp only[eR,bMY];exact .inr (.inr hk)),dX];have hs:=rA E hk;cases hb:bLX (keyOf b) key with
  |true =>
   exfalso;have:=bMK hb;subst this;cases hx:E.cut (keyOf b)with
   |none=>rw[hx]at hs;cases hs
   |some x =>
    rw[hx]at hc;exact(List.nodup_append.1 hc).2.2 (keyOf b) (by simp) (keyOf b) (List.mem_append.2 (.inr hk)) rfl
  |false =>
   simp only[cond_false];refine Ak fun hx=>?_
   exact(List.nodup_append.1 (List.nodup_append.1 hc).2.1).2.2 key ((qZ E hs a _).1 hx) key hk rfl
theorem Sub.Qz{cd:Operand}{a b:Code}{K:Ex->St->Option R}(h:Sub E c0 K0 (.cond cd a b) K):Sub E c0 K0 a K:=by
 have hl:=h.dl;have hc:=h.dc;simp only[loopKeys]at hl;simp only[eR]at hc;refine⟨fun key hk=>?_,fun key hk=>?_,(List.nodup_append.1 hl).1,(List.nodup_append.1 hc).1⟩
 ·rw[h.lp key (by simp only[loopKeys,bMY];exact .inl hk),findLoop];exact Fb ((oV E key a _).2 hk)
 ·rw[h.ct key (by simp only[eR,bMY];exact .inl hk),dX];exact Fb ((qZ E (rA E hk) a _).2 hk)
theorem Sub.Qy{cd:Operand}{a b:Code}{K:Ex->St->Option R}(h:Sub E c0 K0 (.cond cd a b) K):Sub E c0 K0 b K:=by
 have hl:=h.dl;have hc:=h.dc;simp only[loopKeys]at hl;simp only[eR]at hc;refine⟨fun key hk=>?_,fun key hk=>?_,(List.nodup_append.1 hl).2.1,(List.nodup_append.1 hc).2.1⟩
 ·rw[h.lp key (by simp only[loopKeys,bMY];exact .inr hk),findLoop];refine Ak fun hx=>?_
  exact(List.nodup_append.1 hl).2.2 key ((oV E key a _).1 hx) key hk rfl
 ·rw[h.ct key (by simp only[eR,bMY];exact .inr hk),dX];refine Ak fun hx=>?_
  exact(List.nodup_append.1 hc).2.2 key ((qZ E (rA E hk) a _).1 hx) key hk rfl
theorem Sub.block{id:Nat}{c:Code}{K:Ex->St->Option R}(h:Sub E c0 K0 (.block id c) K):Sub E c0 K0 c (Hr id K) :=
 ⟨fun key hk=>h.lp key hk,fun key hk=>h.ct key hk,h.dl,h.dc⟩
theorem Sub.scope{c:Code}{K:Ex->St->Option R}(h:Sub E c0 K0 (.scope c) K):Sub E c0 K0 c K :=
 ⟨fun key hk=>h.lp key hk,fun key hk=>h.ct key hk,h.dl,h.dc⟩
theorem Sub.loop{c:Code}{K:Ex->St->Option R}(h:Sub E c0 K0 (.loop c) K):Sub E c0 K0 c (Km E c K):=by
 have hl:=h.dl;simp only[loopKeys,bQJ]at hl;refine⟨fun key hk=>?_,fun key hk=>h.ct key hk,hl.2,h.dc⟩;rw[h.lp key (by simp only[loopKeys,bNC];exact .inr hk),findLoop];cases hb:bLX (keyOf c) key with
 |true=>have:=bMK hb;subst this;exact(hl.1 hk).elim
 |false=>rfl
def Gu(E:Env)(c0:Code)(K0:Ex->St->Option R)(key:Nat)(l:List KV):Option R :=
 match findLoop E key c0 K0 with
 |some (b,K)=>fix (roundOf (evalCode E) E.n0 (E.keep key) b K) l
 |none=>none
def Js(E:Env)(c0:Code)(K0:Ex->St->Option R)(key:Nat)(l:List KV):Option R :=
 match dX E key c0 K0,E.cut key with
 |some (b,K),some keep=>yC key l fun l=>evalCode E b (mk E.n0 keep l) K
 |_,_=>none
theorem Sub.aCY{c:Code}{K:Ex->St->Option R}(h:Sub E c0 K0 (.loop c) K)(l:List KV):Gu E c0 K0 (keyOf c) l=fix (roundOf (evalCode E) E.n0 (E.keep (keyOf c)) c K) l:=by
 unfold Gu;rw[h.lp (keyOf c) (by simp[loopKeys]),findLoop,bQC];rfl
theorem Sub.aFG{a b:Code}{K:Ex->St->Option R}(h:Sub E c0 K0 (.seq a b) K){keep:List Nat}(hk:E.cut (keyOf b)=some keep)(l:List KV):Js E c0 K0 (keyOf b) l=evalCode E b (AI.mk E.n0 keep l) K:=by
 unfold Js;rw[h.ct (keyOf b) (by simp[eR,hk]),dX,bQC,hk];rfl
theorem Av(hr:∀k,E.roll k=none):∀(c:Code) (K:Ex->St->Option R),Sub E c0 K0 c K->∀st,evalJ E (Js E c0 K0) (Gu E c0 K0) c st K=evalCode E c st K:=by
 intro c
 induction c with
 |seq a b wT wS =>
  intro K h st;simp only[evalJ];have e:(fun(ex:Ex) (eI:St)=>match ex with
   | .normal=>match E.cut (keyOf b)with
    |some keep=>Js E c0 K0 (keyOf b) (canon E.n0 keep eI)
    |none=>evalJ E (Js E c0 K0) (Gu E c0 K0) b eI K
   | .exit i=>K (.exit i) eI
   | .ret=>K .ret eI)=Sv E b K:=by
   funext ex eI;unfold Sv;cases ex with
   |normal =>
    cases hk:E.cut (keyOf b)with
    |some keep=>simp only[];rw[h.aFG hk];rfl
    |none=>simp only[];exact wS K h.Sw eI
   |exit i=>rfl
   |ret=>rfl
  rw[e,wT _ h.seq1 st];rfl
 |cond cd a b wT wS =>
  intro K h st;simp only[evalJ,evalCode];have ha:=wT K h.Qz;have hb:=wS K h.Qy;simp only[ha,hb];rfl
 |block id c ih =>
  intro K h st;exact ih _ h.block st
 |loop c ih =>
  intro K h st;simp only[evalJ,evalCode,hr];rw[h.aCY]
 |region id ops draw=>intro K h st;rfl
 |skip=>intro K h st;rfl
 |label l=>intro K h st;rfl
 |exit i=>intro K h st;rfl
 |ret=>intro K h st;rfl
 |rangeFunc f ps x y _ _=>intro K h st;rfl
 |scope c ih=>intro K h st;exact ih _ h.scope st
 |goto l=>intro K h st;rfl
 |refuse bCR=>intro K h st;rfl
theorem Ph(hr:∀k,E.roll k=none){a b:Code}{K:Ex->St->Option R}(h:Sub E c0 K0 (.seq a b) K):Wd E (Js E c0 K0) (Gu E c0 K0) b K=Sv E b K:=by
 funext ex eI;unfold Wd Sv;cases ex with
 |normal =>
  cases hk:E.cut (keyOf b)with
  |some keep=>simp only[];rw[h.aFG hk];rfl
  |none=>simp only[];exact Av hr b K h.Sw eI
 |exit i=>rfl
 |ret=>rfl
theorem Ch{c:Code}{K:Ex->St->Option R}(h:Sub E c0 K0 (.loop c) K):Mj E (Gu E c0 K0) c K=Km E c K:=by
 funext ex eI;unfold Mj Km;cases ex with
 |normal=>exact h.aCY _
 |exit i=>rfl
 |ret=>rfl
theorem Na(hr:∀k,E.roll k=none)(key:Nat):∀(c:Code) (K:Ex->St->Option R),Sub E c0 K0 c K->findLoopJ E (Js E c0 K0) (Gu E c0 K0) key c K=findLoop E key c K:=by
 intro c
 induction c with
 |seq a b wT wS =>
  intro K h;rw[findLoopJ,findLoop,Ph hr h,wT _ h.seq1,wS _ h.Sw]
 |cond cd a b wT wS =>
  intro K h;rw[findLoopJ,findLoop,wT _ h.Qz,wS _ h.Qy]
 |block id c ih=>intro K h;rw[findLoopJ,findLoop,ih _ h.block]
 |scope c ih=>intro K h;rw[findLoopJ,findLoop,ih _ h.scope]
 |loop c ih=>intro K h;rw[findLoopJ,findLoop,Ch h,ih _ h.loop]
 |_=>intro K h;rfl
theorem Qn(hr:∀k,E.roll k=none)(key:Nat):∀(c:Code) (K:Ex->St->Option R),Sub E c0 K0 c K->jJ E (Js E c0 K0) (Gu E c0 K0) key c K=dX E key c K:=by
 intro c
 induction c with
 |seq a b wT wS =>
  intro K h;rw[jJ,dX,Ph hr h,wT _ h.seq1,wS _ h.Sw]
 |cond cd a b wT wS =>
  intro K h;rw[jJ,dX,wT _ h.Qz,wS _ h.Qy]
 |block id c ih=>intro K h;rw[jJ,dX,ih _ h.block]
 |scope c ih=>intro K h;rw[jJ,dX,ih _ h.scope]
 |loop c ih=>intro K h;rw[jJ,dX,Ch h,ih _ h.loop]
 |_=>intro K h;rfl
theorem Sub.aPO:∀(c:Code) (K:Ex->St->Option R),Sub E c0 K0 c K->∀{key:Nat} {b:Code} {K':Ex->St->Option R},findLoop E key c K=some (b,K')->key=keyOf b/\Sub E c0 K0 (.loop b) K':=by
 intro c
 induction c with
 |seq a b wT wS =>
  intro K h key b' K' hf;rw[findLoop]at hf;rcases Option.or_eq_some_iff.1 hf with hf |⟨_,hf⟩
  ·exact wT _ h.seq1 hf
  ·exact wS _ h.Sw hf
 |cond cd a b wT wS =>
  intro K h key b' K' hf;rw[findLoop]at hf;rcases Option.or_eq_some_iff.1 hf with hf |⟨_,hf⟩
  ·exact wT _ h.Qz hf
  ·exact wS _ h.Qy hf
 |block id c ih=>intro K h key b' K' hf;exact ih _ h.block hf
 |scope c ih=>intro K h key b' K' hf;exact ih _ h.scope hf
 |loop c ih =>
  intro K h key b' K' hf;rw[findLoop]at hf;cases hb:bLX (keyOf c) key with
  |true =>
   rw[hb]at hf;cases hf;exact⟨(bMK hb).symm,h⟩
  |false=>rw[hb]at hf;exact ih _ h.loop hf
 |_=>intro K h key b' K' hf;simp[findLoop]at hf
theorem Sub.aVM:∀(c:Code) (K:Ex->St->Option R),Sub E c0 K0 c K->∀{key:Nat} {b:Code} {K':Ex->St->Option R},dX E key c K=some (b,K')->Sub E c0 K0 b K':=by
 intro c
 induction c with
 |seq a b wT wS =>
  intro K h key b' K' hf;rw[dX]at hf;cases hb:bLX (keyOf b) key with
  |true=>rw[hb]at hf;cases hf;exact h.Sw
  |false =>
   rw[hb]at hf;rcases Option.or_eq_some_iff.1 hf with hf |⟨_,hf⟩
   ·exact wT _ h.seq1 hf
   ·exact wS _ h.Sw hf
 |cond cd a b wT wS =>
  intro K h key b' K' hf;rw[dX]at hf;rcases Option.or_eq_some_iff.1 hf with hf |⟨_,hf⟩
  ·exact wT _ h.Qz hf
  ·exact wS _ h.Qy hf
 |block id c ih=>intro K h key b' K' hf;exact ih _ h.block hf
 |scope c ih=>intro K h key b' K' hf;exact ih _ h.scope hf
 |loop c ih=>intro K h key b' K' hf;exact ih _ h.loop hf
 |_=>intro K h key b' K' hf;simp[dX]at hf
end
def uU(E:Env)(c:Code):Bool:=nodup (loopKeys c)&&nodup (eR E c)
theorem sub_self{E:Env}{c:Code}{K:Ex->St->Option (List D)}(h:uU E c=true):Sub E c K c K:=by
 unfold uU at h;rw[bMC,nodup_iff,nodup_iff]at h;exact⟨fun _ _=>rfl,fun _ _=>rfl,h.1,h.2⟩
section
variable (E:Env) (fn:Func) (c:Code)
def aBS(J L:Nat->List KV->Option (List D))(ds:List D):Option (List D) :=
 evalJ E J L c ⟨Rh ds,argHp 0 ds,E.n0⟩ (oM E fn)
def Sz(J L:Nat->List KV->Option (List D))(key:Nat)(l:List KV):Option (List D) :=
 match findLoopJ E J L key c (oM E fn)with
 |some (b,K)=>evalJ E J L b (mk E.n0 (E.keep key) l) fun ex eI=>match ex with
  | .normal=>L key (canon E.n0 (E.keep key) eI)
  | .exit i=>K (.exit i) eI
  | .ret=>K .ret eI
 |none=>none
def aPE(J L:Nat->List KV->Option (List D))(key:Nat)(l:List KV):Option (List D) :=
 match jJ E J L key c (oM E fn),E.cut key with
 |some (b,K),some keep=>evalJ E J L b (mk E.n0 keep l) K
 |_,_=>none
end
variable {E:Env} {fn:Func} {c:Code}
theorem Hm:cutAt E fn c=Js E c (oM E fn):=by
 funext key l;unfold cutAt Js;cases dX E key c (oM E fn) <;> cases E.cut key <;> rfl
theorem Ci:Cj E fn c=Gu E c (oM E fn):=by
 funext key l;unfold Cj Gu;cases findLoop E key c (oM E fn) <;> rfl
theorem aFH(E:Env)(fn:Func)(c:Code):∃f:Nat->List KV->Option (List D),f=cutAt E fn c:=⟨_,rfl⟩
def kV(E:Env)(fn:Func)(c:Code):Nat->List KV->Option (List D):=Classical.choose (aFH E fn c)
theorem Uf:kV E fn c=cutAt E fn c:=Classical.choose_spec (aFH E fn c)
theorem aCZ(E:Env)(fn:Func)(c:Code):∃f:Nat->List KV->Option (List D),f=Cj E fn c:=⟨_,rfl⟩
def nO(E:Env)(fn:Func)(c:Code):Nat->List KV->Option (List D):=Classical.choose (aCZ E fn c)
theorem Tj:nO E fn c=Cj E fn c:=Classical.choose_spec (aCZ E fn c)
theorem aEN(hr:E.roll=fun _=>none)(h:uU E c=true)(ds:List D):aF E fn c ds=aBS E fn c (kV E fn c) (nO E fn c) ds:=by
 rw[Uf,Tj,Hm,Ci];exact(Av (c0:=c) (K0:=oM E fn) (fun k=>by rw[hr]) c (oM E fn) (sub_self h) _).symm
theorem aDA(hr:E.roll=fun _=>none)(h:uU E c=true)(key:Nat)(l:List KV):nO E fn c key l=Sz E fn c (kV E fn c) (nO E fn c) key l:=by
 rw[Uf,Tj,Yp,Hm,Ci];unfold Lz Sz;have hs:=sub_self (K:=oM E fn) h;have e:=Na (c0:=c) (K0:=oM E fn) (fun k=>by rw[hr]) key c (oM E fn) hs;rw[e];cases hf:findLoop E key c (oM E fn)with
 |none=>rfl
 |some p =>
  obtain⟨b,K⟩:=p;simp only[];obtain⟨rfl,hb⟩:=Sub.aPO c (oM E fn) hs hf;have e2:(fun(ex:Ex) (eI:St)=>match ex with
   | .normal=>Gu E c (oM E fn) (keyOf b) (canon E.n0 (E.keep (keyOf b)) eI)
   | .exit i=>K (.exit i) eI
   | .ret=>K .ret eI)=Km E b K:=Ch hb
  rw[e2];exact(Av (c0:=c) (K0:=oM E fn) (fun k=>by rw[hr]) b _ hb.loop _).symm
theorem aJT(hr:E.roll=fun _=>none)(h:uU E c=true)(key:Nat)(l:List KV):kV E fn c key l=aPE E fn c (kV E fn c) (nO E fn c) key l:=by
 rw[Uf,Tj,aFF,Hm,Ci];unfold Nl aPE;have hs:=sub_self (K:=oM E fn) h;have e:=Qn (c0:=c) (K0:=oM E fn) (fun k=>by rw[hr]) key c (oM E fn) hs;rw[e];cases hf:dX E key c (oM E fn)with
 |none=>rfl
 |some p =>
  obtain⟨b,K⟩:=p;cases hc:E.cut key with
  |none=>rfl
  |some keep=>exact(Av (c0:=c) (K0:=oM E fn) (fun k=>by rw[hr]) b _ (Sub.aVM c _ hs hf) _).symm
def Nk(E:Env)(c:Code):Prop:=(E.roll=fun _=>none)/\uU E c=true
theorem nk{E:Env}{c:Code}(h:uU E c=true:=by kernel_rfl)(hr:E.roll=fun _=>none:=by rfl):Nk E c:=⟨hr,h⟩
section
variable {E:Env} {fn:Func} {c:Code} {key:Nat} {l:List KV} {ds:List D} {r:Option (List D)} (h:Nk E c)
include h
theorem eJ(e:aBS E fn c (kV E fn c) (nO E fn c) ds=r:=by kernel_rfl):aF E fn c ds=r:=(aEN h.1 h.2 ds).trans e
theorem lJ(e:Sz E fn c (kV E fn c) (nO E fn c) key l=r:=by kernel_rfl):nO E fn c key l=r:=(aDA h.1 h.2 key l).trans e
theorem cJ(e:aPE E fn c (kV E fn c) (nO E fn c) key l=r:=by kernel_rfl):kV E fn c key l=r:=(aJT h.1 h.2 key l).trans e
end
end AI
namespace AI
open Go Go.RowKit
structure kN(α:Type) where
 put:α->D
 get:D->Option α
 le:∀{d x},get d=some x->zY d (put x)
def pI(k:IntKind):kN (List Int):=⟨fun a=>.s (.ints k a),dI k,aVF⟩
def pN(k:IntKind):kN Int:=⟨fun n=>.s (.sc (.int k n)),dN k,aVD⟩
def dIO(e:TypeId)(k:IntKind):D->Option (List Int×Nat×Nat)
 | .io e' k' ns off n=>if _h:e=e'/\k=k' then some (ns,off,n)else none
 |_=>none
theorem Nj{e:TypeId}{k:IntKind}{d:D}{x:List Int×Nat×Nat}(h:dIO e k d=some x):d=.io e k x.1 x.2.1 x.2.2:=by
 unfold dIO at h;split at h
 ·split at h
  ·rename_i hk;obtain⟨rfl,rfl⟩:=hk;cases h;rfl
  ·cases h
 ·cases h
def Aj(e:TypeId)(k:IntKind):kN (List Int×Nat×Nat):=⟨fun x=>.io e k x.1 x.2.1 x.2.2,dIO e k,fun h=>by rw[Nj h];exact zY.refl _⟩
def pB:kN Bool:=⟨fun b=>.s (.sc (.bool b)),dB,aVH⟩
def dF(k:FloatKind):D->Option Nat
 | .s (.sc (.float k' b))=>if _h:k=k' then some b else none
 |_=>none
theorem aVG{k:FloatKind}{d:D}{n:Nat}(h:dF k d=some n):zY d (.s (.sc (.float k n))):=by
 unfold dF at h;split at h
 ·split at h
  ·rename_i hk;cases h;subst hk;exact zY.refl _
  ·cases h
 ·cases h
def pF(k:FloatKind):kN Nat:=⟨fun b=>.s (.sc (.float k b)),dF k,aVG⟩
class aAC{α:Type}(p:kN α):Prop where
 no:∀{d x},p.get d=some x->Ap d=false/\Ap (p.put x)=false
instance {k:IntKind}:aAC (pI k):=⟨fun {d x} h=>⟨by cases d <;> first |rfl | (simp[pI,dI]at h),rfl⟩⟩
instance {k:IntKind}:aAC (pN k):=⟨fun {d x} h=>⟨by cases d <;> first |rfl | (simp[pN,dN]at h),rfl⟩⟩
instance:aAC pB:=⟨fun {d x} h=>⟨by cases d <;> first |rfl | (simp[pB,dB]at h),rfl⟩⟩
structure SPar(α:Type) where
 n:Nat
 put:α->List S
 get:List S->Option α
 le:∀{d x},get d=some x->d.length=n/\(put x).length=n/\∀(i:Nat) (s s':S),d[i]?=some s->(put x)[i]?=some s'->∀X w v,mW X w s v->mW X w s' v
def aXL{α:Type}(p:kN α)(put:α->S)(h:∀x,p.put x=.s (put x)):SPar α where
 n:=1
 put x:=[put x]
 get
  | [s]=>p.get (.s s)
  |_=>none
 le:=by
  intro d x hd
  match d,hd with
  | [s],hd =>
   refine⟨rfl,rfl,fun i s1 s2 h1 h2=>?_⟩
   match i with
   |0 =>
    simp at h1 h2;subst h1;subst h2;intro X w v hr;have:=p.le hd X w v hr;rw[h]at this;exact this
   |i+1=>simp at h1
def sI(k:IntKind):SPar (List Int):=aXL (pI k) (fun a=>.ints k a) fun _=>rfl
def sN(k:IntKind):SPar Int:=aXL (pN k) (fun n=>.sc (.int k n)) fun _=>rfl
def sB:SPar Bool:=aXL pB (fun b=>.sc (.bool b)) fun _=>rfl
def SPar.pair{α β:Type}(p:SPar α)(q:SPar β):SPar (α×β) where
 n:=p.n+q.n
 put x:=p.put x.1 ++ q.put x.2
 get d:=match p.get (d.take p.n),q.get (d.drop p.n)with
  |some a,some b=>some (a,b)
  |_,_=>none
 le:=by
  intro d x h;split at h
  ·rename_i a b ha hb;cases h;obtain⟨a1,a2,a3⟩:=p.le ha;obtain⟨b1,b2,b3⟩:=q.le hb;simp only[bOM,bPV]at a1 b1;have aVQ:(p.put (a,b).fst).length=p.n:=a2;refine⟨by omega,by simp[a2,b2],fun i s s' h1 h2=>?_⟩
   by_cases hi:i<p.n
   ·rw[List.getElem?_append_left (by rw[aVQ];exact hi)]at h2;exact a3 i s s' (by rw[bMB hi];exact h1) h2
   ·rw[List.getElem?_append_right (by rw[aVQ];omega),aVQ]at h2;exact b3 (i-p.n) s s' (by rw[bMI,show p.n+(i-p.n)=i from by omega];exact h1) h2
  ·cases h
def pG{α:Type}(p:SPar α):kN α where
 put x:=.agg (p.put x)
 get
  | .agg cs=>p.get cs
  |_=>none
 le:=by
  intro d x h
  match d,h with
  | .agg cs,h =>
   obtain⟨h1,h2,h3⟩:=p.le h;rintro Y w v ⟨arr,rfl,hl,hr⟩;refine⟨arr,rfl,by omega,fun i s u hs hu=>?_⟩;obtain⟨s0,Iy⟩:=aY (l:=cs) (i:=i) (by have:=aR hs;omega);exact h3 i s0 s Iy hs Y w u (hr i s0 u Iy hu)
def vW(d d':D):Prop:=(d'=d)\/(iV d'=false/\((∃e k ns,d=.own e k ns/\d'=.s (.ints k ns))\/(iV d=false/\zY d d')))
theorem vW.refl(d:D):vW d d:=.inl rfl
theorem vW.own(e:TypeId)(k:IntKind)(ns:List Int):vW (.own e k ns) (.s (.ints k ns)):=.inr ⟨rfl,.inl ⟨e,k,ns,rfl,rfl⟩⟩
theorem vW.nil(k:IntKind):vW (.s (.sc (.slice none 0 0))) (.s (.ints k [])) :=
 .inr ⟨rfl,.inr ⟨rfl,fun Y w v h=>by obtain⟨rfl,_⟩:=h;exact⟨none,0,rfl,bLW _,fun i n hn=>by simp at hn⟩⟩⟩
def yN(s s':S):Prop:=∀X w v,mW X w s v->mW X w s' v
theorem yN.refl(s:S):yN s s:=fun _ _ _ h=>h
theorem yN.nil(k:IntKind):yN (.sc (.slice none 0 0)) (.ints k []):=fun X w v h=>by
 obtain⟨rfl,_⟩:=h;exact⟨none,0,rfl,bLW _,fun i n hn=>by simp at hn⟩
inductive uH:List S->List S->Prop where
 |nil:uH [] []
 |cons {s s':S} {l l':List S}:yN s s'->uH l l'->uH (s :: l) (s' :: l')
theorem uH.refl:∀l,uH l l
 | []=>.nil
 |s :: l=>.cons (yN.refl s) (uH.refl l)
theorem uH.len{l l':List S}(h:uH l l'):l.length=l'.length:=by induction h with |nil=>rfl |cons _ _ ih=>simp[ih]
theorem uH.at{l l':List S}(h:uH l l'):∀{i:Nat} {s s':S},l[i]?=some s->l'[i]?=some s'->yN s s':=by
 induction h with
 |nil=>intro i s s' h;simp at h
 |cons hs _ ih =>
  intro i s s' h1 h2;cases i with
  |zero=>simp at h1 h2;subst h1;subst h2;exact hs
  |succ i=>simp at h1 h2;exact ih h1 h2
theorem vW.agg{l l':List S}(h:uH l l'):vW (.agg l) (.agg l') :=
 .inr ⟨rfl,.inr ⟨rfl,fun Y w v hv=>by
  obtain⟨arr,rfl,hl,hr⟩:=hv;refine⟨arr,rfl,by rw[<-h.len];exact hl,fun i s u hs hu=>?_⟩;obtain⟨s0,Iy⟩:=aY (l:=l) (i:=i) (by have:=aR hs;rw[h.len];exact this);exact h.at Iy hs Y w u (hr i s0 u Iy hu)⟩⟩
inductive fP:List D->List D->Prop where
 |nil:fP [] []
 |cons {s s':D} {l l':List D}:vW s s'->fP l l'->fP (s :: l) (s' :: l')
theorem fP.refl:∀l,fP l l
 | []=>.nil
 |s :: l=>.cons (vW.refl s) (fP.refl l)
theorem fP.len{l l':List D}(h:fP l l'):l.length=l'.length:=by induction h with |nil=>rfl |cons _ _ ih=>simp[ih]
theorem fP.at{l l':List D}(h:fP l l'):∀{i:Nat} {s s':D},l[i]?=some s->l'[i]?=some s'->vW s s':=by
 induction h with
 |nil=>intro i s s' h;simp at h
 |cons hs _ ih =>
  intro i s s' h1 h2;cases i with
  |zero=>simp at h1 h2;subst h1;subst h2;exact hs
  |succ i=>simp at h1 h2;exact ih h1 h2
theorem Contract.less{P:Program}{G:Nat->Option (IntKind×List Int)}{f:FuncId}{ds rs aIF:List D}(h:Contract P G f ds rs)(hr:fP rs aIF):Contract P G f ds aIF:=by
 intro Y w vs hY hG hlen hargs;refine(h Y w vs hY hG hlen hargs).mono ?_;rintro e w' ⟨vJ,he,hb,g,hl,wU,Tp⟩;have pZ:∀{i:Nat} {d d':D},rs[i]?=some d->aIF[i]?=some d'->iV d'=true->d'=d:=by
  intro i d d' h1 h2 ho;rcases hr.at h1 h2 with h3 |⟨h3,_⟩
  ·exact h3
  ·rw[h3]at ho;cases ho
 have sF:∀{i:Nat} {d':D},aIF[i]?=some d'->∃d,rs[i]?=some d:=fun {i d'} h=>aY (l:=rs) (i:=i) (by have:=aR h;rw[hr.len];exact this)
 have aNY:∀b,(Y b\/∃(j:Nat) (d':D),aIF[j]?=some d'/\iV d'=true/\g j=b)->(Y b\/∃(j:Nat) (d':D),rs[j]?=some d'/\iV d'=true/\g j=b):=by
  rintro b (hb |⟨j,d',h1,h2,h3⟩)
  ·exact .inl hb
  ·obtain⟨d,hd⟩:=sF h1;have:=pZ hd h1 h2;subst this;exact .inr ⟨j,d',hd,h2,h3⟩
 refine⟨vJ,he,hb,g,by rw[<-hr.len];exact hl,?_,?_⟩
 ·intro i j d d' h1 h2 h3 h4 h5;obtain⟨e1,Zc⟩:=sF h1;obtain⟨e2,aLU⟩:=sF h2;have q1:=pZ Zc h1 h3;have q2:=pZ aLU h2 h4;subst q1;subst q2;exact wU i j _ _ Zc aLU h3 h4 h5
 ·intro i d' v h1 hv;obtain⟨d,hd⟩:=sF h1;have aWU:=Tp i d v hd hv;have aOG:∀(X:Nat->Prop),(∀b,X b->(Y b\/∃(j:Nat) (d':D),rs[j]?=some d'/\iV d'=true/\g j=b))->fV (fun b=>Y b\/∃(j:Nat) (d':D),rs[j]?=some d'/\iV d'=true/\g j=b) w' X w' :=
   fun X hX=>⟨bLW _,fun b _ hn=>⟨rfl,fun hx=>hn (hX b hx)⟩⟩
  have bDX:∀{x:D},iV x=false->lK (fun b=>Y b\/∃(j:Nat) (d':D),rs[j]?=some d'/\iV d'=true/\g j=b) w' x v->lK (fun b=>Y b\/∃(j:Nat) (d':D),aIF[j]?=some d'/\iV d'=true/\g j=b) w' x v :=
   fun _ hx=>hx.later (aOG _ aNY)
  have aTM:∀{x:D},iV x=false->(match x with
   | .own e k ns=>Lc w.heap.size w' (g i) e k ns v
   |d=>lK (fun b=>Y b\/∃(j:Nat) (d':D),rs[j]?=some d'/\iV d'=true/\g j=b) w' d v)->lK (fun b=>Y b\/∃(j:Nat) (d':D),rs[j]?=some d'/\iV d'=true/\g j=b) w' x v:=by
   intro x hx hm;cases x with
   |own e k ns=>cases hx
   |s x=>exact hm
   |rows a b c=>exact hm
   |agg cs=>exact hm
   |io=>exact hm
   |back=>exact hm
  have Xe:∀{x:D},iV x=false->lK (fun b=>Y b\/∃(j:Nat) (d':D),aIF[j]?=some d'/\iV d'=true/\g j=b) w' x v->(match x with
   | .own e k ns=>Lc w.heap.size w' (g i) e k ns v
   |d=>lK (fun b=>Y b\/∃(j:Nat) (d':D),aIF[j]?=some d'/\iV d'=true/\g j=b) w' d v):=by
   intro x hx hm;cases x with
   |own e k ns=>cases hx
   |s x=>exact hm
   |rows a b c=>exact hm
   |agg cs=>exact hm
   |io=>exact hm
   |back=>exact hm
  rcases hr.at hd h1 with rfl |⟨h3,⟨e0,k,ns,rfl,rfl⟩ |⟨h4,h5⟩⟩
  ·cases aLQ:iV d' with
   |true =>
    cases d' with
    |own e k ns=>exact aWU
    |s x=>cases aLQ
    |io=>cases aLQ
    |back=>cases aLQ
    |rows a b c=>cases aLQ
    |agg cs=>cases aLQ
   |false=>exact Xe aLQ (bDX aLQ (aTM aLQ aWU))
  ·obtain⟨arr,cap,Yw,hbg,hh,aAO,hn1b,aTQ,Qk⟩:=aWU;refine⟨_,_,Yw,aAO,fun j n hj=>⟨g i,0,rfl,?_,?_,?_⟩⟩
   ·exact(Array.getElem?_eq_some_iff.1 hh).1
   ·rintro (hy |⟨j',d',q1,q2,q3⟩)
    ·have:=hY _ hy;omega
    ·obtain⟨d2,aQV⟩:=sF q1;have:=pZ aQV q1 q2;subst this;have:=wU j' i _ _ aQV hd q2 rfl q3;subst this;rw[h1]at q1;cases q1;cases q2
   ·rw[cell_of_row w' (g i) _ arr e0 (0,0) hh];simpa using Qk j n hj
  ·exact Xe h3 (h5 _ _ _ (bDX h4 (aTM h4 aWU)))
def orc0(r:Prop×List D):dG
 | []=>some r
 |_=>none
def orc1{α:Type}(p:kN α)(f:α->Prop×List D):dG
 | [a]=>match p.get a with
  |some x=>some (f x)
  |none=>none
 |_=>none
def orc2{α β:Type}(p:kN α)(q:kN β)(f:α->β->Prop×List D):dG
 | [a,b]=>match p.get a,q.get b with
  |some x,some y=>some (f x y)
  |_,_=>none
 |_=>none
def orc3{α β γ:Type}(p:kN α)(q:kN β)(r:kN γ)(f:α->β->γ->Prop×List D):dG
 | [a,b,c]=>match p.get a,q.get b,r.get c with
  |some x,some y,some z=>some (f x y z)
  |_,_,_=>none
 |_=>none
def orc4{α β γ δ:Type}(p:kN α)(q:kN β)(r:kN γ)(s:kN δ)(f:α->β->γ->δ->Prop×List D):dG
 | [a,b,c,d]=>match p.get a,q.get b,r.get c,s.get d with
  |some x,some y,some z,some u=>some (f x y z u)
  |_,_,_,_=>none
 |_=>none
structure qI(P:Program)(E:Env)(f:FuncId)(fn:Func)(c:Code):Prop where
 ty:mG P E.T
 calls:iT P E
 mix:P.follows .mixedOrders=true
 fnc:P.funcs[f]?=some fn
 body:fn.body=some c
 nt:E.nt=fn.ntmps
 has:tA P f
 io:E.io=[]
theorem Zj{P:Program}{E:Env}{f:FuncId}{fn:Func}{c:Code}(ty:mG P E.T)(mix:P.follows .mixedOrders=true)(calls:iT P E)(hf:P.funcs[f]?=some fn)(hb:fn.body=some c)(nt:E.nt=fn.ntmps)(hn:(fn.name== "runtime.NumGoroutine")=false)(io:E.io=[]:=by rfl):qI P E f fn c :=
 ⟨ty,calls,mix,hf,hb,nt,uX hf hb hn,io⟩
structure kK(P:Program)(E:Env)(f:FuncId)(fn:Func)(c:Code):Prop where
 ty:mG P E.T
 calls:iT P E
 mix:P.follows .mixedOrders=true
 fnc:P.funcs[f]?=some fn
 body:fn.body=some c
 nt:E.nt=fn.ntmps
 has:tA P f
 io:E.io=[0]
 n0:E.n0=1
theorem tG{P:Program}{E:Env}{f:FuncId}{fn:Func}{c:Code}(ty:mG P E.T)(mix:P.follows .mixedOrders=true)(calls:iT P E)(hf:P.funcs[f]?=some fn)(hb:fn.body=some c)(nt:E.nt=fn.ntmps)(hn:(fn.name== "runtime.NumGoroutine")=false)(io:E.io=[0])(n0:E.n0=1):kK P E f fn c :=
 ⟨ty,calls,mix,hf,hb,nt,uX hf hb hn,io,n0⟩
variable {P:Program} {E:Env} {f:FuncId} {fn:Func} {c:Code}
theorem qI.aXW(h:qI P E f fn c){r:Prop×List D}(hs:r.1->aF E fn c []=some r.2):kZ P E.glob f (orc0 r):=by
 intro ds g rs hd hg;unfold orc0 at hd;split at hd
 ·cases hd;exact⟨fn_contract h.ty h.calls h.mix h.fnc h.body h.nt h.io (bRZ _) (hs hg),h.has⟩
 ·cases hd
theorem qI.nN{α:Type}(h:qI P E f fn c){p:kN α}{g:α->Prop×List D}(hn:bLZ 1 fn.ntmps=true)(hs:∀x,(g x).1->aF E fn c [p.put x]=some (g x).2):kZ P E.glob f (orc1 p g):=by
 intro ds q rs hd hg;unfold orc1 at hd;split at hd
 ·split at hd
  ·rename_i x hx;have hd:=Option.some.inj hd;have e1:q=(g x).1:=by rw[hd]
   have e2:rs=(g x).2:=by rw[hd]
   subst e1;subst e2;exact⟨(fn_contract (ds:=[p.put x]) h.ty h.calls h.mix h.fnc h.body h.nt h.io (bNU hn) (hs x hg)).aXY (p.le hx),h.has⟩
  ·cases hd
 ·cases hd
theorem qI.lA{α β:Type}(h:qI P E f fn c){p:kN α}{p':kN β}{g:α->β->Prop×List D}(hn:bLZ 2 fn.ntmps=true)(hs:∀x y,(g x y).1->aF E fn c [p.put x,p'.put y]=some (g x y).2):kZ P E.glob f (orc2 p p' g):=by
 intro ds q rs hd hg;unfold orc2 at hd;split at hd
 ·split at hd
  ·rename_i x y hx hy;have hd:=Option.some.inj hd;have e1:q=(g x y).1:=by rw[hd]
   have e2:rs=(g x y).2:=by rw[hd]
   subst e1;subst e2;exact⟨(fn_contract (ds:=[p.put x,p'.put y]) h.ty h.calls h.mix h.fnc h.body h.nt h.io (bNU hn) (hs x y hg)).aXX (p.le hx) (p'.le hy),h.has⟩
  ·cases hd
 ·cases hd
theorem qI.Al{α β γ:Type}(h:qI P E f fn c){p:kN α}{p':kN β}{Mc:kN γ}{g:α->β->γ->Prop×List D}(hn:bLZ 3 fn.ntmps=true)(hs:∀x y z,(g x y z).1->aF E fn c [p.put x,p'.put y,Mc.put z]=some (g x y z).2):kZ P E.glob f (orc3 p p' Mc g):=by
 intro ds q rs hd hg;unfold orc3 at hd;split at hd
 ·split at hd
  ·rename_i x y z hx hy hz;have hd:=Option.some.inj hd;have e1:q=(g x y z).1:=by rw[hd]
   have e2:rs=(g x y z).2:=by rw[hd]
   subst e1;subst e2;exact⟨(fn_contract (ds:=[p.put x,p'.put y,Mc.put z]) h.ty h.calls h.mix h.fnc h.body h.nt h.io (bNU hn) (hs x y z hg)).bDE (p.le hx) (p'.le hy) (Mc.le hz),h.has⟩
  ·cases hd
 ·cases hd
theorem qI.aSB{α β γ δ:Type}(h:qI P E f fn c){p:kN α}{p':kN β}{Mc:kN γ}{p3:kN δ}{g:α->β->γ->δ->Prop×List D}(hn:bLZ 4 fn.ntmps=true)(hs:∀x y z u,(g x y z u).1->aF E fn c [p.put x,p'.put y,Mc.put z,p3.put u]=some (g x y z u).2):kZ P E.glob f (orc4 p p' Mc p3 g):=by
 intro ds q rs hd hg;unfold orc4 at hd;split at hd
 ·split at hd
  ·rename_i x y z u hx hy hz hu;have hd:=Option.some.inj hd;have e1:q=(g x y z u).1:=by rw[hd]
   have e2:rs=(g x y z u).2:=by rw[hd]
   subst e1;subst e2;exact⟨(fn_contract (ds:=[p.put x,p'.put y,Mc.put z,p3.put u]) h.ty h.calls h.mix h.fnc h.body h.nt h.io (bNU hn) (hs x y z u hg)).bGN (p.le hx) (p'.le hy) (Mc.le hz) (p3.le hu),h.has⟩
  ·cases hd
 ·cases hd
theorem kK.aXT(h:kK P E f fn c){e:TypeId}{k:IntKind}{x:List Int×Nat×Nat}{ds ds' rs:List D}{lB:List Int}(hn:1+ds'.length<=fn.ntmps)
  (hs:aF E fn c ((Aj e k).put x :: ds')=some (rs ++ [.io e k lB 0 0])) (hl:lB.length=x.1.length) (aLV:ds.length=ds'.length)
  (hd:∀(i:Nat) (y y':D),ds[i]?=some y->ds'[i]?=some y'->Ap y=false/\Ap y'=false/\zY y y'):mQ P E.glob f [0] ((Aj e k).put x :: ds) rs [.io e k lB 0 0]:=by
 have vV:∀(i:Nat) (d:D),ds'[i]?=some d->Ap d=false:=fun i d hi=>by
  obtain⟨y,hy⟩:=aY (l:=ds) (i:=i) (by have:=aR hi;omega);exact(hd i y d hy hi).2.1
 have:=Jk h.ty h.calls h.mix h.fnc h.body h.nt (fun i hi=>by rw[h.io]at hi;rw[h.n0];simp at hi;omega) (ds:=(Aj e k).put x :: ds') (by simp;omega) hs (by rw[h.io];rfl)
  (by
   rw[h.io];intro j i hj
   match j with
   |0 =>
    simp at hj;subst hj;exact⟨e,k,x.1,x.2.1,x.2.2,e,k,lB,rfl,rfl,hl⟩
   |j+1=>simp at hj)
  (by
   rw[h.io];intro i d hi Hd
   match i with
   |0=>simp
   |i+1=>rw[vV i d (by simpa using hi)]at Hd;cases Hd)
 rw[h.io]at this;exact this.bGO aLV hd
theorem kK.nN(h:kK P E f fn c){e:TypeId}{k:IntKind}{g:List Int×Nat×Nat->Prop×List D}(hn:bLZ 1 fn.ntmps=true)(hs:∀x,(g x).1->aF E fn c [(Aj e k).put x]=some (g x).2/\∃rs lB,(g x).2=rs ++ [.io e k lB 0 0]/\lB.length=x.1.length):oA P E.glob f (orc1 (Aj e k) g):=by
 intro ds q rs hd hg;unfold orc1 at hd;split at hd
 ·rename_i d1;split at hd
  ·rename_i x hx;have hd:=Option.some.inj hd;have e1:q=(g x).1:=by rw[hd]
   have e2:rs=(g x).2:=by rw[hd]
   subst e1;subst e2;obtain⟨h1,Bz,lB,h2,h3⟩:=hs x hg;rw[h2]at h1 ⊢;refine⟨⟨Bz,_,rfl,?_⟩,h.has⟩;have e3:=Nj (show dIO e k d1=some x from hx);rw[e3];exact h.aXT (x:=x) (ds':=[]) (by have:=bNU hn;simp;omega) h1 h3 rfl fun i a b ha hb=>by simp at ha
  ·cases hd
 ·cases hd
theorem kK.lA{α:Type}(h:kK P E f fn c){e:TypeId}{k:IntKind}{p:kN α}[hp:aAC p]{g:List Int×Nat×Nat->α->Prop×List D}(hn:bLZ 2 fn.ntmps=true)(hs:∀x y,(g x y).1->aF E fn c [(Aj e k).put x,p.put y]=some (g x y).2/\∃rs lB,(g x y).2=rs ++ [.io e k lB 0 0]/\lB.length=x.1.length):oA P E.glob f (orc2 (Aj e k) p g):=by
 intro ds q rs hd hg;unfold orc2 at hd;split at hd
 ·rename_i d1 d2;split at hd
  ·rename_i x y hx hy;have hd:=Option.some.inj hd;have e1:q=(g x y).1:=by rw[hd]
   have e2:rs=(g x y).2:=by rw[hd]
   subst e1;subst e2;obtain⟨h1,Bz,lB,h2,h3⟩:=hs x y hg;rw[h2]at h1 ⊢;refine⟨⟨Bz,_,rfl,?_⟩,h.has⟩;have e3:=Nj (show dIO e k d1=some x from hx);rw[e3];refine h.aXT (x:=x) (ds':=[p.put y]) (by have:=bNU hn;simp;omega) h1 h3 rfl fun i a b ha hb=>?_
   match i with
   |0=>simp at ha hb;subst ha;subst hb;exact⟨(hp.no hy).1,(hp.no hy).2,p.le hy⟩
   |i+1=>simp at ha
  ·cases hd
 ·cases hd
theorem kK.Al{α β:Type}(h:kK P E f fn c){e:TypeId}{k:IntKind}{p:kN α}[hp:aAC p]{p':kN β}[hp':aAC p']{g:List Int×Nat×Nat->α->β->Prop×List D}(hn:bLZ 3 fn.ntmps=true)(hs:∀x y z,(g x y z).1->aF E fn c [(Aj e k).put x,p.put y,p'.put z]=some (g x y z).2/\∃rs lB,(g x y z).2=rs ++ [.io e k lB 0 0]/\lB.length=x.1.length):oA P E.glob f (orc3 (Aj e k) p p' g):=by
 intro ds q rs hd hg;unfold orc3 at hd;split at hd
 ·rename_i d1 d2 d3;split at hd
  ·rename_i x y z hx hy hz;have hd:=Option.some.inj hd;have e1:q=(g x y z).1:=by rw[hd]
   have e2:rs=(g x y z).2:=by rw[hd]
   subst e1;subst e2;obtain⟨h1,Bz,lB,h2,h3⟩:=hs x y z hg;rw[h2]at h1 ⊢;refine⟨⟨Bz,_,rfl,?_⟩,h.has⟩;have e3:=Nj (show dIO e k d1=some x from hx);rw[e3];refine h.aXT (x:=x) (ds':=[p.put y,p'.put z]) (by have:=bNU hn;simp;omega) h1 h3 rfl fun i a b ha hb=>?_
   match i with
   |0=>simp at ha hb;subst ha;subst hb;exact⟨(hp.no hy).1,(hp.no hy).2,p.le hy⟩
   |1=>simp at ha hb;subst ha;subst hb;exact⟨(hp'.no hz).1,(hp'.no hz).2,p'.le hz⟩
   |i+2=>simp at ha
  ·cases hd
 ·cases hd
theorem qI.aRM{α:Type}(h:qI P E f fn c){p:kN α}{g:α->Prop×List D}(hn:bLZ 1 fn.ntmps=true)(hs:∀x,(g x).1->∃rs,aF E fn c [p.put x]=some rs/\fP rs (g x).2):kZ P E.glob f (orc1 p g):=by
 intro ds q rs hd hg;unfold orc1 at hd;split at hd
 ·split at hd
  ·rename_i x hx;have hd:=Option.some.inj hd;have e1:q=(g x).1:=by rw[hd]
   have e2:rs=(g x).2:=by rw[hd]
   subst e1;subst e2;obtain⟨Ly,he,hle⟩:=hs x hg;exact⟨((fn_contract (ds:=[p.put x]) h.ty h.calls h.mix h.fnc h.body h.nt h.io (bNU hn) he).aXY (p.le hx)).less hle,h.has⟩
  ·cases hd
 ·cases hd
theorem qI.aAF{α β:Type}(h:qI P E f fn c){p:kN α}{p':kN β}{g:α->β->Prop×List D}(hn:bLZ 2 fn.ntmps=true)(hs:∀x y,(g x y).1->∃rs,aF E fn c [p.put x,p'.put y]=some rs/\fP rs (g x y).2):kZ P E.glob f (orc2 p p' g):=by
 intro ds q rs hd hg;unfold orc2 at hd;split at hd
 ·split at hd
  ·rename_i x y hx hy;have hd:=Option.some.inj hd;have e1:q=(g x y).1:=by rw[hd]
   have e2:rs=(g x y).2:=by rw[hd]
   subst e1;subst e2;obtain⟨Ly,he,hle⟩:=hs x y hg;exact⟨((fn_contract (ds:=[p.put x,p'.put y]) h.ty h.calls h.mix h.fnc h.body h.nt h.io (bNU hn) he).aXX (p.le hx) (p'.le hy)).less hle,h.has⟩
  ·cases hd
 ·cases hd
theorem qI.bCQ{α β γ:Type}(h:qI P E f fn c){p:kN α}{p':kN β}{Mc:kN γ}{g:α->β->γ->Prop×List D}(hn:bLZ 3 fn.ntmps=true)(hs:∀x y z,(g x y z).1->∃rs,aF E fn c [p.put x,p'.put y,Mc.put z]=some rs/\fP rs (g x y z).2):kZ P E.glob f (orc3 p p' Mc g):=by
 intro ds q rs hd hg;unfold orc3 at hd;split at hd
 ·split at hd
  ·rename_i x y z hx hy hz;have hd:=Option.some.inj hd;have e1:q=(g x y z).1:=by rw[hd]
   have e2:rs=(g x y z).2:=by rw[hd]
   subst e1;subst e2;obtain⟨Ly,he,hle⟩:=hs x y z hg;exact⟨((fn_contract (ds:=[p.put x,p'.put y,Mc.put z]) h.ty h.calls h.mix h.fnc h.body h.nt h.io (bNU hn) he).bDE (p.le hx) (p'.le hy) (Mc.le hz)).less hle,h.has⟩
  ·cases hd
 ·cases hd
def Xj(f:FuncId)(g:List Value->Option (Prop×List Value))(r:FuncId->List Value->Option (Prop×List Value)):FuncId->List Value->Option (Prop×List Value):=fun f' vs=>bif bLX f' f then g vs else r f' vs
def Xi:FuncId->List Value->Option (Prop×List Value):=fun _ _=>none
theorem Ub:Yb P Xi:=fun _ _ _ _ h=>by cases h
structure aMN(P:Program)(f:FuncId)(e:Array Value->Sem Value):Prop where
 run:∀(args:Array Value) (w:World),(callFunc f args).run P w=((e args).run P w).andThen fun v w'=>.ok (.value v) w'
theorem Qp{f:FuncId}{g:List Value->Option (Prop×List Value)}{r:FuncId->List Value->Option (Prop×List Value)}{e:Array Value->Sem Value}(hf:aMN P f e)
  (hg:∀vs q rs,g vs=some (q,rs)->q->(∀v∈rs,v.oneCell'=true)/\∀w,(e vs.toArray).run P w=.ok (resV rs) w) (hr:Yb P r):Yb P (Xj f g r):=by
 intro f' vs q rs h hq;unfold Xj at h;cases hb:bLX f' f with
 |true =>
  rw[hb]at h;have:=bMK hb;subst this;obtain⟨h1,h2⟩:=hg vs q rs h hq;exact⟨h1,fun w=>by rw[hf.run,h2];rfl⟩
 |false=>rw[hb]at h;exact hr f' vs q rs h hq
def gAdd:List Value->Option (Prop×List Value)
 | [.int .u64 x,.int .u64 y,.int .u64 c]=>some ((0<=x/\0<=y/\0<=c/\c<=1),[.int .u64 ((x+y+c)%18446744073709551616),.int .u64 ((x+y+c)/18446744073709551616)])
 |_=>none
theorem aJJ(vs:List Value)(q:Prop)(rs:List Value)(h:gAdd vs=some (q,rs))(hq:q):(∀v∈rs,v.oneCell'=true)/\∀w,(add64Entry vs.toArray).run P w=.ok (resV rs) w:=by
 unfold gAdd at h;split at h
 ·cases h;obtain⟨h1,h2,h3,h4⟩:=hq;exact⟨by simp[Value.oneCell'],fun w=>run_add64 _ _ _ h1 h2 h3 h4 w⟩
 ·cases h
def uK:Array Value->Sem Value:=fun args=>do
 let (x,y,b) <-Extern.MathBitsCarry.three "Sub64" args
 pure (Extern.MathBitsCarry.pair ((x+Extern.MathBitsCarry.m64-y-b)%Extern.MathBitsCarry.m64) (if x<y+b then 1 else 0))
theorem Yh(x y c:Int)(hx:0<=x)(hy:0<=y)(aYN:y<18446744073709551616)(aWW:0<=c)(hc:c<=1)(w:World) :
  (uK #[.int .u64 x,.int .u64 y,.int .u64 c]).run P w =
   .ok (.tuple #[.int .u64 ((x-y-c)%18446744073709551616),.int .u64 (if x<y+c then 1 else 0)]) w:=by
 have key:∀k:Nat,k<=1->(uK #[.int .u64 x,.int .u64 y,.int .u64 (k:Int)]).run P w =
   .ok (Extern.MathBitsCarry.pair ((x.toNat+Extern.MathBitsCarry.m64-y.toNat-k)%Extern.MathBitsCarry.m64) (if x.toNat<y.toNat+k then 1 else 0)) w:=by
  intro k hk;have:k=0\/k=1:=by omega
  rcases this with rfl |rfl <;> rfl
 obtain⟨k,rfl⟩:=bQY aWW;rw[key k (by omega)];obtain⟨X,rfl⟩:=bQY hx;obtain⟨Y,rfl⟩:=bQY hy;simp only[Extern.MathBitsCarry.pair,Extern.MathBitsCarry.m64,bPS];have e1:Int.ofNat ((X+2^64-Y-k)%2^64)=((X:Int)-Y-k)%18446744073709551616:=by
  show((((X+2^64-Y-k)%2^64:Nat)):Int)=_;omega
 have e2:Int.ofNat (if X<Y+k then 1 else 0)=if(X:Int)<Y+k then 1 else 0:=by
  show(((if X<Y+k then 1 else 0:Nat)):Int)=_;split <;> split <;> omega
 rw[e1,e2]
def aPA:List Value->Option (Prop×List Value)
 | [.int .u64 x,.int .u64 y,.int .u64 c]=>some ((0<=x/\0<=y/\y<18446744073709551616/\0<=c/\c<=1),[.int .u64 ((x-y-c)%18446744073709551616),.int .u64 (if x<y+c then 1 else 0)])
 |_=>none
theorem aJI(vs:List Value)(q:Prop)(rs:List Value)(h:aPA vs=some (q,rs))(hq:q):(∀v∈rs,v.oneCell'=true)/\∀w,(uK vs.toArray).run P w=.ok (resV rs) w:=by
 unfold aPA at h;split at h
 ·cases h;obtain⟨h1,h2,h3,h4,h5⟩:=hq;exact⟨by simp[Value.oneCell'],fun w=>Yh _ _ _ h1 h2 h3 h4 h5 w⟩
 ·cases h
theorem Qq{f:FuncId}{fn:Func}{e:Array Value->Sem Value}(hf:P.funcs[f]?=some fn)(aTP:(fn.name== "runtime.NumGoroutine")=false)
  (hb:fn.body.isNone=true) (hn:Extern.findNext fn=none) (he:Extern.find fn=some e):aMN P f e:=⟨fun args w=>run_callFunc_extern hf aTP hb hn he args w⟩
end AI
namespace M
open Go
def val:List Int->Nat
 | []=>0
 |d :: r=>d.toNat+4294967296*val r
def dg(n:Nat):List Int:=if h:n=0 then []else((n%4294967296:Nat):Int) :: dg (n/4294967296)
termination_by n
decreasing_by omega
def cE(a:List Int):Prop:=∀d∈a,0<=d/\d<4294967296
def cF(a:List Int):Prop:=a=dg (val a)
theorem bJ:dg 0=[]:=by rw[dg];rfl
theorem mP{n:Nat}(h:n≠0):dg n=((n%4294967296:Nat):Int) :: dg (n/4294967296):=by rw[dg,dif_neg h]
theorem bI(n:Nat):val (dg n)=n:=by
 induction n using bRH with
 |_ n ih =>
  by_cases h:n=0
  ·subst h;rw[bJ];rfl
  ·rw[mP h,val,ih _ (by omega)];have:=bRC n 4294967296;omega
theorem lU:cE []:=fun _ h=>by cases h
theorem jK{d:Int}{r:List Int}:cE (d :: r)↔(0<=d/\d<4294967296)/\cE r:=by
 unfold cE;simp
theorem oN{a b:List Int}:cE (a ++ b)↔cE a/\cE b:=by
 unfold cE;simp only[bMY];exact⟨fun h=>⟨fun d hd=>h d (.inl hd),fun d hd=>h d (.inr hd)⟩,fun h d hd=>hd.elim (h.1 d) (h.2 d)⟩
theorem cE.take{a:List Int}(h:cE a)(n:Nat):cE (a.take n):=fun d hd=>h d (bTB hd)
theorem cE.drop{a:List Int}(h:cE a)(n:Nat):cE (a.drop n):=fun d hd=>h d (bTC hd)
theorem iI(n:Nat):cE (bNZ n 0):=fun d hd=>by rw[(List.mem_replicate.1 hd).2];omega
theorem iO(n:Nat):cE (dg n):=by
 induction n using bRH with
 |_ n ih =>
  by_cases h:n=0
  ·subst h;rw[bJ];exact lU
  ·rw[mP h];exact jK.2 ⟨by omega,ih _ (by omega)⟩
theorem aW(n:Nat):cF (dg n):=by unfold cF;rw[bI]
theorem cF.iU{a:List Int}(h:cF a):cE a:=by rw[h];exact iO _
theorem iA:∀(a b:List Int),val (a ++ b)=val a+4294967296^a.length*val b
 | [],b=>by simp[val]
 |d :: a,b=>by
  simp only[bNO,val,iA a b,bPG,bQV];rw[bQW,<-bQZ,bQU 4294967296 (4294967296^a.length)];omega
theorem cO:∀{a:List Int},cE a->val a<4294967296^a.length
 | [],_=>by simp[val]
 |d :: a,h=>by
  obtain⟨h1,h2⟩:=jK.1 h;have:=cO h2;simp only[val,bPG,bQV];have:d.toNat<4294967296:=by omega
  have:4294967296*val a+4294967296<=4294967296^a.length*4294967296:=by
   rw[bQU (4294967296^a.length)];have:4294967296*(val a+1)<=4294967296*4294967296^a.length:=bOK _ (by omega);omega
  omega
theorem iG:∀n,val (bNZ n 0)=0
 |0=>rfl
 |n+1=>by simp[bRE,val,iG n]
theorem Cq:∀{a:List Int},cE a->∃k,a=dg (val a) ++ bNZ k 0
 | [],_=>⟨0,by simp[val,bJ]⟩
 |d :: a,h=>by
  obtain⟨h1,h2⟩:=jK.1 h;obtain⟨k,hk⟩:=Cq h2
  by_cases hz:d.toNat+4294967296*val a=0
  ·have hd:d=0:=by omega
   have hv:val a=0:=by omega
   rw[hv,bJ]at hk;refine⟨k+1,?_⟩;simp only[val];rw[hz,bJ,hd,hk];simp[bRE]
  ·refine⟨k,?_⟩;simp only[val];rw[mP hz];have e1:(d.toNat+4294967296*val a)%4294967296=d.toNat:=by omega
   have e2:(d.toNat+4294967296*val a)/4294967296=val a:=by omega
   rw[e1,e2,bNO,<-hk];congr 1;omega
theorem Fc:cF []:=by unfold cF;simp[val,bJ]
theorem wL{a:List Int}(h:cE a)(ht:∀d,a.getLast?=some d->d≠0):cF a:=by
 obtain⟨k,hk⟩:=Cq h;cases k with
 |zero=>unfold cF;simpa using hk
 |succ k =>
  exfalso;refine ht 0 ?_ rfl;rw[hk,bTD,<-bNR];simp
theorem cF.top{a:List Int}(h:cF a){d:Int}(hd:a.getLast?=some d):d≠0:=by
 have key:∀n,∀d,(dg n).getLast?=some d->d≠0:=by
  intro n
  induction n using bRH with
  |_ n ih =>
   intro d hd
   by_cases hn:n=0
   ·subst hn;rw[bJ]at hd;cases hd
   ·rw[mP hn]at hd
    by_cases hq:n/4294967296=0
    ·rw[hq,bJ]at hd;simp at hd;omega
    ·refine ih (n/4294967296) (by omega) d ?_;rw[mP hq]at hd ⊢;rwa [bSA]at hd
 rw[h]at hd;exact key _ d hd
theorem Pq{d:Int}{a:List Int}(h:cF (d :: a)):cF a:=by
 have hd:=h.iU;refine wL (jK.1 hd).2 fun e he=>h.top ?_
 cases a with
 |nil=>cases he
 |cons x r=>rwa [bSA]
theorem cR {n k : Nat} (h : n < 4294967296 ^ k) : (dg n).length ≤ k := by
  induction k generalizing n with
  | zero => have : n = 0 := by simpa using h
            subst this; rw [bJ]; exact bLW _
  | succ k ih =>
    by_cases hn : n = 0
    · subst hn; rw [bJ]; simp
    · rw [mP hn, bPG]
      have := ih (n := n / 4294967296) (by rw [bQV] at h; exact bRQ (by rw [bQU]; exact h))
      omega
theorem tQ{n:Nat}:n<4294967296^(dg n).length:=by
 have:=cO (iO n);rwa [bI]at this
theorem sV{n m:Nat}(h:n<=m):(dg n).length<=(dg m).length:=cR (bSL h tQ)
theorem oU{a:List Int}(h:cE a):(dg (val a)).length<=a.length:=cR (cO h)
theorem xZ{n k:Nat}(h:k<(dg n).length):4294967296^k<=n:=by
 rcases bML n (4294967296^k)with h1 |h1
 ·have:=cR h1;omega
 ·exact h1
theorem jO{a:List Int}{n:Nat}(h:n<a.length):val (a.take (n+1))=val (a.take n)+4294967296^n*(a.getD n 0).toNat:=by
 rw[bSB h,iA,bOM,bSD (by omega)];simp[val,bRA,h]
theorem fX(a:List Int){n:Nat}(h:n<=a.length):val a=val (a.take n)+4294967296^n*val (a.drop n):=by
 have e:=iA (a.take n) (a.drop n);rw[bTE,bOM,bSD h]at e;exact e
theorem Hi{a:List Int}{n:Nat}(h:n<a.length):a.getD n 0∈a:=by
 rw[bRA,bMM h];simp
theorem cE.get{a:List Int}(h:cE a)(n:Nat):0<=a.getD n 0/\a.getD n 0<4294967296:=by
 rcases bML n a.length with hn |hn
 ·exact h _ (Hi hn)
 ·rw[bRA,bNS hn];simp
theorem getLast_take{a:List Int}{n:Nat}(h:n<a.length):(a.take (n+1)).getLast?=some (a.getD n 0):=by
 rw[bSB h,bTF];simp[bRA,h]
theorem aFN{xs:List Int}{n:Nat}(h:n<=xs.length):bRR n (bRS 0 (bRR n xs)) ++ bRS (min (bRS 0 (bRR n xs)).length n) (bNZ n 0)=xs.take n:=by
 have e:(bRS 0 (bRR n xs)).length=n:=by simp;omega
 rw[e,Nat.min_self,bSE,List.take_take,Nat.min_self];simp
theorem oP{w:Int}(h:0<=w)(h':w<18446744073709551616):AI.eN .and .u64 w 4294967295=w%4294967296:=by
 obtain⟨n,rfl⟩:=bQY h;rw[AI.sH];unfold AI.bitsI0;simp only;have e:(BitVec.ofInt u64.bits (n:Int) &&& BitVec.ofInt u64.bits 4294967295).toNat=n%4294967296:=by
  show(BitVec.ofInt 64 (n:Int) &&& BitVec.ofInt 64 4294967295).toNat=_;rw[BitVec.toNat_and];have e1:(BitVec.ofInt 64 (n:Int)).toNat=n:=by simp;omega
  have e2:(BitVec.ofInt 64 4294967295).toNat=2^32-1:=by decide
  rw[e1,e2,Nat.and_two_pow_sub_one_eq_mod]
 rw[e,wrap_u64];omega
section
variable {R:Type} {x y:Option R}
theorem aN{p:Prop}[Decidable p](h:p:=by omega):AI.aB (decide p) x y=x:=by simp only[AI.aB,decide_eq_true h,cond_true]
theorem aI{p:Prop}[Decidable p](h:¬p:=by omega):AI.aB (decide p) x y=y:=by simp only[AI.aB,decide_eq_false h,cond_false]
theorem cN{a b:Int}(h:a=b:=by omega):AI.aB (a==b) x y=x:=by subst h;simp[AI.aB]
theorem bV{a b:Int}(h:a≠b:=by omega):AI.aB (a==b) x y=y:=by rw[beq_eq_false_iff_ne.2 h];rfl
theorem qF{a b:Int}(h:a≠b:=by omega):AI.aB (a !=b) x y=x:=by rw[bne_iff_ne.2 h];rfl
theorem fD{a b:Int}(h:a=b:=by omega):AI.aB (a !=b) x y=y:=by subst h;simp[AI.aB]
theorem bT:AI.aB true x y=x:=rfl
theorem bF:AI.aB false x y=y:=rfl
theorem aFX{b:Bool}(h:b=true):AI.aB b x y=x:=by rw[h];rfl
theorem Ht{b:Bool}(h:b=false):AI.aB b x y=y:=by rw[h];rfl
theorem gP{g:Prop}(h:g:=by omega):AI.aO g x=x:=AI.Xg h
end
def mV(a b:Nat):Int:=if a<b then -1 else if b<a then 1 else 0
theorem getD_none{a:List Int}{n:Nat}(h:a.length<=n):a.getD n 0=0:=by
 rw[bRA,bNS h];rfl
theorem cG{a:List Int}{n:Nat}(h:a.length<=n):val (a.take n)=val a:=by rw[bTH h]
theorem cD{a:List Int}(n:Nat):val (a.take (n+1))=val (a.take n)+4294967296^n*(a.getD n 0).toNat:=by
 rcases bML n a.length with h |h
 ·exact jO h
 ·rw[cG (by omega),cG h,getD_none h];simp
theorem gH{a:List Int}(h:cE a)(n:Nat):val (a.take n)<4294967296^n:=by
 have:=cO (h.take n);exact bMW this (bOW (by omega) (by rw[bOM];omega))
theorem lC{a:List Int}{d:Int}:val (a ++ [d])=val a+4294967296^a.length*d.toNat:=by
 rw[iA];simp[val]
theorem lD{a:List Int}{d:Int}(h:cE a)(hd:0<=d/\d<4294967296):cE (a ++ [d]):=by
 rw[oN,jK];exact⟨h,hd,lU⟩
theorem Fe{a:List Int}(h:cF a):dg (val a)=a:=h.symm
theorem sE{a b:List Int}(ha:cE a)(hb:cF b)(h:a.length<b.length):val a<val b:=by
 have h1:=cO ha;have h2:4294967296^a.length<=val b:=xZ (by rw[<-hb];exact h);omega
theorem cS{a:List Int}(ha:cF a):a.length=0↔val a=0:=by
 constructor
 ·intro h;have:a=[]:=List.length_eq_zero_iff.1 h;subst this;rfl
 ·intro h;rw[ha,h,bJ];rfl
theorem gI{n:Nat}:(dg n).length=0↔n=0:=by rw[cS (aW n),bI]
theorem lT{a:List Int}(h:cE a){n:Nat}{d:Int}(hd:0<=d/\d<4294967296):cE (a.set n d):=by
 intro x hx;rcases bTI hx with h1 |h1
 ·exact h x h1
 ·subst h1;exact hd
theorem qP{a:List Int}{n:Nat}(h:n<a.length)(d:Int):val ((a.set n d).drop n)=d.toNat+4294967296*val (a.drop (n+1)):=by
 have e:(a.set n d).drop n=d :: a.drop (n+1):=by
  rw[bSF (by simpa using h)];simp[bTJ]
 rw[e];rfl
theorem fY{a:List Int}(n:Nat):val (a.drop n)=(a.getD n 0).toNat+4294967296*val (a.drop (n+1)):=by
 rcases bML n a.length with h |h
 ·rw[bSF h];simp[val,bRA,h]
 ·rw[bRL h,bRL (by omega),getD_none h];rfl
theorem aFC{l B n d r w:Nat}(hw:0<w):((l*B+d)*n+r)/w=(((l*B+d)%w)*n+r)/w+n*((l*B+d)/w):=by
 have h:=bRC (l*B+d) w;have e:(l*B+d)*n+r=((l*B+d)%w*n+r)+w*(n*((l*B+d)/w)):=by
  generalize l*B+d=t at *;generalize t/w=q at *;generalize t%w=m at *;subst h;rw[Nat.add_mul];have:w*q*n=w*(n*q):=by rw[bQZ,bQU q n]
  omega
 rw[e,bSM _ _ hw]
theorem aCU{l B n d r w:Nat}:((l*B+d)*n+r)%w=(((l*B+d)%w)*n+r)%w:=by
 conv=>rhs;rw[bSG,bSH,Nat.mod_mod,<-bSH,<-bSG]
theorem aFP(u v k:Nat):mV (u+k) (v+k)=mV u v:=by
 unfold mV;simp only[Nat.add_lt_add_iff_right]
theorem Pa{a b:Int}(ha:0<=a)(hb:0<=b):(a/b).toNat=a.toNat/b.toNat:=by
 obtain⟨x,rfl⟩:=bQY ha;obtain⟨y,rfl⟩:=bQY hb;rw[<-bRM,bPS,bPS,bPS]
theorem Oz{a b:Int}(ha:0<=a)(hb:0<=b):(a%b).toNat=a.toNat%b.toNat:=by
 obtain⟨x,rfl⟩:=bQY ha;obtain⟨y,rfl⟩:=bQY hb;rw[<-bSN,bPS,bPS,bPS]
end M
namespace M
open Go
def bl(n:Nat):Nat:=if n=0 then 0 else n.log2+1
theorem Fj:bl 0=0:=rfl
theorem vM(n:Nat):n<2^bl n:=by
 unfold bl;split
 ·omega
 ·exact Nat.lt_log2_self
theorem Xy{n:Nat}(h:n≠0):2^(bl n-1)<=n:=by
 unfold bl;rw[if_neg h];exact Nat.log2_self_le h
theorem dU{n k:Nat}:bl n<=k↔n<2^k:=by
 constructor
 ·intro h;exact bMW (vM n) (bOW (by omega) h)
 ·intro h
  by_cases hn:n=0
  ·subst hn;exact bRZ _
  ·rcases bML k (bl n)with h1 |h1
   ·exfalso;have h2:=Xy hn;have h3:2^k<=2^(bl n-1):=fQ;omega
   ·exact h1
theorem rP{n k:Nat}:k<bl n↔2^k<=n:=by
 have:=@dU n k;omega
theorem qE{n:Nat}(h:n≠0):0<bl n:=by rw[rP];simp;omega
theorem aVK{n k:Nat}(h:2^k<=n)(h':n<2^(k+1)):bl n=k+1:=by
 have:=dU.2 h';have:=rP.2 h;omega
theorem Un{r k t:Nat}(hr:r<2^k)(ht:t≠0):bl (r+2^k*t)=k+bl t:=by
 have hp:=qE ht;have e:k+bl t=(k+(bl t-1))+1:=by omega
 rw[e];apply aVK
 ·rw[bQX];have:=bOK (2^k) (Xy ht);omega
 ·have h1:=vM t;have h2:2^k*(t+1)<=2^k*2^bl t:=bOK _ h1;rw[<-bQX]at h2;rw[bQW]at h2;have e2:k+(bl t-1)+1=k+bl t:=by omega
  rw[e2];omega
theorem Cv{k t:Nat}(ht:t≠0):bl (2^k*t)=k+bl t:=by
 have:=Un (r:=0) (k:=k) (t:=t) (cP) ht;rwa [bLY]at this
theorem gN{a b:Nat}(h:a<=b):bl a<=bl b:=dU.2 (bSL h (vM b))
theorem Kh(k:Nat):4294967296^k=2^(32*k):=by rw[bSO]
theorem Pu{n k:Nat}(h:n<2^k):(dg n).length<=k/32+1:=by
 apply cR;rw[Kh];exact bMW h (fQ)
theorem aCB{k:Int}(h:0<=k)(h':k<32):u32.wrap (1*((2^(min k.toNat 32):Nat):Int))=((2^k.toNat:Nat):Int):=by
 have e:min k.toNat 32=k.toNat:=by omega
 rw[e,Int.one_mul,wrap_u32];have:2^k.toNat<2^32:=bSP (by omega) (by omega);generalize 2^k.toNat=p at *;omega
theorem aMV{n:Int}(h:0<=n):n.tdiv 32=n/32:=bTL h
theorem aMT{n:Int}(h:0<=n):n.tmod 32=n%32:=bTM h
theorem Cb(n:Nat):2^n=4294967296^(n/32)*2^(n%32):=by
 rw[Kh,<-bQX];congr 1;omega
theorem Zt(v n:Nat):v/4294967296^(n/32)/2^(n%32)=v/2^n:=by
 rw[bRN,<-Cb]
theorem jD{a:List Int}(h:cE a)(n:Nat):val (a.drop n)=val a/4294967296^n:=by
 rcases Nat.le_or_ge n a.length with hn |hn
 ·rw[fX a hn,bSM _ _ (cP),bRT (gH h n),bLY]
 ·rw[bRL hn,bRT]
  ·rfl
  ·exact bMW (cO h) (bOW (by omega) hn)
end M
namespace M6
open Go
def val:List Int->Nat
 | []=>0
 |d :: r=>d.toNat+18446744073709551616*val r
def dg(n:Nat):List Int:=if h:n=0 then []else((n%18446744073709551616:Nat):Int) :: dg (n/18446744073709551616)
termination_by n
decreasing_by omega
def cE(a:List Int):Prop:=∀d∈a,0<=d/\d<18446744073709551616
def cF(a:List Int):Prop:=a=dg (val a)
theorem bJ:dg 0=[]:=by rw[dg];rfl
theorem mP{n:Nat}(h:n≠0):dg n=((n%18446744073709551616:Nat):Int) :: dg (n/18446744073709551616):=by rw[dg,dif_neg h]
theorem bI(n:Nat):val (dg n)=n:=by
 induction n using bRH with
 |_ n ih =>
  by_cases h:n=0
  ·subst h;rw[bJ];rfl
  ·rw[mP h,val,ih _ (by omega)];have:=bRC n 18446744073709551616;omega
theorem lU:cE []:=fun _ h=>by cases h
theorem jK{d:Int}{r:List Int}:cE (d :: r)↔(0<=d/\d<18446744073709551616)/\cE r:=by
 unfold cE;simp
theorem oN{a b:List Int}:cE (a ++ b)↔cE a/\cE b:=by
 unfold cE;simp only[bMY];exact⟨fun h=>⟨fun d hd=>h d (.inl hd),fun d hd=>h d (.inr hd)⟩,fun h d hd=>hd.elim (h.1 d) (h.2 d)⟩
theorem cE.take{a:List Int}(h:cE a)(n:Nat):cE (a.take n):=fun d hd=>h d (bTB hd)
theorem cE.drop{a:List Int}(h:cE a)(n:Nat):cE (a.drop n):=fun d hd=>h d (bTC hd)
theorem iI(n:Nat):cE (bNZ n 0):=fun d hd=>by rw[(List.mem_replicate.1 hd).2];omega
theorem iO(n:Nat):cE (dg n):=by
 induction n using bRH with
 |_ n ih =>
  by_cases h:n=0
  ·subst h;rw[bJ];exact lU
  ·rw[mP h];exact jK.2 ⟨by omega,ih _ (by omega)⟩
theorem aW(n:Nat):cF (dg n):=by unfold cF;rw[bI]
theorem cF.iU{a:List Int}(h:cF a):cE a:=by rw[h];exact iO _
theorem iA:∀(a b:List Int),val (a ++ b)=val a+18446744073709551616^a.length*val b
 | [],b=>by simp[val]
 |d :: a,b=>by
  simp only[bNO,val,iA a b,bPG,bQV];rw[bQW,<-bQZ,bQU 18446744073709551616 (18446744073709551616^a.length)];omega
theorem cO:∀{a:List Int},cE a->val a<18446744073709551616^a.length
 | [],_=>by simp[val]
 |d :: a,h=>by
  obtain⟨h1,h2⟩:=jK.1 h;have:=cO h2;simp only[val,bPG,bQV];have:d.toNat<18446744073709551616:=by omega
  have:18446744073709551616*val a+18446744073709551616<=18446744073709551616^a.length*18446744073709551616:=by
   rw[bQU (18446744073709551616^a.length)];have:18446744073709551616*(val a+1)<=18446744073709551616*18446744073709551616^a.length:=bOK _ (by omega);omega
  omega
theorem iG:∀n,val (bNZ n 0)=0
 |0=>rfl
 |n+1=>by simp[bRE,val,iG n]
theorem Cq:∀{a:List Int},cE a->∃k,a=dg (val a) ++ bNZ k 0
 | [],_=>⟨0,by simp[val,bJ]⟩
 |d :: a,h=>by
  obtain⟨h1,h2⟩:=jK.1 h;obtain⟨k,hk⟩:=Cq h2
  by_cases hz:d.toNat+18446744073709551616*val a=0
  ·have hd:d=0:=by omega
   have hv:val a=0:=by omega
   rw[hv,bJ]at hk;refine⟨k+1,?_⟩;simp only[val];rw[hz,bJ,hd,hk];simp[bRE]
  ·refine⟨k,?_⟩;simp only[val];rw[mP hz];have e1:(d.toNat+18446744073709551616*val a)%18446744073709551616=d.toNat:=by omega
   have e2:(d.toNat+18446744073709551616*val a)/18446744073709551616=val a:=by omega
   rw[e1,e2,bNO,<-hk];congr 1;omega
theorem Fc:cF []:=by unfold cF;simp[val,bJ]
theorem wL{a:List Int}(h:cE a)(ht:∀d,a.getLast?=some d->d≠0):cF a:=by
 obtain⟨k,hk⟩:=Cq h;cases k with
 |zero=>unfold cF;simpa using hk
 |succ k =>
  exfalso;refine ht 0 ?_ rfl;rw[hk,bTD,<-bNR];simp
theorem cF.top{a:List Int}(h:cF a){d:Int}(hd:a.getLast?=some d):d≠0:=by
 have key:∀n,∀d,(dg n).getLast?=some d->d≠0:=by
  intro n
  induction n using bRH with
  |_ n ih =>
   intro d hd
   by_cases hn:n=0
   ·subst hn;rw[bJ]at hd;cases hd
   ·rw[mP hn]at hd
    by_cases hq:n/18446744073709551616=0
    ·rw[hq,bJ]at hd;simp at hd;omega
    ·refine ih (n/18446744073709551616) (by omega) d ?_;rw[mP hq]at hd ⊢;rwa [bSA]at hd
 rw[h]at hd;exact key _ d hd
theorem Pq{d:Int}{a:List Int}(h:cF (d :: a)):cF a:=by
 have hd:=h.iU;refine wL (jK.1 hd).2 fun e he=>h.top ?_
 cases a with
 |nil=>cases he
 |cons x r=>rwa [bSA]
theorem cR {n k : Nat} (h : n < 18446744073709551616 ^ k) : (dg n).length ≤ k := by
  induction k generalizing n with
  | zero => have : n = 0 := by simpa using h
            subst this; rw [bJ]; exact bLW _
  | succ k ih =>
    by_cases hn : n = 0
    · subst hn; rw [bJ]; simp
    · rw [mP hn, bPG]
      have := ih (n := n / 18446744073709551616) (by rw [bQV] at h; exact bRQ (by rw [bQU]; exact h))
      omega
theorem tQ{n:Nat}:n<18446744073709551616^(dg n).length:=by
 have:=cO (iO n);rwa [bI]at this
theorem sV{n m:Nat}(h:n<=m):(dg n).length<=(dg m).length:=cR (bSL h tQ)
theorem oU{a:List Int}(h:cE a):(dg (val a)).length<=a.length:=cR (cO h)
theorem xZ{n k:Nat}(h:k<(dg n).length):18446744073709551616^k<=n:=by
 rcases bML n (18446744073709551616^k)with h1 |h1
 ·have:=cR h1;omega
 ·exact h1
theorem jO{a:List Int}{n:Nat}(h:n<a.length):val (a.take (n+1))=val (a.take n)+18446744073709551616^n*(a.getD n 0).toNat:=by
 rw[bSB h,iA,bOM,bSD (by omega)];simp[val,bRA,h]
theorem fX(a:List Int){n:Nat}(h:n<=a.length):val a=val (a.take n)+18446744073709551616^n*val (a.drop n):=by
 have e:=iA (a.take n) (a.drop n);rw[bTE,bOM,bSD h]at e;exact e
theorem Hi{a:List Int}{n:Nat}(h:n<a.length):a.getD n 0∈a:=by
 rw[bRA,bMM h];simp
theorem cE.get{a:List Int}(h:cE a)(n:Nat):0<=a.getD n 0/\a.getD n 0<18446744073709551616:=by
 rcases bML n a.length with hn |hn
 ·exact h _ (Hi hn)
 ·rw[bRA,bNS hn];simp
theorem getLast_take{a:List Int}{n:Nat}(h:n<a.length):(a.take (n+1)).getLast?=some (a.getD n 0):=by
 rw[bSB h,bTF];simp[bRA,h]
theorem getD_none{a:List Int}{n:Nat}(h:a.length<=n):a.getD n 0=0:=by
 rw[bRA,bNS h];rfl
theorem cG{a:List Int}{n:Nat}(h:a.length<=n):val (a.take n)=val a:=by rw[bTH h]
theorem cD{a:List Int}(n:Nat):val (a.take (n+1))=val (a.take n)+18446744073709551616^n*(a.getD n 0).toNat:=by
 rcases bML n a.length with h |h
 ·exact jO h
 ·rw[cG (by omega),cG h,getD_none h];simp
theorem gH{a:List Int}(h:cE a)(n:Nat):val (a.take n)<18446744073709551616^n:=by
 have:=cO (h.take n);exact bMW this (bOW (by omega) (by rw[bOM];omega))
theorem lC{a:List Int}{d:Int}:val (a ++ [d])=val a+18446744073709551616^a.length*d.toNat:=by
 rw[iA];simp[val]
theorem lD{a:List Int}{d:Int}(h:cE a)(hd:0<=d/\d<18446744073709551616):cE (a ++ [d]):=by
 rw[oN,jK];exact⟨h,hd,lU⟩
theorem Fe{a:List Int}(h:cF a):dg (val a)=a:=h.symm
theorem sE{a b:List Int}(ha:cE a)(hb:cF b)(h:a.length<b.length):val a<val b:=by
 have h1:=cO ha;have h2:18446744073709551616^a.length<=val b:=xZ (by rw[<-hb];exact h);omega
theorem cS{a:List Int}(ha:cF a):a.length=0↔val a=0:=by
 constructor
 ·intro h;have:a=[]:=List.length_eq_zero_iff.1 h;subst this;rfl
 ·intro h;rw[ha,h,bJ];rfl
theorem gI{n:Nat}:(dg n).length=0↔n=0:=by rw[cS (aW n),bI]
theorem lT{a:List Int}(h:cE a){n:Nat}{d:Int}(hd:0<=d/\d<18446744073709551616):cE (a.set n d):=by
 intro x hx;rcases bTI hx with h1 |h1
 ·exact h x h1
 ·subst h1;exact hd
theorem qP{a:List Int}{n:Nat}(h:n<a.length)(d:Int):val ((a.set n d).drop n)=d.toNat+18446744073709551616*val (a.drop (n+1)):=by
 have e:(a.set n d).drop n=d :: a.drop (n+1):=by
  rw[bSF (by simpa using h)];simp[bTJ]
 rw[e];rfl
theorem fY{a:List Int}(n:Nat):val (a.drop n)=(a.getD n 0).toNat+18446744073709551616*val (a.drop (n+1)):=by
 rcases bML n a.length with h |h
 ·rw[bSF h];simp[val,bRA,h]
 ·rw[bRL h,bRL (by omega),getD_none h];rfl
end M6
namespace M
open Go AI
def zs(b:Bool)(n:Nat):Int:=bif b then -(n:Int)else n
def zv(x:Bool×List Int):Int:=zs x.1 (val x.2)
def aGA(x:Bool×List Int):Prop:=cF x.2/\(x.1=true->val x.2≠0)/\x.2.length<=549755813888
def isNeg(z:Int):Bool:=match z with
 | .negSucc _=>true
 | .ofNat _=>false
def zD(z:Int):D:=.agg [.sc (.bool (isNeg z)),.ints .u32 (dg z.natAbs)]
theorem lP{z:Int}:isNeg z=true↔z<0:=by cases z <;> simp[isNeg] <;> omega
theorem jI{z:Int}:isNeg z=false↔0<=z:=by cases z <;> simp[isNeg] <;> omega
theorem aKQ(z:Int):zv (isNeg z,dg z.natAbs)=z:=by
 unfold zv zs;simp only[bI];cases h:isNeg z with
 |true=>have:=lP.1 h;simp only[cond_true];omega
 |false=>have:=jI.1 h;simp only[cond_false];omega
theorem aAW{z:Int}(h:(dg z.natAbs).length<=549755813888):aGA (isNeg z,dg z.natAbs):=by
 refine⟨aW _,fun hn=>?_,h⟩;rw[bI];have:=lP.1 hn;omega
theorem Fo(b:Bool)(n:Nat):isNeg (zs b n)=(b&&decide (n≠0)):=by
 unfold zs;cases b with
 |false=>simp only[cond_false,bRF];exact jI.2 (by omega)
 |true =>
  simp only[cond_true,bOX]
  by_cases h:n=0
  ·subst h;rfl
  ·rw[decide_eq_true h];exact lP.2 (by omega)
theorem kB(b:Bool)(n:Nat):(zs b n).natAbs=n:=by
 unfold zs;cases b <;> simp
theorem aRJ(b:Bool)(n:Nat):zD (zs b n)=.agg [.sc (.bool (b&&decide (n≠0))),.ints .u32 (dg n)]:=by
 unfold zD;rw[Fo,kB]
theorem aGA.cells{x:Bool×List Int}(h:aGA x):isNeg (zv x)=x.1/\dg (zv x).natAbs=x.2:=by
 obtain⟨h1,h2,h3⟩:=h;unfold zv;rw[Fo,kB,<-h1];refine⟨?_,rfl⟩;cases hx:x.1 with
 |false=>rfl
 |true=>rw[decide_eq_true (h2 hx)];rfl
theorem aGA.len{x:Bool×List Int}(h:aGA x):x.2.length<=549755813888:=h.2.2
theorem aMO(x:Bool×List Int):(zv x).natAbs=val x.2:=kB _ _
def lE(a b:Int):Int:=if a<b then -1 else if b<a then 1 else 0
theorem Xv{a b:Nat}:0<=mV a b↔b<=a:=by unfold mV;split <;> (try split) <;> omega
theorem Tk(a b:Nat):(dg (a/b)).length<=(dg a).length:=sV (Nat.div_le_self _ _)
theorem aFV{a:List Int}(h:cE a){n:Nat}(hn:a.length<=n):bl (val a)<=32*n:=by
 rw[dU,<-Kh];exact bMW (cO h) (bOW (by omega) hn)
theorem yD(a b:Nat):bl (a+b)<=max (bl a) (bl b)+1:=by
 rw[dU,bQV];have h1:=vM a;have h2:=vM b;have h3:2^bl a<=2^max (bl a) (bl b):=fQ;have h4:2^bl b<=2^max (bl a) (bl b):=fQ;omega
theorem Cu(a b:Nat):bl (a*b)<=bl a+bl b:=by
 rw[dU,bQX];exact Nat.mul_lt_mul'' (vM a) (vM b)
theorem Ck{n k:Nat}(h:bl n<=k):(dg n).length<=k/32+1:=Pu (dU.1 h)
theorem aIP{x:List Int}(h:cF x):(dg (val x)).length=x.length:=by rw[<-h]
abbrev K6:=Int×Int×Int×Int×Int×Int
def kP(k:K6):Nat:=k.2.1.toNat
def kH(k:K6):Nat:=2^(kP k-1)
end M
namespace M
open Go
theorem Rk{a b:Int}(ha:0<=a)(aWZ:a<18446744073709551616)(hb:0<=b)(vQ:b<18446744073709551616):AI.eN .and .u64 a b=((a.toNat &&& b.toNat:Nat):Int):=by
 obtain⟨n,rfl⟩:=bQY ha;obtain⟨m,rfl⟩:=bQY hb;rw[AI.sH];unfold AI.bitsI0;simp only;have e:(BitVec.ofInt u64.bits (n:Int) &&& BitVec.ofInt u64.bits (m:Int)).toNat=n &&& m:=by
  show(BitVec.ofInt 64 (n:Int) &&& BitVec.ofInt 64 (m:Int)).toNat=_;rw[BitVec.toNat_and];have e1:(BitVec.ofInt 64 (n:Int)).toNat=n:=by simp;omega
  have e2:(BitVec.ofInt 64 (m:Int)).toNat=m:=by simp;omega
  rw[e1,e2]
 have hle:n &&& m<=n:=Nat.and_le_left;rw[e,wrap_u64];rfl
theorem Ym{a b:Int}(ha:0<=a)(aWZ:a<18446744073709551616)(hb:0<=b)(vQ:b<18446744073709551616):AI.eN .or .u64 a b=((a.toNat |||b.toNat:Nat):Int):=by
 obtain⟨n,rfl⟩:=bQY ha;obtain⟨m,rfl⟩:=bQY hb;rw[AI.sH];unfold AI.bitsI0;simp only;have e:(BitVec.ofInt u64.bits (n:Int) |||BitVec.ofInt u64.bits (m:Int)).toNat=n |||m:=by
  show(BitVec.ofInt 64 (n:Int) |||BitVec.ofInt 64 (m:Int)).toNat=_;rw[BitVec.toNat_or];have e1:(BitVec.ofInt 64 (n:Int)).toNat=n:=by simp;omega
  have e2:(BitVec.ofInt 64 (m:Int)).toNat=m:=by simp;omega
  rw[e1,e2]
 have iN:n |||m<2^64:=Nat.or_lt_two_pow (by omega) (by omega);rw[e,wrap_u64];rfl
def tz:Nat->Nat
 |0=>0
 |n+1=>if(n+1)%2=1 then 0 else tz ((n+1)/2)+1
termination_by n=>n
decreasing_by omega
theorem yW{n:Nat}(h:n%2=1):tz n=0:=by
 cases n with
 |zero=>omega
 |succ n=>rw[tz,if_pos h]
theorem zZ{n:Nat}(h0:n≠0)(h:n%2=0):tz n=tz (n/2)+1:=by
 cases n with
 |zero=>omega
 |succ n=>rw[tz,aX]
theorem oS:∀n,n≠0->n%2^tz n=0/\(n/2^tz n)%2=1:=by
 intro n
 induction n using bRH with
 |_ n ih =>
  intro h0
  by_cases h:n%2=1
  ·rw[yW h];simp[Nat.mod_one];exact h
  ·rw[zZ h0 (by omega)];obtain⟨h1,h2⟩:=ih (n/2) (by omega) (by omega);have e:2^(tz (n/2)+1)=2*2^tz (n/2):=by rw[bQV];omega
   rw[e];refine⟨?_,by rw[<-bRN];exact h2⟩;have h3:=bRC (n/2) (2^tz (n/2));rw[h1]at h3;generalize tz (n/2)=t at *;have h4:n=2*2^t*(n/2/2^t):=by rw[bQZ];omega
   generalize n/2/2^t=q at *;rw[h4];exact Nat.mul_mod_right _ _
theorem Fq{n:Nat}(h:n≠0):2^tz n<=n:=by
 obtain⟨h1,h2⟩:=oS n h;have h3:=bRC n (2^tz n);rw[h1]at h3;generalize 2^tz n=p at *;generalize n/p=q at *;have:p*1<=p*q:=bOK _ (by omega);omega
theorem Lm{n:Nat}(h:n≠0):∀k,tz (2^k*n)=k+tz n
 |0=>by simp
 |k+1=>by
  have hp:0<2^k:=cP;have h0:2^k*n≠0:=Nat.mul_ne_zero (by omega) h;have e:2^(k+1)*n=2*(2^k*n):=by rw[bQV,bQU (2^k) 2,bQZ]
  rw[e,zZ (by omega) (by omega),Nat.mul_div_cancel_left _ (by omega),Lm h k];omega
theorem aMQ{r k n:Nat}(hr:r<2^k)(h:r≠0):tz (r+2^k*n)=tz r:=by
 induction k generalizing r n with
 |zero=>simp at hr;omega
 |succ k ih =>
  have e:2^(k+1)*n=2*(2^k*n):=by rw[bQV,bQU (2^k) 2,bQZ]
  rw[e];rw[bQV]at hr
  by_cases ho:r%2=1
  ·rw[yW ho,yW (by omega)]
  ·rw[zZ (by omega) (by omega),zZ h (by omega),show(r+2*(2^k*n))/2=r/2+2^k*n from by omega,ih (by omega) (by omega)]
theorem Px(a b:Nat):a &&& b=2*(a/2 &&& b/2)+(if a%2=1/\b%2=1 then 1 else 0):=by
 have h1:(a &&& b)/2=a/2 &&& b/2:=Nat.and_div_two;have h2:(a &&& b)%2=1↔a%2=1/\b%2=1:=Nat.and_mod_two_eq_one;rw[<-h1];split
 ·rename_i h;have:=h2.2 h;omega
 ·rename_i h;have:¬(a &&& b)%2=1:=fun hh=>h (h2.1 hh)
  omega
theorem Gx:∀(p m:Nat),m<2^p->m &&& (2^p-1-m)=0
 |0,m,h=>by simp at h;subst h;rfl
 |p+1,m,h=>by
  rw[bQV]at h ⊢;rw[Px,show(2^p*2-1-m)/2=2^p-1-m/2 from by omega,Gx p (m/2) (by omega),aX]
theorem Pw:∀(p a b:Nat),a+b=2^p->a≠0->b≠0->a &&& b=2^tz a
 |0,a,b,h,ha,hb=>by simp at h;omega
 |p+1,a,b,h,ha,hb=>by
  rw[bQV]at h;rw[Px]
  by_cases ho:a%2=1
  ·rw[yW ho,show b/2=2^p-1-a/2 from by omega,Gx p (a/2) (by omega),aT]
  ·rw[zZ ha (by omega),Pw p (a/2) (b/2) (by omega) (by omega) (by omega),aX,bQV,bQU,bMX]
theorem wK{pre:List Int}{i k:Nat}(h:pre.length=i)(v:Int):(pre ++ bNZ (k+1) 0).set i v=(pre ++ [v]) ++ bNZ k 0:=by
 subst h;rw[bTN _ _ (bLW _),bQA,bRE,bTO,bNR];rfl
theorem Cn{pre:List Int}{i:Nat}(h:pre.length=i)(v:Int)(r:List Int):(pre ++ v :: r).getD i 0=v:=by
 subst h;simp[bRA]
theorem Bw{pre:List Int}{i:Nat}(h:pre.length=i)(v u:Int)(r:List Int):(pre ++ v :: r).set i u=pre ++ u :: r:=by
 subst h;rw[bTN _ _ (bLW _),bQA,bTO]
theorem Cc{c n k:Nat}(h:c<2^k):c |||2^k*n=c+2^k*n:=by
 rw[Nat.or_comm,<-Nat.two_pow_add_eq_or_of_lt h,bRX]
theorem Kg(k:Nat):18446744073709551616^k=2^(64*k):=by rw[bSO]
theorem eQ{n k:Nat}(h:bl n<=64*k):(M6.dg n).length<=k:=by
 apply M6.cR;rw[Kg,<-dU];exact h
theorem yE{a:List Int}(h:M6.cE a){n:Nat}(hn:a.length<=n):bl (M6.val a)<=64*n:=by
 rw[dU,<-Kg];exact bMW (M6.cO h) (bOW (by omega) hn)
theorem aCQ{x:List Int}(h:M6.cF x):(M6.dg (M6.val x)).length=x.length:=by rw[<-h]
theorem aBL{n:Int}(h:0<=n):n.tdiv 64=n/64:=bTL h
theorem aBG{n:Int}(h:0<=n):n.tmod 64=n%64:=bTM h
theorem Gh(n:Nat):2^n=18446744073709551616^(n/64)*2^(n%64):=by
 rw[Kg,<-bQX];congr 1;omega
theorem Bu(x k:Nat)(h:k<64):x*2^k=18446744073709551616*(x/2^(64-k))+x*2^k%18446744073709551616:=by
 have e:(18446744073709551616:Nat)=2^(64-k)*2^k:=by rw[<-bQX,show 64-k+k=64 from by omega]
 have h1:x*2^k/18446744073709551616=x/2^(64-k):=by
  rw[e,Nat.mul_div_mul_right _ _ (cP)]
 have:=bRC (x*2^k) 18446744073709551616;rw[h1]at this;omega
theorem Es(x k:Nat)(h:k<64):x*2^k%18446744073709551616=2^k*(x%2^(64-k)):=by
 have e:(18446744073709551616:Nat)=2^(64-k)*2^k:=by rw[<-bQX,show 64-k+k=64 from by omega]
 rw[e,Nat.mul_mod_mul_right,bQU]
end M
namespace W
open Go AI
abbrev Ln(k:IntKind)(b:Nat):TI:={size:=1,bytes:=b,zero:=[.int k 0],kind:=.int k}
abbrev aWA(e:Nat):TI:={size:=1,bytes:=24,zero:=[.slice none 0 0],kind:=.slice e}
abbrev Dh(n b:Nat)(z:List Value)(f:List (Nat×Nat×Bool)):TI:={size:=n,bytes:=b,zero:=z,kind:=.struct f}
abbrev mT(k:IntKind):Value:=.int k 0
def Fu:List (Nat×TI):=[
 (2,Ln .i64 8),
 (3,Ln .i64 8),
 (4,{ size:=1,bytes:=1,zero:=[.bool false],kind:=TK.bool }),
 (5,Ln .u8 1),
 (6,Ln .u8 1),
 (7,Dh 4 24 [mT .i64,mT .i64,.bool false,mT .u8] [(0,1,false),(1,1,false),(2,1,false),(3,1,false)]),
 (8,Dh 4 24 [mT .i64,mT .i64,.bool false,mT .u8] [(0,1,false),(1,1,false),(2,1,false),(3,1,false)]),
 (9,{ size:=1,bytes:=16,zero:=[Value.string ByteArray.empty],kind:=TK.str }),
 (10,{ size:=1,bytes:=16,zero:=[Value.string ByteArray.empty],kind:=TK.str }),
 (11,{ size:=1,bytes:=16,zero:=[Value.string ByteArray.empty],kind:=TK.str }),
 (12,Ln .u64 8),
 (18,Dh 1 8 [.pointer none] [(0,1,false)]),
 (19,Dh 1 8 [.pointer none] [(0,1,false)]),
 (21,Ln .i32 4),
 (22,Ln .u64 8),
 (25,aWA 22),
 (26,Dh 2 32 [.bool false,.slice none 0 0] [(0,1,false),(1,1,false)]),
 (27,Dh 2 32 [.bool false,.slice none 0 0] [(0,1,false),(1,1,false)]),
 (28,Dh 3 40 [.bool false,.slice none 0 0,mT .i64] [(0,2,true),(2,1,false)]),
 (29,Dh 3 40 [.bool false,.slice none 0 0,mT .i64] [(0,2,true),(2,1,false)]),
 (30,Dh 6 80 [.bool false,.slice none 0 0,mT .i64,.bool false,.slice none 0 0,mT .i64] [(0,3,true),(3,3,true)]),
 (31,Dh 6 80 [.bool false,.slice none 0 0,mT .i64,.bool false,.slice none 0 0,mT .i64] [(0,3,true),(3,3,true)]),
 (32,Ln .i64 8),
 (35,Ln .i64 8),
 (47,Ln .i64 8),
 (65,aWA 29),
 (77,Dh 2 16 [mT .i64,.bool false] [(0,1,false),(1,1,false)]),
 (78,Dh 2 16 [mT .i64,.bool false] [(0,1,false),(1,1,false)]),
 (89,Dh 4 32 [mT .i64,mT .i64,mT .i64,mT .u64] [(0,1,false),(1,1,false),(2,1,false),(3,1,false)]),
 (90,Dh 4 32 [mT .i64,mT .i64,mT .i64,mT .u64] [(0,1,false),(1,1,false),(2,1,false),(3,1,false)]),
 (100,Dh 3 24 [mT .i64,mT .i64,mT .i64] [(0,1,false),(1,1,false),(2,1,false)]),
 (101,Dh 3 24 [mT .i64,mT .i64,mT .i64] [(0,1,false),(1,1,false),(2,1,false)]),
 (113,aWA 156),
 (116,Dh 2 32 [.bool false,.slice none 0 0] [(0,1,false),(1,1,false)]),
 (117,Dh 2 32 [.bool false,.slice none 0 0] [(0,1,false),(1,1,false)]),
 (121,Ln .i64 8),
 (131,aWA 31),
 (137,Ln .i64 8),
 (156,Ln .u32 4),
 (157,Ln .u64 8),
 (160,Dh 5 72 [.bool false,.slice none 0 0,.bool false,.slice none 0 0,mT .i64] [(0,2,true),(2,2,true),(4,1,false)]),
 (161,Dh 5 72 [.bool false,.slice none 0 0,.bool false,.slice none 0 0,mT .i64] [(0,2,true),(2,2,true),(4,1,false)]),
 (188,Ln .i64 8),
 (211,{ size:=64,bytes:=64,zero:=(bNZ 64 (mT .u8)),kind:=TK.arr 64 1 false }),
 (236,Dh 6 48 [mT .u64,mT .i64,mT .i64,mT .i64,mT .u64,mT .u64] [(0,1,false),(1,1,false),(2,1,false),(3,1,false),(4,1,false),(5,1,false)]),
 (237,Dh 6 48 [mT .u64,mT .i64,mT .i64,mT .i64,mT .u64,mT .u64] [(0,1,false),(1,1,false),(2,1,false),(3,1,false),(4,1,false),(5,1,false)]),
 (250,{ size:=4,bytes:=96,zero:=[.slice none 0 0,.slice none 0 0,.slice none 0 0,.slice none 0 0],kind:=TK.arr 4 1 false }),
 (273,{ size:=0,bytes:=0,zero:=[],kind:=TK.arr 0 1 false }),
 (274,Dh 0 0 [] [(0,0,true)]),
 (275,Dh 0 0 [] [(0,0,true)]),
 (277,Ln .u8 1),
 (278,Ln .u8 1),
 (281,Ln .i32 4),
 (282,Ln .i32 4),
 (283,Dh 11 48 [mT .u64,mT .u64,mT .u32,mT .u8,mT .u8,mT .u8,mT .u8,Value.nilFunc,.pointer none,mT .i32,mT .i32] [(0,1,false),(1,1,false),(2,1,false),(3,1,false),(4,1,false),(5,1,false),(6,1,false),(7,1,false),(8,1,false),(9,1,false),(10,1,false)]),
 (284,Dh 11 48 [mT .u64,mT .u64,mT .u32,mT .u8,mT .u8,mT .u8,mT .u8,Value.nilFunc,.pointer none,mT .i32,mT .i32] [(0,1,false),(1,1,false),(2,1,false),(3,1,false),(4,1,false),(5,1,false),(6,1,false),(7,1,false),(8,1,false),(9,1,false),(10,1,false)])]
theorem pD:mG prog (tlook Fu):=aHT Fu (by kernel_rfl) (by kernel_rfl) (by kernel_rfl)
def ext:FuncId->List Value->Option (Prop×List Value):=(Xj 175 aPA (Xj 173 gAdd Xi))
theorem mF:Yb prog ext:=(Qp (Qq (P:=prog) (f:=175) (fn:=f175) (e:=uK) func175 rfl rfl (by kernel_rfl) (by kernel_rfl)) aJI (Qp (Qq (P:=prog) (f:=173) (fn:=f173) (e:=add64Entry) func173 rfl rfl (by kernel_rfl) (by kernel_rfl)) aJJ Ub))
def globs(g:Nat):Option (IntKind×List Int):=bif bLX g 0 then some (.u8,[0,1,56,2,57,49,28,3,61,58,42,50,38,29,17,4,62,47,59,36,45,43,51,22,53,39,33,30,24,18,12,5,63,55,48,27,60,41,37,16,46,35,44,21,52,32,23,11,54,26,40,15,34,20,31,10,25,14,19,9,13,8,7,6])else(none)
def base:Env:={ T:=tlook Fu,C:=fun _ _=>none,ext:=ext,glob:=globs,nt:=0,own:=[],keep:=fun _=>[],roll:=fun _=>none,cut:=fun _=>none }
theorem mixed:prog.follows .mixedOrders=true:=by kernel_rfl
abbrev OK(n:Nat)(o:dG):Prop:=kZ prog base.glob n o
theorem eF(E:Env)(c:Code){n:FuncId}{f:Func}{t:List (Nat×dG)}(h:∀p∈t,kZ prog base.glob p.1 p.2)(hf:prog.funcs[n]?=some f)(hb:f.body=some c:=by exact rfl)(hn:(f.name== "runtime.NumGoroutine")=false:=by exact rfl)(hE:E={ base with C:=callsOf t,nt:=f.ntmps,own:=E.own,keep:=E.keep,cut:=E.cut,wide:=E.wide }:=by exact rfl):qI prog E n f c:=by
 have hg:E.glob=base.glob:=by rw[hE]
 exact Zj (by rw[hE];exact pD) mixed (kG t (by rw[hE]) (by rw[hg];exact h) (by rw[hE];exact mF) (by rw[hE];rfl)) hf hb (by rw[hE]) hn (by rw[hE];rfl)
abbrev Jb:TypeId:=156
abbrev eX:TypeId:=22
end W
namespace AI
open Go Go.RowKit
theorem Contract.bGM{P:Program}{G:Nat->Option (IntKind×List Int)}{f:FuncId}{d d' e e' g g' k k' l l':D}{rs:List D}(h:Contract P G f [d',e',g',k',l'] rs)(hd:zY d d')(he:zY e e')(hg:zY g g')(hk:zY k k')(hl:zY l l'):Contract P G f [d,e,g,k,l] rs :=
 h.of rfl fun i x x' hx vZ=>by
  match i with
  |0=>simp at hx vZ;subst hx;subst vZ;exact hd
  |1=>simp at hx vZ;subst hx;subst vZ;exact he
  |2=>simp at hx vZ;subst hx;subst vZ;exact hg
  |3=>simp at hx vZ;subst hx;subst vZ;exact hk
  |4=>simp at hx vZ;subst hx;subst vZ;exact hl
  |i+5=>simp at hx
def orc5{α β γ δ ε:Type}(p:kN α)(q:kN β)(r:kN γ)(s:kN δ)(t:kN ε)(f:α->β->γ->δ->ε->Prop×List D):dG
 | [a,b,c,d,e]=>match p.get a,q.get b,r.get c,s.get d,t.get e with
  |some x,some y,some z,some u,some v=>some (f x y z u v)
  |_,_,_,_,_=>none
 |_=>none
variable {P:Program} {E:Env} {f:FuncId} {fn:Func} {c:Code}
theorem qI.aXV{α β γ δ ε:Type}(h:qI P E f fn c){p:kN α}{p':kN β}{Mc:kN γ}{p3:kN δ}{p4:kN ε}{g:α->β->γ->δ->ε->Prop×List D}(hn:bLZ 5 fn.ntmps=true)(hs:∀x y z u v,(g x y z u v).1->aF E fn c [p.put x,p'.put y,Mc.put z,p3.put u,p4.put v]=some (g x y z u v).2):kZ P E.glob f (orc5 p p' Mc p3 p4 g):=by
 intro ds q rs hd hg;unfold orc5 at hd;split at hd
 ·split at hd
  ·rename_i x y z u v hx hy hz hu hv;have hd:=Option.some.inj hd;have e1:q=(g x y z u v).1:=by rw[hd]
   have e2:rs=(g x y z u v).2:=by rw[hd]
   subst e1;subst e2;exact⟨(fn_contract (ds:=[p.put x,p'.put y,Mc.put z,p3.put u,p4.put v]) h.ty h.calls h.mix h.fnc h.body h.nt h.io (bNU hn) (hs x y z u v hg)).bGM (p.le hx) (p'.le hy) (Mc.le hz) (p3.le hu) (p4.le hv),h.has⟩
  ·cases hd
 ·cases hd
end AI
namespace M
open Go AI
def wv(x:Bool×List Int):Int:=zs x.1 (M6.val x.2)
def jY(x:Bool×List Int):Prop:=M6.cF x.2/\(x.1=true->M6.val x.2≠0)/\x.2.length<=8192
def wD(z:Int):D:=.agg [.sc (.bool (isNeg z)),.ints .u64 (M6.dg z.natAbs)]
def fit(n:Nat):Bool:=decide (bl n<=524288)
theorem iW(x:Bool×List Int):(wv x).natAbs=M6.val x.2:=kB _ _
theorem Lj{x:Bool×List Int}(h:x.1=true):wv x=-(M6.val x.2:Int):=by unfold wv zs;rw[h];rfl
theorem Bp{x:Bool×List Int}(h:x.1=false):wv x=(M6.val x.2:Int):=by unfold wv zs;rw[h];rfl
theorem jY.cells{x:Bool×List Int}(h:jY x):isNeg (wv x)=x.1/\M6.dg (wv x).natAbs=x.2:=by
 obtain⟨h1,h2,h3⟩:=h;unfold wv;rw[Fo,kB,<-h1];refine⟨?_,rfl⟩;cases hx:x.1 with
 |false=>rfl
 |true=>rw[decide_eq_true (h2 hx)];rfl
theorem jY.len{x:Bool×List Int}(h:jY x):x.2.length<=8192:=h.2.2
theorem aKT(b:Bool)(n:Nat):wD (zs b n)=.agg [.sc (.bool (b&&decide (n≠0))),.ints .u64 (M6.dg n)]:=by
 unfold wD;rw[Fo,kB]
theorem rT(z:Int):wv (isNeg z,M6.dg z.natAbs)=z:=by
 unfold wv zs;simp only[M6.bI];cases h:isNeg z with
 |true=>have:=lP.1 h;simp only[cond_true];omega
 |false=>have:=jI.1 h;simp only[cond_false];omega
theorem mN{z:Int}(h:bl z.natAbs<=524288):jY (isNeg z,M6.dg z.natAbs):=by
 refine⟨M6.aW _,fun hn=>?_,eQ (k:=8192) (by omega)⟩;rw[M6.bI];have:=lP.1 hn;omega
theorem Um{n:Nat}(h:(M6.dg n).length<=8192):bl n<=524288:=by
 have:=yE (M6.iO n) h;rw[M6.bI]at this;omega
theorem jY.bl{x:Bool×List Int}(h:jY x):bl (M6.val x.2)<=524288:=by
 have:=yE h.1.iU h.len;omega
def wE(ok:Bool)(z:Int):List D:=[wD (bif ok then z else 0),.s (.sc (.int .i64 (bif ok then 0 else 5)))]
theorem Eo(neg ok:Bool)(n:Nat):[D.agg [.sc (.bool (isNeg (bif (bif ok then(0:Int)else 5)==0 then zs neg (M6.val (bif ok then M6.dg n else []))else 0))),.ints .u64 (M6.dg (bif (bif ok then(0:Int)else 5)==0 then zs neg (M6.val (bif ok then M6.dg n else []))else 0).natAbs)],D.s (.sc (.int .i64 (bif ok then 0 else 5)))]=wE ok (zs neg n):=by
 cases ok with
 |true=>rw[cond_true,cond_true,show((0:Int)==0)=true from rfl,cond_true,M6.bI];rfl
 |false=>rfl
theorem Ff{ok:Bool}{n:Nat}(h:ok=true->bl n<=524288):M6.cF (bif ok then M6.dg n else [])/\(bif ok then M6.dg n else []).length<=1099511627776:=by
 cases ok with
 |true=>have:=eQ (n:=n) (k:=8192) (by have:=h rfl;omega);exact⟨M6.aW _,by rw[cond_true];omega⟩
 |false=>exact⟨M6.Fc,by simp⟩
theorem xX{n:Nat}:decide ((M6.dg n).length<=8192)=fit n:=by
 unfold fit
 by_cases h:bl n<=524288
 ·rw[decide_eq_true h,decide_eq_true (eQ (k:=8192) (by omega))]
 ·rw[decide_eq_false h,decide_eq_false (fun hl=>h (Um hl))]
theorem wY{n:Nat}(h:fit n=true):bl n<=524288:=of_decide_eq_true h
end M
namespace M
open Go AI
abbrev dR:=Bool×List Int×Int
def aJ(x:dR):Prop:=jY (x.1,x.2.1)/\(-1048576<=x.2.2/\x.2.2<=1048576)/\(M6.val x.2.1=0->x.2.2=0)/\(M6.val x.2.1≠0->M6.val x.2.1%2=1)
def dv(x:dR):Int×Int:=(wv (x.1,x.2.1),x.2.2)
def dD(p:Int×Int):D:=.agg [.sc (.bool (isNeg p.1)),.ints .u64 (M6.dg p.1.natAbs),.sc (.int .i64 p.2)]
def dE(ok:Bool)(p:Int×Int):List D:=[dD (bif ok then p else(0,0)),.s (.sc (.int .i64 (bif ok then 0 else 5)))]
def aL(z e:Int):Int×Int:=if z=0 then(0,0)else(z/((2^tz z.natAbs:Nat):Int),e+(tz z.natAbs:Nat))
def fM(z e:Int):Bool:=decide (z=0)||(decide (-1048576<=e+(tz z.natAbs:Nat))&&decide (e+(tz z.natAbs:Nat)<=1048576))
theorem aJ.Eb{x:dR}(h:aJ x):jY (x.1,x.2.1):=h.1
theorem aJ.len{x:dR}(h:aJ x):x.2.1.length<=8192:=h.1.len
theorem aJ.Iu{x:dR}(h:aJ x):M6.cF x.2.1:=h.1.1
theorem aJ.dD{x:dR}(h:aJ x):M.dD (dv x)=.agg [.sc (.bool x.1),.ints .u64 x.2.1,.sc (.int .i64 x.2.2)]:=by
 have:=h.Eb.cells;unfold M.dD dv;dsimp only at *;rw[this.1,this.2]
theorem aHO{b:Bool}{n:Nat}:zs b n=0↔n=0:=by
 have:=kB b n;omega
theorem aAV{b:Bool}{n q:Nat}(hq:0<q)(h:n%q=0):zs b n/(q:Int)=zs b (n/q):=by
 have hd:=bRC n q;have e:n=q*(n/q):=by omega
 cases b with
 |false =>
  show((n:Nat):Int)/(q:Int)=((n/q:Nat):Int);rw[bRM]
 |true =>
  show -(n:Int)/(q:Int)=-((n/q:Nat):Int);have e1:-(n:Int)=(q:Int)*(-((n/q:Nat):Int)):=by rw[Int.mul_neg,<-bRU,<-e]
  rw[e1,Int.mul_ediv_cancel_left _ (by omega)]
theorem Aa{n:Nat}(h:n≠0):tz n<bl n:=by
 have h1:=Fq h;exact rP.2 h1
def iS(p:Int×Int):Prop:=bl p.1.natAbs<=524288/\(-1048576<=p.2/\p.2<=1048576)/\(p.1=0->p.2=0)/\(p.1≠0->p.1%2=1)
theorem cT(p:Int×Int):dv (isNeg p.1,M6.dg p.1.natAbs,p.2)=p:=by
 unfold dv;dsimp only;rw[rT]
theorem cK{p:Int×Int}(h:iS p):aJ (isNeg p.1,M6.dg p.1.natAbs,p.2):=by
 obtain⟨h1,h2,h3,h4⟩:=h;refine⟨mN h1,h2,fun hz=>h3 ?_,fun hz=>?_⟩
 ·dsimp only at hz;rw[M6.bI]at hz;omega
 ·dsimp only at hz ⊢;rw[M6.bI]at hz ⊢;have:=h4 (by omega);omega
theorem aJ.qJ{x:dR}(h:aJ x):iS (dv x):=by
 obtain⟨h1,h2,h3,h4⟩:=h;have ha:=iW (x.1,x.2.1);dsimp only at ha;refine⟨?_,h2,fun hz=>h3 ?_,fun hz=>?_⟩
 ·show bl (wv _).natAbs<=_;rw[ha];exact h1.bl
 ·have hz:wv (x.1,x.2.1)=0:=hz;omega
 ·have hz:wv (x.1,x.2.1)≠0:=hz;have:=h4 (by omega);show wv (x.1,x.2.1)%2=1;omega
theorem iS.neg{p:Int×Int}(h:iS p):iS (-p.1,p.2):=by
 obtain⟨h1,h2,h3,h4⟩:=h;refine⟨by dsimp only;rwa [bSQ],h2,fun hz=>h3 (by dsimp only at hz;omega),fun hz=>?_⟩;have:=h4 (by dsimp only at hz;omega);dsimp only;omega
theorem bKY{z:Int}{m n:Nat}(hm:bl z.natAbs<=m)(hn:bl z.natAbs<=n):z/((2^m:Nat):Int)=z/((2^n:Nat):Int):=by
 have one:∀k,bl z.natAbs<=k->z/((2^k:Nat):Int)=if z<0 then -1 else 0:=by
  intro k hk;have h:=dU.1 hk;have hp:0<2^k:=bOV (by decide);generalize 2^k=q at *
  by_cases hz:z<0
  ·rw[if_pos hz];have e:z=(q+z)+(q:Int)*(-1):=by omega
   rw[e,Int.add_mul_ediv_left _ _ (by omega),bTP (by omega) (by omega)];rfl
  ·rw[if_neg hz,bTP (by omega) (by omega)]
 rw[one m hm,one n hn]
theorem Ax{z:Int}{q:Nat}(hq:0<q):(z/(q:Int)).natAbs<=z.natAbs:=by
 have h:=Int.mul_ediv_add_emod z (q:Int);have h1:=Int.emod_nonneg z (show(q:Int)≠0 by omega);have h2:=Int.emod_lt_of_pos z (show 0<(q:Int) by omega)
 by_cases hz:0<=z
 ·have h3:0<=z/(q:Int):=Int.ediv_nonneg hz (by omega);have h4:z/(q:Int)<=z:=Int.ediv_le_self _ hz;omega
 ·have h3:z/(q:Int)<0:=Int.ediv_neg_of_neg_of_pos (by omega) (by omega);have h4:(q:Int)*(z/(q:Int)+1)<=1*(z/(q:Int)+1):=Int.mul_le_mul_of_nonpos_right (by omega) (by omega);rw[Int.mul_add]at h4;omega
end M
open Go.Value(int bool slice)
open AI.S(sc ints)
namespace W
open Go AI M
def mE(t:List (Nat×dG))(n:Nat)(o:List Nat)(k:List (Nat×List Nat))(c:List Nat):Env:={({base with C:=callsOf t})with nt:=n,own:=o,keep:=fun j=>(tlook k j).getD [],cut:=fun j=>bif c.elem j then tlook k j else none}
noncomputable def bd(f:Func):Code:=f.body.getD .skip
def vA(s:S):KV:=(A.v (V.one (L.s s)),none)
def fW(l:List Int):KV:=vA (S.ints .u64 l)
def wA(l:List Int):KV:=vA (S.ints .u32 l)
def bP(n:Int):KV:=vA (S.sc (.int .i64 n))
def cZ(n:Int):KV:=vA (S.sc (.int .u64 n))
def Lk(b:Bool):KV:=vA (S.sc (.bool b))
def cQ(i e:Nat)(c:List S):KV:=(A.v (V.one (L.ptr i 0)),some ⟨e,.cells c⟩)
def cI(n:Int):S:=S.sc (.int .i64 n)
def aHS(n:Int):S:=S.sc (.int .u64 n)
def bW(b:Bool):S:=S.sc (.bool b)
def dZ(l:List Int):S:=S.ints .u64 l
def aRP(l:List Int):S:=S.ints .u32 l
def yG(i n e:Nat)(l:List Int):KV:=(A.v (V.one (L.buf i n)),some ⟨e,.ints .u64 l⟩)
abbrev gO{α:Type}(E:Env)(f:Func)(c:Code)(p:kN α)(g:α→Prop×List D):Prop:=∀x,(g x).1→aF E f c [p.put x]=some (g x).2
abbrev fI{α β:Type}(E:Env)(f:Func)(c:Code)(p:kN α)(q:kN β)(g:α→β→Prop×List D):Prop:=∀x y,(g x y).1→aF E f c [p.put x,q.put y]=some (g x y).2
abbrev sR{α β γ:Type}(E:Env)(f:Func)(c:Code)(p:kN α)(q:kN β)(r:kN γ)(g:α→β→γ→Prop×List D):Prop:=∀x y z,(g x y z).1→aF E f c [p.put x,q.put y,r.put z]=some (g x y z).2
abbrev aGD{α β γ δ:Type}(E:Env)(f:Func)(c:Code)(p:kN α)(q:kN β)(r:kN γ)(t:kN δ)(g:α→β→γ→δ→Prop×List D):Prop:=∀x y z u,(g x y z u).1→aF E f c [p.put x,q.put y,r.put z,t.put u]=some (g x y z u).2
abbrev aGC{α:Type}(E:Env)(f:Func)(c:Code)(p:kN α)(g:α→Prop×List D):Prop:=∀x,(g x).1→∃rs,aF E f c [p.put x]=some rs∧fP rs (g x).2
abbrev El{α β:Type}(E:Env)(f:Func)(c:Code)(p:kN α)(q:kN β)(g:α→β→Prop×List D):Prop:=∀x y,(g x y).1→∃rs,aF E f c [p.put x,q.put y]=some rs∧fP rs (g x y).2
abbrev aVR{α β γ:Type}(E:Env)(f:Func)(c:Code)(p:kN α)(q:kN β)(r:kN γ)(g:α→β→γ→Prop×List D):Prop:=∀x y z,(g x y z).1→∃rs,aF E f c [p.put x,q.put y,r.put z]=some rs∧fP rs (g x y z).2
abbrev qK:=pG (.pair sB (.pair (sI .u64) (.pair (sN .i64) (.pair sB (.pair (sI .u64) (sN .i64))))))
abbrev gZ:=pG (.pair sB (.pair (sI .u64) (sN .i64)))
abbrev aWC:=pG (.pair sB (sI .u32))
abbrev vY:=pG (.pair sB (sI .u64))
namespace fA
def E:=mE [] 20 [] [] []
def aE:=bd f167
theorem aU:Nk E aE:=nk
theorem start a:aF E f167 aE [D.s (ints u64 a)]=letI A:=(a.length:Int);letI B:=A-(1:Int);aB (decide (A<=(8192:Int))) (aB (A==(0:Int)) (some [D.s (sc (bool true))]) (if 0<=i64.wrap B/\i64.wrap B<A then some [D.s (sc (bool (a.getD (i64.wrap B).toNat 0 !=(0:Int))))]else none)) (some [D.s (sc (bool false))]):=eJ aU
def mR(a:List Int):Bool:=decide (a.length<=8192)&&(a.length==0||a.getD (a.length-1) 0 !=0)
theorem lS{a:List Int}(h:M6.cF a)(hl:a.length<=8192):mR a=true:=by
 unfold mR;rw[decide_eq_true hl,bOX]
 by_cases hz:a.length=0
 ·simp[hz]
 ·have:=M6.getLast_take (a:=a) (n:=a.length-1) (by omega);rw[show a.length-1+1=a.length from by omega,bSR]at this;have:=h.top this;have e1:(a.getD (a.length-1) 0 !=0)=true:=by simpa using this
  rw[e1,bRV]
def sp(a:List Int):Prop×List D:=(a.length<=1099511627776,[.s (.sc (.bool (mR a)))])
theorem spec:gO E f167 aE (pI .u64) sp:=by
 intro a h;have hl:a.length<=1099511627776:=h;refine(start a).trans ?_;show _=some [D.s (.sc (.bool (mR a)))];unfold mR
 by_cases h1:a.length<=8192
 ·rw[aN,decide_eq_true h1,bOX]
  by_cases hz:a.length=0
  ·rw[cN];simp[hz]
  ·have e:((a.length:Int)-1).toNat=a.length-1:=by omega
   rw[bV,wrap_i64 (n:=(a.length:Int)-1),aT,e];simp[hz]
 ·rw[aI,decide_eq_false h1];rfl
def aH:dG:=orc1 (pI .u64) sp
theorem ok:OK 167 aH:=(eF E aE aD func167).nN rfl spec
end fA
namespace gG
def E:=mE [(167,fA.aH)] 17 [] [] []
def aE:=bd f112
theorem aU:Nk E aE:=nk
theorem start a b:aF E f112 aE [D.agg [sc (bool a),ints u64 b]]=aO (b.length<=1099511627776) (aB (fA.mR b) (aB a (some [D.s (sc (bool !(b.length:Int)==(0:Int)))]) (some [D.s (sc (bool true))])) (some [D.s (sc (bool false))])):=eJ aU
def qL(x:Bool×List Int):Bool:=fA.mR x.2&&!(x.1&&((x.2.length:Int)==0))
theorem nB{x:Bool×List Int}(h:jY x):qL x=true:=by
 unfold qL;rw[fA.lS h.1 h.len,bOX];cases hx:x.1 with
 |false=>rfl
 |true =>
  have:=h.2.1 hx;have hz:x.2.length≠0:=fun hl=>this ((M6.cS h.1).1 hl)
  rw[bOX,beq_eq_false_iff_ne.2 (by omega)];rfl
def sp(x:Bool×List Int):Prop×List D:=(x.2.length<=1099511627776,[.s (.sc (.bool (qL x)))])
theorem spec:gO E f112 aE vY sp:=by
 intro x h;have hl:x.2.length<=1099511627776:=h;refine(start x.1 x.2).trans ?_;show _=some [D.s (.sc (.bool (qL x)))];unfold qL;rw[gP hl];cases fA.mR x.2 with
 |false=>rfl
 |true=>cases x.1 <;> rfl
def aH:dG:=orc1 vY sp
theorem ok:OK 112 aH:=(eF E aE (aA fA.ok aD) func112).nN rfl spec
end gG
namespace kM
def E:=mE [] 8 [] [] []
def aE:=bd f68
theorem aU:Nk E aE:=nk
theorem start a b c:aF E f68 aE [D.agg [sc (bool a),ints u64 b,sc (int i64 c)]]=some [D.s (sc (bool ((b.length:Int)==(0:Int))))]:=eJ aU
def sp(x:dR):Prop×List D:=(True,[.s (.sc (.bool ((x.2.1.length:Int)==0)))])
theorem spec:gO E f68 aE gZ sp:=fun x h=>start x.1 x.2.1 x.2.2
def aH:dG:=orc1 gZ sp
theorem ok:OK 68 aH:=(eF E aE aD func68).nN rfl spec
end kM
namespace kA
def E:=mE [(112,gG.aH),(68,kM.aH)] 29 [] [(3,[1])] [3]
def aE:=bd f61
theorem aU:Nk E aE:=nk
def J3 a b c:=kV E f61 aE 3 [cQ 0 29 [bW a,dZ b,cI c]]
theorem start a b c:aF E f61 aE [D.agg [sc (bool a),ints u64 b,sc (int i64 c)]]=letI A:=some [D.s (sc (bool false))];aO (b.length<=1099511627776) (aB (!gG.qL (a,b)) A (aB (decide (c<(-1048576:Int))) A (aB (decide (1048576<c)) A (kA.J3 a b c)))):=eJ aU
theorem fR a b c:J3 a b c=aO True (aB ((b.length:Int)==(0:Int)) (some [D.s (sc (bool (c==0)))]) (if(0:Int)<=(0:Int)/\0<(b.length:Int)then some [D.s (sc (bool (eN BinOp.and u64 (b.getD 0 0) 1==(1:Int))))]else none)):=cJ aU
def sp(x:dR):Prop×List D:=(aJ x,[.s (.sc (.bool true))])
theorem aIO{a:List Int}(h:M6.cF a)(hv:M6.val a%2=1):eN .and .u64 (a.getD 0 0) 1=1:=by
 have g:=h.iU.get 0;rw[Rk g.1 g.2 (by omega) (by omega)];have e:M6.val a=(a.getD 0 0).toNat+18446744073709551616*M6.val (a.drop 1):=by
  have:=M6.fY (a:=a) 0;rwa [bSE]at this
 have e1:(a.getD 0 0).toNat &&& (1:Int).toNat=(a.getD 0 0).toNat%2:=Nat.and_one_is_mod _;rw[e1];omega
theorem spec:gO E f61 aE gZ sp:=by
 intro x h;have h:aJ x:=h;have hl:=h.len;have hf:=gG.nB h.Eb;have hn:=h.Iu;obtain⟨b,a,e⟩:=x;obtain⟨hw,he,h0,h1⟩:=h;refine(start b a e).trans ?_
 try dsimp only at *
 unfold sp
 try dsimp only
 rw[gP,hf,bNW,bF,aI,aI,fR,gP trivial]
 try dsimp only
 by_cases hz:a.length=0
 ·rw[cN,h0 ((M6.cS hn).1 hz)];rfl
 ·rw[bV,if_pos ⟨by omega,by omega⟩,aIO hn (h1 (fun hv=>hz ((M6.cS hn).2 hv)))];rfl
def aH:dG:=orc1 gZ sp
theorem ok:OK 61 aH:=(eF E aE (aA gG.ok (aA kM.ok aD)) func61).nN rfl spec
end kA
namespace Clone
def Jd:Go.Shelf.Ren:=⟨fun |41=>121 |n=>n,fun |22=>25 |23=>22 |4=>4 |n=>n,fun |n=>n⟩
theorem Cl:Go.Proofs.SlLaysE0.n41 prog Jd:={
 mixed:=by kernel_rfl
 f41:=⟨f121.name,by decide,func121.trans (congrArg some (by kernel_rfl))⟩
 t4:=Tryz.underlying4
 a4:=Tryz.isAgg4
 z4:=Tryz.sizeOf4
 v4:=Tryz.zeroValue4
 t22:=Tryz.underlying25
 a22:=Tryz.isAgg25
 z22:=Tryz.sizeOf25
 v22:=Tryz.zeroValue25 }
def sp(a:List Int):Prop×List D:=(a.length<=1099511627776,[.s (.ints .u64 a)])
section
open Go.Shelf Go.RowKit Go.Lib
set_option maxHeartbeats 2000000
set_option maxRecDepth 100000
theorem zero{P:Program}{ρ:Ren}(L:SlLaysE0.n41 P ρ)(i0:TypeInfo)(z:Value)(bytes:Nat)(hi:P.info? (ρ.t 23)=some i0)(Yt:i0.zero=some z)(aLN:i0.size=1)(aNT:i0.bytes=bytes)(Wx:z.cells.size=1)
  (z23:∀w,(Go.sizeOf (ρ.t 23)).run P w=.ok 1 w) (a:Addr) (c:Nat) (w:World) :
  Calls P (ρ.f 41) #[.slice (some a) 0 c] w fun e w'=>∃v',e=.returned v'/\w'.ownsRow w.heap.size (ρ.t 23) 1 v' 0 []/\Below w.heap.size w w':=by
 have mixed:=L.mixed;have t4:=L.t4;have a4:=L.a4;have z4:=L.z4;have v4:=L.v4;have t22:=L.t22;have a22:=L.a22;have z22:=L.z22;have v22:=L.v22;have q22:∀(w:World) (a:Option Addr) (n c n' c':Nat),(binOp .eql (ρ.t 22) (.slice a n c) (.slice none n' c')).run P w=.ok (.bool a.isNone) w:=fun w a n c n' c'=>Lib.run_eql_slice_nil w _ _ a n c n' c' L.t22
 have u22:∀w,Sem.run P (underlying (ρ.t 22)) w=.ok (TypeDesc.slice (ρ.t 23)) w:=run_underlying t22;obtain⟨_,_,FG⟩:=L.f41
 go_enter FG,SlBodyN.n41_ntmps ρ
 go_wp2_with (at_builtin;refine wpList_append_own _ rfl _ _ (ρ.t 22) rfl w.heap.size (ρ.t 23) i0 z 1 bytes t22 hi Yt aLN aNT Wx (by decide) _ _ _ rfl (World.ownsRow_made w #[] 0 (bLW _) (bRZ _) (by simp)) a 0 c [] rfl rfl (by intro j u hj;simp at hj) (by intro u hu;cases hu) (by unfold maxLen;omega) (by omega) (by simp) ?_)
 intro v' w1 pZ aUI aTO
 go_wp2
 go_ret
 exact⟨v',rfl,by simpa using pZ,((Below.refl _ w).alloc (bLW _) _).grown aUI (by simp) (by intro k hk;simp[Value.ownBlock]at hk;omega)⟩
end
theorem aCN{X:Nat->Prop}{w:World}{base:Nat}{e:TypeId}{v:Value}{a:List Int}(hX:∀b,X b->b<base)(h:w.ownsRow base e 1 v a.length (a.map (Value.int .u64))):mW X w (.ints .u64 a) v:=by
 obtain⟨_,⟨rfl,h0⟩ |⟨g,cap,cur,rfl,hg,hb,hn,hm,hs,ht⟩⟩:=h
 ·have:a=[]:=List.length_eq_zero_iff.1 h0;subst this;exact⟨none,0,rfl,bLW _,fun i n hn=>by simp at hn⟩
 ·refine⟨some ⟨g,0,none⟩,cap,rfl,hn,fun i n hi=>⟨g,0,rfl,?_,fun hx=>?_,?_⟩⟩
  ·exact(Array.getElem?_eq_some_iff.1 hb).1
  ·have:=hX g hx;omega
  ·have iN:i<a.length:=(List.getElem?_eq_some_iff.1 hi).1;have e1:(cur.toList.take (a.length*1))[i]?=some (Value.int .u64 n):=by
    rw[ht,bMA,hi];rfl
   rw[List.getElem?_take,aT]at e1;simp only[World.cell?,hb,bLY];simpa using e1
theorem aIN{Y:Nat->Prop}{base:Nat}{w:World}{d:D}{v:Value}(hd:iV d=false)(h:lK Y w d v):Uy Y base w [d] [v]:=by
 refine⟨fun _=>0,rfl,fun i j d1 d2 h1 h2 o1 _ _=>?_,fun i d1 v1 h1 h2=>?_⟩
 ·have:d1=d:=by
   match i with
   |0=>simpa using h1.symm
   |i+1=>simp at h1
  rw[this,hd]at o1;cases o1
 ·have h3:d1=d/\v1=v:=by
   match i with
   |0=>exact⟨by simpa using h1.symm,by simpa using h2.symm⟩
   |i+1=>simp at h1
  obtain⟨rfl,rfl⟩:=h3;have e:(fun b=>Y b\/∃(j:Nat) (d':D),[d1][j]?=some d'/\iV d'=true/\(fun _:Nat=>0) j=b)=Y:=by
   funext b;refine propext ⟨fun hh=>?_,.inl⟩;rcases hh with hh |⟨j,d',h4,h5,_⟩
   ·exact hh
   ·match j with
    |0 =>
     have:d'=d1:=by simpa using h4.symm
     rw[this,hd]at h5;cases h5
    |j+1=>simp at h4
  rw[e];cases d1 with
  |own=>cases hd
  |_=>exact h
theorem aFO(a:List Int)(hl:a.length<=1099511627776):Contract prog base.glob 121 [(pI .u64).put a] [.s (.ints .u64 a)]:=by
 intro Y w vs hY hG hlen hargs;obtain⟨v,rfl⟩:∃v,vs=[v]:=by
  match vs,hlen with
  | [v],_=>exact⟨v,rfl⟩
 obtain⟨A,c,rfl,hc,iE⟩:mW Y w (.ints .u64 a) v:=hargs 0 _ _ rfl rfl;have t1:=pD eX _ rfl;obtain⟨i0,hi,hs,aUQ,z,hz,Jh⟩:=t1.i;have z23:=fun w=>t1.run_sizeOf (w:=w)
 have fin:∀(e:Ending) (w':World),(∃v',e=.returned v'/\w'.ownsRow w.heap.size eX 1 v' a.length (a.map (Value.int .u64))/\RowKit.Below w.heap.size w w')->∃vJ,e=.returned (resV vJ)/\RowKit.Below w.heap.size w w'/\Uy Y w.heap.size w' [.s (.ints .u64 a)] vJ:=by
  rintro e w' ⟨v',rfl,ho,hb⟩;exact⟨[v'],rfl,hb,aIN rfl (aCN hY ho)⟩
 have Wx:z.cells.size=1:=by
  have:=congrArg List.length Jh;simpa using this
 cases A with
 |none =>
  have ha:a=[]:=by
   cases a with
   |nil=>rfl
   |cons x r=>obtain⟨b,off,h1,_⟩:=iE 0 x rfl;cases h1
  subst ha;refine(AnyE.slices_Clone_nil Cl 0 c w).mono ?_;rintro e w' ⟨rfl,rfl⟩;exact fin _ _ ⟨_,rfl,⟨rfl,.inl ⟨rfl,rfl⟩⟩,RowKit.Below.refl _ _⟩
 |some ad =>
  cases a with
  |nil =>
   refine(zero Cl i0 z _ hi hz hs aUQ Wx z23 ad c w).mono ?_;rintro e w' ⟨v',rfl,ho,hb⟩;exact fin _ _ ⟨v',rfl,ho,hb⟩
  |cons x r =>
   obtain⟨b,off,h1,_⟩:=iE 0 x rfl;cases h1;refine(AnyE.slices_Clone Cl i0 z 1 _ hi hz hs aUQ Wx (by decide) z23 b off (x :: r).length c ((x :: r).map (Value.int .u64)) w (by simp) (by unfold maxLen;omega) (by show(x :: r).length*8<=_;omega) ?_ ?_).mono ?_
   ·intro j u hj;rw[bMA]at hj;obtain⟨n,hn,rfl⟩:=Option.map_eq_some_iff.1 hj;obtain⟨b',aSC,h2,_,_,h3⟩:=iE j n hn;cases h2;exact h3
   ·intro u hu;obtain⟨n,_,rfl⟩:=List.mem_map.1 hu;rfl
   ·rintro e w' ⟨v',rfl,ho,_,hb⟩;exact fin _ _ ⟨v',rfl,ho,hb⟩
theorem bAS:tA prog 121:=uX func121 rfl rfl
def aH:dG:=orc1 (pI .u64) sp
theorem ok:kZ prog base.glob 121 aH:=by
 intro ds g rs hd hg;unfold aH orc1 at hd;split at hd
 ·split at hd
  ·rename_i x hx;have hd:=Option.some.inj hd;have e1:g=(sp x).1:=by rw[hd]
   have e2:rs=(sp x).2:=by rw[hd]
   subst e1;subst e2;exact⟨(aFO x hg).aXY ((pI .u64).le hx),bAS⟩
  ·cases hd
 ·cases hd
end Clone
namespace Bn
def E:=mE [(121,Clone.aH)] 10 [] [] []
def aE:=bd f69
theorem aU:Nk E aE:=nk
theorem start a b c:aF E f69 aE [D.agg [sc (bool a),ints u64 b,sc (int i64 c)]]=aO (b.length<=1099511627776) (some [D.agg [sc (bool a),ints u64 b,sc (int i64 c)]]):=eJ aU
def sp(x:dR):Prop×List D:=(x.2.1.length<=1099511627776,[.agg [.sc (.bool x.1),.ints .u64 x.2.1,.sc (.int .i64 x.2.2)]])
theorem spec:gO E f69 aE gZ sp:=fun x h=>(start x.1 x.2.1 x.2.2).trans (gP h)
def aH:dG:=orc1 gZ sp
theorem ok:OK 69 aH:=(eF E aE (aA Clone.ok aD) func69).nN rfl spec
end Bn
namespace xJ
def E:=mE [] 21 [] [(2,[0,3])] []
def aE:=bd f174
theorem aU:Nk E aE:=nk
def L2 a b:=nO E f174 aE 2 [fW a,bP b]
theorem start a:aF E f174 aE [D.s (ints u64 a)]=xJ.L2 a (a.length:Int):=eJ aU
theorem jZ a b:L2 a b=letI B:=(a.length:Int);letI A:=ints u64 (bRS 0 (bRR b.toNat a));aB (decide (0<b)) (if 0<=i64.wrap (b-1)/\i64.wrap (b-1)<B then aB (a.getD (i64.wrap (b-1)).toNat 0==(0:Int)) (xJ.L2 a (i64.wrap (b-1))) (if(0:Int)<=(0:Int)/\0<=b/\b<=B then some [D.s A]else none)else none) (if(0:Int)<=(0:Int)/\0<=b/\b<=B then some [D.s A]else none):=lJ aU
def sp(a:List Int):Prop×List D:=(M6.cE a/\a.length<=1099511627776,[.s (.ints .u64 (M6.dg (M6.val a)))])
theorem L{xs:List Int}(hd:M6.cE xs)(hl:xs.length<=4398046511104):∀n:Nat,n<=xs.length->L2 xs n=some [D.s (.ints .u64 (M6.dg (M6.val (xs.take n))))]
 |0,h=>by
  rw[jZ,aI,aT];simp[M6.val,M6.bJ]
 |n+1,h=>by
  rw[jZ];have e:i64.wrap (((n+1:Nat):Int)-1)=(n:Int):=by rw[wrap_i64];omega
  rw[e,aN,aT,bPS]
  by_cases hz:xs.getD n 0=0
  ·rw[cN hz,L hd hl n (by omega),M6.jO (by omega),hz];simp
  ·rw[bV hz,aT,bPS,bSE];have:M6.cF (xs.take (n+1)):=M6.wL (hd.take _) fun d hg=>by
    rw[M6.getLast_take (by omega)]at hg;cases hg;exact hz
   rw[<-this]
theorem spec:gO E f174 aE (pI .u64) sp:=by
 rintro a ⟨hd,hl⟩;refine(start a).trans ?_;rw[L hd (by omega) a.length (bLW _),bSR];rfl
def aH:dG:=orc1 (pI .u64) sp
theorem ok:OK 174 aH:=(eF E aE aD func174).nN rfl spec
end xJ
namespace cC
def E:=mE [(174,xJ.aH)] 10 [5] [] []
def aE:=bd f171
theorem aU:Nk E aE:=nk
theorem start a:aF E f171 aE [D.s (ints u64 a)]=aO (M6.cE a/\a.length<=1099511627776) (aB (decide (8192<(↑(M6.dg (M6.val a)).length:Int))) (some [D.s (sc (slice none 0 0)),D.s (sc (int i64 5))]) (some [D.s (ints u64 (M6.dg (M6.val a))),D.s (sc (int i64 0))])):=eJ aU
def kU(n:Nat):Bool:=decide ((M6.dg n).length<=8192)
def sp(a:List Int):Prop×List D:=(M6.cE a/\a.length<=1099511627776,[.s (.ints .u64 (bif kU (M6.val a)then M6.dg (M6.val a)else [])),.s (.sc (.int .i64 (bif kU (M6.val a)then 0 else 5)))])
theorem spec:aGC E f171 aE (pI .u64) sp:=by
 intro a h;have hl:=M6.oU h.1;have h2:=h.2;have e:=(start a).trans (gP h);unfold sp kU;simp only
 by_cases hc:(M6.dg (M6.val a)).length<=8192
 ·rw[aI]at e;rw[decide_eq_true hc];exact⟨_,e,fP.refl _⟩
 ·rw[aN]at e;rw[decide_eq_false hc];exact⟨_,e,.cons (vW.nil _) (fP.refl _)⟩
def aH:dG:=orc1 (pI .u64) sp
theorem ok:OK 171 aH:=(eF E aE (aA xJ.ok aD) func171).aRM rfl spec
end cC
namespace xM
def aKV:ByteArray:=⟨((bNG 256).map fun n=>UInt8.ofNat (bl n)).toArray⟩
def E:=mE [] 25 [] [(4,[0,2]),(7,[0,2])] [4,7]
def aE:=bd f176
theorem aU:Nk E aE:=nk
def J4 a b:=kV E f176 aE 4 [cZ a,bP b]
def J7 a b:=kV E f176 aE 7 [cZ a,bP b]
theorem start a:aF E f176 aE [D.s (sc (int u64 a))]=aB (decide (4294967296<=a)) (xM.J4 (a/4294967296) 32) (xM.J4 a 0):=eJ aU
theorem Rw a b:J4 a b=aB (decide (65536<=a)) (xM.J7 (a/65536) (i64.wrap (b+16))) (xM.J7 a b):=cJ aU
theorem Rv a b:J7 a b=aB (decide (256<=a)) (if 0<=u8.wrap (a/256)/\u8.wrap (a/256)<256 then some [D.s (sc (int i64 (i64.wrap (i64.wrap (b+8)+i64.wrap (Di aKV (u8.wrap (a/256)))))))]else none) (if 0<=u8.wrap a/\u8.wrap a<256 then some [D.s (sc (int i64 (i64.wrap (b+i64.wrap (Di aKV (u8.wrap a))))))]else none):=cJ aU
theorem Lr:(bNG 256).all (fun n=>Di aKV (n:Nat)==(bl n:Nat))=true:=by kernel_rfl
theorem Lq{x:Int}(h:0<=x)(h':x<256):Di aKV x=(bl x.toNat:Nat):=by
 have:=List.all_eq_true.1 Lr x.toNat (List.mem_range.2 (by omega));rw[show((x.toNat:Nat):Int)=x from by omega]at this;exact eq_of_beq this
theorem wrap_u8{x:Int}(h:0<=x)(h':x<256):u8.wrap x=x:=by
 show(if(false&&decide (x%256>=128))=true then x%256-256 else x%256)=x;rw[Int.emod_eq_of_lt h h'];simp
theorem sG{x:Int}{k:Nat}(h:(2:Int)^k<=x):bl x.toNat=k+bl (x/2^k).toNat:=by
 have hp:(0:Int)<2^k:=Int.pow_pos (by omega);have bIC:((2^k:Nat):Int)=2^k:=by rw[Int.natCast_pow];rfl
 obtain⟨n,rfl⟩:=bQY (show 0<=x by omega);rw[<-bIC]at h ⊢;rw[<-bRM,bPS,bPS];have h1:=bRC n (2^k);have h2:=bOE n (bOV (n:=k) (show 0<2 by omega));have h3:n/2^k≠0:=by
  intro h0;have:=(Nat.div_eq_zero_iff_lt (bOV (n:=k) (show 0<2 by omega))).1 h0;omega
 have:=Un h2 h3;rw[show n%2^k+2^k*(n/2^k)=n from by omega]at this;exact this
theorem bFQ{x n:Int}(h:0<=x)(h':x<65536)(hn:0<=n)(Yz:n<=1000):J7 x n=some [D.s (.sc (.int .i64 (n+(bl x.toNat:Nat))))]:=by
 rw[Rv]
 by_cases hc:256<=x
 ·have hb:bl (x/256).toNat<=8:=dU.2 (by omega);have hs:=sG (x:=x) (k:=8) (by omega);rw[show((2:Int)^8)=256 from rfl]at hs;rw[aN hc,wrap_u8 (by omega) (by omega),if_pos ⟨by omega,by omega⟩,Lq (by omega) (by omega),wrap_i64 (n:=n+8),wrap_i64 (n:=((bl (x/256).toNat:Nat):Int)) (by omega) (by omega),wrap_i64,hs];congr 5;omega
 ·have hb:bl x.toNat<=8:=dU.2 (by omega);rw[aI hc,wrap_u8 (by omega) (by omega),if_pos ⟨by omega,by omega⟩,Lq (by omega) (by omega),wrap_i64 (n:=(bl x.toNat:Int)),wrap_i64]
theorem bFS{x n:Int}(h:0<=x)(h':x<4294967296)(hn:0<=n)(Yz:n<=500):J4 x n=some [D.s (.sc (.int .i64 (n+(bl x.toNat:Nat))))]:=by
 rw[Rw]
 by_cases hc:65536<=x
 ·have hs:=sG (x:=x) (k:=16) (by omega);rw[show((2:Int)^16)=65536 from rfl]at hs;rw[aN hc,wrap_i64 (n:=n+16),bFQ (by omega) (by omega) (by omega) (by omega),hs];congr 5;omega
 ·rw[aI hc,bFQ (by omega) (by omega) (by omega) (by omega)]
def sp(a:Int):Prop×List D:=(0<=a/\a<18446744073709551616,[.s (.sc (.int .i64 (bl a.toNat:Nat)))])
theorem spec:gO E f176 aE (pN .u64) sp:=by
 rintro a ⟨h1,h2⟩;refine(start a).trans ?_;show _=some [D.s (.sc (.int .i64 (bl a.toNat:Nat)))]
 by_cases hc:4294967296<=a
 ·have hs:=sG (x:=a) (k:=32) (by omega);rw[show((2:Int)^32)=4294967296 from rfl]at hs;rw[aN hc,bFS (by omega) (by omega) (by omega) (by omega),hs];congr 5
 ·rw[aI hc,bFS (by omega) (by omega) (by omega) (by omega)];congr 5;omega
def aH:dG:=orc1 (pN .u64) sp
theorem ok:OK 176 aH:=(eF E aE aD func176).nN rfl spec
end xM
namespace uE
def E:=mE [(174,xJ.aH),(176,xM.aH)] 21 [] [] []
def aE:=bd f127
theorem aU:Nk E aE:=nk
theorem start a:aF E f127 aE [D.s (ints u64 a)]=letI B:=M6.dg (M6.val a);letI A:=(B.length:Int);letI C:=A-(1:Int);letI F:=i64.wrap C;aO (M6.cE a/\a.length<=1099511627776) (aB (A==(0:Int)) (some [D.s (sc (int i64 0))]) (if 0<=i64.wrap C/\i64.wrap C<A then aO (0<=B.getD F.toNat 0/\B.getD F.toNat 0<(18446744073709551616:Int)) (some [D.s (sc (int i64 (i64.wrap (i64.wrap ((64:Int)*i64.wrap C)+(↑(bl (B.getD F.toNat 0).toNat):Int)))))])else none)):=eJ aU
def sp(a:List Int):Prop×List D:=(M6.cE a/\a.length<=1099511627776,[.s (.sc (.int .i64 (bl (M6.val a):Nat)))])
theorem Kg(k:Nat):18446744073709551616^k=2^(64*k):=by rw[bSO]
theorem spec:gO E f127 aE (pI .u64) sp:=by
 intro a h;refine(start a).trans ((gP h).trans ?_);show _=some [D.s (.sc (.int .i64 (bl (M6.val a):Nat)))];have hl:=M6.oU h.1;have h2:=h.2;have hn:=M6.aW (M6.val a);have hv:=M6.bI (M6.val a);generalize M6.dg (M6.val a)=d at *;rw[<-hv]
 by_cases hz:d.length=0
 ·rw[cN,(M6.cS hn).1 hz];rfl
 ·have hd:=hn.iU.get (d.length-1);have hv:=M6.cD (a:=d) (d.length-1);rw[show d.length-1+1=d.length from by omega,M6.cG (bLW _)]at hv;have ht:d.getD (d.length-1) 0≠0:=by
   have:=M6.getLast_take (a:=d) (n:=d.length-1) (by omega);rw[show d.length-1+1=d.length from by omega,bSR]at this;exact hn.top this
  have hb:bl (d.getD (d.length-1) 0).toNat<=64:=dU.2 (by omega);have e:((d.length:Int)-1).toNat=d.length-1:=by omega
  rw[bV,wrap_i64 (n:=(d.length:Int)-1),aT,e,gP hd,wrap_i64 (n:=64*((d.length:Int)-1)),wrap_i64,
   hv,Kg,Un (by rw[<-Kg];exact M6.gH hn.iU _) (by omega)]
  congr 5;omega
def aH:dG:=orc1 (pI .u64) sp
theorem ok:OK 127 aH:=(eF E aE (aA xJ.ok (aA xM.ok aD)) func127).nN rfl spec
end uE
namespace iY
def E:=mE [(167,fA.aH),(171,cC.aH),(127,uE.aH)] 71 [68] [(12,[0,6,7,8,34,35])] []
def aE:=bd f122
theorem aU:Nk E aE:=nk
def aRH a b c (d:Nat) (e:List Int) f g:=nO E f122 aE 12 [fW a,bP b,bP c,yG 3 d 22 e,bP f,bP g]
theorem start a b:aF E f122 aE [D.s (ints u64 a),D.s (sc (int i64 b))]=letI C:=(a.length:Int);letI B:=sc (slice none 0 0);letI A:=i64.wrap (i64.wrap (b.tdiv 64)+C)+1;aB (decide (b<0)) (some [D.s B,D.s (sc (int i64 1))]) (aO (a.length<=1099511627776) (aB (!fA.mR a) (some [D.s B,D.s (sc (int i64 2))]) (aB (C==(0:Int)) (some [D.s B,D.s (sc (int i64 0))]) (aO (M6.cE a/\a.length<=1099511627776) (aB (decide (i64.wrap ((524288:Int)-(↑(bl (M6.val a)):Int))<b)) (some [D.s B,D.s (sc (int i64 5))]) (if 0<=i64.wrap A/\i64.wrap A<=i64.wrap A/\i64.wrap A<=8796093022208 then iY.aRH a (i64.wrap (b.tdiv 64)) (b.tmod 64) (i64.wrap A).toNat (bNZ (i64.wrap A).toNat (0:Int)) C 0 else none)))))):=eJ aU
theorem aGP a b c d e f g:aRH a b c d e f g=letI A:=i64.wrap (b+g)+1;aB (decide (g<f)) (if 0<=i64.wrap (b+g)/\i64.wrap (b+g)<(d:Int)then if 0<=g/\g<(a.length:Int)then if c<0 then none else if 0<=i64.wrap (b+g)/\i64.wrap (b+g)<(d:Int)then if 0<=g/\g<(a.length:Int)then if i64.wrap ((63:Int)-c)<0 then none else if 0<=i64.wrap A/\i64.wrap A<(d:Int)then iY.aRH a b c d ((e.set (i64.wrap (b+g)).toNat (eN BinOp.or u64 (e.getD (i64.wrap (b+g)).toNat 0) (u64.wrap (a.getD g.toNat 0*(↑((2:Nat)^min c.toNat 64):Int))))).set (i64.wrap A).toNat (a.getD g.toNat 0/(2:Int)/(↑((2:Nat)^min (i64.wrap ((63:Int)-c)).toNat 64):Int))) f (i64.wrap (g+1))else none else none else none else none else none) (aO (M6.cE e/\e.length<=1099511627776) (some [D.s (ints u64 (bif cC.kU (M6.val e)then M6.dg (M6.val e)else [])),D.s (sc (int i64 (bif cC.kU (M6.val e)then(0:Int)else(5:Int))))])):=lJ aU
theorem step{a P:List Int}{c:Int}{q k i r:Nat}(ha:M6.cE a)(hP:P.length=q+i)(hi:i<a.length)(hl:a.length<=8192)(hq:q<=8192)(hk:k<64)(h0:0<=c)(h1:c<((2^k:Nat):Int))(hr:i+(r+1)=a.length) :
  aRH a q k (q+a.length+1) (P ++ c :: bNZ (r+1) 0) a.length i =
   aRH a q k (q+a.length+1) ((P ++ [c+(((a.getD i 0).toNat*2^k%18446744073709551616:Nat):Int)]) ++ (((a.getD i 0).toNat/2^(64-k):Nat):Int) :: bNZ r 0) a.length ((i+1:Nat):Int):=by
 have g:=ha.get i;have w1:i64.wrap ((q:Int)+i)=((q+i:Nat):Int):=by rw[wrap_i64];omega
 have w2:i64.wrap (((q+i:Nat):Int)+1)=((q+i+1:Nat):Int):=by rw[wrap_i64];omega
 have w3:i64.wrap (63-(k:Int))=((63-k:Nat):Int):=by rw[wrap_i64];omega
 have m1:min k 64=k:=by omega
 have m2:min (63-k) 64=63-k:=by omega
 have aTG:2^k<2^64:=bSP (by omega) hk;obtain⟨x,hx⟩:=bQY g.1;rw[aGP,aN,w1,if_pos ⟨by omega,by omega⟩,if_pos ⟨by omega,by omega⟩,aX,if_pos ⟨by omega,by omega⟩,if_pos ⟨by omega,by omega⟩,w3,aX,w2,if_pos ⟨by omega,by omega⟩,
  bPS,bPS,bPS,bPS,bPS,m1,m2,Cn hP,Bw hP,wrap_i64 (n:=(i:Int)+1),hx,bPS]
 have Ts:u64.wrap ((x:Int)*((2^k:Nat):Int))=((x*2^k%18446744073709551616:Nat):Int):=by
  rw[eE,<-bRU,bSN];rfl
 have iN:x*2^k%18446744073709551616<18446744073709551616:=bOE _ (by omega);have aTJ:eN .or .u64 c ((x*2^k%18446744073709551616:Nat):Int)=c+((x*2^k%18446744073709551616:Nat):Int):=by
  rw[Ym h0 (by generalize 2^k=p at *;omega) (by omega) (by omega),bPS,Es x k hk,Cc (by omega)];omega
 have Si:(x:Int)/2/((2^(63-k):Nat):Int)=((x/2^(64-k):Nat):Int):=by
  have e:2^(64-k)=2*2^(63-k):=by rw[show 64-k=(63-k)+1 from by omega,bQV,bQU]
  rw[e,<-bRN,bRM,bRM];rfl
 rw[Ts,aTJ,Si];have hs:=Bw (pre:=P ++ [c+((x*2^k%18446744073709551616:Nat):Int)]) (i:=q+i+1) (by simp[hP]) 0 ((x/2^(64-k):Nat):Int) (bNZ r 0);rw[bNR,bSS,<-bRE]at hs;rw[hs];rfl
theorem L{a:List Int}{q k:Nat}(ha:M6.cF a)(hl:a.length<=8192)(hq:q<=8192)(hk:k<64)(Qb:cC.kU (M6.val a*2^k*18446744073709551616^q)=true):∀(r i:Nat) (P:List Int) (c:Int),i+r=a.length->P.length=q+i->M6.cE P->0<=c->c<((2^k:Nat):Int) ->
  M6.val P+18446744073709551616^(q+i)*c.toNat=18446744073709551616^q*(M6.val (a.take i)*2^k) ->
  aRH a q k (q+a.length+1) (P ++ c :: bNZ r 0) a.length i=some [D.s (.ints .u64 (M6.dg (M6.val a*2^k*18446744073709551616^q))),D.s (.sc (.int .i64 0))]:=by
 intro r;have aTG:2^k<2^64:=bSP (by omega) hk
 induction r with
 |zero =>
  intro i P c hi hP hd h0 h1 hv;have Yw:M6.val (P ++ c :: bNZ 0 0)=M6.val a*2^k*18446744073709551616^q:=by
   rw[bSI,M6.lC,hP,hv,M6.cG (by omega),bQU]
  have aLW:M6.cE (P ++ c :: bNZ 0 0):=by
   rw[bSI];exact M6.lD hd ⟨h0,by generalize 2^k=p at *;omega⟩
  rw[aGP,aI,gP ⟨aLW,by simp;omega⟩,Yw,Qb];rfl
 |succ r ih =>
  intro i P c hi hP hd h0 h1 hv;have g:=ha.iU.get i;rw[step ha.iU hP (by omega) hl hq hk h0 h1 (by omega)];have iN:(a.getD i 0).toNat*2^k%18446744073709551616<18446744073709551616:=bOE _ (by omega);have Tr:=Es (a.getD i 0).toNat k hk;have aOA:=Bu (a.getD i 0).toNat k hk;have Si:(a.getD i 0).toNat/2^(64-k)<2^k:=by
   apply bRQ;rw[<-bQX,show 64-k+k=64 from by omega];omega
  have aIX:c.toNat+(a.getD i 0).toNat*2^k%18446744073709551616<18446744073709551616:=by
   rw[Tr];have hm:(a.getD i 0).toNat%2^(64-k)<2^(64-k):=bOE _ (cP);have e:(18446744073709551616:Nat)=2^k*2^(64-k):=by rw[<-bQX,show k+(64-k)=64 from by omega]
   have h3:2^k*((a.getD i 0).toNat%2^(64-k)+1)<=2^k*2^(64-k):=bOK _ hm;rw[<-e,bQW]at h3;omega
  refine ih (i+1) _ _ (by omega) (by simp[hP];omega) (M6.lD hd ⟨by omega,by omega⟩) (by omega) (by omega) ?_;rw[M6.lC,hP,M6.cD,bPS,show q+(i+1)=(q+i)+1 from by omega,bQV,bQZ];have e1:(c+(((a.getD i 0).toNat*2^k%18446744073709551616:Nat):Int)).toNat=c.toNat+(a.getD i 0).toNat*2^k%18446744073709551616:=by omega
  rw[e1];have e2:18446744073709551616^(q+i)*(c.toNat+(a.getD i 0).toNat*2^k%18446744073709551616)+18446744073709551616^(q+i)*(18446744073709551616*((a.getD i 0).toNat/2^(64-k)))=18446744073709551616^(q+i)*c.toNat+18446744073709551616^(q+i)*((a.getD i 0).toNat*2^k):=by
   rw[<-bQW,<-bQW];congr 1;omega
  have e3:18446744073709551616^q*((M6.val (a.take i)+18446744073709551616^i*(a.getD i 0).toNat)*2^k)=18446744073709551616^q*(M6.val (a.take i)*2^k)+18446744073709551616^(q+i)*((a.getD i 0).toNat*2^k):=by
   rw[Nat.add_mul,bQW,bQX,bQZ,bQZ]
  rw[e3];omega
def iC(n k:Nat):Bool:=decide (n=0)||decide (bl n+k<=524288)
def sp(a:List Int)(n:Int):Prop×List D:=(M6.cF a/\a.length<=8192/\0<=n/\n<4611686018427387904,[.s (.ints .u64 (bif iC (M6.val a) n.toNat then M6.dg (M6.val a*2^n.toNat)else [])),.s (.sc (.int .i64 (bif iC (M6.val a) n.toNat then 0 else 5)))])
theorem spec:El E f122 aE (pI .u64) (pN .i64) sp:=by
 rintro a n ⟨ha,hl,h0,h1⟩;have e:=start a n;have hb:=yE ha.iU hl;rw[aI,gP,fA.lS ha hl,bNW,bF]at e;unfold sp iC;simp only
 by_cases hz:a.length=0
 ·have hv:=(M6.cS ha).1 hz;rw[cN]at e;rw[hv,Nat.zero_mul,M6.bJ,decide_eq_true rfl,bRG];exact⟨_,e,.cons (vW.nil _) (fP.refl _)⟩
 ·have hv:M6.val a≠0:=fun h=>hz ((M6.cS ha).2 h)
  rw[bV,gP ⟨ha.iU,by omega⟩,wrap_i64 (n:=524288-(bl (M6.val a):Int))]at e;rw[decide_eq_false hv,bNX]
  by_cases hc:bl (M6.val a)+n.toNat<=524288
  ·have bET:=qE hv;have eq:n/64=((n.toNat/64:Nat):Int):=by omega
   have ek:n%64=((n.toNat%64:Nat):Int):=by omega
   rw[aI,aBL h0,aBG h0,wrap_i64 (n:=n/64),wrap_i64 (n:=n/64+a.length),wrap_i64,if_pos ⟨by omega,by omega,by omega⟩,eq,ek,
    show(((n.toNat/64:Nat):Int)+(a.length:Int)+1).toNat=n.toNat/64+a.length+1 from by omega]at e
   have hval:M6.val a*2^n.toNat=M6.val a*2^(n.toNat%64)*18446744073709551616^(n.toNat/64):=by
    rw[Gh,bQZ,bQU (2^(n.toNat%64))]
   have Qb:cC.kU (M6.val a*2^(n.toNat%64)*18446744073709551616^(n.toNat/64))=true:=by
    rw[<-hval];exact decide_eq_true (eQ (k:=8192) (by rw[bQU,Cv hv];omega))
   have:=L (q:=n.toNat/64) (k:=n.toNat%64) ha hl (by omega) (by omega) Qb a.length 0 (bNZ (n.toNat/64) 0) 0 (by omega) (by simp) (M6.iI _) (by omega) (by have:=bOV (n:=n.toNat%64) (show 0<2 by omega);omega) (by rw[M6.iG];simp[M6.val]);rw[show(bNZ (n.toNat/64) (0:Int) ++ 0 :: bNZ a.length 0)=bNZ (n.toNat/64+a.length+1) 0 from by rw[<-bRE,List.replicate_append_replicate,bPM]]at this;rw[decide_eq_true hc,hval];exact⟨_,e.trans this,fP.refl _⟩
  ·rw[aN]at e;rw[decide_eq_false hc];exact⟨_,e,.cons (vW.nil _) (fP.refl _)⟩
def aH:dG:=orc2 (pI .u64) (pN .i64) sp
theorem ok:OK 122 aH:=(eF E aE (aA fA.ok (aA cC.ok (aA uE.ok aD))) func122).aAF rfl spec
end iY
namespace Ij
def E:=mE [] 13 [] [] []
def aE:=bd f116
theorem aU:Nk E aE:=nk
theorem start a b:aF E f116 aE [D.s (sc (bool a)),D.s (ints u64 b)]=aB a (some [D.agg [sc (bool (decide (0<(b.length:Int)))),ints u64 b]]) (some [D.agg [sc (bool false),ints u64 b]]):=eJ aU
def sp(a:Bool)(b:List Int):Prop×List D:=(M6.cF b/\b.length<=1099511627776,[wD (zs a (M6.val b))])
theorem spec:fI E f116 aE pB (pI .u64) sp:=by
 rintro a b ⟨hb,hl⟩;refine(start a b).trans ?_;show _=some [wD (zs a (M6.val b))];rw[aKT,<-hb];cases a with
 |false=>rfl
 |true =>
  rw[bT,bOX];have:=M6.cS hb
  by_cases hz:b.length=0
  ·rw[decide_eq_false (show ¬(0<(b.length:Int)) by omega),decide_eq_false (show ¬(M6.val b≠0)from fun h=>h (this.1 hz))]
  ·rw[decide_eq_true (show(0<(b.length:Int)) by omega),decide_eq_true (show(M6.val b≠0)from fun h=>hz (this.2 h))]
def aH:dG:=orc2 pB (pI .u64) sp
theorem ok:OK 116 aH:=(eF E aE aD func116).lA rfl spec
end Ij
namespace xL
def E:=mE [(116,Ij.aH)] 15 [] [] []
def aE:=bd f123
theorem aU:Nk E aE:=nk
theorem start a b c:aF E f123 aE [D.s (sc (bool a)),D.s (ints u64 b),D.s (sc (int i64 c))]=aB (c !=0) (some [D.agg [sc (bool false),sc (slice none 0 0)],D.s (sc (int i64 c))]) (aO (M6.cF b/\b.length<=1099511627776) (some [D.agg [sc (bool (isNeg (zs a (M6.val b)))),ints u64 (M6.dg (zs a (M6.val b)).natAbs)],D.s (sc (int i64 0))])):=eJ aU
def sp(a:Bool)(b:List Int)(c:Int):Prop×List D:=(M6.cF b/\b.length<=1099511627776,[wD (bif c==0 then zs a (M6.val b)else 0),.s (.sc (.int .i64 c))])
theorem spec:aVR E f123 aE pB (pI .u64) (pN .i64) sp:=by
 intro a b c h;have e:=start a b c;have hg:M6.cF b/\b.length<=1099511627776:=h;unfold sp;simp only
 by_cases hc:c=0
 ·subst hc;rw[fD rfl,gP hg]at e;exact⟨_,e,fP.refl _⟩
 ·rw[qF hc]at e;rw[beq_eq_false_iff_ne.2 hc,cond_false];refine⟨_,e,.cons ?_ (fP.refl _)⟩;unfold wD;rw[show(0:Int).natAbs=0 from rfl,M6.bJ];exact vW.agg (.cons (yN.refl _) (.cons (yN.nil _) .nil))
def aH:dG:=orc3 pB (pI .u64) (pN .i64) sp
theorem ok:OK 123 aH:=(eF E aE (aA Ij.ok aD) func123).bCQ rfl spec
end xL
namespace Oe
def E:=mE [(112,gG.aH),(122,iY.aH),(123,xL.aH)] 29 [26] [] []
def aE:=bd f70
theorem aU:Nk E aE:=nk
theorem start a c b:aF E f70 aE [D.agg [sc (bool a),ints u64 c],D.s (sc (int i64 b))]=letI B:=bif iY.iC (M6.val c) b.toNat then(0:Int)else(5:Int);letI A:=bif iY.iC (M6.val c) b.toNat then M6.dg (M6.val c*(2:Nat)^b.toNat)else [];letI C:=bif B==0 then zs a (M6.val A)else(0:Int);aB (decide (b<0)) (some [D.agg [sc (bool false),sc (slice none 0 0)],D.s (sc (int i64 1))]) (aO (c.length<=1099511627776) (aB (!gG.qL (a,c)) (some [D.agg [sc (bool false),sc (slice none 0 0)],D.s (sc (int i64 2))]) (aO (M6.cF c/\c.length<=8192/\0<=b/\b<4611686018427387904) (aO (M6.cF A/\A.length<=1099511627776) (some [D.agg [sc (bool (isNeg C)),ints u64 (M6.dg C.natAbs)],D.s (sc (int i64 B))]))))):=eJ aU
theorem Et(n k:Nat):iY.iC n k=fit (n*2^k):=by
 unfold iY.iC fit
 by_cases h:n=0
 ·subst h;rw[Nat.zero_mul];rfl
 ·rw[decide_eq_false h,bNX,bQU,Cv h,bRX]
def sp(x:Bool×List Int)(n:Int):Prop×List D:=(jY x/\0<=n/\n<4611686018427387904,wE (fit (M6.val x.2*2^n.toNat)) (wv x*((2^n.toNat:Nat):Int)))
theorem spec:fI E f70 aE vY (pN .i64) sp:=by
 rintro x n ⟨hx,h0,h1⟩;refine(start x.1 x.2 n).trans ?_;have l1:=hx.len;have f1:=gG.nB hx;obtain⟨p,a⟩:=x;have n1:M6.cF a:=hx.1
 try dsimp only at *
 unfold sp
 try dsimp only
 have hs:wv (p,a)*((2^n.toNat:Nat):Int)=zs p (M6.val a*2^n.toNat):=by
  unfold wv zs;cases p with
  |true=>simp[Int.neg_mul]
  |false=>simp
 rw[aI,gP,f1,bNW,bF,gP ⟨n1,l1,h0,h1⟩,gP (Ff (fun h=>by rw[Et]at h;exact wY h)),Eo,Et,hs]
def aH:dG:=orc2 vY (pN .i64) sp
theorem ok:OK 70 aH:=(eF E aE (aA gG.ok (aA iY.ok (aA xL.ok aD))) func70).lA rfl spec
end Oe
namespace rH
def E:=mE [(167,fA.aH),(171,cC.aH)] 65 [62] [(8,[0,1,6,7,30,31]),(3,[0,1]),(5,[0,1]),(13,[0,1,6,7,8,9,30,31])] [3,5,13]
def aE:=bd f124
theorem aU:Nk E aE:=nk
def J3 a b:=kV E f124 aE 3 [fW a,fW b]
def J5 a b:=kV E f124 aE 5 [fW a,fW b]
def L8 a b (c:Nat) (d:List Int) e f g:=nO E f124 aE 8 [fW a,fW b,yG 2 c 22 d,cZ e,bP f,bP g]
def Rx a b (c:Nat) (d:List Int) e f g x7 h:=kV E f124 aE 13 [fW a,fW b,yG 2 c 22 d,cZ e,bP f,cZ g,bP x7,bP h]
theorem start a b:aF E f124 aE [D.s (ints u64 a),D.s (ints u64 b)]=letI A:=some [D.s (sc (slice none 0 0)),D.s (sc (int i64 2))];aO (a.length<=1099511627776) (aB (!fA.mR a) A (aO (b.length<=1099511627776) (aB (!fA.mR b) A (rH.J3 a b)))):=eJ aU
theorem fR a b:J3 a b=aB (decide ((a.length:Int)<(b.length:Int))) (rH.J5 b a) (rH.J5 a b):=cJ aU
theorem Ip a b:J5 a b=letI A:=(a.length:Int);letI B:=A+(1:Int);if 0<=i64.wrap B/\i64.wrap B<=i64.wrap B/\i64.wrap B<=8796093022208 then rH.L8 a b (i64.wrap B).toNat (bNZ (i64.wrap B).toNat (0:Int)) 0 A 0 else none:=cJ aU
theorem Ea a b c d e f g:L8 a b c d e f g=letI B:=(a.length:Int);letI A:=d.set B.toNat e;aB (decide (g<f)) (aB (decide (g<(b.length:Int))) (if 0<=g/\g<(b.length:Int)then rH.Rx a b c d e g (b.getD g.toNat 0) f g else none) (rH.Rx a b c d e g 0 f g)) (if 0<=B/\B<(c:Int)then aO (M6.cE A/\A.length<=1099511627776) (some [D.s (ints u64 (bif cC.kU (M6.val A)then M6.dg (M6.val A)else [])),D.s (sc (int i64 (bif cC.kU (M6.val A)then(0:Int)else(5:Int))))])else none):=lJ aU
theorem zU a b c d e f g h i:Rx a b c d e f g h i=letI A:=a.getD f.toNat 0+g+e;if 0<=f/\f<(a.length:Int)then aO (0<=a.getD f.toNat 0/\0<=g/\0<=e/\e<=1) (if 0<=f/\f<(c:Int)then rH.L8 a b c (d.set f.toNat (A%18446744073709551616)) (A/18446744073709551616) h (i64.wrap (i+1))else none)else none:=cJ aU
theorem step{a b pre:List Int}{c:Int}{i k:Nat}(ha:M6.cE a)(hb:M6.cE b)(hp:pre.length=i)(hi:i<a.length)(hl:a.length<=8192)(h0:0<=c)(h1:c<=1) :
  L8 a b (i+(k+1)) (pre ++ bNZ (k+1) 0) c a.length i=L8 a b ((i+1)+k) ((pre ++ [(a.getD i 0+b.getD i 0+c)%18446744073709551616]) ++ bNZ k 0) ((a.getD i 0+b.getD i 0+c)/18446744073709551616) a.length ((i+1:Nat):Int):=by
 have g1:=ha.get i;have g2:=hb.get i;have hJ:∀y:Int,0<=y->Rx a b (i+(k+1)) (pre ++ bNZ (k+1) 0) c i y a.length i=L8 a b ((i+1)+k) ((pre ++ [(a.getD i 0+y+c)%18446744073709551616]) ++ bNZ k 0) ((a.getD i 0+y+c)/18446744073709551616) a.length ((i+1:Nat):Int):=by
  intro y hy;rw[zU,aT,bPS,gP ⟨g1.1,hy,h0,h1⟩,aT,wK hp,wrap_i64,show i+(k+1)=(i+1)+k from by omega];rfl
 rw[Ea,aN]
 by_cases h:i<b.length
 ·rw[aN,aT,bPS,hJ _ g2.1]
 ·rw[aI,hJ 0 (by omega),M6.getD_none (a:=b) (by omega)]
theorem L{a b:List Int}(ha:M6.cE a)(hb:M6.cE b)(hl:a.length<=8192)(aMB:b.length<=a.length):∀(k i:Nat) (pre:List Int) (c:Int),i+k=a.length->pre.length=i->M6.cE pre->0<=c->c<=1 ->
  M6.val pre+18446744073709551616^i*c.toNat=M6.val (a.take i)+M6.val (b.take i) ->
  L8 a b (i+(k+1)) (pre ++ bNZ (k+1) 0) c a.length i=some [D.s (.ints .u64 (bif cC.kU (M6.val a+M6.val b)then M6.dg (M6.val a+M6.val b)else [])),D.s (.sc (.int .i64 (bif cC.kU (M6.val a+M6.val b)then 0 else 5)))]:=by
 intro k
 induction k with
 |zero =>
  intro i pre c hi hp hd h0 h1 hv;have aZX:i=a.length:=by omega
  subst aZX;have hs:(pre ++ bNZ (0+1) 0).set a.length c=pre ++ [c]:=by rw[wK hp];simp
  have Yw:M6.val (pre ++ [c])=M6.val a+M6.val b:=by
   rw[M6.lC,hp,hv,M6.cG (bLW _),M6.cG (by omega)]
  rw[Ea,aI,aT,bPS,hs,Yw,gP ⟨M6.lD hd (by omega),by simp;omega⟩]
 |succ k ih =>
  intro i pre c hi hp hd h0 h1 hv;have g1:=ha.get i;have g2:=hb.get i;rw[step ha hb hp (by omega) hl h0 h1];refine ih (i+1) _ _ (by omega) (by simp[hp]) (M6.lD hd (by omega)) (by omega) (by omega) ?_;rw[M6.lC,M6.cD,M6.cD,hp,bQV,bQZ];generalize a.getD i 0=x at *;generalize b.getD i 0=y at *;generalize 18446744073709551616^i=B at *;have e:18446744073709551616*((x+y+c)/18446744073709551616).toNat+((x+y+c)%18446744073709551616).toNat=c.toNat+x.toNat+y.toNat:=by omega
  have e2:B*(18446744073709551616*((x+y+c)/18446744073709551616).toNat)+B*((x+y+c)%18446744073709551616).toNat=B*c.toNat+B*x.toNat+B*y.toNat:=by
   rw[<-bQW,e,bQW,bQW]
  omega
theorem bFR{a b:List Int}(ha:M6.cE a)(hb:M6.cE b)(hl:a.length<=8192)(aMB:b.length<=a.length):J5 a b=some [D.s (.ints .u64 (bif cC.kU (M6.val a+M6.val b)then M6.dg (M6.val a+M6.val b)else [])),D.s (.sc (.int .i64 (bif cC.kU (M6.val a+M6.val b)then 0 else 5)))]:=by
 rw[Ip,wrap_i64,if_pos ⟨by omega,by omega,by omega⟩,show((a.length:Int)+1).toNat=0+(a.length+1)from by omega];have:=L ha hb hl aMB a.length 0 [] 0 (by omega) rfl M6.lU (by omega) (by omega) (by simp[M6.val]);rw[bPY]at this;rw[show 0+(a.length+1)=a.length+1 from by omega]at this ⊢;exact this
def sp(a b:List Int):Prop×List D:=(M6.cF a/\M6.cF b/\a.length<=8192/\b.length<=8192,[.s (.ints .u64 (bif cC.kU (M6.val a+M6.val b)then M6.dg (M6.val a+M6.val b)else [])),.s (.sc (.int .i64 (bif cC.kU (M6.val a+M6.val b)then 0 else 5)))])
theorem spec:fI E f124 aE (pI .u64) (pI .u64) sp:=by
 rintro a b ⟨ha,hb,h1,h2⟩;refine(start a b).trans ?_;rw[gP,gP,fA.lS ha h1,fA.lS hb h2,bNW,bF,bF,fR]
 by_cases hl:a.length<b.length
 ·rw[aN,bFR hb.iU ha.iU h2 (by omega),bRX];rfl
 ·rw[aI,bFR ha.iU hb.iU h1 (by omega)];rfl
def aH:dG:=orc2 (pI .u64) (pI .u64) sp
theorem ok:OK 124 aH:=(eF E aE (aA fA.ok (aA cC.ok aD)) func124).lA rfl spec
end rH
namespace De
def E:=mE [(174,xJ.aH)] 47 [] [(7,[5,6,7])] []
def aE:=bd f125
theorem aU:Nk E aE:=nk
def L7 a b c:=nO E f125 aE 7 [fW a,fW b,bP c]
theorem start a b:aF E f125 aE [D.s (ints u64 a),D.s (ints u64 b)]=letI B:=M6.dg (M6.val b);letI A:=(↑(M6.dg (M6.val a)).length:Int);aO (M6.cE a/\a.length<=1099511627776) (aO (M6.cE b/\b.length<=1099511627776) (aB (A !=(B.length:Int)) (aB (decide (A<(B.length:Int))) (some [D.s (sc (int i64 (-1:Int)))]) (some [D.s (sc (int i64 1))])) (De.L7 (M6.dg (M6.val a)) B (i64.wrap (A-(1:Int)))))):=eJ aU
theorem uF a b c:L7 a b c=aB (decide (0<=c)) (if 0<=c/\c<(a.length:Int)then if 0<=c/\c<(b.length:Int)then aB (a.getD c.toNat 0 !=b.getD c.toNat 0) (if 0<=c/\c<(a.length:Int)then if 0<=c/\c<(b.length:Int)then aB (decide (a.getD c.toNat 0<b.getD c.toNat 0)) (some [D.s (sc (int i64 (-1:Int)))]) (some [D.s (sc (int i64 1))])else none else none) (De.L7 a b (i64.wrap (c-1)))else none else none) (some [D.s (sc (int i64 0))]):=lJ aU
def sp(a b:List Int):Prop×List D:=(M6.cE a/\M6.cE b/\a.length<=1099511627776/\b.length<=1099511627776,[.s (.sc (.int .i64 (mV (M6.val a) (M6.val b))))])
theorem L{a b:List Int}(ha:M6.cE a)(hb:M6.cE b)(hl:a.length=b.length)(hm:a.length<=4398046511104):∀n:Nat,n<=a.length->L7 a b ((n:Int)-1)=some [D.s (.sc (.int .i64 (mV (M6.val (a.take n)) (M6.val (b.take n)))))]
 |0,_=>by
  rw[uF,aI];simp[mV,M6.val]
 |n+1,h=>by
  have e:(((n+1:Nat):Int)-1)=(n:Int):=by omega
  rw[e,uF,aN,aT,aT,aT,aT,bPS,wrap_i64,L ha hb hl hm n (by omega)];have h1:=ha.get n;have h2:=hb.get n;have l1:=M6.gH ha n;have l2:=M6.gH hb n;rw[M6.cD,M6.cD];generalize a.getD n 0=x at *;generalize b.getD n 0=y at *;generalize M6.val (a.take n)=u at *;generalize M6.val (b.take n)=v at *;generalize 18446744073709551616^n=B at *
  by_cases aSQ:x<y
  ·rw[qF,aN aSQ];have:B*x.toNat+B<=B*y.toNat:=by
    have:B*(x.toNat+1)<=B*y.toNat:=bOK _ (by omega);rw[bQW]at this;omega
   unfold mV;rw[aT]
  ·by_cases hyx:y<x
   ·rw[qF,aI aSQ];have:B*y.toNat+B<=B*x.toNat:=by
     have:B*(y.toNat+1)<=B*x.toNat:=bOK _ (by omega);rw[bQW]at this;omega
    unfold mV;rw[aX,aT]
   ·have:x=y:=by omega
    subst this;rw[fD rfl,aFP]
theorem spec:fI E f125 aE (pI .u64) (pI .u64) sp:=by
 rintro a b ⟨ha,hb,h1,h2⟩;refine(start a b).trans ?_;have la:=M6.oU ha;have lb:=M6.oU hb;rw[gP ⟨ha,h1⟩,gP ⟨hb,h2⟩];show _=some [D.s (.sc (.int .i64 (mV (M6.val a) (M6.val b))))];have na:=M6.aW (M6.val a);have nb:=M6.aW (M6.val b);have va:=M6.bI (M6.val a);have vb:=M6.bI (M6.val b);rw[<-va,<-vb];generalize M6.dg (M6.val a)=x at *;generalize M6.dg (M6.val b)=y at *;have e1:=M6.Fe na;have e2:=M6.Fe nb;rw[e1,e2]
 by_cases hl:x.length=y.length
 ·rw[fD,wrap_i64,L na.iU nb.iU hl (by omega) x.length (bLW _),M6.cG (bLW _),M6.cG (by omega)]
 ·rw[qF]
  by_cases iN:x.length<y.length
  ·have:=M6.sE na.iU nb iN;rw[aN];unfold mV;rw[if_pos this]
  ·have:=M6.sE nb.iU na (by omega);rw[aI];unfold mV;rw[aX,if_pos this]
def aH:dG:=orc2 (pI .u64) (pI .u64) sp
theorem ok:OK 125 aH:=(eF E aE (aA xJ.ok aD) func125).lA rfl spec
end De
namespace sT
def E:=mE [(167,fA.aH),(171,cC.aH),(125,De.aH)] 56 [53] [(8,[0,1,6,7,26,27]),(3,[0,1]),(13,[0,1,6,7,8,9,26,27])] [3,13]
def aE:=bd f126
theorem aU:Nk E aE:=nk
def J3 a b:=kV E f126 aE 3 [fW a,fW b]
def L8 a b (c:Nat) (d:List Int) e f g:=nO E f126 aE 8 [fW a,fW b,yG 2 c 22 d,cZ e,bP f,bP g]
def Rx a b (c:Nat) (d:List Int) e f g x7 h:=kV E f126 aE 13 [fW a,fW b,yG 2 c 22 d,cZ e,bP f,cZ g,bP x7,bP h]
theorem start a b:aF E f126 aE [D.s (ints u64 a),D.s (ints u64 b)]=letI A:=some [D.s (sc (slice none 0 0)),D.s (sc (int i64 2))];aO (a.length<=1099511627776) (aB (!fA.mR a) A (aO (b.length<=1099511627776) (aB (!fA.mR b) A (sT.J3 a b)))):=eJ aU
theorem fR a b:J3 a b=letI A:=(a.length:Int);aO (M6.cE a/\M6.cE b/\a.length<=1099511627776/\b.length<=1099511627776) (aB (decide (mV (M6.val a) (M6.val b)<0)) (some [D.s (sc (slice none 0 0)),D.s (sc (int i64 3))]) (if 0<=A/\A<=A/\A<=(8796093022208:Int)then sT.L8 a b A.toNat (bNZ A.toNat (0:Int)) 0 A 0 else none)):=cJ aU
theorem Ea a b c d e f g:L8 a b c d e f g=aB (decide (g<f)) (aB (decide (g<(b.length:Int))) (if 0<=g/\g<(b.length:Int)then sT.Rx a b c d e g (b.getD g.toNat 0) f g else none) (sT.Rx a b c d e g 0 f g)) (aO (M6.cE d/\d.length<=1099511627776) (some [D.s (ints u64 (bif cC.kU (M6.val d)then M6.dg (M6.val d)else [])),D.s (sc (int i64 (bif cC.kU (M6.val d)then(0:Int)else(5:Int))))])):=lJ aU
theorem zU a b c d e f g h i:Rx a b c d e f g h i=if 0<=f/\f<(a.length:Int)then aO (0<=a.getD f.toNat 0/\0<=g/\g<18446744073709551616/\0<=e/\e<=1) (if 0<=f/\f<(c:Int)then sT.L8 a b c (d.set f.toNat ((a.getD f.toNat 0-g-e)%18446744073709551616)) (if a.getD f.toNat 0<g+e then(1:Int)else(0:Int)) h (i64.wrap (i+1))else none)else none:=cJ aU
theorem step{a b pre:List Int}{o:Int}{i k:Nat}(ha:M6.cE a)(hb:M6.cE b)(hp:pre.length=i)(hi:i<a.length)(hl:a.length<=8192)(h0:0<=o)(h1:o<=1) :
  L8 a b (i+(k+1)) (pre ++ bNZ (k+1) 0) o a.length i=L8 a b ((i+1)+k) ((pre ++ [(a.getD i 0-b.getD i 0-o)%18446744073709551616]) ++ bNZ k 0) (if a.getD i 0<b.getD i 0+o then 1 else 0) a.length ((i+1:Nat):Int):=by
 have g1:=ha.get i;have g2:=hb.get i;have hJ:∀y:Int,0<=y->y<18446744073709551616->Rx a b (i+(k+1)) (pre ++ bNZ (k+1) 0) o i y a.length i=L8 a b ((i+1)+k) ((pre ++ [(a.getD i 0-y-o)%18446744073709551616]) ++ bNZ k 0) (if a.getD i 0<y+o then 1 else 0) a.length ((i+1:Nat):Int):=by
  intro y hy aYN;rw[zU,aT,bPS,gP ⟨g1.1,hy,aYN,h0,h1⟩,aT,wK hp,wrap_i64,show i+(k+1)=(i+1)+k from by omega];rfl
 rw[Ea,aN]
 by_cases h:i<b.length
 ·rw[aN,aT,bPS,hJ _ g2.1 g2.2]
 ·rw[aI,hJ 0 (by omega) (by omega),M6.getD_none (a:=b) (by omega)]
theorem L{a b:List Int}(ha:M6.cE a)(hb:M6.cE b)(hl:a.length<=8192)(aMA:b.length<=a.length)(aMB:M6.val b<=M6.val a):∀(k i:Nat) (pre:List Int) (o:Int),i+k=a.length->pre.length=i->M6.cE pre->0<=o->o<=1 ->
  M6.val pre+M6.val (b.take i)=M6.val (a.take i)+18446744073709551616^i*o.toNat ->
  L8 a b (i+k) (pre ++ bNZ k 0) o a.length i=some [D.s (.ints .u64 (M6.dg (M6.val a-M6.val b))),D.s (.sc (.int .i64 0))]:=by
 intro k
 induction k with
 |zero =>
  intro i pre o hi hp hd h0 h1 hv;have bHE:=M6.cO hd;rw[hp]at bHE;rw[M6.cG (by omega),M6.cG (by omega)]at hv;have:o=0:=by
   by_cases ho:o=0
   ·exact ho
   ·exfalso;have:o=1:=by omega
    subst this;rw[show(1:Int).toNat=1 from rfl,Nat.mul_one]at hv;omega
  subst this;simp only[bTR,bST,bMX]at hv;have hlen:=M6.oU hd;have Qb:cC.kU (M6.val pre)=true:=decide_eq_true (by omega);rw[Ea,aI,bSI,bRW,gP ⟨hd,by omega⟩,Qb,cond_true,cond_true,show M6.val pre=M6.val a-M6.val b from by omega]
 |succ k ih =>
  intro i pre o hi hp hd h0 h1 hv;have g1:=ha.get i;have g2:=hb.get i;rw[step ha hb hp (by omega) hl h0 h1];refine ih (i+1) _ _ (by omega) (by simp[hp]) (M6.lD hd (by omega)) (by split <;> omega) (by split <;> omega) ?_;rw[M6.lC,M6.cD,M6.cD,hp,bQV,bQZ];generalize a.getD i 0=x at *;generalize b.getD i 0=y at *;have e:((x-y-o)%18446744073709551616).toNat+y.toNat+o.toNat=x.toNat+18446744073709551616*(if x<y+o then 1 else 0:Int).toNat:=by split <;> omega
  generalize 18446744073709551616^i=B at *;have e2:=congrArg (B*·) e;simp only[bQW]at e2;omega
def sp(a b:List Int):Prop×List D:=(M6.cF a/\M6.cF b/\a.length<=8192/\b.length<=8192,[.s (.ints .u64 (M6.dg (M6.val a-M6.val b))),.s (.sc (.int .i64 (if M6.val a<M6.val b then 3 else 0)))])
theorem spec:El E f126 aE (pI .u64) (pI .u64) sp:=by
 rintro a b ⟨ha,hb,h1,h2⟩;have e:=start a b;rw[gP,gP,fA.lS ha h1,fA.lS hb h2,bNW,bF,bF,fR,gP ⟨ha.iU,hb.iU,by omega,by omega⟩]at e;unfold sp;simp only
 by_cases hc:M6.val a<M6.val b
 ·rw[aN (by unfold mV;rw[if_pos hc];omega)]at e;rw[if_pos hc,show M6.val a-M6.val b=0 from by omega,M6.bJ];exact⟨_,e,.cons (vW.nil _) (fP.refl _)⟩
 ·have aMA:b.length<=a.length:=by
   rcases bML a.length b.length with h |h
   ·have:=M6.sE ha.iU hb h;omega
   ·exact h
  have:=L ha.iU hb.iU h1 aMA (by omega) a.length 0 [] 0 (by omega) rfl M6.lU (by omega) (by omega) (by simp[M6.val]);rw[aI (by unfold mV;rw[if_neg hc];split <;> omega),if_pos ⟨by omega,by omega,by omega⟩,bPS]at e;rw[bPY,show 0+a.length=a.length from by omega]at this;rw[if_neg hc];exact⟨_,e.trans this,fP.refl _⟩
def aH:dG:=orc2 (pI .u64) (pI .u64) sp
theorem ok:OK 126 aH:=(eF E aE (aA fA.ok (aA cC.ok (aA De.ok aD))) func126).aAF rfl spec
end sT
namespace aAE
def E:=mE [(112,gG.aH),(124,rH.aH),(125,De.aH),(126,sT.aH),(123,xL.aH)] 62 [36,59] [(3,[2,3,4]),(8,[2,3,4])] [3,8]
def aE:=bd f71
theorem aU:Nk E aE:=nk
def J3 a b c d e:=kV E f71 aE 3 [cQ 0 27 [bW a,dZ b],cQ 1 27 [bW c,dZ d],cQ 2 27 [bW e,sc (slice none 0 0)]]
def J8 a b c d e:=kV E f71 aE 8 [cQ 0 27 [bW a,dZ b],cQ 1 27 [bW c,dZ d],cQ 2 27 [bW e,sc (slice none 0 0)]]
theorem start a b c d:aF E f71 aE [D.agg [sc (bool a),ints u64 b],D.agg [sc (bool c),ints u64 d]]=letI A:=some [D.agg [sc (bool false),sc (slice none 0 0)],D.s (sc (int i64 2))];aO (b.length<=1099511627776) (aB (!gG.qL (a,b)) A (aO (d.length<=1099511627776) (aB (!gG.qL (c,d)) A (aAE.J3 a b c d false)))):=eJ aU
theorem fR a b c d e:J3 a b c d e=letI F:=M6.val b+M6.val d;letI B:=bif cC.kU F then(0:Int)else(5:Int);letI A:=bif cC.kU F then M6.dg F else [];letI C:=bif B==0 then zs a (M6.val A)else(0:Int);aB (a==c) (aO (M6.cF b/\M6.cF d/\b.length<=8192/\d.length<=8192) (aO (M6.cF A/\A.length<=1099511627776) (some [D.agg [sc (bool (isNeg C)),ints u64 (M6.dg C.natAbs)],D.s (sc (int i64 B))]))) (aO (M6.cE b/\M6.cE d/\b.length<=1099511627776/\d.length<=1099511627776) (aB (decide (mV (M6.val b) (M6.val d)<0)) (aAE.J8 c d a b e) (aAE.J8 a b c d e))):=cJ aU
theorem sW a b c d e:J8 a b c d e=letI B:=M6.dg (M6.val b-M6.val d);letI A:=bif (if M6.val b<M6.val d then(3:Int)else(0:Int))==0 then zs a (M6.val B)else(0:Int);aO (M6.cF b/\M6.cF d/\b.length<=8192/\d.length<=8192) (aO (M6.cF B/\B.length<=1099511627776) (some [D.agg [sc (bool (isNeg A)),ints u64 (M6.dg A.natAbs)],D.s (sc (int i64 (if M6.val b<M6.val d then(3:Int)else(0:Int))))])):=cJ aU
theorem Wr(n:Nat):cC.kU n=fit n:=xX
def sp(x y:Bool×List Int):Prop×List D:=(jY x/\jY y,wE (fit (wv x+wv y).natAbs) (wv x+wv y))
theorem spec:fI E f71 aE vY vY sp:=by
 rintro x y ⟨hx,hy⟩;refine(start x.1 x.2 y.1 y.2).trans ?_;have l1:=hx.len;have l2:=hy.len;have f1:=gG.nB hx;have f2:=gG.nB hy;have b1:=hx.bl;have b2:=hy.bl;obtain⟨p,a⟩:=x;obtain⟨q,b⟩:=y;have n1:M6.cF a:=hx.1;have n2:M6.cF b:=hy.1
 try dsimp only at *
 unfold sp
 try dsimp only
 rw[gP,f1,bNW,bF,gP,f2,bNW,bF,fR];have one:∀(s:Bool) (m n:Nat),n<=m->bl m<=524288->some [D.agg [S.sc (.bool (isNeg (bif (if m<n then(3:Int)else 0)==0 then zs s (M6.val (M6.dg (m-n)))else 0))),S.ints .u64 (M6.dg (bif (if m<n then(3:Int)else 0)==0 then zs s (M6.val (M6.dg (m-n)))else 0).natAbs)],D.s (S.sc (.int .i64 (if m<n then 3 else 0)))]=some (wE (fit (zs s (m-n)).natAbs) (zs s (m-n))):=by
  intro s m n h hb;have:fit (zs s (m-n)).natAbs=true:=by
   rw[kB];exact decide_eq_true (bMS (gN (bSU _ _)) hb)
  rw[aX,this,show((0:Int)==0)=true from rfl,cond_true,M6.bI];rfl
 by_cases he:p=q
 ·subst he;have hs:wv (p,a)+wv (p,b)=zs p (M6.val a+M6.val b):=by
   unfold wv zs;cases p <;> simp <;> omega
  rw[aFX (by simp),gP ⟨n1,n2,l1,l2⟩,gP (Ff (fun h=>by rw[Wr]at h;exact wY h)),Eo,Wr,hs,kB]
 ·rw[Ht (by simpa using he),gP ⟨n1.iU,n2.iU,by omega,by omega⟩]
  by_cases hc:M6.val b<=M6.val a
  ·have hs:wv (p,a)+wv (q,b)=zs p (M6.val a-M6.val b):=by
    unfold wv zs;cases p <;> cases q <;> simp_all <;> omega
   have l3:=eQ (n:=M6.val a-M6.val b) (k:=8192) (bMS (gN (bSU _ _)) b1);rw[aI (by have:=Xv.2 hc;omega),sW,gP ⟨n1,n2,l1,l2⟩,gP ⟨M6.aW _,by omega⟩,hs,one _ _ _ hc b1]
  ·have hs:wv (p,a)+wv (q,b)=zs q (M6.val b-M6.val a):=by
    unfold wv zs;cases p <;> cases q <;> simp_all <;> omega
   have l3:=eQ (n:=M6.val b-M6.val a) (k:=8192) (bMS (gN (bSU _ _)) b2);rw[aN (by have:=(not_congr Xv).2 hc;omega),sW,gP ⟨n2,n1,l2,l1⟩,gP ⟨M6.aW _,by omega⟩,hs,one _ _ _ (by omega) b2]
def aH:dG:=orc2 vY vY sp
theorem ok:OK 71 aH:=(eF E aE (aA gG.ok (aA rH.ok (aA De.ok (aA sT.ok (aA xL.ok aD))))) func71).lA rfl spec
end aAE
namespace aGB
def E:=mE [] 14 [] [] []
def aE:=bd f170
theorem aU:Nk E aE:=nk
theorem start a:aF E f170 aE [D.s (sc (int u64 a))]=letI A:=eN BinOp.and u64 a (u64.wrap ((0:Int)-a))*285870213051353865;aB (a==0) (some [D.s (sc (int i64 64))]) (if 0<=u64.wrap A/288230376151711744/\u64.wrap A/288230376151711744<(64:Int)then some [D.s (sc (int i64 (i64.wrap ([(0:Int),(1:Int),(56:Int),(2:Int),(57:Int),(49:Int),(28:Int),(3:Int),(61:Int),(58:Int),(42:Int),(50:Int),(38:Int),(29:Int),(17:Int),(4:Int),(62:Int),(47:Int),(59:Int),(36:Int),(45:Int),(43:Int),(51:Int),(22:Int),(53:Int),(39:Int),(33:Int),(30:Int),(24:Int),(18:Int),(12:Int),(5:Int),(63:Int),(55:Int),(48:Int),(27:Int),(60:Int),(41:Int),(37:Int),(16:Int),(46:Int),(35:Int),(44:Int),(21:Int),(52:Int),(32:Int),(23:Int),(11:Int),(54:Int),(26:Int),(40:Int),(15:Int),(34:Int),(20:Int),(31:Int),(10:Int),(25:Int),(14:Int),(19:Int),(9:Int),(13:Int),(8:Int),(7:Int),(6:Int)].getD (u64.wrap A/288230376151711744).toNat 0))))]else none):=eJ aU
def aKV:List Int:=[0,1,56,2,57,49,28,3,61,58,42,50,38,29,17,4,62,47,59,36,45,43,51,22,53,39,33,30,24,18,12,5,63,55,48,27,60,41,37,16,46,35,44,21,52,32,23,11,54,26,40,15,34,20,31,10,25,14,19,9,13,8,7,6]
theorem Lr:(bNG 64).all (fun k=>aKV.getD (((2^k*285870213051353865%18446744073709551616:Nat):Int)/288230376151711744).toNat 0==(k:Int))=true:=by kernel_rfl
theorem Lq{k:Nat}(h:k<64):aKV.getD (((2^k*285870213051353865%18446744073709551616:Nat):Int)/288230376151711744).toNat 0=(k:Int):=eq_of_beq (List.all_eq_true.1 Lr k (List.mem_range.2 h))
def sp(a:Int):Prop×List D:=(0<=a/\a<18446744073709551616,[.s (.sc (.int .i64 (if a=0 then 64 else(tz a.toNat:Int))))])
theorem spec:gO E f170 aE (pN .u64) sp:=by
 rintro a ⟨h1,h2⟩;refine(start a).trans ?_;show _=some [D.s (.sc (.int .i64 (if a=0 then 64 else(tz a.toNat:Int))))]
 by_cases hz:a=0
 ·rw[cN hz,if_pos hz]
 ·have iN:tz a.toNat<64:=by
   have:=Fq (n:=a.toNat) (by omega);rcases bML (tz a.toNat) 64 with h |h
   ·exact h
   ·have h3:2^64<=2^tz a.toNat:=bOW (by omega) h;omega
  have ew:u64.wrap (0-a)=18446744073709551616-a:=by rw[eE];omega
  have el:eN .and .u64 a (u64.wrap (0-a))=((2^tz a.toNat:Nat):Int):=by
   rw[ew,Rk h1 h2 (by omega) (by omega),Pw 64 a.toNat (18446744073709551616-a).toNat (by omega) (by omega) (by omega)]
  have em:u64.wrap (((2^tz a.toNat:Nat):Int)*285870213051353865)=((2^tz a.toNat*285870213051353865%18446744073709551616:Nat):Int):=by
   rw[eE];generalize 2^tz a.toNat=p;omega
  have ht:=Lq iN;have hm:2^tz a.toNat*285870213051353865%18446744073709551616<18446744073709551616:=bOE _ (by omega);rw[bV hz,if_neg hz,el,em];generalize 2^tz a.toNat*285870213051353865%18446744073709551616=q at *;rw[if_pos ⟨by omega,by omega⟩];have e3:([0,1,56,2,57,49,28,3,61,58,42,50,38,29,17,4,62,47,59,36,45,43,51,22,53,39,33,30,24,18,12,5,63,55,48,27,60,41,37,16,46,35,44,21,52,32,23,11,54,26,40,15,34,20,31,10,25,14,19,9,13,8,7,6]:List Int)=aKV:=rfl;rw[e3,ht,wrap_i64]
def aH:dG:=orc1 (pN .u64) sp
theorem ok:OK 170 aH:=(eF E aE aD func170).nN rfl spec
end aGB
namespace zR
def E:=mE [(170,aGB.aH)] 23 [] [(2,[0,5,6])] []
def aE:=bd f114
theorem aU:Nk E aE:=nk
def L2 a b c:=nO E f114 aE 2 [fW a,bP b,bP c]
theorem start a:aF E f114 aE [D.s (ints u64 a)]=zR.L2 a (a.length:Int) 0:=eJ aU
theorem jZ a b c:L2 a b c=aB (decide (c<b)) (if 0<=c/\c<(a.length:Int)then aB (a.getD c.toNat 0 !=(0:Int)) (if 0<=c/\c<(a.length:Int)then aO (0<=a.getD c.toNat 0/\a.getD c.toNat 0<(18446744073709551616:Int)) (some [D.s (sc (int i64 (i64.wrap (i64.wrap ((64:Int)*c)+if a.getD c.toNat 0=(0:Int)then(64:Int)else(↑(tz (a.getD c.toNat 0).toNat):Int)))))])else none) (zR.L2 a b (i64.wrap (c+1)))else none) (some [D.s (sc (int i64 0))]):=lJ aU
def sp(a:List Int):Prop×List D:=(M6.cE a/\a.length<=1099511627776,[.s (.sc (.int .i64 (tz (M6.val a):Nat)))])
theorem L{a:List Int}(ha:M6.cE a)(hl:a.length<=1099511627776):∀(d i:Nat),i+d=a.length->L2 a a.length i=some [D.s (.sc (.int .i64 (if M6.val (a.drop i)=0 then 0 else(((64*i+tz (M6.val (a.drop i)):Nat)):Int))))]:=by
 intro d
 induction d with
 |zero =>
  intro i hi;rw[jZ,aI,bRL (by omega)];rfl
 |succ d ih =>
  intro i hi;have g:=ha.get i;have hv:=M6.fY (a:=a) i;have bJA:=ih (i+1) (by omega);rw[jZ,aN,aT,bPS,aT,gP g,wrap_i64 (n:=(i:Int)+1),wrap_i64 (n:=64*(i:Int)),show(i:Int)+1=((i+1:Nat):Int)from by omega,bJA];generalize a.getD i 0=x at *;rw[hv]
  by_cases hz:x=0
  ·subst hz;rw[fD rfl];simp only[bTR,bLY]
   by_cases aNT:M6.val (a.drop (i+1))=0
   ·rw[if_pos aNT,aT]
   ·have:=Lm aNT 64;rw[show(2:Nat)^64=18446744073709551616 from rfl]at this;rw[if_neg aNT,aX,this];congr 5;omega
  ·have ht:=Fq (n:=x.toNat) (by omega);have aWL:tz x.toNat<64:=by
    rcases bML (tz x.toNat) 64 with h |h
    ·exact h
    ·have h3:2^64<=2^tz x.toNat:=bOW (by omega) h;omega
   have:=aMQ (r:=x.toNat) (k:=64) (n:=M6.val (a.drop (i+1))) (by omega) (by omega);rw[show(2:Nat)^64=18446744073709551616 from rfl]at this;rw[qF hz,if_neg hz,aX,this,wrap_i64];congr 5
theorem spec:gO E f114 aE (pI .u64) sp:=by
 rintro a ⟨ha,hl⟩;refine(start a).trans ?_;have:=L ha hl a.length 0 (by omega);rw[show(0:Int)=((0:Nat):Int)from rfl,this,bSE];show _=some [D.s (.sc (.int .i64 (tz (M6.val a):Nat)))]
 by_cases hz:M6.val a=0
 ·rw[if_pos hz,hz];simp[tz]
 ·rw[if_neg hz];congr 5;omega
def aH:dG:=orc1 (pI .u64) sp
theorem ok:OK 114 aH:=(eF E aE (aA aGB.ok aD) func114).nN rfl spec
end zR
namespace Bm
def E:=mE [(167,fA.aH),(171,cC.aH)] 73 [70] [(10,[0,6,7,8,29,30])] []
def aE:=bd f115
theorem aU:Nk E aE:=nk
def Im a b c (d:Nat) (e:List Int) f g:=nO E f115 aE 10 [fW a,bP b,bP c,yG 3 d 22 e,bP f,bP g]
theorem start a b:aF E f115 aE [D.s (ints u64 a),D.s (sc (int i64 b))]=letI G:=b.tdiv 64;letI C:=sc (slice none 0 0);letI A:=(a.length:Int);letI B:=A-i64.wrap G;letI F:=i64.wrap B;aB (decide (b<0)) (some [D.s C,D.s (sc (int i64 1))]) (aO (a.length<=1099511627776) (aB (!fA.mR a) (some [D.s C,D.s (sc (int i64 2))]) (aB (decide (A<=i64.wrap G)) (some [D.s C,D.s (sc (int i64 0))]) (if 0<=i64.wrap B/\i64.wrap B<=i64.wrap B/\i64.wrap B<=8796093022208 then Bm.Im a (i64.wrap G) (b.tmod 64) F.toNat (bNZ F.toNat (0:Int)) (F.toNat:Int) 0 else none)))):=eJ aU
theorem sM a b c d e f g:Im a b c d e f g=letI C:=(a.length:Int);letI B:=i64.wrap (b+g)+1;letI A:=e.set g.toNat (a.getD (i64.wrap (b+g)).toNat 0/(↑((2:Nat)^min c.toNat 64):Int));aB (decide (g<f)) (if 0<=i64.wrap (b+g)/\i64.wrap (b+g)<C then if c<0 then none else if 0<=g/\g<(d:Int)then aB (decide (i64.wrap B<C)) (if 0<=g/\g<(d:Int)then if 0<=i64.wrap B/\i64.wrap B<C then if i64.wrap ((63:Int)-c)<0 then none else if 0<=g/\g<(d:Int)then Bm.Im a b c d (A.set g.toNat (eN BinOp.or u64 (A.getD g.toNat 0) (u64.wrap (u64.wrap (a.getD (i64.wrap B).toNat 0*(2:Int))*(↑((2:Nat)^min (i64.wrap ((63:Int)-c)).toNat 64):Int))))) f (i64.wrap (g+1))else none else none else none) (Bm.Im a b c d A f (i64.wrap (g+1)))else none else none) (aO (M6.cE e/\e.length<=1099511627776) (some [D.s (ints u64 (bif cC.kU (M6.val e)then M6.dg (M6.val e)else [])),D.s (sc (int i64 (bif cC.kU (M6.val e)then(0:Int)else(5:Int))))])):=lJ aU
theorem Ua(a:List Int)(q i:Nat):(a.drop q).getD i 0=a.getD (q+i) 0:=by
 simp[bRA,bMI]
theorem high{x k:Nat}(h:k<64):x*2^(64-k)%18446744073709551616=2^(64-k)*(x%2^k):=by
 rw[show(18446744073709551616:Nat)=2^(64-k)*2^k from by rw[<-bQX,show 64-k+k=64 from by omega],bQU x,Nat.mul_mod_mul_left]
theorem step{a P:List Int}{q k i r:Nat}(ha:M6.cE a)(hP:P.length=i)(hk:k<64)(hl:a.length<=8192)(hr:q+i+(r+1)=a.length) :
  Im a q k (a.length-q) (P ++ bNZ (r+1) 0) ((a.length-q:Nat):Int) i =
   Im a q k (a.length-q) ((P ++ [(((a.getD (q+i) 0).toNat/2^k+2^(64-k)*((a.getD (q+i+1) 0).toNat%2^k):Nat):Int)]) ++ bNZ r 0) ((a.length-q:Nat):Int) ((i+1:Nat):Int):=by
 have g:=ha.get (q+i);have g1:=ha.get (q+i+1);have w1:i64.wrap ((q:Int)+i)=((q+i:Nat):Int):=by rw[wrap_i64];omega
 have w2:i64.wrap (((q+i:Nat):Int)+1)=((q+i+1:Nat):Int):=by rw[wrap_i64];omega
 have w3:i64.wrap (63-(k:Int))=((63-k:Nat):Int):=by rw[wrap_i64];omega
 have m1:min k 64=k:=by omega
 have m2:min (63-k) 64=63-k:=by omega
 have aNW:(a.getD (q+i) 0)/((2^k:Nat):Int)=(((a.getD (q+i) 0).toNat/2^k:Nat):Int):=by
  obtain⟨x,hx⟩:=bQY g.1;rw[hx,bPS,bRM]
 have Tr:(a.getD (q+i) 0).toNat/2^k<2^(64-k):=by
  apply bRQ;rw[<-bQX,show k+(64-k)=64 from by omega];omega
 rw[sM,aN,w1,if_pos ⟨by omega,by omega⟩,aX,if_pos ⟨by omega,by omega⟩,w2,w3,wrap_i64 (n:=(i:Int)+1),
  bPS,bPS,bPS,bPS,bPS,m1,m2,bRE,Bw hP,Cn hP,aNW]
 by_cases hn:q+i+1<a.length
 ·rw[aN,if_pos ⟨by omega,by omega⟩,if_pos ⟨by omega,by omega⟩,aX,if_pos ⟨by omega,by omega⟩,Bw hP];have hw:u64.wrap (u64.wrap (a.getD (q+i+1) 0*2)*((2^(63-k):Nat):Int))=((2^(64-k)*((a.getD (q+i+1) 0).toNat%2^k):Nat):Int):=by
   obtain⟨x,hx⟩:=bQY g1.1;have aAM:u64.wrap ((x:Int)*2)=((x*2%18446744073709551616:Nat):Int):=by rw[eE];omega
   have bHI:∀p:Nat,u64.wrap (((x*2%18446744073709551616:Nat):Int)*(p:Int))=((x*2*p%18446744073709551616:Nat):Int):=by
    intro p;rw[eE,<-bRU,show(18446744073709551616:Int)=((18446744073709551616:Nat):Int)from rfl,<-bSN,bSH,Nat.mod_mod,<-bSH]
   rw[hx,aAM,bHI,bPS,<-high hk,show 64-k=(63-k)+1 from by omega,bQV,bQZ,bQU 2]
  have hh:2^(64-k)*((a.getD (q+i+1) 0).toNat%2^k)<18446744073709551616:=by rw[<-high hk];exact bOE _ (by omega)
  have bFD:2^(64-k)<=2^64:=fQ;have aTJ:eN .or .u64 (((a.getD (q+i) 0).toNat/2^k:Nat):Int) ((2^(64-k)*((a.getD (q+i+1) 0).toNat%2^k):Nat):Int)=(((a.getD (q+i) 0).toNat/2^k+2^(64-k)*((a.getD (q+i+1) 0).toNat%2^k):Nat):Int):=by
   have:=Cc (n:=(a.getD (q+i+1) 0).toNat%2^k) Tr;rw[<-this];generalize 2^(64-k)*((a.getD (q+i+1) 0).toNat%2^k)=Y at *;generalize (a.getD (q+i) 0).toNat/2^k=X at *;generalize 2^(64-k)=p at *;rw[Ym (by omega) (by omega) (by omega) (by omega),bPS,bPS]
  rw[hw,aTJ,bNR,bSS];rfl
 ·rw[aI,M6.getD_none (a:=a) (n:=q+i+1) (by omega),show((0:Int).toNat%2^k)=0 from Nat.zero_mod _,bST,bMX,bNR,bSS];rfl
theorem L{a:List Int}{q k:Nat}(ha:M6.cF a)(hl:a.length<=8192)(hq:q<a.length)(hk:k<64):∀(r i:Nat) (P:List Int),q+i+r=a.length->P.length=i->M6.cE P ->
  2^k*M6.val P+(a.getD q 0).toNat%2^k=M6.val ((a.drop q).take i)+18446744073709551616^i*((a.getD (q+i) 0).toNat%2^k) ->
  Im a q k (a.length-q) (P ++ bNZ r 0) ((a.length-q:Nat):Int) i=some [D.s (.ints .u64 (M6.dg (M6.val (a.drop q)/2^k))),D.s (.sc (.int .i64 0))]:=by
 intro r;have aTG:0<2^k:=cP
 induction r with
 |zero =>
  intro i P hi hP hd hv;rw[M6.getD_none (a:=a) (n:=q+i) (by omega),show((0:Int).toNat%2^k)=0 from Nat.zero_mod _,bST,bMX,M6.cG (by rw[bPV];omega)]at hv;have bDP:M6.val P=M6.val (a.drop q)/2^k:=by
   rw[<-hv,Nat.mul_add_div aTG,bRT (bOE _ aTG),bMX]
  have Qb:cC.kU (M6.val (a.drop q)/2^k)=true:=by
   refine decide_eq_true ?_;rw[<-bDP];have:=M6.oU hd;omega
  rw[bSI,bRW,sM,aI,gP ⟨hd,by omega⟩,bDP,Qb];rfl
 |succ r ih =>
  intro i P hi hP hd hv;have g:=ha.iU.get (q+i);have Tr:(a.getD (q+i) 0).toNat/2^k<2^(64-k):=by
   apply bRQ;rw[<-bQX,show k+(64-k)=64 from by omega];omega
  have aMH:2^(64-k)*2^k=18446744073709551616:=by rw[<-bQX,show 64-k+k=64 from by omega]
  have hs:(a.getD (q+i) 0).toNat/2^k+2^(64-k)*((a.getD (q+i+1) 0).toNat%2^k)<18446744073709551616:=by
   have hm:(a.getD (q+i+1) 0).toNat%2^k<2^k:=bOE _ aTG;have h3:2^(64-k)*((a.getD (q+i+1) 0).toNat%2^k+1)<=2^(64-k)*2^k:=bOK _ hm;rw[aMH,bQW]at h3;omega
  rw[step ha.iU hP hk hl (by omega)];refine ih (i+1) _ (by omega) (by simp[hP]) (M6.lD hd ⟨Int.natCast_nonneg _,by have:=Int.ofNat_lt.2 hs;exact this⟩) ?_;rw[M6.lC,hP,M6.cD,Ua,bPS,<-bPM q i 1,bQW,bSZ,hv];have hx:=bRC (a.getD (q+i) 0).toNat (2^k);generalize (a.getD (q+i) 0).toNat=x at *;generalize (a.getD (q+i+1) 0).toNat%2^k=y at *;generalize M6.val ((a.drop q).take i)=v at *;have e1:2^k*(18446744073709551616^i*(x/2^k+2^(64-k)*y))=18446744073709551616^i*(2^k*(x/2^k))+18446744073709551616^(i+1)*y:=by
   rw[bQV];generalize (18446744073709551616^i)=B;rw[bTT,bQW,<-bQZ (2^k) (2^(64-k)),bQU (2^k) (2^(64-k)),aMH,bQW,bQZ B]
  rw[e1];have e2:18446744073709551616^i*x=18446744073709551616^i*(2^k*(x/2^k))+18446744073709551616^i*(x%2^k):=by rw[<-bQW,hx]
  rw[e2];omega
def sp(a:List Int)(n:Int):Prop×List D:=(M6.cF a/\a.length<=8192/\0<=n/\n<4611686018427387904,[.s (.ints .u64 (M6.dg (M6.val a/2^n.toNat))),.s (.sc (.int .i64 0))])
theorem spec:El E f115 aE (pI .u64) (pN .i64) sp:=by
 rintro a n ⟨ha,hl,h0,h1⟩;have e:=start a n;have eq:n/64=((n.toNat/64:Nat):Int):=by omega
 have ek:n%64=((n.toNat%64:Nat):Int):=by omega
 rw[aI,gP,fA.lS ha hl,bNW,bF,aBL h0,aBG h0,wrap_i64 (n:=n/64),eq,ek]at e;unfold sp;simp only;rw[Gh,<-bRN];generalize hqq:n.toNat/64=q at *;have hk:n.toNat%64<64:=bOE _ (by omega);generalize n.toNat%64=k at *
 by_cases hz:a.length<=q
 ·have hv:M6.val a/18446744073709551616^q=0:=bRT (bMW (M6.cO ha.iU) (bOW (by omega) hz));rw[aN]at e;rw[hv,Nat.zero_div,M6.bJ];exact⟨_,e,.cons (vW.nil _) (fP.refl _)⟩
 ·have hval:M6.val a/18446744073709551616^q=M6.val (a.drop q):=by
   rw[M6.fX a (n:=q) (by omega),bSM _ _ (cP),bRT (M6.gH ha.iU _),bLY]
  have w:i64.wrap ((a.length:Int)-(q:Int))=((a.length-q:Nat):Int):=by rw[wrap_i64];omega
  rw[aI,w,if_pos ⟨by omega,by omega,by omega⟩,bPS]at e;have:=L (q:=q) (k:=k) ha hl (by omega) hk (a.length-q) 0 [] (by omega) rfl M6.lU (by simp[M6.val]);rw[hval];exact⟨_,e.trans this,fP.refl _⟩
def aH:dG:=orc2 (pI .u64) (pN .i64) sp
theorem ok:OK 115 aH:=(eF E aE (aA fA.ok (aA cC.ok aD)) func115).aAF rfl spec
end Bm
namespace iJ
def E:=mE [(112,gG.aH),(114,zR.aH),(115,Bm.aH)] 55 [] [(8,[1,2,4,6])] [8]
def aE:=bd f63
theorem aU:Nk E aE:=nk
def J8 a b c d e f:=kV E f63 aE 8 [bP a,cQ 1 27 [bW b,dZ c],cQ 2 29 [bW d,sc (slice none 0 0),cI e],bP f]
theorem start a c b:aF E f63 aE [D.agg [sc (bool a),ints u64 c],D.s (sc (int i64 b))]=letI G:=bool false;letI F:=int i64 0;letI C:=slice none 0 0;letI B:=(↑(tz (M6.val c)):Int);letI A:=some [D.agg [sc G,sc C,sc F],D.s (sc (int i64 5))];aO (c.length<=1099511627776) (aB (!gG.qL (a,c)) (some [D.agg [sc G,sc C,sc F],D.s (sc (int i64 2))]) (aB ((c.length:Int)==(0:Int)) (some [D.agg [sc G,sc C,sc F],D.s (sc F)]) (aO (M6.cE c/\c.length<=1099511627776) (aB (decide (1048576<b)) A (aB (decide (b<(-1572864:Int))) A (aB (decide (i64.wrap (b+B)<(-1048576:Int))) A (aB (decide (1048576<i64.wrap (b+B))) A (iJ.J8 b a c false 0 B)))))))):=eJ aU
theorem sW a b c d e f:J8 a b c d e f=aO (M6.cF c/\c.length<=8192/\0<=f/\f<4611686018427387904) (some [D.agg [sc (bool b),ints u64 (M6.dg (M6.val c/(2:Nat)^f.toNat)),sc (int i64 (i64.wrap (a+f)))],D.s (sc (int i64 0))]):=cJ aU
def sp(x:Bool×List Int)(e:Int):Prop×List D:=(jY x/\-9223372036854775808<=e/\e<9223372036854775808,dE (fM (wv x) e) (aL (wv x) e))
theorem kC(p:Int×Int):fP [D.agg [.sc (.bool false),.sc (.slice none 0 0),.sc (.int .i64 0)],.s (.sc (.int .i64 5))] (dE false p):=by
 refine .cons ?_ (fP.refl _);show vW _ (M.dD (0,0));unfold dD;rw[show((0,0):Int×Int).1.natAbs=0 from rfl,M6.bJ];exact vW.agg (.cons (yN.refl _) (.cons (yN.nil _) (uH.refl _)))
theorem spec:El E f63 aE vY (pN .i64) sp:=by
 rintro x e ⟨hw,h1,h2⟩;have s:=start x.1 x.2 e;have hl:=hw.len;have hf:=gG.nB hw;have hb:=hw.bl;obtain⟨b,a⟩:=x;have hn:M6.cF a:=hw.1
 try dsimp only at *
 unfold sp
 try dsimp only
 rw[gP,hf,bNW,bF]at s;have aEB:=iW (b,a)
 try dsimp only at aEB
 by_cases hz:a.length=0
 ·have hv:=(M6.cS hn).1 hz;have Yv:wv (b,a)=0:=by omega
  rw[cN]at s;refine⟨_,s,?_⟩;rw[Yv];refine .cons ?_ (fP.refl _);show vW _ (M.dD (0,0));unfold dD;rw[show((0,0):Int×Int).1.natAbs=0 from rfl,M6.bJ];exact vW.agg (.cons (yN.refl _) (.cons (yN.nil _) (uH.refl _)))
 ·have hv:M6.val a≠0:=fun h=>hz ((M6.cS hn).2 h)
  have Yv:wv (b,a)≠0:=by omega
  have ht:=Aa hv;have hs:=oS _ hv;have vV:∀p:Bool,(p=(decide (-1048576<=e+(tz (M6.val a):Nat))&&decide (e+(tz (M6.val a):Nat)<=1048576)))->fM (wv (b,a)) e=p:=by
   intro p hp;unfold fM;rw[aEB,decide_eq_false Yv,bNX,hp]
  rw[bV,gP ⟨hn.iU,by omega⟩]at s
  by_cases c1:1048576<e
  ·rw[aN c1]at s;rw[vV false (by rw[decide_eq_false (show ¬(e+(tz (M6.val a):Nat)<=1048576) by omega),bRI])];exact⟨_,s,kC _⟩
  ·rw[aI c1]at s
   by_cases c2:e < -1572864
   ·rw[aN c2]at s;rw[vV false (by rw[decide_eq_false (show ¬(-1048576<=e+(tz (M6.val a):Nat)) by omega),bRF])];exact⟨_,s,kC _⟩
   ·have w:i64.wrap (e+(tz (M6.val a):Int))=e+(tz (M6.val a):Int):=wrap_i64;rw[aI c2,w]at s
    by_cases c3:e+(tz (M6.val a):Int) < -1048576
    ·rw[aN c3]at s;rw[vV false (by rw[decide_eq_false (show ¬(-1048576<=e+(tz (M6.val a):Nat)) by omega),bRF])];exact⟨_,s,kC _⟩
    ·rw[aI c3]at s
     by_cases c4:1048576<e+(tz (M6.val a):Int)
     ·rw[aN c4]at s;rw[vV false (by rw[decide_eq_false (show ¬(e+(tz (M6.val a):Nat)<=1048576) by omega),bRI])];exact⟨_,s,kC _⟩
     ·rw[aI c4,sW,gP ⟨hn,hl,by omega,by omega⟩,w,bPS]at s;rw[vV true (by rw[decide_eq_true (show(e+(tz (M6.val a):Nat)<=1048576) by omega),decide_eq_true (show(-1048576<=e+(tz (M6.val a):Nat)) by omega)];rfl)];refine⟨_,s,?_⟩;have:aL (wv (b,a)) e=(zs b (M6.val a/2^tz (M6.val a)),e+(tz (M6.val a):Nat)):=by
       unfold aL;rw[if_neg Yv,aEB];have:=aAV (b:=b) (bOV (n:=tz (M6.val a)) (show 0<2 by decide)) hs.1;rw[<-this];rfl
      rw[this];have hq:M6.val a/2^tz (M6.val a)≠0:=by omega
      show fP _ [M.dD (zs b (M6.val a/2^tz (M6.val a)),e+(tz (M6.val a):Nat)),_];unfold dD
      try dsimp only
      rw[Fo,kB,decide_eq_true hq,Bool.and_true];exact fP.refl _
def aH:dG:=orc2 vY (pN .i64) sp
theorem ok:OK 63 aH:=(eF E aE (aA gG.ok (aA zR.ok (aA Bm.ok aD))) func63).aAF rfl spec
end iJ
namespace bA
def E:=mE [(61,kA.aH),(68,kM.aH),(69,Bn.aH),(70,Oe.aH),(71,aAE.aH),(63,iJ.aH)] 79 [44,67,76] [(7,[2,3,4]),(12,[4,6,7,9])] [7,12]
def aE:=bd f26
theorem aU:Nk E aE:=nk
def J7 a b c d e f g h:=kV E f26 aE 7 [cQ 0 29 [bW a,dZ b,cI c],cQ 1 29 [bW d,dZ e,cI f],cQ 2 29 [bW g,sc (slice none 0 0),cI h]]
def aRI a b c d e f g:=kV E f26 aE 12 [cQ 0 29 [bW a,sc (slice none 0 0),cI b],bP c,cQ 2 27 [bW d,dZ e],cQ 3 27 [bW f,dZ g]]
theorem start a b c d e f:aF E f26 aE [D.agg [sc (bool a),ints u64 b,sc (int i64 c)],D.agg [sc (bool d),ints u64 e,sc (int i64 f)]]=aO (aJ (a,b,c)) (aO (aJ (d,e,f)) (aO True (aB ((b.length:Int)==(0:Int)) (aO (e.length<=1099511627776) (some [D.agg [sc (bool d),ints u64 e,sc (int i64 f)],D.s (sc (int i64 0))])) (aO True (aB ((e.length:Int)==(0:Int)) (aO (b.length<=1099511627776) (some [D.agg [sc (bool a),ints u64 b,sc (int i64 c)],D.s (sc (int i64 0))])) (bA.J7 a b c d e f false 0)))))):=eJ aU
theorem Rv a b c d e f g h:J7 a b c d e f g h=letI G:=i64.wrap (c-if f<c then f else c);letI I:=M6.val b*(2:Nat)^G.toNat;letI F:=i64.wrap (f-if f<c then f else c);letI H:=M6.val e*(2:Nat)^F.toNat;letI C:=some [D.agg [sc (bool false),sc (slice none 0 0),sc (int i64 0)],D.s (sc (int i64 5))];letI B:=bif fit H then wv (d,e)*(↑((2:Nat)^F.toNat):Int)else(0:Int);letI A:=bif fit I then wv (a,b)*(↑((2:Nat)^G.toNat):Int)else(0:Int);aO (jY (a,b)/\0<=i64.wrap (c-if f<c then f else c)/\i64.wrap (c-if f<c then f else c)<4611686018427387904) (aO (jY (d,e)/\0<=i64.wrap (f-if f<c then f else c)/\i64.wrap (f-if f<c then f else c)<4611686018427387904) (aB ((bif fit I then(0:Int)else(5:Int)) !=0) C (aB ((bif fit H then(0:Int)else(5:Int)) !=0) C (bA.aRI g h (if f<c then f else c) (isNeg A) (M6.dg A.natAbs) (isNeg B) (M6.dg B.natAbs))))):=cJ aU
theorem Vd a b c d e f g:aRI a b c d e f g=letI G:=wv (d,e)+wv (f,g);letI F:=bif fit G.natAbs then(0:Int)else(5:Int);letI C:=bif fit G.natAbs then wv (d,e)+wv (f,g)else(0:Int);letI A:=(isNeg C,M6.dg C.natAbs);letI B:=bif fM (wv A) c then aL (wv A) c else((0:Int),(0:Int));aO (jY (d,e)/\jY (f,g)) (aB (F !=0) (some [D.agg [sc (bool false),sc (slice none 0 0),sc (int i64 0)],D.s (sc (int i64 F))]) (aO (jY A/\(-9223372036854775808:Int)<=c/\c<9223372036854775808) (some [D.agg [sc (bool (isNeg B.fst)),ints u64 (M6.dg B.fst.natAbs),sc (int i64 B.snd)],D.s (sc (int i64 (bif fM (wv A) c then(0:Int)else(5:Int))))]))):=cJ aU
def fH(p q:Int×Int):Int:=if q.2<p.2 then q.2 else p.2
def lH(p q:Int×Int):Int:=p.1*((2^(p.2-fH p q).toNat:Nat):Int)
def lG(p q:Int×Int):Int:=q.1*((2^(q.2-fH p q).toNat:Nat):Int)
def jL(p q:Int×Int):Int×Int:=if p.1=0 then q else if q.1=0 then p else aL (lH p q+lG p q) (fH p q)
def gJ(p q:Int×Int):Bool:=decide (p.1=0)||(decide (q.1=0)||(fit (lH p q).natAbs&&(fit (lG p q).natAbs&&(fit (lH p q+lG p q).natAbs&&fM (lH p q+lG p q) (fH p q)))))
def sp(x y:dR):Prop×List D:=(aJ x/\aJ y,dE (gJ (dv x) (dv y)) (jL (dv x) (dv y)))
theorem spec:El E f26 aE gZ gZ sp:=by
 rintro x y ⟨hx,hy⟩;have s:=start x.1 x.2.1 x.2.2 y.1 y.2.1 y.2.2;have dx:=hx.dD;have dy:=hy.dD;have lx:=hx.len;have ly:=hy.len;have rx:=hx.2.1;have ry:=hy.2.1;have zx:=M6.cS hx.Iu;have zy:=M6.cS hy.Iu;have wx:=hx.Eb;have wy:=hy.Eb;obtain⟨b,a,e⟩:=x;obtain⟨c,d,f⟩:=y
 try dsimp only at *
 unfold sp
 try dsimp only
 have ax:=iW (b,a);have ay:=iW (c,d)
 try dsimp only at ax ay
 rw[gP hx,gP hy,gP trivial]at s
 by_cases h0:a.length=0
 ·have hw:(dv (b,a,e)).1=0:=by have:=zx.1 h0;show wv (b,a)=0;omega
  rw[cN,gP]at s;refine⟨_,s,?_⟩;unfold gJ jL;rw[decide_eq_true hw,bRG,if_pos hw];show fP _ [M.dD (dv (c,d,f)),_];rw[dy];exact fP.refl _
 ·have hw:(dv (b,a,e)).1≠0:=by have:M6.val a≠0:=fun h=>h0 (zx.2 h);show wv (b,a)≠0;omega
  rw[bV,gP trivial]at s
  by_cases g0:d.length=0
  ·have hv:(dv (c,d,f)).1=0:=by have:=zy.1 g0;show wv (c,d)=0;omega
   rw[cN,gP]at s;refine⟨_,s,?_⟩;unfold gJ jL;rw[decide_eq_false hw,bNX,decide_eq_true hv,bRG,if_neg hw,if_pos hv];show fP _ [M.dD (dv (b,a,e)),_];rw[dx];exact fP.refl _
  ·have hv:(dv (c,d,f)).1≠0:=by have:M6.val d≠0:=fun h=>g0 (zy.2 h);show wv (c,d)≠0;omega
   have i1:fH (dv (b,a,e)) (dv (c,d,f))<=e/\fH (dv (b,a,e)) (dv (c,d,f))<=f/\-1048576<=fH (dv (b,a,e)) (dv (c,d,f)):=by
    unfold fH dv
    try dsimp only
    split <;> omega
   have u1:i64.wrap (e-fH (dv (b,a,e)) (dv (c,d,f)))=e-fH (dv (b,a,e)) (dv (c,d,f)):=wrap_i64;have u2:i64.wrap (f-fH (dv (b,a,e)) (dv (c,d,f)))=f-fH (dv (b,a,e)) (dv (c,d,f)):=wrap_i64;have e1:(if f<e then f else e)=fH (dv (b,a,e)) (dv (c,d,f)):=rfl;have f1:M6.val a*2^(e-fH (dv (b,a,e)) (dv (c,d,f))).toNat=(lH (dv (b,a,e)) (dv (c,d,f))).natAbs:=by
    show _=(wv (b,a)*_).natAbs;rw[bRJ,ax,bRO];rfl
   have f2:M6.val d*2^(f-fH (dv (b,a,e)) (dv (c,d,f))).toNat=(lG (dv (b,a,e)) (dv (c,d,f))).natAbs:=by
    show _=(wv (c,d)*_).natAbs;rw[bRJ,ay,bRO];rfl
   have f3:wv (b,a)*((2^(e-fH (dv (b,a,e)) (dv (c,d,f))).toNat:Nat):Int)=lH (dv (b,a,e)) (dv (c,d,f)):=rfl;have f4:wv (c,d)*((2^(f-fH (dv (b,a,e)) (dv (c,d,f))).toNat:Nat):Int)=lG (dv (b,a,e)) (dv (c,d,f)):=rfl;rw[bV,Rv,e1,u1,u2]at s
   try dsimp only at s
   rw[f1,f2,f3,f4,gP ⟨wx,by omega,by omega⟩,gP ⟨wy,by omega,by omega⟩]at s;have ao:gJ (dv (b,a,e)) (dv (c,d,f))=(fit (lH (dv (b,a,e)) (dv (c,d,f))).natAbs&&(fit (lG (dv (b,a,e)) (dv (c,d,f))).natAbs&&(fit (lH (dv (b,a,e)) (dv (c,d,f))+lG (dv (b,a,e)) (dv (c,d,f))).natAbs&&fM (lH (dv (b,a,e)) (dv (c,d,f))+lG (dv (b,a,e)) (dv (c,d,f))) (fH (dv (b,a,e)) (dv (c,d,f)))))):=by
    unfold gJ;rw[decide_eq_false hw,bNX,decide_eq_false hv,bNX]
   have ad:jL (dv (b,a,e)) (dv (c,d,f))=aL (lH (dv (b,a,e)) (dv (c,d,f))+lG (dv (b,a,e)) (dv (c,d,f))) (fH (dv (b,a,e)) (dv (c,d,f))):=by
    unfold jL;rw[if_neg hw,if_neg hv]
   rw[ao,ad];generalize lH (dv (b,a,e)) (dv (c,d,f))=X at *;generalize lG (dv (b,a,e)) (dv (c,d,f))=Y at *;generalize fH (dv (b,a,e)) (dv (c,d,f))=k at *;cases c1:fit X.natAbs with
   |false =>
    rw[c1,cond_false,qF]at s;rw[bRF];exact⟨_,s,iJ.kC _⟩
   |true =>
    rw[c1,cond_true,fD rfl]at s;cases c2:fit Y.natAbs with
    |false =>
     rw[c2,cond_false,qF]at s;rw[bRF,bRI];exact⟨_,s,iJ.kC _⟩
    |true =>
     rw[c2,cond_true,fD rfl,Vd,gP ⟨mN (wY c1),mN (wY c2)⟩]at s
     try dsimp only[cond_true]at s
     rw[rT,rT]at s;cases c3:fit (X+Y).natAbs with
     |false =>
      rw[c3]at s
      try dsimp only[cond_false]at s
      rw[qF]at s;rw[bRF,bRI,bRI];exact⟨_,s,iJ.kC _⟩
     |true =>
      rw[c3]at s
      try dsimp only[cond_true]at s
      rw[fD rfl,gP ⟨mN (wY c3),by omega,by omega⟩,rT]at s;rw[bOX,bOX,bOX];exact⟨_,s,fP.refl _⟩
def aH:dG:=orc2 gZ gZ sp
theorem ok:OK 26 aH:=(eF E aE (aA kA.ok (aA kM.ok (aA Bn.ok (aA Oe.ok (aA aAE.ok (aA iJ.ok aD)))))) func26).aAF rfl spec
end bA
namespace mH
def E:=mE [(61,kA.aH),(68,kM.aH),(69,Bn.aH)] 45 [] [(7,[1,2,4])] [7]
def aE:=bd f46
theorem aU:Nk E aE:=nk
def J7 a b c d e f:=kV E f46 aE 7 [bP a,cQ 1 29 [bW b,dZ c,cI d],cQ 2 29 [bW e,sc (slice none 0 0),cI f]]
theorem start a c d b:aF E f46 aE [D.agg [sc (bool a),ints u64 c,sc (int i64 d)],D.s (sc (int i64 b))]=letI B:=int i64 0;letI A:=some [D.agg [sc (bool false),sc (slice none 0 0),sc B],D.s (sc (int i64 5))];aO (aJ (a,c,d)) (aO True (aB ((c.length:Int)==(0:Int)) (some [D.agg [sc (bool false),sc (slice none 0 0),sc B],D.s (sc B)]) (aB (decide (2097152<b)) A (aB (decide (b<(-2097152:Int))) A (aB (decide (1048576<i64.wrap (d+b))) A (aB (decide (i64.wrap (d+b)<(-1048576:Int))) A (mH.J7 b a c d false 0))))))):=eJ aU
theorem Rv a b c d e f:J7 a b c d e f=aO (c.length<=1099511627776) (some [D.agg [sc (bool b),ints u64 c,sc (int i64 (i64.wrap (d+a)))],D.s (sc (int i64 0))]):=cJ aU
def aID(p:Int×Int)(n:Int):Int×Int:=if p.1=0 then(0,0)else(p.1,p.2+n)
def Jc(p:Int×Int)(n:Int):Bool:=decide (p.1=0)||(decide (-1048576<=p.2+n)&&decide (p.2+n<=1048576))
def sp(x:dR)(n:Int):Prop×List D:=(aJ x/\-9223372036854775808<=n/\n<9223372036854775808,dE (Jc (dv x) n) (aID (dv x) n))
theorem spec:El E f46 aE gZ (pN .i64) sp:=by
 rintro x n ⟨h,h1,h2⟩;have hl:=h.len;have hd:=h.dD;have hr:=h.2.1;have s:=start x.1 x.2.1 x.2.2 n;obtain⟨b,a,e⟩:=x
 try dsimp only at *
 unfold sp
 try dsimp only
 have hz:=M6.cS h.Iu;have ha:=iW (b,a)
 try dsimp only at ha hz
 rw[gP h,gP trivial]at s
 by_cases h0:a.length=0
 ·have hw:(dv (b,a,e)).1=0:=by have:=hz.1 h0;show wv (b,a)=0;omega
  rw[cN]at s;refine⟨_,s,?_⟩;unfold Jc aID;rw[decide_eq_true hw,bRG,if_pos hw];refine .cons ?_ (fP.refl _);show vW _ (M.dD (0,0));unfold M.dD;rw[show((0,0):Int×Int).1.natAbs=0 from rfl,M6.bJ];exact vW.agg (.cons (yN.refl _) (.cons (yN.nil _) (uH.refl _)))
 ·have hw:(dv (b,a,e)).1≠0:=by have:M6.val a≠0:=fun h=>h0 (hz.2 h);show wv (b,a)≠0;omega
  have vV:∀p:Bool,(p=(decide (-1048576<=e+n)&&decide (e+n<=1048576)))->Jc (dv (b,a,e)) n=p:=by
   intro p hp;unfold Jc;rw[decide_eq_false hw,bNX,hp];rfl
  rw[bV]at s
  by_cases c1:2097152<n
  ·rw[aN c1]at s;rw[vV false (by rw[decide_eq_false (show ¬(e+n<=1048576) by omega),bRI])];exact⟨_,s,iJ.kC _⟩
  ·rw[aI c1]at s
   by_cases c2:n < -2097152
   ·rw[aN c2]at s;rw[vV false (by rw[decide_eq_false (show ¬(-1048576<=e+n) by omega),bRF])];exact⟨_,s,iJ.kC _⟩
   ·have w:i64.wrap (e+n)=e+n:=wrap_i64;rw[aI c2,w]at s
    by_cases c3:1048576<e+n
    ·rw[aN c3]at s;rw[vV false (by rw[decide_eq_false (show ¬(e+n<=1048576) by omega),bRI])];exact⟨_,s,iJ.kC _⟩
    ·rw[aI c3]at s
     by_cases c4:e+n < -1048576
     ·rw[aN c4]at s;rw[vV false (by rw[decide_eq_false (show ¬(-1048576<=e+n) by omega),bRF])];exact⟨_,s,iJ.kC _⟩
     ·rw[aI c4,Rv]at s
      try dsimp only at s
      rw[gP,w]at s;rw[vV true (by rw[decide_eq_true (show(e+n<=1048576) by omega),decide_eq_true (show(-1048576<=e+n) by omega)];rfl)];refine⟨_,s,?_⟩;unfold aID;rw[if_neg hw];have hc:=h.Eb.cells;show fP _ [M.dD (wv (b,a),e+n),_];unfold M.dD
      try dsimp only
      rw[hc.1,hc.2];exact fP.refl _
def aH:dG:=orc2 gZ (pN .i64) sp
theorem ok:OK 46 aH:=(eF E aE (aA kA.ok (aA kM.ok (aA Bn.ok aD))) func46).aAF rfl spec
end mH
namespace aGK
def E:=mE [(127,uE.aH)] 11 [] [] []
def aE:=bd f168
theorem aU:Nk E aE:=nk
theorem start a b:aF E f168 aE [D.agg [sc (bool a),ints u64 b]]=aO (M6.cE b/\b.length<=1099511627776) (aB ((↑(bl (M6.val b)):Int)==(0:Int)) (some [D.s (sc (int i64 0))]) (aB a (some [D.s (sc (int i64 (-1:Int)))]) (some [D.s (sc (int i64 1))]))):=eJ aU
def sp(x:Bool×List Int):Prop×List D:=(jY x,[.s (.sc (.int .i64 (lE (wv x) 0)))])
theorem spec:gO E f168 aE vY sp:=by
 intro x h;refine(start x.1 x.2).trans ?_;have h:jY x:=h;have hl:=h.len;obtain⟨h1,h2,h3⟩:=h;unfold sp;simp only;rw[gP ⟨h1.iU,by omega⟩]
 by_cases hz:M6.val x.2=0
 ·rw[hz,Fj,cN (a:=((0:Nat):Int)) (b:=0) rfl];cases hx:x.1 with
  |true=>exact(h2 hx hz).elim
  |false=>rw[Bp hx,hz];rfl
 ·have:=qE hz;rw[bV];cases hx:x.1 with
  |true=>rw[bT,Lj hx];unfold lE;rw[aT]
  |false=>rw[bF,Bp hx];unfold lE;rw[aX,aT]
def aH:dG:=orc1 vY sp
theorem ok:OK 168 aH:=(eF E aE (aA uE.ok aD) func168).nN rfl spec
end aGK
namespace aGT
def E:=mE [(127,uE.aH)] 11 [] [] []
def aE:=bd f197
theorem aU:Nk E aE:=nk
theorem start a b c:aF E f197 aE [D.agg [sc (bool a),ints u64 b,sc (int i64 c)]]=aO (M6.cE b/\b.length<=1099511627776) (some [D.s (sc (int i64 (i64.wrap (i64.wrap (c+(↑(bl (M6.val b)):Int))-1))))]):=eJ aU
def sp(x:dR):Prop×List D:=(aJ x,[.s (.sc (.int .i64 (x.2.2+(bl (M6.val x.2.1):Nat)-1)))])
theorem spec:gO E f197 aE gZ sp:=by
 intro x h;have h:aJ x:=h;have hl:=h.len;have hb:=h.Eb.bl;refine(start x.1 x.2.1 x.2.2).trans ?_;have he:=h.2.1
 try dsimp only at hb
 rw[gP ⟨h.Iu.iU,by omega⟩,wrap_i64 (n:=x.2.2+_),wrap_i64];rfl
def aH:dG:=orc1 gZ sp
theorem ok:OK 197 aH:=(eF E aE (aA uE.ok aD) func197).nN rfl spec
end aGT
namespace aGU
def E:=mE [(197,aGT.aH),(122,iY.aH),(125,De.aH)] 54 [53] [] []
def aE:=bd f169
theorem aU:Nk E aE:=nk
theorem start a b c d e f:aF E f169 aE [D.agg [sc (bool a),ints u64 b,sc (int i64 c)],D.agg [sc (bool d),ints u64 e,sc (int i64 f)]]=letI H:=(↑(bl (M6.val e)):Int);letI G:=(↑(bl (M6.val b)):Int);letI F:=i64.wrap (c-if f<c then f else c);letI C:=i64.wrap (f-if f<c then f else c);letI B:=bif iY.iC (M6.val e) C.toNat then M6.dg (M6.val e*(2:Nat)^C.toNat)else [];letI A:=bif iY.iC (M6.val b) F.toNat then M6.dg (M6.val b*(2:Nat)^F.toNat)else [];aO (aJ (a,b,c)) (aO (aJ (d,e,f)) (aB (decide (c+G-(1:Int)<f+H-(1:Int))) (some [D.s (sc (int i64 (-1:Int)))]) (aB (decide (f+H-(1:Int)<c+G-(1:Int))) (some [D.s (sc (int i64 1))]) (aO (M6.cF b/\b.length<=8192/\0<=i64.wrap (c-if f<c then f else c)/\i64.wrap (c-if f<c then f else c)<4611686018427387904) (aO (M6.cF e/\e.length<=8192/\0<=i64.wrap (f-if f<c then f else c)/\i64.wrap (f-if f<c then f else c)<4611686018427387904) (aO (M6.cE A/\M6.cE B/\A.length<=1099511627776/\B.length<=1099511627776) (some [D.s (sc (int i64 (mV (M6.val A) (M6.val B))))]))))))):=eJ aU
def sp(x y:dR):Prop×List D:=((aJ x/\aJ y)/\x.2.1.length≠0/\y.2.1.length≠0,[.s (.sc (.int .i64 (mV (bA.lH (dv x) (dv y)).natAbs (bA.lG (dv x) (dv y)).natAbs)))])
theorem spec:fI E f169 aE gZ gZ sp:=by
 rintro x y ⟨⟨hx,hy⟩,h0,g0⟩;refine(start x.1 x.2.1 x.2.2 y.1 y.2.1 y.2.2).trans ?_;have lx:=hx.len;have ly:=hy.len;have nx:=hx.Iu;have ny:=hy.Iu;have bx:=hx.Eb.bl;have bLN:=hy.Eb.bl
 have rx:=hx.2.1;have ry:=hy.2.1;obtain⟨b,a,e⟩:=x;obtain⟨c,d,f⟩:=y
 try dsimp only at *
 unfold sp
 try dsimp only
 have ax:=iW (b,a);have ay:=iW (c,d)
 try dsimp only at ax ay
 have vx:M6.val a≠0:=fun h=>h0 ((M6.cS nx).2 h)
 have vy:M6.val d≠0:=fun h=>g0 ((M6.cS ny).2 h)
 rw[gP hx,gP hy];have i1:bA.fH (dv (b,a,e)) (dv (c,d,f))<=e/\bA.fH (dv (b,a,e)) (dv (c,d,f))<=f/\-1048576<=bA.fH (dv (b,a,e)) (dv (c,d,f))/\(bA.fH (dv (b,a,e)) (dv (c,d,f))=e\/bA.fH (dv (b,a,e)) (dv (c,d,f))=f):=by
  unfold bA.fH dv
  try dsimp only
  split <;> omega
 have u1:i64.wrap (e-bA.fH (dv (b,a,e)) (dv (c,d,f)))=e-bA.fH (dv (b,a,e)) (dv (c,d,f)):=wrap_i64;have u2:i64.wrap (f-bA.fH (dv (b,a,e)) (dv (c,d,f)))=f-bA.fH (dv (b,a,e)) (dv (c,d,f)):=wrap_i64;have e1:(if f<e then f else e)=bA.fH (dv (b,a,e)) (dv (c,d,f)):=rfl;have f1:(bA.lH (dv (b,a,e)) (dv (c,d,f))).natAbs=M6.val a*2^(e-bA.fH (dv (b,a,e)) (dv (c,d,f))).toNat:=by
  show(wv (b,a)*_).natAbs=_;rw[bRJ,ax,bRO];rfl
 have f2:(bA.lG (dv (b,a,e)) (dv (c,d,f))).natAbs=M6.val d*2^(f-bA.fH (dv (b,a,e)) (dv (c,d,f))).toNat:=by
  show(wv (c,d)*_).natAbs=_;rw[bRJ,ay,bRO];rfl
 rw[f1,f2,e1,u1,u2];generalize bA.fH (dv (b,a,e)) (dv (c,d,f))=k at *;have m1:bl (M6.val a*2^(e-k).toNat)=(e-k).toNat+bl (M6.val a):=by rw[bQU,Cv vx]
 have m2:bl (M6.val d*2^(f-k).toNat)=(f-k).toNat+bl (M6.val d):=by rw[bQU,Cv vy]
 have lt:∀m n:Nat,bl m<bl n->m<n:=fun m n h=>Nat.lt_of_not_le fun hc=>by have:=gN hc;omega
 by_cases c1:e+(bl (M6.val a):Int)-1<f+(bl (M6.val d):Int)-1
 ·have:=lt (M6.val a*2^(e-k).toNat) (M6.val d*2^(f-k).toNat) (by rw[m1,m2];omega);rw[aN c1];unfold mV;rw[if_pos this]
 ·rw[aI c1]
  by_cases c2:f+(bl (M6.val d):Int)-1<e+(bl (M6.val a):Int)-1
  ·have:=lt (M6.val d*2^(f-k).toNat) (M6.val a*2^(e-k).toNat) (by rw[m1,m2];omega);rw[aN c2];unfold mV;rw[aX,if_pos this]
  ·have o1:iY.iC (M6.val a) (e-k).toNat=true:=by
    unfold iY.iC;rw[decide_eq_true (show bl (M6.val a)+(e-k).toNat<=524288 by omega),bRV]
   have o2:iY.iC (M6.val d) (f-k).toNat=true:=by
    unfold iY.iC;rw[decide_eq_true (show bl (M6.val d)+(f-k).toNat<=524288 by omega),bRV]
   have k1:=eQ (n:=M6.val a*2^(e-k).toNat) (k:=8192) (by rw[m1];omega);have k2:=eQ (n:=M6.val d*2^(f-k).toNat) (k:=8192) (by rw[m2];omega);rw[aI c2,gP ⟨nx,lx,by omega,by omega⟩,gP ⟨ny,ly,by omega,by omega⟩,o1,o2,cond_true,cond_true,gP ⟨M6.iO _,M6.iO _,by omega,by omega⟩,M6.bI,M6.bI]
def aH:dG:=orc2 gZ gZ sp
theorem ok:OK 169 aH:=(eF E aE (aA aGT.ok (aA iY.ok (aA De.ok aD))) func169).lA rfl spec
end aGU
namespace Jz
def E:=mE [(61,kA.aH),(168,aGK.aH),(169,aGU.aH)] 38 [] [(3,[2,3])] [3]
def aE:=bd f113
theorem aU:Nk E aE:=nk
def J3 a b c d e f:=kV E f113 aE 3 [cQ 0 29 [bW a,dZ b,cI c],cQ 1 29 [bW d,dZ e,cI f]]
theorem start a b c d e f:aF E f113 aE [D.agg [sc (bool a),ints u64 b,sc (int i64 c)],D.agg [sc (bool d),ints u64 e,sc (int i64 f)]]=aO (aJ (a,b,c)) (aO (aJ (d,e,f)) (Jz.J3 a b c d e f)):=eJ aU
theorem fR a b c d e f:J3 a b c d e f=letI B:=wv (a,b);letI A:=sc (int i64 0);aO (jY (a,b)) (aO (jY (d,e)) (aB (decide (lE B 0<lE (wv (d,e)) 0)) (some [D.s (sc (int i64 (-1:Int))),D.s A]) (aB (decide (lE (wv (d,e)) 0<lE B 0)) (some [D.s (sc (int i64 1)),D.s A]) (aB (lE B 0==(0:Int)) (some [D.s A,D.s A]) (aO ((aJ (a,b,c)/\aJ (d,e,f))/\b.length≠0/\e.length≠0) (some [D.s (sc (int i64 (i64.wrap (lE B 0*mV (bA.lH (dv (a,b,c)) (dv (d,e,f))).natAbs (bA.lG (dv (a,b,c)) (dv (d,e,f))).natAbs)))),D.s A])))))):=cJ aU
def sp(x y:dR):Prop×List D:=(aJ x/\aJ y,[.s (.sc (.int .i64 (lE (bA.lH (dv x) (dv y)) (bA.lG (dv x) (dv y))))),.s (.sc (.int .i64 0))])
theorem bCW(z:Int)(P:Nat)(h:0<P):(0<z->0<z*(P:Int))/\(z<0->z*(P:Int)<0)/\(z=0->z*(P:Int)=0) :=
 ⟨fun hz=>Int.mul_pos hz (by omega),fun hz=>Int.mul_neg_of_neg_of_pos hz (by omega),fun hz=>by rw[hz,bRK]⟩
theorem cz(z:Int):(0<z/\lE z 0=1)\/(z<0/\lE z 0=-1)\/(z=0/\lE z 0=0):=by
 unfold lE
 by_cases h:z<0
 ·rw[if_pos h];omega
 ·rw[if_neg h]
  by_cases h':0<z
  ·rw[if_pos h'];omega
  ·rw[if_neg h'];omega
theorem spec:fI E f113 aE gZ gZ sp:=by
 rintro x y ⟨hx,hy⟩;refine(start x.1 x.2.1 x.2.2 y.1 y.2.1 y.2.2).trans ?_;have wx:=hx.Eb;have wy:=hy.Eb;have nx:=hx.Iu;have ny:=hy.Iu;obtain⟨b,a,e⟩:=x;obtain⟨c,d,f⟩:=y
 try dsimp only at *
 unfold sp
 try dsimp only
 have ax:=iW (b,a);have ay:=iW (c,d)
 try dsimp only at ax ay
 have zx:=M6.cS nx;have zy:=M6.cS ny;have sX:(0<wv (b,a)->0<bA.lH (dv (b,a,e)) (dv (c,d,f)))/\(wv (b,a)<0->bA.lH (dv (b,a,e)) (dv (c,d,f))<0)/\(wv (b,a)=0->bA.lH (dv (b,a,e)) (dv (c,d,f))=0):=bCW _ _ (bOV (by decide));have sY:(0<wv (c,d)->0<bA.lG (dv (b,a,e)) (dv (c,d,f)))/\(wv (c,d)<0->bA.lG (dv (b,a,e)) (dv (c,d,f))<0)/\(wv (c,d)=0->bA.lG (dv (b,a,e)) (dv (c,d,f))=0):=bCW _ _ (bOV (by decide));rw[gP hx,gP hy,fR,gP wx,gP wy];have guard:wv (b,a)≠0->wv (c,d)≠0->(aJ (b,a,e)/\aJ (c,d,f))/\a.length≠0/\d.length≠0:=fun h1 h2=>⟨⟨hx,hy⟩,fun h=>h1 (by have:=zx.1 h;omega),fun h=>h2 (by have:=zy.1 h;omega)⟩
 generalize bA.lH (dv (b,a,e)) (dv (c,d,f))=X at *;generalize bA.lG (dv (b,a,e)) (dv (c,d,f))=Y at *;have aPM:∀n:Int,lE X Y=n->some [D.s (.sc (.int .i64 n)),D.s (.sc (.int .i64 0))]=some [D.s (.sc (.int .i64 (lE X Y))),D.s (.sc (.int .i64 0))]:=fun n h=>by rw[h]
 rcases cz (wv (b,a))with ⟨h1,c1⟩ |⟨h1,c1⟩ |⟨h1,c1⟩ <;> rcases cz (wv (c,d))with ⟨h2,c2⟩ |⟨h2,c2⟩ |⟨h2,c2⟩ <;> rw[c1,c2]
 ·rw[aI,aI,bV,gP (guard (by omega) (by omega))];have:=sX.1 h1;have:=sY.1 h2;refine(congrArg (fun n=>some [D.s (.sc (.int .i64 n)),D.s (.sc (.int .i64 0))]) ?_);unfold mV lE;split <;> split <;> (try split) <;> (try split) <;> first |rfl |omega
 ·rw[aI,aN];refine aPM _ ?_;have:=sX.1 h1;have:=sY.2.1 h2;unfold lE;rw[aX,aT]
 ·rw[aI,aN];refine aPM _ ?_;have:=sX.1 h1;have:=sY.2.2 h2;unfold lE;rw[aX,aT]
 ·rw[aN];refine aPM _ ?_;have:=sX.2.1 h1;have:=sY.1 h2;unfold lE;rw[aT]
 ·rw[aI,aI,bV,gP (guard (by omega) (by omega))];have:=sX.2.1 h1;have:=sY.2.1 h2;refine(congrArg (fun n=>some [D.s (.sc (.int .i64 n)),D.s (.sc (.int .i64 0))]) ?_);unfold mV lE;split <;> split <;> (try split) <;> (try split) <;> first |rfl |omega
 ·rw[aN];refine aPM _ ?_;have:=sX.2.1 h1;have:=sY.2.2 h2;unfold lE;rw[aT]
 ·rw[aN];refine aPM _ ?_;have:=sX.2.2 h1;have:=sY.1 h2;unfold lE;rw[aT]
 ·rw[aI,aN];refine aPM _ ?_;have:=sX.2.2 h1;have:=sY.2.1 h2;unfold lE;rw[aX,aT]
 ·rw[aI,aI,cN rfl];refine aPM _ ?_;have:=sX.2.2 h1;have:=sY.2.2 h2;unfold lE;rw[aX,aX]
def aH:dG:=orc2 gZ gZ sp
theorem ok:OK 113 aH:=(eF E aE (aA kA.ok (aA aGK.ok (aA aGU.ok aD))) func113).lA rfl spec
end Jz
end W
namespace M
open Go AI W
def p2(n:Int):Int:=((2^n.toNat:Nat):Int)
theorem Gm(n:Int):0<p2 n:=by unfold p2;have:=bOV (n:=n.toNat) (show 0<2 by decide);omega
theorem pV{m n:Int}(hm:0<=m)(hn:0<=n):p2 (m+n)=p2 m*p2 n:=by
 unfold p2;rw[Int.toNat_add hm hn,bQX,bRU]
theorem Gn(k:Nat):p2 (k:Int)=((2^k:Nat):Int):=by unfold p2;rw[bPS]
theorem Wo:p2 0=1:=rfl
theorem aCM:p2 1=2:=rfl
theorem cV(e:Int):aL 0 e=(0,0):=by unfold aL;rw[if_pos rfl]
theorem dO{z e:Int}:(aL z e).1=0↔z=0:=by
 constructor
 ·intro h;unfold aL at h
  by_cases hz:z=0
  ·exact hz
  ·rw[if_neg hz]at h;dsimp only at h;have hs:=(oS z.natAbs (by omega)).1;have hd:((2^tz z.natAbs:Nat):Int)∣z:=Int.ofNat_dvd_left.2 (bSV hs);have:=bTU hd;rw[h,bRK]at this;omega
 ·rintro rfl;rw[cV]
theorem jH{z e:Int}(hz:z≠0):z=(aL z e).1*p2 (tz z.natAbs:Nat)/\(aL z e).2=e+(tz z.natAbs:Nat):=by
 unfold aL;rw[if_neg hz];dsimp only;have hs:=(oS z.natAbs (by omega)).1;have hd:((2^tz z.natAbs:Nat):Int)∣z:=Int.ofNat_dvd_left.2 (bSV hs);rw[Gn,bTU hd];exact⟨rfl,rfl⟩
theorem uR(z e:Int){k:Int}(hk:0<=k):aL (z*p2 k) e=aL z (e+k):=by
 obtain⟨n,rfl⟩:=bQY hk;rw[Gn]
 by_cases hz:z=0
 ·subst hz;rw[bRK,cV,cV]
 ·have hp:0<2^n:=bOV (by decide);have hn:z*((2^n:Nat):Int)≠0:=bTV hz (by omega);have ht:tz (z*((2^n:Nat):Int)).natAbs=n+tz z.natAbs:=by
   rw[bRJ,bRO,bQU,Lm (by omega)]
  unfold aL;rw[if_neg hz,if_neg hn,ht,bQX,bRU,Int.mul_comm z,Int.mul_ediv_mul_of_pos _ _ (by omega)];congr 1;omega
theorem tL{p:Int×Int}(h0:p.1=0->p.2=0)(h1:p.1≠0->p.1%2=1):aL p.1 p.2=p:=by
 unfold aL
 by_cases hz:p.1=0
 ·rw[if_pos hz];exact Prod.ext hz.symm (h0 hz).symm
 ·rw[if_neg hz,yW (by have:=h1 hz;omega)];refine Prod.ext ?_ ?_
  ·show p.1/((2^0:Nat):Int)=p.1;rw[Nat.pow_zero];omega
  ·show p.2+((0:Nat):Int)=p.2;omega
theorem iS.same{p:Int×Int}(h:iS p):aL p.1 p.2=p:=tL h.2.2.1 h.2.2.2
theorem Gs{z e:Int}(h:(aL z e).1≠0):(aL z e).1%2=1:=by
 have hz:z≠0:=fun hz=>h (dO.2 hz)
 have hs:=(oS z.natAbs (by omega));have hv:=(jH (e:=e) hz).1;have ha:z.natAbs=(aL z e).1.natAbs*2^tz z.natAbs:=by
  rw[Gn]at hv;have:=congrArg Int.natAbs hv;rwa [bRJ,bRO]at this
 have:z.natAbs/2^tz z.natAbs=(aL z e).1.natAbs:=by
  have hp:0<2^tz z.natAbs:=bOV (by decide);generalize tz z.natAbs=t at *;rw[ha,Nat.mul_div_cancel _ hp]
 rw[this]at hs;omega
theorem zF{z e:Int}(h:(aL z e).1=0):(aL z e).2=0:=by rw[dO.1 h,cV]
theorem rN{z e G:Int}(hz:z≠0)(h:G<=e):(aL z e).1*p2 ((aL z e).2-G)=z*p2 (e-G):=by
 obtain⟨h1,h2⟩:=jH (e:=e) hz;rw[h2];have:e+(tz z.natAbs:Int)-G=(tz z.natAbs:Int)+(e-G):=by omega
 rw[this,pV (by omega) (by omega),<-bSJ,<-h1]
theorem Tf{z e G:Int}(h:G<=e):(aL z e).1*p2 ((aL z e).2-G)=z*p2 (e-G):=by
 by_cases hz:z=0
 ·subst hz;rw[cV,bRK,bRK]
 ·exact rN hz h
theorem kY{z e:Int}(hz:z≠0):e<=(aL z e).2:=by have:=(jH (e:=e) hz).2;omega
theorem Ps(z e:Int):aL (-z) e=(-(aL z e).1,(aL z e).2):=by
 by_cases hz:z=0
 ·subst hz;rw[Int.neg_zero,cV];rfl
 ·have h:=jH (e:=e) hz;unfold aL;rw[if_neg hz,aX,bSQ];have hs:=(oS z.natAbs (by omega)).1;have hd:((2^tz z.natAbs:Nat):Int)∣z:=Int.ofNat_dvd_left.2 (bSV hs);rw[Int.neg_ediv_of_dvd hd]
theorem We(z e n:Int):mH.aID (aL z e) n=aL z (e+n):=by
 unfold mH.aID
 by_cases hz:z=0
 ·subst hz;rw[cV,cV];rfl
 ·rw[if_neg (fun h=>hz (dO.1 h))];unfold aL;rw[if_neg hz,if_neg hz];dsimp only;congr 1;omega
theorem Mf{p q:Int×Int}:bA.fH p q<=p.2/\bA.fH p q<=q.2:=by unfold bA.fH;split <;> omega
theorem Be{a E b F G:Int}(h1:G<=E)(h2:G<=F):bA.jL (aL a E) (aL b F)=aL (a*p2 (E-G)+b*p2 (F-G)) G:=by
 unfold bA.jL
 by_cases ha:a=0
 ·subst ha;rw[if_pos (by rw[cV]),bRK,Int.zero_add,uR _ _ (by omega),show G+(F-G)=F by omega]
 ·rw[if_neg (fun h=>ha (dO.1 h))]
  by_cases hb:b=0
  ·subst hb;rw[if_pos (by rw[cV]),bRK,Int.add_zero,uR _ _ (by omega),show G+(E-G)=E by omega]
  ·rw[if_neg (fun h=>hb (dO.1 h))];have ga:=rN (e:=E) ha h1;have gb:=rN (e:=F) hb h2;have la:=kY (e:=E) ha;have lb:=kY (e:=F) hb;have hm:=Mf (p:=aL a E) (q:=aL b F);have hg:G<=bA.fH (aL a E) (aL b F):=by unfold bA.fH;split <;> omega
   rw[<-ga,<-gb];unfold bA.lH bA.lG;generalize bA.fH (aL a E) (aL b F)=m at *;generalize aL a E=p at *;generalize aL b F=q at *;have e1:p2 (p.2-G)=p2 (p.2-m)*p2 (m-G):=by rw[<-pV (by omega) (by omega)];congr 1;omega
   have e2:p2 (q.2-G)=p2 (q.2-m)*p2 (m-G):=by rw[<-pV (by omega) (by omega)];congr 1;omega
   rw[e1,e2,<-bSJ,<-bSJ,<-Int.add_mul,uR _ _ (by omega),show G+(m-G)=m by omega];rfl
theorem fJ{z e:Int}(h1:-1048576<=e)(h2:e+(bl z.natAbs:Int)<=1048577):fM z e=true:=by
 unfold fM
 by_cases hz:z=0
 ·rw[decide_eq_true hz,bRG]
 ·have:=Aa (n:=z.natAbs) (by omega);rw[decide_eq_true (show -1048576<=e+(tz z.natAbs:Int) by omega),decide_eq_true (show e+(tz z.natAbs:Int)<=1048576 by omega),bOX,bRV]
theorem Am(z e:Int):(aL z e).1.natAbs<=z.natAbs:=by
 unfold aL;split
 ·simp
 ·exact Ax (bOV (by decide))
theorem eZ{z e:Int}(hi:fM z e=true)(hf:bl z.natAbs<=524288):iS (aL z e):=by
 refine⟨bMS (gN (Am z e)) hf,?_,zF,Gs⟩
 by_cases hz:z=0
 ·subst hz;rw[cV];exact⟨by show(-1048576:Int)<=0;omega,by show(0:Int)<=1048576;omega⟩
 ·rw[(jH hz).2];unfold fM at hi;rw[decide_eq_false hz,bNX,bMC]at hi;exact⟨of_decide_eq_true hi.1,of_decide_eq_true hi.2⟩
theorem Uu(z n:Int):(z*p2 n).natAbs=z.natAbs*2^n.toNat:=by
 rw[bRJ];rfl
theorem yF{a E b F G:Int}(h1:G<=E)(h2:G<=F)(h3:-1048576<=G)(f1:bl (a*p2 (E-G)).natAbs<=524287)(f2:bl (b*p2 (F-G)).natAbs<=524287)(f3:G<=524288) :
  bA.gJ (aL a E) (aL b F)=true:=by
 unfold bA.gJ
 by_cases ha:a=0
 ·rw[decide_eq_true (dO.2 ha),bRG]
 ·by_cases hb:b=0
  ·rw[decide_eq_true (dO.2 hb),bRG,bRV]
  ·have ga:=rN (e:=E) ha h1;have gb:=rN (e:=F) hb h2;have la:=kY (e:=E) ha;have lb:=kY (e:=F) hb;have hm:=Mf (p:=aL a E) (q:=aL b F);have hg:G<=bA.fH (aL a E) (aL b F):=by unfold bA.fH;split <;> omega
   rw[<-ga]at f1;rw[<-gb]at f2;have inner:∀(p:Int×Int) (m:Int),G<=m->m<=p.2->bl (p.1*p2 (p.2-G)).natAbs<=524287->p.1≠0->bl (p.1*p2 (p.2-m)).natAbs+(m-G).toNat<=524287:=by
    intro p m h1 h2 h3 hp;have e1:p2 (p.2-G)=p2 (m-G)*p2 (p.2-m):=by rw[<-pV (by omega) (by omega)];congr 1;omega
    rw[e1,Int.mul_comm (p2 (m-G)),<-bSJ,Uu,bQU,Cv (by
     have:=Gm (p.2-m);have:=bTV hp (show p2 (p.2-m)≠0 by omega);omega)]at h3
    omega
   have i1:=inner _ _ hg hm.1 f1 (fun h=>ha (dO.1 h));have i2:=inner _ _ hg hm.2 f2 (fun h=>hb (dO.1 h));have x1:bl (bA.lH (aL a E) (aL b F)).natAbs+(bA.fH (aL a E) (aL b F)-G).toNat<=524287:=i1;have x2:bl (bA.lG (aL a E) (aL b F)).natAbs+(bA.fH (aL a E) (aL b F)-G).toNat<=524287:=i2;generalize bA.lH (aL a E) (aL b F)=X at *;generalize bA.lG (aL a E) (aL b F)=Y at *;have x3:bl (X+Y).natAbs<=max (bl X.natAbs) (bl Y.natAbs)+1:=bMS (gN (bTY _ _)) (yD _ _);have hi:fM (X+Y) (bA.fH (aL a E) (aL b F))=true:=fJ (by omega) (by omega);have yes:∀n,bl n<=524288->fit n=true:=fun n h=>decide_eq_true h
   rw[decide_eq_false (fun h=>ha (dO.1 h)),decide_eq_false (fun h=>hb (dO.1 h)),hi,yes _ (by omega),yes _ (by omega),yes _ (by omega)];rfl
theorem Pj{z e n:Int}(h1:-1048576<=e+n)(h2:e+n+(bl z.natAbs:Int)<=1048577):mH.Jc (aL z e) n=true:=by
 unfold mH.Jc
 by_cases hz:z=0
 ·rw[decide_eq_true (dO.2 hz),bRG]
 ·have:=Aa (n:=z.natAbs) (by omega);have h3:=(jH (e:=e) hz).2;rw[decide_eq_false (fun h=>hz (dO.1 h)),decide_eq_true (by omega),decide_eq_true (by omega)];rfl
theorem xA{z:Int}{b k:Nat}{n:Int}(h:bl z.natAbs<=b)(hn:n<=k):bl (z*p2 n).natAbs<=b+k:=by
 rw[Uu];refine dU.2 ?_;rw[bQX];exact Nat.mul_lt_mul_of_lt_of_le (dU.1 h) (bOW (by decide) (by omega)) (bOV (by decide))
theorem Ul{x y:Int}{n:Nat}(h1:bl x.natAbs<=n)(h2:bl y.natAbs<=n):bl (x+y).natAbs<=n+1:=by
 have:=bMS (gN (bTY x y)) (yD _ _);omega
theorem aPN{z:Int}{n:Nat}(h:bl z.natAbs<=n)(k:Int):bl (z/p2 k).natAbs<=n:=bMS (gN (Ax (bOV (by decide)))) h
theorem No{z:Int}{n:Nat}(h:bl z.natAbs<=n):bl (-z).natAbs<=n:=by rwa [bSQ]
theorem xB:bl (1:Int).natAbs<=1:=dU.2 (by decide)
theorem nS{R:Type}(V:Int×Int)(k:Bool->List Int->Int->Option R):(aC (isNeg V.1) fun b=>aC (M6.dg V.1.natAbs) fun l=>aC V.2 fun e=>k b l e)=k (isNeg V.1) (M6.dg V.1.natAbs) V.2:=rfl
theorem vl{α R:Type}(x:α)(k:α->Option R):aC x k=k x:=rfl
end M
namespace AI
open Go Go.RowKit
def allB:Nat->(Nat->Bool)->Bool
 |0,_=>true
 |n+1,f=>f n&&allB n f
theorem Rm{f:Nat->Bool}:∀{n:Nat},allB n f=true->∀i,i<n->f i=true
 |0,_,i,hi=>absurd hi (by omega)
 |n+1,h,i,hi=>by
  simp only[allB,bMC]at h
  by_cases hc:i=n
  ·subst hc;exact h.1
  ·exact Rm h.2 i (by omega)
def pR{β:Type}(p:SPar β)(d:β):kN (Nat×(Nat->β)) where
 put x:=.rows p.n x.1 fun i=>p.put (x.2 i)
 get
  | .rows sz n g=>if sz=p.n/\allB n (fun i=>(p.get (g i)).isSome)=true then some (n,fun i=>(p.get (g i)).getD d)else none
  |_=>none
 le:=by
  intro dd x h
  match dd,h with
  | .rows sz n g,h =>
   dsimp only at h;split at h
   ·rename_i hc;cases h;obtain⟨rfl,wW⟩:=hc;rintro Y w v ⟨A,c,hv,hle,aOC⟩;refine⟨A,c,hv,hle,fun i hi=>?_⟩;obtain⟨h1,b,off,hA,h2⟩:=aOC i hi;have hs:=Rm wW i hi;obtain⟨y,hy⟩:=Option.isSome_iff_exists.1 hs;obtain⟨a1,a2,a3⟩:=p.le hy;dsimp only;rw[hy];refine⟨a2,b,off,hA,fun j s hj=>?_⟩;obtain⟨s0,Iy⟩:=aY (l:=g i) (i:=j) (by have:=aR hj;simp only[Option.getD_some]at this;omega);obtain⟨b1,b2,u,hu,hr⟩:=h2 j s0 Iy;exact⟨b1,b2,u,hu,a3 j s0 s Iy hj Y w u hr⟩
   ·cases h
def pFn(id:FuncId):kN Unit where
 put _:=.s (.sc (.func (.func id) #[] #[]))
 get
  | .s (.sc (.func (.func g) ⟨[]⟩ ⟨[]⟩))=>if g=id then some ()else none
  |_=>none
 le:=by
  intro dd x h;split at h
  ·split at h
   ·rename_i hg;subst hg;exact zY.refl _
   ·cases h
  ·cases h
end AI
namespace R
def sum(f:Nat->Rat):Nat->Rat
 |0=>0
 |n+1=>sum f n+f n
theorem dA(f:Nat->Rat)(n:Nat):sum f (n+1)=sum f n+f n:=rfl
theorem iL{f g:Nat->Rat}{n:Nat}(h:∀k,k<n->f k=g k):sum f n=sum g n:=by
 induction n with
 |zero=>rfl
 |succ n ih=>rw[dA,dA,ih fun k hk=>h k (by omega),h n (by omega)]
theorem sum_add(f g:Nat->Rat)(n:Nat):sum (fun k=>f k+g k) n=sum f n+sum g n:=by
 induction n with
 |zero=>simp only[sum];grind
 |succ n ih=>simp only[dA,ih];grind
theorem xS(f g:Nat->Rat)(n:Nat):sum (fun k=>f k-g k) n=sum f n-sum g n:=by
 induction n with
 |zero=>simp only[sum];grind
 |succ n ih=>simp only[dA,ih];grind
theorem kX(c:Rat)(f:Nat->Rat)(n:Nat):sum (fun k=>c*f k) n=c*sum f n:=by
 induction n with
 |zero=>simp only[sum];grind
 |succ n ih=>simp only[dA,ih];grind
theorem tB{f g:Nat->Rat}{n:Nat}(h:∀k,k<n->f k<=g k):sum f n<=sum g n:=by
 induction n with
 |zero=>simp only[sum];grind
 |succ n ih=>simp only[dA];have:=ih fun k hk=>h k (by omega);have:=h n (by omega);grind
def ab(x:Rat):Rat:=if 0<=x then x else -x
theorem aQ(x:Rat):0<=ab x:=by unfold ab;split <;> grind
theorem Pv(x:Rat):x<=ab x:=by unfold ab;split <;> grind
theorem tN(x:Rat):-x<=ab x:=by unfold ab;split <;> grind
theorem dY{x a:Rat}:ab x<=a↔-a<=x/\x<=a:=by unfold ab;split <;> grind
theorem gT(x:Rat):ab (-x)=ab x:=by unfold ab;split <;> split <;> grind
theorem Hx(x y:Rat):ab (x+y)<=ab x+ab y:=by unfold ab;split <;> split <;> split <;> grind
theorem aG{a b:Rat}(h:0<=a)(h':0<=b):0<=a*b:=Rat.mul_nonneg h h'
theorem fS(x y:Rat):ab (x*y)=ab x*ab y:=by
 unfold ab
 by_cases hx:0<=x <;> by_cases hy:0<=y
 ·rw[if_pos hx,if_pos hy,if_pos (aG hx hy)]
 ·rw[if_pos hx,if_neg hy];have:=aG hx (show 0<=-y by grind);split <;> grind
 ·rw[if_neg hx,if_pos hy];have:=aG (show 0<=-x by grind) hy;split <;> grind
 ·rw[if_neg hx,if_neg hy];have:=aG (show 0<=-x by grind) (show 0<=-y by grind);split <;> grind
theorem cX{a b c d:Rat}(h1:0<=a)(h2:a<=b)(h3:0<=c)(h4:c<=d):a*c<=b*d:=by
 have:=aG h1 (show 0<=d-c by grind);have:=aG (show 0<=b-a by grind) (show 0<=d by grind);grind
theorem vF(f:Nat->Rat)(n:Nat):ab (sum f n)<=sum (fun k=>ab (f k)) n:=by
 induction n with
 |zero=>simp[sum,ab]
 |succ n ih=>simp only[dA];have:=Hx (sum f n) (f n);grind
theorem aBP{f:Nat->Rat}{n:Nat}(h:∀k,0<=f k):0<=sum f n:=by
 induction n with
 |zero=>simp only[sum];grind
 |succ n ih=>simp only[dA];have:=h n;grind
def conv(f g:Nat->Rat)(m:Nat):Rat:=sum (fun j=>f j*g (m-j)) (m+1)
theorem aBQ(f g:Nat->Rat)(n:Nat):sum (conv f g) n=sum (fun j=>f j*sum g (n-j)) n:=by
 induction n with
 |zero=>rfl
 |succ n ih =>
  rw[dA,ih,conv,dA,dA];rw[show n+1-n=1 by omega,bQA];have:sum (fun j=>f j*sum g (n+1-j)) n=sum (fun j=>f j*sum g (n-j)+f j*g (n-j)) n :=
   iL fun k hk=>by rw[show n+1-k=(n-k)+1 by omega,dA];grind
  rw[this,sum_add];have:sum g 1=g 0:=by simp only[sum];grind
  grind
theorem Ah(f g:Nat->Rat)(n:Nat):sum f n*sum g n=sum (conv f g) n+sum (fun j=>f j*(sum g n-sum g (n-j))) n:=by
 rw[aBQ,<-sum_add];have:sum (fun k=>f k*sum g (n-k)+f k*(sum g n-sum g (n-k))) n=sum (fun k=>sum g n*f k) n:=iL fun k _=>by grind
 rw[this,kX];grind
def tm(x:Rat):Nat->Rat
 |0=>1
 |k+1=>tm x k*x/((k+1:Nat):Rat)
theorem cast_pos(k:Nat):(0:Rat)<((k+1:Nat):Rat):=by
 exact_mod_cast Nat.succ_pos k
theorem iR(x:Rat)(k:Nat):((k+1:Nat):Rat)*tm x (k+1)=x*tm x k:=by
 have:=cast_pos k;rw[tm];grind
theorem Lo(x y:Rat):∀m,conv (tm x) (tm y) m=tm (x+y) m
 |0=>by simp only[conv,sum,tm,Nat.sub_zero];grind
 |m+1=>by
  have ih:=Lo x y m;have hp:=cast_pos m;have e:=iR (x+y) m;have h:((m+1:Nat):Rat)*conv (tm x) (tm y) (m+1)=(x+y)*conv (tm x) (tm y) m:=by
   unfold conv;rw[<-kX];have h1:sum (fun k=>((m+1:Nat):Rat)*(tm x k*tm y (m+1-k))) (m+1+1)=sum (fun k=>(k:Rat)*tm x k*tm y (m+1-k)) (m+1+1)+sum (fun k=>tm x k*(((m+1-k:Nat):Rat)*tm y (m+1-k))) (m+1+1):=by
    rw[<-sum_add];refine iL fun k hk=>?_
    have:((m+1:Nat):Rat)=(k:Rat)+((m+1-k:Nat):Rat):=by
     rw[<-Rat.natCast_add];congr 1;omega
    rw[this];grind
   have h2:∀n,sum (fun k=>(k:Rat)*tm x k*tm y (m+1-k)) (n+1)=x*sum (fun k=>tm x k*tm y (m-k)) n:=by
    intro n
    induction n with
    |zero=>simp only[sum];grind
    |succ n ih =>
     rw[dA,ih,dA,show m+1-(n+1)=m-n by omega];have:=iR x n;grind
   have h3:sum (fun k=>tm x k*(((m+1-k:Nat):Rat)*tm y (m+1-k))) (m+1+1)=y*sum (fun k=>tm x k*tm y (m-k)) (m+1):=by
    rw[dA,bQA];have:sum (fun k=>tm x k*(((m+1-k:Nat):Rat)*tm y (m+1-k))) (m+1)=sum (fun k=>y*(tm x k*tm y (m-k))) (m+1):=by
     refine iL fun k hk=>?_
     have:=iR y (m-k);rw[show m+1-k=m-k+1 by omega];grind
    rw[this,kX];grind
   rw[h1,h2,h3];grind
  rw[ih]at h;generalize ((m+1:Nat):Rat)=q at *;generalize conv (tm x) (tm y) (m+1)=u at *;generalize tm (x+y) (m+1)=v at *;have:q*u=q*v:=by rw[h,e]
  have hq:q≠0:=by grind
  clear h e ih;grind
theorem iZ(f:Nat->Rat)(a n:Nat):sum f (a+n)=sum f a+sum (fun i=>f (a+i)) n:=by
 induction n with
 |zero=>simp only[sum,bMX];grind
 |succ n ih=>rw[<-bPM,dA,ih,dA];grind
theorem Pb{f:Nat->Rat}(h:∀k,0<=f k){a b:Nat}(aWX:a<=b):sum f a<=sum f b:=by
 obtain⟨n,rfl⟩:=bNB aWX;rw[iZ];have:=aBP (f:=fun i=>f (a+i)) (n:=n) fun k=>h _
 grind
def hf:Nat->Rat
 |0=>1
 |k+1=>hf k/2
theorem wV:∀k,0<hf k
 |0=>by simp only[hf];grind
 |k+1=>by have:=wV k;simp only[hf];grind
theorem Mv(a:Nat):∀b,hf (a+b)=hf a*hf b
 |0=>by simp only[hf,bMX];grind
 |b+1=>by rw[<-bPM,hf,Mv a b,hf];grind
theorem aLT{a b:Nat}(h:a<=b):hf b<=hf a:=by
 obtain⟨n,rfl⟩:=bNB h;clear h
 induction n with
 |zero=>grind
 |succ n ih=>rw[<-bPM,hf];have:=wV (a+n);grind
theorem Tu(k:Nat):hf k*(2^k:Nat)=1:=by
 induction k with
 |zero=>simp only[hf];grind
 |succ k ih=>rw[hf,bQV,bSW];grind
theorem bBL(n:Nat):sum hf n<=2:=by
 have:sum hf n=2-2*hf n:=by
  induction n with
  |zero=>simp only[sum,hf];grind
  |succ n ih=>rw[dA,ih,hf];grind
 have:=wV n;grind
theorem kW{x:Rat}(h:0<=x):∀k,0<=tm x k
 |0=>by simp only[tm];grind
 |k+1=>by
  have h1:=aG h (kW h k);have h2:=iR x k;have h3:=cast_pos k;refine Rat.not_lt.1 fun hn=>?_
  have:=bRP h3 (show 0 < -(tm x (k+1)) by grind);grind
theorem Ka(x:Rat):∀k,ab (tm x k)=tm (ab x) k
 |0=>by simp only[tm,ab];grind
 |k+1=>by
  have h3:=cast_pos k;have h1:=Ka x k;have h2:=iR x k;have h4:=iR (ab x) k;have h5:ab (((k+1:Nat):Rat)*tm x (k+1))=ab x*ab (tm x k):=by rw[h2,fS]
  rw[fS,h1]at h5;have h6:ab ((k+1:Nat):Rat)=((k+1:Nat):Rat):=by unfold ab;rw[if_pos (by grind)]
  rw[h6]at h5;generalize ((k+1:Nat):Rat)=q at *;generalize ab (tm x (k+1))=u at *;generalize tm (ab x) (k+1)=v at *;have hq:q≠0:=by grind
  have:q*u=q*v:=by grind
  clear h1 h2 h4 h5 h6;grind
theorem Vp{x y:Rat}(h:0<=x)(aSQ:x<=y):∀k,tm x k<=tm y k
 |0=>by simp only[tm];grind
 |k+1=>by
  have h1:=cX (kW h k) (Vp h aSQ k) h aSQ;have h2:=iR x k;have h4:=iR y k;have h3:=cast_pos k;refine Rat.not_lt.1 fun hn=>?_
  have:=bRP h3 (show 0<tm x (k+1)-tm y (k+1) by grind);grind
theorem aBI(j:Nat):tm 4 (8+j)<=2*hf j:=by
 induction j with
 |zero =>
  have:tm 4 8=65536/40320:=by simp only[tm];grind
  simp only[hf,bMX,this];grind
 |succ j ih =>
  have h2:=iR 4 (8+j);have h3:(8:Rat)<=((8+j+1:Nat):Rat):=by exact_mod_cast(show 8<=8+j+1 by omega)
  have h4:=kW (x:=4) (by grind) (8+j+1);rw[<-bPM,hf];have:=aG (show 0<=((8+j+1:Nat):Rat)-8 by grind) h4;grind
theorem wB(m n:Nat):sum (fun i=>tm 4 (8+m+i)) n<=4*hf m:=by
 have h1:sum (fun i=>tm 4 (8+m+i)) n<=sum (fun i=>2*hf m*hf i) n:=tB fun k _=>by
  have:=aBI (m+k);rw[Mv,<-bPM]at this;grind
 rw[kX]at h1;have:=aG (show 0<=2*hf m by have:=wV m;grind) (show 0<=2-sum hf n by have:=bBL n;grind);grind
theorem Vq(n:Nat):sum (tm 4) n<=64:=by
 have h0:∀k,0<=tm 4 k:=kW (by grind);have h1:=Pb h0 (show n<=8+n by omega);have h2:=iZ (tm 4) 8 n;have h3:=wB 0 n;have h4:sum (tm 4) 8<=52:=by
  simp only[sum,tm];grind
 simp only[hf,bMX]at h3;grind
theorem Ev{f g:Nat->Rat}(aUM:∀k,ab (f k)<=tm 4 k)(hg:∀k,ab (g k)<=tm 4 k)(m:Nat) :
  ab (sum (fun j=>f j*(sum g (2*(8+m))-sum g (2*(8+m)-j))) (2*(8+m)))<=512*hf m:=by
 have hG:∀a n,ab (sum g (a+n)-sum g a)<=sum (fun i=>tm 4 (a+i)) n:=fun a n=>by
  rw[iZ,show sum g a+sum (fun i=>g (a+i)) n-sum g a=sum (fun i=>g (a+i)) n by grind];exact bRB (vF _ _) (tB fun k _=>hg _)
 have h0:∀k,0<=tm 4 k:=kW (by grind);refine bRB (vF _ _) ?_;have hp:=wV m;have e:2*(8+m)=(8+m)+(8+m):=by omega
 rw[show sum (fun k=>ab (f k*(sum g (2*(8+m))-sum g (2*(8+m)-k)))) (2*(8+m))=sum (fun k=>ab (f k*(sum g (2*(8+m))-sum g (2*(8+m)-k)))) ((8+m)+(8+m)) by rw[<-e],iZ];have p1:sum (fun k=>ab (f k*(sum g (2*(8+m))-sum g (2*(8+m)-k)))) (8+m)<=sum (fun k=>4*hf m*tm 4 k) (8+m):=tB fun k hk=>by
  rw[fS];have h1:=hG (2*(8+m)-k) k;rw[show 2*(8+m)-k+k=2*(8+m) by omega]at h1;have h2:=wB (8+m-k) k;rw[show 8+(8+m-k)=2*(8+m)-k-m by omega]at h2;have h3:=wB (m+(8+m-k)-8+8-8+8) k;have h5:sum (fun i=>tm 4 (2*(8+m)-k+i)) k<=4*hf (2*(8+m)-k-8):=by
   have:=wB (2*(8+m)-k-8) k;rwa [show 8+(2*(8+m)-k-8)=2*(8+m)-k by omega]at this
  have h6:=aLT (show m<=2*(8+m)-k-8 by omega);have:=cX (aQ _) (aUM k) (aQ _) (show ab (sum g (2*(8+m))-sum g (2*(8+m)-k))<=4*hf m by grind);grind
 have p2:sum (fun i=>ab (f (8+m+i)*(sum g (2*(8+m))-sum g (2*(8+m)-(8+m+i))))) (8+m)<=sum (fun i=>64*tm 4 (8+m+i)) (8+m):=tB fun k hk=>by
  rw[fS];have h1:=hG (2*(8+m)-(8+m+k)) (8+m+k);rw[show 2*(8+m)-(8+m+k)+(8+m+k)=2*(8+m) by omega]at h1;have h2:=iZ (tm 4) (2*(8+m)-(8+m+k)) (8+m+k);have h3:=Vq (2*(8+m)-(8+m+k)+(8+m+k));have h4:=aBP (n:=2*(8+m)-(8+m+k)) h0;have:=cX (aQ _) (aUM (8+m+k)) (aQ _) (show ab (sum g (2*(8+m))-sum g (2*(8+m)-(8+m+k)))<=64 by grind);grind
 rw[kX]at p1 p2;have t1:=Vq (8+m);have t2:=wB m (8+m);have:=aG (show 0<=4*hf m by grind) (show 0<=64-sum (tm 4) (8+m) by grind);grind
def cc(k:Nat):Rat:=if k%4=0 then 1 else if k%4=2 then -1 else 0
def ss(k:Nat):Rat:=if k%4=1 then 1 else if k%4=3 then -1 else 0
theorem aPL(j l:Nat):cc j*cc l-ss j*ss l=cc (j+l):=by
 unfold cc ss;rw[bSG];have h1:=bOE j (show 4>0 by omega);have h2:=bOE l (show 4>0 by omega);generalize j%4=a at *;generalize l%4=b at *;have h3:a=0\/a=1\/a=2\/a=3:=by omega
 have h4:b=0\/b=1\/b=2\/b=3:=by omega
 rcases h3 with rfl |rfl |rfl |rfl <;> rcases h4 with rfl |rfl |rfl |rfl <;> simp <;> grind
theorem aMW(j l:Nat):ss j*cc l+cc j*ss l=ss (j+l):=by
 unfold cc ss;rw[bSG];have h1:=bOE j (show 4>0 by omega);have h2:=bOE l (show 4>0 by omega);generalize j%4=a at *;generalize l%4=b at *;have h3:a=0\/a=1\/a=2\/a=3:=by omega
 have h4:b=0\/b=1\/b=2\/b=3:=by omega
 rcases h3 with rfl |rfl |rfl |rfl <;> rcases h4 with rfl |rfl |rfl |rfl <;> simp <;> grind
theorem aFQ(k:Nat):ab (cc k)<=1:=by
 unfold cc ab;split <;> split <;> grind
theorem Vt(k:Nat):ab (ss k)<=1:=by
 unfold ss ab;split <;> split <;> grind
def rB(x:Rat)(n:Nat):Rat:=sum (fun k=>cc k*tm x k) n
def qR(x:Rat)(n:Nat):Rat:=sum (fun k=>ss k*tm x k) n
theorem Xp{x:Rat}(h:ab x<=4)(k:Nat):ab (cc k*tm x k)<=tm 4 k:=by
 rw[fS,Ka];have:=cX (aQ _) (aFQ k) (kW (aQ x) k) (Vp (aQ x) h k);grind
theorem Vs{x:Rat}(h:ab x<=4)(k:Nat):ab (ss k*tm x k)<=tm 4 k:=by
 rw[fS,Ka];have:=cX (aQ _) (Vt k) (kW (aQ x) k) (Vp (aQ x) h k);grind
theorem aPI(x y:Rat)(m:Nat):conv (fun k=>cc k*tm x k) (fun k=>cc k*tm y k) m-conv (fun k=>ss k*tm x k) (fun k=>ss k*tm y k) m=cc m*tm (x+y) m:=by
 rw[<-Lo];unfold conv;rw[<-xS,<-kX];refine iL fun k hk=>?_
 have:=aPL k (m-k);rw[show k+(m-k)=m by omega]at this;rw[<-this];grind
theorem aPH(x y:Rat)(m:Nat):conv (fun k=>ss k*tm x k) (fun k=>cc k*tm y k) m+conv (fun k=>cc k*tm x k) (fun k=>ss k*tm y k) m=ss m*tm (x+y) m:=by
 rw[<-Lo];unfold conv;rw[<-sum_add,<-kX];refine iL fun k hk=>?_
 have:=aMW k (m-k);rw[show k+(m-k)=m by omega]at this;rw[<-this];grind
theorem aFL{x y:Rat}(hx:ab x<=4)(hy:ab y<=4)(m:Nat):ab (rB (x+y) (2*(8+m))-(rB x (2*(8+m))*rB y (2*(8+m))-qR x (2*(8+m))*qR y (2*(8+m))))<=1024*hf m:=by
 have h1:=Ev (Xp hx) (Xp hy) m;have h2:=Ev (Vs hx) (Vs hy) m;unfold rB qR;rw[Ah,Ah];have h3:sum (fun k=>cc k*tm (x+y) k) (2*(8+m))=sum (conv (fun k=>cc k*tm x k) (fun k=>cc k*tm y k)) (2*(8+m))-sum (conv (fun k=>ss k*tm x k) (fun k=>ss k*tm y k)) (2*(8+m)):=by
  rw[<-xS];exact iL fun k _=>(aPI x y k).symm
 rw[h3];rw[dY]at *;grind
theorem aBZ{x y:Rat}(hx:ab x<=4)(hy:ab y<=4)(m:Nat):ab (qR (x+y) (2*(8+m))-(qR x (2*(8+m))*rB y (2*(8+m))+rB x (2*(8+m))*qR y (2*(8+m))))<=1024*hf m:=by
 have h1:=Ev (Vs hx) (Xp hy) m;have h2:=Ev (Xp hx) (Vs hy) m;unfold rB qR;rw[Ah,Ah];have h3:sum (fun k=>ss k*tm (x+y) k) (2*(8+m))=sum (conv (fun k=>ss k*tm x k) (fun k=>cc k*tm y k)) (2*(8+m))+sum (conv (fun k=>cc k*tm x k) (fun k=>ss k*tm y k)) (2*(8+m)):=by
  rw[<-sum_add];exact iL fun k _=>(aPH x y k).symm
 rw[h3];rw[dY]at *;grind
theorem aFM(x:Rat)(n:Nat):rB (-x) n=rB x n:=by
 refine iL fun k _=>?_
 have:∀k,cc k*tm (-x) k=cc k*tm x k/\ss k*tm (-x) k=- (ss k*tm x k):=by
  intro k;have h:∀j,tm (-x) (2*j)=tm x (2*j)/\tm (-x) (2*j+1)=- tm x (2*j+1):=by
   intro j
   induction j with
   |zero=>simp only[tm];grind
   |succ j ih =>
    rw[show 2*(j+1)=2*j+1+1 by omega];obtain⟨h1,h2⟩:=ih;have e:tm (-x) (2*j+1+1)=tm x (2*j+1+1):=by rw[tm,h2];grind [tm]
    refine⟨e,?_⟩;rw[tm,e];grind [tm]
  have:=h (k/2);unfold cc ss
  by_cases hk:k%2=0
  ·rw[show 2*(k/2)=k by omega]at this;rw[if_neg (show ¬k%4=1 by omega),if_neg (show ¬k%4=3 by omega),this.1];grind
  ·rw[show 2*(k/2)+1=k by omega]at this;rw[if_neg (show ¬k%4=0 by omega),if_neg (show ¬k%4=2 by omega),this.2];grind
 exact(this k).1
theorem aCA(x:Rat)(n:Nat):qR (-x) n=- qR x n:=by
 unfold qR;rw[show -sum (fun k=>ss k*tm x k) n=(-1)*sum (fun k=>ss k*tm x k) n by grind,<-kX];refine iL fun k _=>?_
 have h:∀j,tm (-x) (2*j)=tm x (2*j)/\tm (-x) (2*j+1)=- tm x (2*j+1):=by
  intro j
  induction j with
  |zero=>simp only[tm];grind
  |succ j ih =>
   rw[show 2*(j+1)=2*j+1+1 by omega];obtain⟨h1,h2⟩:=ih;have e:tm (-x) (2*j+1+1)=tm x (2*j+1+1):=by rw[tm,h2];grind [tm]
   refine⟨e,?_⟩;rw[tm,e];grind [tm]
 have:=h (k/2);unfold ss
 by_cases hk:k%2=0
 ·rw[if_neg (show ¬k%4=1 by omega),if_neg (show ¬k%4=3 by omega)];grind
 ·rw[show 2*(k/2)+1=k by omega]at this;rw[this.2];grind
theorem Ft{x:Rat}(h0:0<=x)(h1:x<=1)(a:Nat)(ha:1<=a)(n:Nat):sum (fun i=>tm x (a+i)) n<=2*tm x a:=by
 have hh:∀i,tm x (a+i)<=tm x a*hf i:=by
  intro i
  induction i with
  |zero=>simp only[hf,bMX];grind
  |succ i ih =>
   have h2:=iR x (a+i);have h3:(2:Rat)<=((a+i+1:Nat):Rat):=by exact_mod_cast(show 2<=a+i+1 by omega)
   have h4:=kW h0 (a+i+1);have h5:=kW h0 (a+i);have:=aG (show 0<=((a+i+1:Nat):Rat)-2 by grind) h4;have:=aG (show 0<=1-x by grind) h5;rw[<-bPM,hf];grind
 have h1:sum (fun i=>tm x (a+i)) n<=sum (fun i=>tm x a*hf i) n:=tB fun k _=>hh k
 rw[kX]at h1;have:=aG (kW h0 a) (show 0<=2-sum hf n by have:=bBL n;grind);grind
theorem aFK{x:Rat}(h:ab x<=1){a n:Nat}(ha:1<=a)(hn:a<=n):ab (rB x n-rB x a)<=2*tm (ab x) a:=by
 obtain⟨m,rfl⟩:=bNB hn;unfold rB;rw[iZ,show sum (fun k=>cc k*tm x k) a+sum (fun i=>cc (a+i)*tm x (a+i)) m-sum (fun k=>cc k*tm x k) a=sum (fun i=>cc (a+i)*tm x (a+i)) m by grind];refine bRB (vF _ _) (bRB (tB fun k _=>?_) (Ft (aQ x) h a ha m));rw[fS,Ka];have:=cX (aQ _) (aFQ (a+k)) (kW (aQ x) (a+k)) bSK;grind
theorem aBX{x:Rat}(h:ab x<=1){a n:Nat}(ha:1<=a)(hn:a<=n):ab (qR x n-qR x a)<=2*tm (ab x) a:=by
 obtain⟨m,rfl⟩:=bNB hn;unfold qR;rw[iZ,show sum (fun k=>ss k*tm x k) a+sum (fun i=>ss (a+i)*tm x (a+i)) m-sum (fun k=>ss k*tm x k) a=sum (fun i=>ss (a+i)*tm x (a+i)) m by grind];refine bRB (vF _ _) (bRB (tB fun k _=>?_) (Ft (aQ x) h a ha m));rw[fS,Ka];have:=cX (aQ _) (Vt (a+k)) (kW (aQ x) (a+k)) bSK;grind
theorem aVW:∃k:Nat,k=1048576:=⟨_,rfl⟩
def K:Nat:=Classical.choose aVW
theorem aPX:K=1048576:=Classical.choose_spec aVW
def aKD:Nat:=2*(8+(K+10))
def sQ:Rat:=hf K
def sn(x:Rat):Rat:=qR x aKD
def cs(x:Rat):Rat:=rB x aKD
theorem oW:0<sQ:=wV K
theorem aES:1024*hf (K+10)=sQ:=by
 have:=Mv K 10;have h:hf 10=1/1024:=by simp only[hf];grind
 unfold sQ;grind
theorem Cp{n:Nat}(h:n<=1048576):sQ<=hf n:=aLT (by rw[aPX];exact h)
theorem aEQ:sQ<=1/1048576:=by
 have:=Cp (n:=20) (by omega);simp only[hf]at this;grind
theorem Hn{x y:Rat}(hx:ab x<=4)(hy:ab y<=4):ab (cs (x+y)-(cs x*cs y-sn x*sn y))<=sQ:=by
 rw[<-aES];exact aFL hx hy _
theorem aMY{x y:Rat}(hx:ab x<=4)(hy:ab y<=4):ab (sn (x+y)-(sn x*cs y+cs x*sn y))<=sQ:=by
 rw[<-aES];exact aBZ hx hy _
theorem Ug(x:Rat):cs (-x)=cs x:=aFM x _
theorem Bt(x:Rat):sn (-x)=- sn x:=aCA x _
theorem aHV(k:Nat):tm 0 (k+1)=0:=by rw[tm];grind
theorem Np{a:Nat}(h:a<=1048576):a<=aKD:=by unfold aKD;rw[aPX];omega
theorem Fh{x:Rat}(h:ab x<=1){a:Nat}(ha:1<=a)(hn:a<=1048576):ab (cs x-rB x a)<=2*tm (ab x) a:=aFK h ha (Np hn)
theorem Lt{x:Rat}(h:ab x<=1){a:Nat}(ha:1<=a)(hn:a<=1048576):ab (sn x-qR x a)<=2*tm (ab x) a:=aBX h ha (Np hn)
theorem Xq:cs 0=1:=by
 have h:=Fh (x:=0) (by simp only[ab];grind) (a:=1) (by omega) (by omega);rw[show ab 0=0 by simp only[ab];grind,show(1:Nat)=0+1 by rfl,aHV]at h;have h2:rB 0 (0+1)=1:=by simp[rB,sum,cc,tm];grind
 rw[dY,h2]at h;grind
theorem aIK{x:Rat}(hx:ab x<=4):ab (sn x*sn x+cs x*cs x-1)<=sQ:=by
 have:=Hn hx (show ab (-x)<=4 by rwa [gT]);rw[show x+-x=0 by grind,Xq,Ug,Bt]at this;rw[dY]at *;grind
theorem Yf{x:Rat}(hx:ab x<=4):ab (sn (2*x)-2*sn x*cs x)<=sQ:=by
 have:=aMY hx hx;rw[show x+x=2*x by grind]at this;rw[dY]at *;grind
theorem Ks{x:Rat}(hx:ab x<=4):ab (cs (2*x)-(1-2*(sn x*sn x)))<=2*sQ:=by
 have:=Hn hx hx;have:=aIK hx;rw[show x+x=2*x by grind]at *;rw[dY]at *;grind
theorem Fx{a b:Rat}(h:a*a<=b*b)(hb:0<=b):ab a<=b:=by
 rw[dY];constructor
 ·refine Rat.not_lt.1 fun hn=>?_
  have:=bRP (show 0 < -a-b by grind) (show 0 < -a+b by grind);grind
 ·refine Rat.not_lt.1 fun hn=>?_
  have:=bRP (show 0<a-b by grind) (show 0<a+b by grind);grind
theorem bCT(a:Rat):0<=a*a:=by
 by_cases h:0<=a
 ·exact aG h h
 ·have:=aG (show 0<=-a by grind) (show 0<=-a by grind);grind
theorem aKX{x:Rat}(hx:ab x<=4):ab (sn x)<=1+sQ:=by
 have h:=aIK hx;have h1:=oW;have h2:=bCT (cs x);have h3:=aG (show 0<=sQ by grind) (show 0<=sQ by grind);refine Fx ?_ (by grind);rw[dY]at h;grind
theorem aMI{x:Rat}(hx:ab x<=4):ab (cs x)<=1+sQ:=by
 have h:=aIK hx;have h1:=oW;have h2:=bCT (sn x);have h3:=aG (show 0<=sQ by grind) (show 0<=sQ by grind);refine Fx ?_ (by grind);rw[dY]at h;grind
theorem bN{x:Rat}(h:0<=x):ab x=x:=by unfold ab;rw[if_pos h]
theorem yX(x:Rat):tm x 1=x/\tm x 2=x*x/2/\tm x 3=x*x*x/6/\tm x 4=x*x*x*x/24/\tm x 5=x*x*x*x*x/120/\tm x 6=x*x*x*x*x*x/720:=by
 simp only[tm];refine⟨?_,?_,?_,?_,?_,?_⟩ <;> grind
theorem Ae{x:Rat}(h0:0<=x)(h1:x<=1):x-x*x*x/6<=sn x/\sn x<=x-x*x*x/6+x*x*x*x*x/60:=by
 have a1:ab x<=1:=by rwa [bN h0]
 have t5:=Lt a1 (a:=5) (by omega) (by omega);have t7:=Lt a1 (a:=7) (by omega) (by omega);rw[bN h0]at t5 t7;obtain⟨e1,e2,e3,e4,e5,e6⟩:=yX x;have p5:qR x 5=x-x*x*x/6:=by simp[qR,sum,ss];rw[e1,e3];grind
 have p7:qR x 7=x-x*x*x/6+x*x*x*x*x/120:=by simp[qR,sum,ss];rw[e1,e3,e5];grind
 have e7:tm x 7<=tm x 5/4:=by
  have h2:=iR x 6;have h3:=iR x 5;have:=kW h0 7;have:=kW h0 6;have:=kW h0 5;have:=aG (show 0<=1-x by grind) (kW h0 6);have:=aG (show 0<=1-x by grind) (kW h0 5);norm_cast at h2 h3;grind
 rw[dY,p5,e5]at t5;rw[dY,p7]at t7;rw[e5]at e7;grind
theorem Qw{x:Rat}(h0:0<=x)(h1:x<=1):1-x*x/2<=cs x/\cs x<=1-x*x/2+x*x*x*x/12:=by
 have a1:ab x<=1:=by rwa [bN h0]
 have t5:=Fh a1 (a:=4) (by omega) (by omega);have t7:=Fh a1 (a:=6) (by omega) (by omega);rw[bN h0]at t5 t7;obtain⟨e1,e2,e3,e4,e5,e6⟩:=yX x;have p5:rB x 4=1-x*x/2:=by simp[rB,sum,cc];rw[e2,tm];grind
 have p7:rB x 6=1-x*x/2+x*x*x*x/24:=by simp[rB,sum,cc];rw[e2,e4,tm];grind
 have e7:tm x 6<=tm x 4/4:=by
  have h2:=iR x 5;have h3:=iR x 4;have:=kW h0 6;have:=kW h0 5;have:=kW h0 4;have:=aG (show 0<=1-x by grind) (kW h0 5);have:=aG (show 0<=1-x by grind) (kW h0 4);norm_cast at h2 h3;grind
 rw[dY,p5,e4]at t5;rw[dY,p7]at t7;rw[e4]at e7;grind
theorem aBH{x y:Rat}(hx:ab x<=1)(hy:ab y<=1):∀k,ab (tm y (k+1)-tm x (k+1))<=ab (y-x)*tm 1 k
 |0=>by
  obtain⟨e1,_⟩:=yX x;obtain⟨e2,_⟩:=yX y;rw[show 0+1=1 by rfl,e1,e2,tm];grind
 |k+1=>by
  have ih:=aBH hx hy k;have h2:=iR x (k+1);have h3:=iR y (k+1);have h1:=iR 1 k;have hp:=cast_pos (k+1);have e:((k+1+1:Nat):Rat)*(tm y (k+1+1)-tm x (k+1+1))=(y-x)*tm y (k+1)+x*(tm y (k+1)-tm x (k+1)):=by grind
  have e2:=congrArg ab e;have e3:=Hx ((y-x)*tm y (k+1)) (x*(tm y (k+1)-tm x (k+1)));rw[fS,bN (show(0:Rat)<=((k+1+1:Nat):Rat) by grind)]at e2;rw[fS,fS,Ka]at e3;have b1:=cX (aQ (y-x)) bSK (kW (aQ y) (k+1)) (Vp (aQ y) hy (k+1));have b2:=cX (aQ x) hx (aQ _) ih;have hc:((k+1+1:Nat):Rat)=((k+1:Nat):Rat)+1:=by norm_cast
  refine Rat.not_lt.1 fun hn=>?_
  have:=bRP hp (show 0<ab (tm y (k+1+1)-tm x (k+1+1))-ab (y-x)*tm 1 (k+1) by grind);have Zg:tm 1 k=((k+1:Nat):Rat)*tm 1 (k+1):=by grind
  rw[Zg]at b2;rw[hc]at this e2;clear e h2 h3 h1 ih Zg hc hp hx hy;generalize ((k+1:Nat):Rat)=q at *;generalize ab (tm y (k+1+1)-tm x (k+1+1))=A at *;generalize ab ((y-x)*tm y (k+1)+x*(tm y (k+1)-tm x (k+1)))=B at *;generalize ab (y-x)=d at *;generalize tm 1 (k+1)=T at *;grind
theorem aBJ(a:Nat)(ha:1<=a)(n:Nat):sum (fun i=>tm 1 (a+i)) n<=2*tm 1 a:=Ft (by grind) (by grind) a ha n
theorem aBV{x y:Rat}(hx:ab x<=1)(hy:ab y<=1):ab (sn y-sn x-(y-x))<=3/4*ab (y-x):=by
 have hN:=Np (a:=3) (by omega);obtain⟨n,hn⟩:=bNB hN;unfold sn qR;rw[hn,iZ,iZ];obtain⟨e1,_⟩:=yX x;obtain⟨e2,_⟩:=yX y;have p:sum (fun k=>ss k*tm x k) 3=x:=by simp[sum,ss];rw[e1];grind
 have q:sum (fun k=>ss k*tm y k) 3=y:=by simp[sum,ss];rw[e2];grind
 rw[p,q,show y+sum (fun i=>ss (3+i)*tm y (3+i)) n-(x+sum (fun i=>ss (3+i)*tm x (3+i)) n)-(y-x)=sum (fun i=>ss (3+i)*tm y (3+i)) n-sum (fun i=>ss (3+i)*tm x (3+i)) n by grind,<-xS];refine bRB (vF _ _) ?_;have h1:sum (fun k=>ab (ss (3+k)*tm y (3+k)-ss (3+k)*tm x (3+k))) n<=sum (fun k=>ab (y-x)*tm 1 (2+k)) n:=tB fun k _=>by
  have:=aBH hx hy (2+k);rw[show 2+k+1=3+k by omega]at this;rw[show ss (3+k)*tm y (3+k)-ss (3+k)*tm x (3+k)=ss (3+k)*(tm y (3+k)-tm x (3+k)) by grind,fS];have:=cX (aQ _) (Vt (3+k)) (aQ _) this;grind
 rw[kX]at h1;have h2:sum (fun k=>tm 1 (2+k)) n<=3/4:=by
  have h3:=Pb (f:=fun k=>tm 1 (2+k)) (fun k=>kW (by grind) _) (show n<=2+n by omega);have h4:=iZ (fun k=>tm 1 (2+k)) 2 n;have h5:=aBJ 4 (by omega) n;obtain⟨_,f2,f3,f4,_⟩:=yX 1;have h6:sum (fun k=>tm 1 (2+k)) 2=2/3:=by simp[sum];rw[f2,f3];grind
  have h7:sum (fun i=>tm 1 (2+(2+i))) n=sum (fun i=>tm 1 (4+i)) n:=iL fun k _=>by rw[show 2+(2+k)=4+k by omega]
  rw[f4]at h5;grind
 have:=aG (aQ (y-x)) (show 0<=3/4-sum (fun k=>tm 1 (2+k)) n by grind);grind
theorem Xt{a b:Rat}(ha:ab a<=4)(hb:ab b<=4):ab (cs (a-b)-cs (a+b)-2*(sn a*sn b))<=2*sQ:=by
 have h1:=Hn ha hb;have h2:=Hn ha (show ab (-b)<=4 by rwa [gT]);rw[Ug,Bt,show a+-b=a-b by grind]at h2;rw[dY]at *;grind
theorem Fz{x:Rat}(h0:0<=x)(h1:x<=1):0<=sn x:=by
 have:=(Ae h0 h1).1;have h2:=cX h0 h1 h0 h1;have h3:=aG h0 (show 0<=1*1-x*x by grind);grind
theorem Vy{x:Rat}(h0:0<=x)(h1:x<=1):sn x<=x:=by
 have:=(Ae h0 h1).2;have h2:=cX h0 h1 h0 h1;have h4:=aG (aG h0 h0) h0;have h3:=aG h4 (show 0<=1*1-x*x by grind);grind
theorem Su{x:Rat}(h:ab x<=1):ab (sn x)<=ab x:=by
 by_cases h0:0<=x
 ·rw[bN h0]at *;have:=Fz h0 h;have:=Vy h0 h;rw[dY];grind
 ·have e:ab x=-x:=by unfold ab;rw[if_neg h0]
  rw[e]at h;rw[e];have h1:=Fz (show 0<=-x by grind) h;have h2:=Vy (show 0<=-x by grind) h;rw[Bt]at h1 h2;rw[dY];grind
theorem Xr{x y:Rat}(h0:0<=x)(h:x<=y)(h1:y<=1):cs y<=cs x+2*sQ:=by
 have h2:=Xt (a:=(x+y)/2) (b:=(y-x)/2) (by rw[dY];grind) (by rw[dY];grind);rw[show(x+y)/2-(y-x)/2=x by grind,show(x+y)/2+(y-x)/2=y by grind,dY]at h2;have h3:=aG (Fz (x:=(x+y)/2) (by grind) (by grind)) (Fz (x:=(y-x)/2) (by grind) (by grind));grind
theorem aFI{x y:Rat}(hx:ab x<=1)(hy:ab y<=1):ab (cs y-cs x)<=ab (y-x)+2*sQ:=by
 have b1:ab ((x+y)/2)<=1:=by rw[dY]at *;grind
 have b2:ab ((y-x)/2)<=1:=by rw[dY]at *;grind
 have h2:=Xt (a:=(x+y)/2) (b:=(y-x)/2) (by grind) (by grind);rw[show(x+y)/2-(y-x)/2=x by grind,show(x+y)/2+(y-x)/2=y by grind]at h2;have h3:=cX (aQ _) (Su b1) (aQ _) (Su b2);have h4:=cX (aQ _) b1 (aQ _) (show ab ((y-x)/2)<=ab ((y-x)/2)from bSK);rw[<-fS]at h3;have h5:ab ((y-x)/2)=ab (y-x)/2:=by unfold ab;split <;> split <;> grind
 rw[h5]at h3 h4;have h6:=Pv (sn ((x+y)/2)*sn ((y-x)/2));have h7:=tN (sn ((x+y)/2)*sn ((y-x)/2));rw[dY]at h2 ⊢;clear h5 b1 b2 hx hy;generalize sn ((x+y)/2)*sn ((y-x)/2)=P at *;generalize ab ((x+y)/2)*(ab (y-x)/2)=Q at *;grind
theorem Vx{x y:Rat}(hx:ab x<=1)(hy:ab y<=1):ab (sn y-sn x)<=2*ab (y-x):=by
 have h:=aBV hx hy;have h1:=Pv (y-x);have h2:=tN (y-x);rw[dY]at h ⊢;grind
theorem Vw{x y:Rat}(hx:ab x<=1)(hy:ab y<=1)(h:x<=y):sn x<=sn y:=by
 have h1:=aBV hx hy;rw[bN (show 0<=y-x by grind),dY]at h1;grind
theorem uT(a:Nat){b:Nat}(_hb:0<b):(b:Rat)*((a/b:Nat):Rat)<=(a:Rat)/\(a:Rat)<(b:Rat)*((a/b:Nat):Rat)+(b:Rat):=by
 have h1:=bRC a b;have h2:=bOE a _hb;constructor
 ·exact_mod_cast(show b*(a/b)<=a by omega)
 ·exact_mod_cast(show a<b*(a/b)+b by omega)
theorem dK{q a b:Rat}(hq:0<q)(h:q*a<=q*b):a<=b:=by
 refine Rat.not_lt.1 fun hn=>?_
 have:=bRP hq (show 0<a-b by grind);grind
theorem oO{q a b:Rat}(hq:0<q)(h:q*a<q*b):a<b:=by
 refine Rat.not_le.1 fun hn=>?_
 have:=aG (bRD hq) (show 0<=a-b by grind);grind
def sq(u W:Nat):Nat->Nat
 |0=>W
 |k+1=>sq u W k*u/W/(k+1)
theorem Fy{u W:Nat}(hW:0<W){x:Rat}(hx:x*(W:Rat)=(u:Rat))(h0:0<=x)(h1:x<=1/2):∀k,0<=tm x k*W-sq u W k/\tm x k*W-sq u W k<=2
 |0=>by simp only[tm,sq];grind
 |k+1=>by
  obtain⟨i1,i2⟩:=Fy hW hx h0 h1 k;obtain⟨d1,d2⟩:=uT (sq u W k*u) (b:=W*(k+1)) (bSX hW (by omega));rw[sq,bRN];rw[bSW,bSW,<-hx]at d1 d2;have hc:=iR x k;have hp:=cast_pos k;have h1k:(1:Rat)<=((k+1:Nat):Rat):=by exact_mod_cast(show 1<=k+1 by omega)
  have aME:(0:Rat)<(W:Rat):=by exact_mod_cast hW
  generalize ((sq u W k*u/(W*(k+1)):Nat):Rat)=t' at *;generalize (sq u W k:Rat)=t at *;generalize ((k+1:Nat):Rat)=q at *;have d1':q*t'<=t*x:=dK aME (by grind);have d2':t*x<q*t'+q:=oO aME (by grind);have hcW:q*tm x (k+1)*(W:Rat)=x*tm x k*(W:Rat):=by rw[hc]
  have e1:=aG h0 i1;have e2:=aG (show 0<=1/2-x by grind) i1;refine⟨dK hp ?_,dK hp ?_⟩ <;> grind
theorem aBO{u W:Nat}(hW:0<W){x:Rat}(hx:x*(W:Rat)=(u:Rat))(h0:0<=x)(h1:x<=1/2){n:Nat}(hn:1<=n)(Yz:n<=1048576)(hz:sq u W n=0) :
  ab (sum (fun k=>cc k*(sq u W k:Rat)) n-W*cs x)<=2*(n:Rat)+4:=by
 have hs:ab (sum (fun k=>cc k*(sq u W k:Rat)) n-W*rB x n)<=2*(n:Rat):=by
  unfold rB;rw[<-kX,<-xS];refine bRB (vF _ _) ?_;have:∀m,sum (fun k=>ab (cc k*(sq u W k:Rat)-W*(cc k*tm x k))) m<=2*(m:Rat):=by
   intro m
   induction m with
   |zero=>simp only[sum];grind
   |succ m ih =>
    rw[dA];obtain⟨a1,a2⟩:=Fy hW hx h0 h1 m;have:ab (cc m*(sq u W m:Rat)-W*(cc m*tm x m))<=2:=by
     rw[show cc m*(sq u W m:Rat)-W*(cc m*tm x m)=cc m*(sq u W m-tm x m*W) by grind,fS];have b1:ab (sq u W m-tm x m*W)<=2:=by rw[dY];grind
     have:=cX (aQ _) (aFQ m) (aQ _) b1;grind
    have hc:((m+1:Nat):Rat)=(m:Rat)+1:=by norm_cast
    rw[hc];grind
  exact this n
 have ht:=Fh (x:=x) (by rw[bN h0];grind) hn Yz;obtain⟨a1,a2⟩:=Fy hW hx h0 h1 n;rw[hz]at a2;rw[bN h0]at ht;have aME:(0:Rat)<(W:Rat):=by exact_mod_cast hW
 rw[dY]at *;have b1:=aG (bRD aME) (show 0<=2*tm x n-(cs x-rB x n) by grind);have b2:=aG (bRD aME) (show 0<=2*tm x n+(cs x-rB x n) by grind);have Yt:((0:Nat):Rat)=0:=by norm_cast
 rw[Yt]at a2;grind
theorem aBN{u W:Nat}(hW:0<W){x:Rat}(hx:x*(W:Rat)=(u:Rat))(h0:0<=x)(h1:x<=1/2){n:Nat}(hn:1<=n)(Yz:n<=1048576)(hz:sq u W n=0) :
  ab (sum (fun k=>ss k*(sq u W k:Rat)) n-W*sn x)<=2*(n:Rat)+4:=by
 have hs:ab (sum (fun k=>ss k*(sq u W k:Rat)) n-W*qR x n)<=2*(n:Rat):=by
  unfold qR;rw[<-kX,<-xS];refine bRB (vF _ _) ?_;have:∀m,sum (fun k=>ab (ss k*(sq u W k:Rat)-W*(ss k*tm x k))) m<=2*(m:Rat):=by
   intro m
   induction m with
   |zero=>simp only[sum];grind
   |succ m ih =>
    rw[dA];obtain⟨a1,a2⟩:=Fy hW hx h0 h1 m;have:ab (ss m*(sq u W m:Rat)-W*(ss m*tm x m))<=2:=by
     rw[show ss m*(sq u W m:Rat)-W*(ss m*tm x m)=ss m*(sq u W m-tm x m*W) by grind,fS];have b1:ab (sq u W m-tm x m*W)<=2:=by rw[dY];grind
     have:=cX (aQ _) (Vt m) (aQ _) b1;grind
    have hc:((m+1:Nat):Rat)=(m:Rat)+1:=by norm_cast
    rw[hc];grind
  exact this n
 have ht:=Lt (x:=x) (by rw[bN h0];grind) hn Yz;obtain⟨a1,a2⟩:=Fy hW hx h0 h1 n;rw[hz]at a2;rw[bN h0]at ht;have aME:(0:Rat)<(W:Rat):=by exact_mod_cast hW
 rw[dY]at *;have b1:=aG (bRD aME) (show 0<=2*tm x n-(sn x-qR x n) by grind);have b2:=aG (bRD aME) (show 0<=2*tm x n+(sn x-qR x n) by grind);have Yt:((0:Nat):Rat)=0:=by norm_cast
 rw[Yt]at a2;grind
theorem aRD{W x e s c s' c':Rat}(hW:1<=W)(hx:ab x<=1)(hs:ab (s-W*sn x)<=e)(hc:ab (c-W*cs x)<=e)(he:8*(e*e)<=W)(aYZ:(8*e+4*W)*sQ<=1/4)
  (h1:ab (W*s'-2*(s*c))<=2*W) (h2:ab (W*c'-(W*W-2*(s*s)))<=2*W):ab (s'-W*sn (2*x))<=4*e+4/\ab (c'-W*cs (2*x))<=4*e+4:=by
 have aWF:ab x<=4:=by grind
 have d1:=Yf aWF;have d2:=Ks aWF;have bs:=aKX aWF;have bc:=aMI aWF;have aHG:0<=e:=bRB (aQ _) hs;have aOP:=oW;generalize sn (2*x)=S2 at *;generalize cs (2*x)=C2 at *;generalize sn x=S at *;generalize cs x=C at *;obtain⟨a,ha⟩:∃a,a=s-W*S:=⟨_,rfl⟩;obtain⟨b,hb⟩:∃b,b=c-W*C:=⟨_,rfl⟩;rw[<-ha]at hs;rw[<-hb]at hc;have es:s=W*S+a:=by grind
 have ec:c=W*C+b:=by grind
 subst es;subst ec;have q1:=cX (aQ S) bs (aQ b) hc;have q2:=cX (aQ C) bc (aQ a) hs;have q3:=cX (aQ a) hs (aQ b) hc;have q4:=cX (aQ S) bs (aQ a) hs;have q5:=cX (aQ a) hs (aQ a) hs;rw[<-fS]at q1 q2 q3 q4 q5;have aQY:0<=W:=by grind
 have w1:∀{t r:Rat},ab t<=r->-(W*r)<=W*t/\W*t<=W*r:=fun {t r} h=>by
  rw[dY]at h;have:=aG aQY (show 0<=r-t by grind);have:=aG aQY (show 0<=r+t by grind);constructor <;> grind
 have k1:=w1 q1;have k2:=w1 q2;have k4:=w1 q4;have k6:=w1 (r:=W*sQ) (t:=W*(S2-2*S*C)) (by
  have:=w1 d1;rw[dY];grind)
 have k7:=w1 (r:=W*(2*sQ)) (t:=W*(C2-(1-2*(S*S)))) (by
  have:=w1 d2;rw[dY];grind)
 have hq:0<W:=by grind
 have z1:=aG aQY (show 0<=1/4-(8*e+4*W)*sQ by grind);rw[dY]at h1 h2 q3 q5;constructor
 ·rw[dY];constructor
  ·refine dK hq ?_;grind
  ·refine dK hq ?_;grind
 ·rw[dY];constructor
  ·refine dK hq ?_;grind
  ·refine dK hq ?_;grind
def sg(j:Nat):Rat:=if j%2=0 then 1 else -1
theorem aKY(j:Nat):ab (sg j)=1:=by unfold sg ab;split <;> split <;> grind
def fN(n w j:Nat):Nat:=2^w/n^(2*j+1)/(2*j+1)
def apart(n j:Nat):Rat:=1/((n^(2*j+1)*(2*j+1):Nat):Rat)
def Uo(n:Nat):Rat:=sum (fun j=>sg j*apart n j) K
theorem uD{n:Nat}(hn:0<n)(j:Nat):0<apart n j/\apart n j*((n^(2*j+1)*(2*j+1):Nat):Rat)=1:=by
 unfold apart;have h:0<n^(2*j+1)*(2*j+1):=bSX (bOV hn) (by omega);have h':(0:Rat)<((n^(2*j+1)*(2*j+1):Nat):Rat):=by exact_mod_cast h
 generalize ((n^(2*j+1)*(2*j+1):Nat):Rat)=q at *;have:q≠0:=by grind
 constructor
 ·have:=Rat.inv_pos.2 h';grind
 ·grind
theorem Kz{n:Nat}(hn:0<n)(w j:Nat):0<=((2^w:Nat):Rat)*apart n j-fN n w j/\((2^w:Nat):Rat)*apart n j-fN n w j<=1:=by
 obtain⟨h1,h2⟩:=uD hn j;have h:0<n^(2*j+1)*(2*j+1):=bSX (bOV hn) (by omega);obtain⟨d1,d2⟩:=uT (2^w) h;unfold fN;rw[bRN];have h':(0:Rat)<((n^(2*j+1)*(2*j+1):Nat):Rat):=by exact_mod_cast h
 generalize ((n^(2*j+1)*(2*j+1):Nat):Rat)=q at *;generalize ((2^w/(n^(2*j+1)*(2*j+1)):Nat):Rat)=t at *;generalize ((2^w:Nat):Rat)=W at *;have e:q*(W*apart n j)=W:=by
  rw[show q*(W*apart n j)=W*(apart n j*q) by grind,h2];grind
 refine⟨?_,?_⟩
 ·have:t<=W*apart n j:=dK h' (by grind);grind
 ·have:W*apart n j<=t+1:=dK h' (by grind);grind
theorem Us{n:Nat}(hn:2<=n)(j:Nat):apart n (j+1)<=apart n j/2:=by
 obtain⟨h1,h2⟩:=uD (show 0<n by omega) j;obtain⟨h3,h4⟩:=uD (show 0<n by omega) (j+1);have hle:2*(n^(2*j+1)*(2*j+1))<=n^(2*(j+1)+1)*(2*(j+1)+1):=by
  have e:n^(2*(j+1)+1)=n^(2*j+1)*(n*n):=by
   rw[show 2*(j+1)+1=(2*j+1)+2 by omega,bQX,Nat.pow_two]
  have bBI:4<=n*n:=Nat.mul_le_mul hn hn;rw[e,bQZ,bTT];refine bOK _ ?_;have:4*(2*(j+1)+1)<=n*n*(2*(j+1)+1):=Nat.mul_le_mul_right _ bBI;omega
 have hle':(2:Rat)*((n^(2*j+1)*(2*j+1):Nat):Rat)<=((n^(2*(j+1)+1)*(2*(j+1)+1):Nat):Rat):=by exact_mod_cast hle
 generalize ((n^(2*j+1)*(2*j+1):Nat):Rat)=p at *;generalize ((n^(2*(j+1)+1)*(2*(j+1)+1):Nat):Rat)=q at *;have hp:0<p:=by
  refine Rat.not_le.1 fun hn=>?_
  have:=aG (bRD h1) (show 0<=-p by grind);grind
 have:=aG (bRD h3) (show 0<=q-2*p by grind);refine dK hp ?_;grind
theorem Ur{n:Nat}(hn:2<=n)(a m:Nat):sum (fun i=>apart n (a+i)) m<=2*apart n a:=by
 have hh:∀i,apart n (a+i)<=apart n a*hf i:=by
  intro i
  induction i with
  |zero=>simp only[hf,bMX];grind
  |succ i ih =>
   have:=Us hn (a+i);rw[<-bPM,hf];grind
 have h1:sum (fun i=>apart n (a+i)) m<=sum (fun i=>apart n a*hf i) m:=tB fun k _=>hh k
 rw[kX]at h1;have h2:=(uD (show 0<n by omega) a).1;have:=aG (bRD h2) (show 0<=2-sum hf m by have:=bBL m;grind);grind
theorem Xz{n:Nat}(hn:2<=n)(w:Nat){J:Nat}(hJ:J<=1048576)(hz:fN n w J=0):ab (sum (fun j=>sg j*(fN n w j:Rat)) J-((2^w:Nat):Rat)*Uo n)<=(J:Rat)+2:=by
 obtain⟨m,hm⟩:=bNB (show J<=K by rw[aPX];exact hJ);unfold Uo;rw[hm,iZ];have h1:∀i,ab (sum (fun j=>sg j*(fN n w j:Rat)) i-((2^w:Nat):Rat)*sum (fun j=>sg j*apart n j) i)<=(i:Rat):=by
  intro i;rw[<-kX,<-xS];refine bRB (vF _ _) ?_
  induction i with
  |zero=>simp only[sum];grind
  |succ i ih =>
   rw[dA];obtain⟨a1,a2⟩:=Kz (show 0<n by omega) w i;have:ab (sg i*(fN n w i:Rat)-((2^w:Nat):Rat)*(sg i*apart n i))<=1:=by
    rw[show sg i*(fN n w i:Rat)-((2^w:Nat):Rat)*(sg i*apart n i)=sg i*(fN n w i-((2^w:Nat):Rat)*apart n i) by grind,fS,aKY];have b1:ab (fN n w i-((2^w:Nat):Rat)*apart n i)<=1:=by rw[dY];grind
    grind
   have hc:((i+1:Nat):Rat)=(i:Rat)+1:=by norm_cast
   rw[hc];grind
 have h2:ab (sum (fun i=>sg (J+i)*apart n (J+i)) m)<=2*apart n J:=by
  refine bRB (vF _ _) (bRB (tB fun k _=>?_) (Ur hn J m));rw[fS,aKY,bN (bRD (uD (show 0<n by omega) _).1)];grind
 have h3:=(Kz (show 0<n by omega) w J).2;have h4:=h1 J;have h0:(0:Rat)<=((2^w:Nat):Rat):=by exact_mod_cast bRZ _
 rw[hz]at h3;have Yt:((0:Nat):Rat)=0:=by norm_cast
 rw[Yt]at h3;rw[dY]at *;have b1:=aG h0 (show 0<=2*apart n J-sum (fun i=>sg (J+i)*apart n (J+i)) m by grind);have b2:=aG h0 (show 0<=2*apart n J+sum (fun i=>sg (J+i)*apart n (J+i)) m by grind);grind
end R
end Go.Proofs.YtcnlagnipklcmaaGreatDoor
end
