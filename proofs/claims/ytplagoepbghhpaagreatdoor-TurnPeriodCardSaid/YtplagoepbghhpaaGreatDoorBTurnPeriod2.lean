/- Contracts of functions and laws, for the claim on TurnPeriod. -/
import Derived.KernelRfl
import Derived.Laws.Externs
import Derived.Test.YtplagoepbghhpaaGreatDoorProg
import Derived.Shelf.SlGeneric
import Derived.Ground.SlgnProg
import Derived.Shelf.SlicesE.Clone
import Derived.Test.YtplagoepbghhpaaGreatDoorBTurnPeriod1
set_option linter.unusedVariables false
set_option linter.unusedSimpArgs false
noncomputable section
open Go.IntKind(i8 i16 i32 i64 u8 u16 u32 u64)
open Go.Proofs.Tryz
open Int renaming toNat_natCast->bPN,eq_ofNat_of_zero_le->bQT,natAbs_mul->bRE,zero_mul->bRF,natCast_ediv->bRH,natAbs_natCast->bRJ,natCast_mul->bRP,mul_assoc->bSE,natCast_emod->bSI,natAbs_neg->bSL,tdiv_eq_ediv_of_nonneg->bTG,tmod_eq_emod_of_nonneg->bTH,ediv_eq_zero_of_lt->bTK,toNat_zero->bTM,ediv_mul_cancel->bTP,mul_ne_zero->bTQ,natAbs_add_le->bTT
open List renaming replicate->bNU,mem_append->bMT,getD_eq_getElem?_getD->bQV,length_take->bOH,replicate_succ->bQZ,length_cons->bPB,append_assoc->bNM,drop_eq_nil_of_le->bRG,cons_append->bNJ,take->bRM,drop->bRN,append_nil->bRR,getLast?_cons_cons->bRV,take_succ_eq_append_getElem->bRW,getElem?_eq_none->bNN,drop_zero->bRY,drop_eq_getElem_cons->bRZ,replicate_zero->bSD,getElem?_map->bLV,take_length->bSM,range->bNB,singleton_append->bSN,mapM_cons->bMY,mem_cons_self->bLY,mem_cons_of_mem->bMK,getElem?_take_of_lt->bLW,mem_of_getElem?->bMA,nodup_cons->bQE,mem_cons->bMX,length_drop->bPQ,getElem?_drop->bMD,mem_of_mem_take->bSW,mem_of_mem_drop->bSX,replicate_succ'->bSY,take_append_drop->bSZ,getElem?_eq_getElem->bMH,getLast?_append->bTA,take_of_length_le->bTC,mem_or_eq_of_mem_set->bTD,drop_set->bTE,set_append_right->bTI,set_cons_zero->bTJ,nil_append->bPT
open Nat renaming mul_comm->bQP,beq->bLS,pow_succ->bQQ,le_refl->bLR,mul_add->bQR,pow_add->bQS,mul_assoc->bQU,pow_pos->bOQ,mod_lt->bNZ,lt_or_ge->bMG,eq_of_beq_eq_true->bMF,ble->bLU,le_of_ble_eq_true->bNP,add_zero->bMS,div_add_mod->bQX,mul_le_mul_left->bOF,pow_le_pow_right->bOR,add_assoc->bPH,zero_add->bLT,lt_of_lt_of_le->bMR,strongRecOn->bRC,le_trans->bMN,div_div_eq_div_mul->bRI,exists_eq_add_of_le->bMW,div_lt_of_lt_mul->bRL,div_eq_of_lt->bRO,blt->bMC,add_comm->bRS,beq_refl->bPX,zero_le->bRU,min_eq_left->bRX,add_mod->bSA,mul_mod->bSB,sub_self->bPV,lt_of_le_of_lt->bSG,add_mul_div_left->bSH,pow_mul->bSJ,pow_lt_pow_right->bSK,mul_zero->bSO,sub_le->bSP,dvd_of_mod_eq_zero->bSQ,mul_pos->bSS,add_right_comm->bSU,mul_left_comm->bTO
open Option renaming bind_some->bNI,isSome_or->bRT
open Rat renaming le_trans->bQW,le_of_lt->bQY,mul_pos->bRK,le_refl->bSF,natCast_mul->bSR
open Bool renaming true_and->bOS,not_true->bNR,false_and->bRA,true_or->bRB,false_or->bNS,and_eq_true->bLX,and_false->bRD,or_true->bRQ,or_eq_true->bNA,not_eq_true'->bMZ
namespace Go.Proofs.YtplagoepbghhpaaGreatDoor
namespace AI
open Go Go.RowKit
theorem uR{P:Program}{f:FuncId}{fn:Func}{c:Code}(hf:P.funcs[f]?=some fn)(hb:fn.body=some c)(hn:(fn.name== "runtime.NumGoroutine")=false):sQ P f:=by
 intro vs w;have Zc:¬fn.name= "runtime.NumGoroutine":=by simpa using hn
 simp[callFunc,hf,hb,Zc]
theorem Kr{α β:Type}{P:Program}{w:World}{f:α->Sem β}{g:α->β}:∀{l:List α},(∀x∈l,(f x).run P w=.ok (g x) w)->(l.mapM f).run P w=.ok (l.map g) w
 | [],_=>rfl
 |x :: l,h=>by
  rw[bMY,Sem.run_bind,h x (bLY ..),Result.andThen_ok,Sem.run_bind,Kr fun y hy=>h y (bMK _ hy)];rfl
theorem aDA{α β:Type}{P:Program}{w:World}{f:α->Sem β}{g:α->β}{arr:Array α}(h:∀x∈arr.toList,(f x).run P w=.ok (g x) w) :
  (arr.mapM f).run P w=.ok (arr.toList.map g).toArray w:=by
 rw[Array.mapM_eq_mapM_toList,map_eq_pure_bind,Sem.run_bind,Kr h];rfl
section
variable {P:Program} {E:Env} {X:Nat->Prop} {w0:Old} {ρ:Nat->Nat} {al:Nat->Prop} {st:St} {a:Act} {w:World}
def ownOf(st:St):ResultVar->Option Nat
 | .tmp t=>match st.fr t with
  | .v (.one (.buf i _))=>some i
  | .v (.one (.view i _ _))=>some i
  |_=>none
 | .cell _ _=>none
def By(a:Act):ResultVar->Sem Value
 | .tmp t=>pure (a.tmps.getD t undef)
 | .cell d t=>do loadVar t (<-asAddr (a.tmps.getD d undef))
def Good(E:Env)(X:Nat->Prop)(base:Nat)(st:St)(ρ:Nat->Nat)(w:World)(r:ResultVar)(v:Value):D->Prop
 | .own e k ns=>∃i,ownOf st r=some i/\(∃b,st.hp i=some b)/\Lj base w (ρ i) e k ns v
 | .back i off n=>i∈E.io/\∀blk k ns,st.hp i=some blk->blk.cont=.ints k ns->Uu w (ρ i) ns.length off n v
 |d=>lL (XO X ρ st.hp) w d v
theorem Sw(hT:mH P E.T)(h:gV E X w0 ρ al st.fr st.hp a w){r:ResultVar}{d:D}(hd:resD E st r=some d) :
  ∃v,(By a r).run P w=.ok v w/\Good E X w0.w.heap.size st ρ w r v d:=by
 cases r with
 |tmp t =>
  have hr:=h.fr t;refine⟨_,rfl,?_⟩;unfold resD at hd;simp only at hd;split at hd
  ·rename_i cs hf;cases hd;rw[hf]at hr;exact hr
  ·rename_i x hf;cases hd;rw[hf]at hr;exact hr
  ·rename_i i n hf;cases Cn:bMC i E.n0 with
   |true=>rw[Cn]at hd;cases hd
   |false =>
   rw[Cn]at hd;simp only[cond_false]at hd;have Cn:E.n0<=i:=by
    have:¬i<E.n0:=fun h=>by
     have h2:bMC i E.n0=true:=by rw[Nat.blt_eq];exact h
     rw[h2]at Cn;cases Cn
    omega
   split at hd
   ·rename_i e k ns hb;cases hd;rw[hf]at hr;obtain⟨cap,hv,hle,hc,_⟩:=hr;obtain⟨e1,e2,e3⟩:=hc _ k ns hb rfl;obtain⟨hw,arr,hg,Qn⟩:=h.blk i _ hb;have hs:cap<=arr.size:=by unfold jM at e3;rw[hg]at e3;exact e3
    refine⟨i,by simp[ownOf,hf],⟨_,hb⟩,arr,cap,by rw[<-e1];exact hv,hw.new Cn,hg,by omega,hs,e2,Qn.2⟩
   ·cases hd
  ·rename_i i off n hf;rw[hf]at hr;obtain⟨o',cap,hv,yH,hA,hA0,hc⟩:=hr;cases Hg:E.io.elem i with
   |true =>
    rw[Hg]at hd;simp only[cond_true]at hd;cases hd;exact⟨by simpa using Hg,fun blk k ns hb hk=>⟨o',cap,hv,yH,hA,hA0,hc blk k ns hb hk⟩⟩
   |false =>
   rw[Hg]at hd;simp only[cond_false]at hd;cases Cn:bMC i E.n0 with
   |true=>rw[Cn]at hd;cases hd
   |false =>
   rw[Cn]at hd;simp only[cond_false]at hd;have Cn:E.n0<=i:=by
    have:¬i<E.n0:=fun h=>by
     have h2:bMC i E.n0=true:=by rw[Nat.blt_eq];exact h
     rw[h2]at Cn;cases Cn
    omega
   split at hd
   ·rename_i e k ns hb;cases hd;obtain⟨e1,e2,e3⟩:=hc _ k ns hb rfl;obtain⟨hw,arr,hg,Qn⟩:=h.blk i _ hb;have hs:cap<=arr.size:=by unfold jM at e3;rw[hg]at e3;exact e3
    have hl:(ns.take n).length=n:=by rw[bOH];omega
    refine⟨i,by simp[ownOf,hf],⟨_,hb⟩,arr,cap,by rw[hl,<-hA0 rfl];exact hv,hw.new Cn,hg,by rw[hl];exact yH,hs,e2,fun j m hj=>Qn.2 j m ?_⟩;have Tr:j<n:=by have:=aR hj;omega
    rw[bLW Tr]at hj;exact hj
   ·cases hd
  ·cases hd
 |cell t ty =>
  have hr:=h.fr t;unfold resD at hd;simp only at hd;split at hd
  ·rename_i i off ti hf uD;rw[hf]at hr;have hr:a.tmps.getD t undef=.pointer (some ⟨ρ i,off,none⟩):=hr;split at hd
   ·rename_i e cs hb;obtain⟨_,arr,hg,Qn⟩:=h.blk i _ hb;have hl:∀x,partOf ti cs off=some x->∃v,(By a (.cell t ty)).run P w=.ok v w/\Bf ρ st.hp (XO X ρ st.hp) w x v/\refsV x=[]:=by
     intro x hx;obtain⟨v,h1,h2,h3⟩:=Mr (P:=P) (hT ty ti uD) (b:=ρ i) (off:=0) (cs:=cs) (fun j s hs=>by
      obtain⟨u,hu,hr⟩:=Qn.2 j s hs;exact⟨u,by rw[cell_of_row w (ρ i) _ arr e (0,0) hg];simpa using hu,hr⟩) hx (ρ:=ρ) (hp':=st.hp)
     rw[bLT]at h1;refine⟨v,?_,h2,h3⟩;unfold By;rw[Sem.run_bind,hr];simpa [asAddr] using h1
    split at hd
    ·rename_i Hr hx;cases hd;obtain⟨v,h1,h2,_⟩:=hl _ hx;exact⟨v,h1,h2⟩
    ·rename_i x hx;cases hd;obtain⟨v,h1,h2,_⟩:=hl _ hx;exact⟨v,h1,h2⟩
    ·cases hd
   ·cases hd
  ·cases hd
theorem wM{α β:Type}{f:α->Option β}:∀{l:List α} {ys:List β},l.mapM f=some ys->ys.length=l.length/\∀(i:Nat) (x:α),l[i]?=some x->∃y,ys[i]?=some y/\f x=some y
 | [],ys,h=>by simp at h;subst h;simp
 |x :: l,ys,h=>by
  rw[bMY]at h;cases hx:f x with
  |none=>rw[hx]at h;cases h
  |some y =>
   cases hl:l.mapM f with
   |none=>rw[hx,hl]at h;cases h
   |some ys' =>
    rw[hx,hl]at h;cases h;obtain⟨h1,h2⟩:=wM hl;refine⟨by simp[h1],fun i x' hi=>?_⟩
    match i with
    |0=>simp at hi;subst hi;exact⟨y,rfl,hx⟩
    |i+1=>simp at hi;obtain⟨y',e1,e2⟩:=h2 i x' hi;exact⟨y',by simpa using e1,e2⟩
theorem Gq:∀{l:List ResultVar} {j:Nat} {r:ResultVar} {i:Nat},l[j]?=some r->ownOf st r=some i->i∈ownIds st l
 | [],j,r,i,h,_=>by simp at h
 |r0 :: l,0,r,i,h,ho=>by
  simp at h;subst h;cases r0 with
  |cell=>cases ho
  |tmp t =>
   simp only[ownOf]at ho;split at ho
   ·rename_i i' n hf;cases ho;simp[ownIds,hf]
   ·rename_i i' o' n hf;cases ho;simp[ownIds,hf]
   ·cases ho
 |r0 :: l,j+1,r,i,h,ho=>by
  have:=Gq (l:=l) (j:=j) (by simpa using h) ho;cases r0 with
  |cell=>exact this
  |tmp t=>simp only[ownIds];exact List.mem_append_right _ this
theorem xT:∀{xs ys:List Nat},nodup (xs ++ ys)=true->nodup ys=true/\∀x∈xs,x ∉ ys
 | [],ys,h=>⟨h,by simp⟩
 |x :: xs,ys,h=>by
  simp only[bNJ,nodup,bLX]at h;obtain⟨h1,h2⟩:=xT h.2;refine⟨h1,fun y hy=>?_⟩;rcases List.mem_cons.1 hy with rfl |hy
  ·intro hm;have:(xs ++ ys).elem y=true:=by simp[hm]
   rw[this]at h;simp at h
  ·exact h2 y hy
theorem Gr:∀{l:List ResultVar} {j j':Nat} {r r':ResultVar} {i:Nat},nodup (ownIds st l)=true->l[j]?=some r->l[j']?=some r'->ownOf st r=some i->ownOf st r'=some i->j=j'
 | [],j,j',r,r',i,_,h,_,_,_=>by simp at h
 |r0 :: l,j,j',r,r',i,hn,h,h',ho,aAR=>by
  have vJ:nodup (ownIds st l)=true:=by
   cases r0 with
   |cell=>exact hn
   |tmp t=>simp only[ownIds]at hn;exact(xT hn).1
  have Xc:∀r1,ownOf st r0=some i->∀k:Nat,l[k]?=some r1->ownOf st r1=some i->False:=by
   intro r1 h0 k hk h1;have hm:=Gq hk h1;cases r0 with
   |cell=>cases h0
   |tmp t =>
    simp only[ownOf]at h0;split at h0
    ·rename_i i' n hf;cases h0;simp only[ownIds,hf]at hn;exact(xT hn).2 i (by simp) hm
    ·rename_i i' o' n hf;cases h0;simp only[ownIds,hf]at hn;exact(xT hn).2 i (by simp) hm
    ·cases h0
  match j,j' with
  |0,0=>rfl
  |0,j'+1=>simp at h h';subst h;exact(Xc r' ho j' h' aAR).elim
  |j+1,0=>simp at h h';subst h';exact(Xc r aAR j h ho).elim
  |j+1,j'+1=>simp at h h';exact congrArg (·+1) (Gr vJ h h' ho aAR)
theorem Hz:∀{ds:List D} {i t:Nat},(∃d,ds[t]?=some d/\argFrI i ds t=argAt (i+t) d)\/argFrI i ds t=.any
 | [],_,_=>.inr (by simp[argFrI])
 |d :: _,_,0=>.inl ⟨d,rfl,rfl⟩
 |_ :: ds,i,t+1=>by
  rcases Hz (ds:=ds) (i:=i+1) (t:=t)with ⟨d,h1,h2⟩ |h
  ·exact .inl ⟨d,by simpa using h1,by rw[show i+(t+1)=i+1+t by omega];exact h2⟩
  ·exact .inr h
theorem Lh:∀{ds:List D} {i j:Nat} {b:iM},argHp i ds j=some b->i<=j/\∃e k ns off n,ds[j-i]?=some (.io e k ns off n)/\b=⟨e,.ints k ns⟩
 | [],_,_,_,h=>by cases h
 |d :: ds,i,j,b,h=>by
  have tail:argHp (i+1) ds j=some b->i<=j/\∃e k ns off n,(d :: ds)[j-i]?=some (.io e k ns off n)/\b=⟨e,.ints k ns⟩:=by
   intro h;obtain⟨h1,e,k,ns,off,n,h2,h3⟩:=Lh h;exact⟨by omega,e,k,ns,off,n,by rw[show j-i=(j-(i+1))+1 by omega];simpa using h2,h3⟩
  cases d with
  |io e k ns off n =>
   simp only[argHp]at h;cases hb:bLS j i with
   |true =>
    rw[hb]at h;have:=bMF hb;subst this;cases h;exact⟨bLR _,e,k,ns,off,n,by simp,rfl⟩
   |false=>rw[hb]at h;exact tail h
  |s=>exact tail h
  |rows=>exact tail h
  |agg=>exact tail h
  |own=>exact tail h
  |back=>exact tail h
theorem Rk:∀{ds:List D} {i t:Nat} {e:TypeId} {k:IntKind} {ns:List Int} {off n:Nat},ds[t]?=some (.io e k ns off n)->argHp i ds (i+t)=some ⟨e,.ints k ns⟩
 | [],_,_,_,_,_,_,_,h=>by simp at h
 |d :: ds,i,0,e,k,ns,off,n,h=>by
  simp at h;subst h;simp[argHp]
 |d :: ds,i,t+1,e,k,ns,off,n,h=>by
  have ih:=Rk (i:=i+1) (ds:=ds) (t:=t) (by simpa using h);rw[show i+1+t=i+(t+1) by omega]at ih;cases d with
  |io e' k' lC aSF n' =>
   simp only[argHp];rw[show bLS (i+(t+1)) i=false from by
    cases hb:bLS (i+(t+1)) i with
    |false=>rfl
    |true=>have:=bMF hb;omega]
   exact ih
  |s=>exact ih
  |rows=>exact ih
  |agg=>exact ih
  |own=>exact ih
  |back=>exact ih
theorem Wg{Y:Nat->Prop}{w:World}{g:Nat->Nat}{i:Nat}{v:Value}{d:D}(hn:Am d=false)(h:Ye Y w g i v d):lL Y w d v:=by
 cases d with
 |io=>cases hn
 |s x=>exact h
 |rows a b c=>exact h
 |agg cs=>exact h
 |own a b c=>exact h
 |back=>exact h
end
theorem oneOf(vs:List Value):(if h:vs.toArray.size=1 then vs.toArray[0]else Value.tuple vs.toArray)=resV vs:=by
 match vs with
 | []=>simp[resV]
 | [v]=>simp[resV]
 |_ :: _ :: _=>simp[resV]
theorem fn_core{P:Program}{E:Env}(hT:mH P E.T)(hC:iS P E)(hm:P.follows .mixedOrders=true){f:FuncId}{fn:Func}{c:Code}(hf:P.funcs[f]?=some fn)(hb:fn.body=some c)(aTO:E.nt=fn.ntmps)
  {ds rs js:List D} (hle:ds.length<=fn.ntmps) (he:aF E fn c ds=some (rs ++ js)) (aDV:js.length=E.io.length) (iN:∀i,i∈E.io->i<E.n0)
  (Jc:∀(i:Nat) (d:D),ds[i]?=some d->Am d=true->i∈E.io) (wT:∀i,i∈E.io->∃e k ns off n,ds[i]?=some (.io e k ns off n))
  {Y:Nat->Prop} {w:World} {vs:List Value} {g0:Nat->Nat} (hY:∀b,Y b->b<w.heap.size) (hG:GlobOk E.glob Y w) (hlen:ds.length=vs.length)
  (hargs:∀(i:Nat) (d:D) (v:Value),ds[i]?=some d->vs[i]?=some v->Ye Y w g0 i v d) (aUF:∀i j,i∈E.io->j∈E.io->g0 i=g0 j->i=j) :
  Calls P f vs.toArray w fun e w'=>∃vF,e=.returned (resV vF)/\zL (zE E.io g0) w w'/\Oe Y w.heap.size w' E.io js g0 rs vF/\∀(j i:Nat) (d:D),E.io[j]?=some i->js[j]?=some d->Om w' (g0 i) d:=by
 refine calls_of_wp hf hb ?_;have bBD:∀i e k ns off n,ds[i]?=some (.io e k ns off n)->Y (g0 i)/\∃v,vs[i]?=some v/\aQJ w (g0 i) e k ns off n v:=by
  intro i e k ns off n hi;obtain⟨v,hv⟩:=bA (l:=vs) (i:=i) (by have:=aR hi;omega);have:=hargs i _ v hi hv;exact⟨this.1,v,hv,this.2⟩
 have bBA:∀b,zE E.io g0 b->Y b:=by
  rintro b ⟨i,hi,rfl⟩;obtain⟨e,k,ns,off,n,h⟩:=wT i hi;exact(bBD i e k ns off n h).1
 obtain⟨w0,Yy⟩:∃w0:Old,w0=⟨w,zE E.io g0,g0,fun b hb=>hY b (bBA b hb)⟩:=⟨_,rfl⟩;have Yx:w0.w=w:=by rw[Yy]
 have aDL:w0.M=zE E.io g0:=by rw[Yy]
 have aSW:w0.g=g0:=by rw[Yy]
 have aTL:∀j b,argHp 0 ds j=some b->j∈E.io/\∃e k ns off n,ds[j]?=some (.io e k ns off n)/\b=⟨e,.ints k ns⟩:=by
  intro j b hj;obtain⟨_,e,k,ns,off,n,h1,h2⟩:=Lh hj;rw[Nat.sub_zero]at h1;exact⟨Jc j _ h1 rfl,e,k,ns,off,n,h1,h2⟩
 have Tl:gV E (fun b=>Y b/\¬zE E.io g0 b) w0 g0 (fun i=>i<E.n0) (Rl ds) (argHp 0 ds) { tmps:=vs.toArray ++ Array.replicate (fn.ntmps-vs.toArray.size) undef,defers:=[] } w:=by
  have hx:∀b,XO (fun b=>Y b/\¬zE E.io g0 b) g0 (argHp 0 ds) b->Y b:=by
   rintro b (h |⟨i,bl,h,rfl⟩)
   ·exact h.1
   ·exact bBA _ ⟨i,(aTL i bl h).1,rfl⟩
  have hl:fV Y w (XO (fun b=>Y b/\¬zE E.io g0 b) g0 (argHp 0 ds)) w:=⟨bLR _,fun b _ h=>⟨rfl,fun h'=>h (hx b h')⟩⟩;have rN:∀t,(∃d,ds[t]?=some d/\Rl ds t=argAt t d)\/Rl ds t=.any:=by
   intro t;have:=Hz (ds:=ds) (i:=0) (t:=t);rw[bLT]at this;exact this
  refine { fr:=?_,sz:=by simp[aTO];omega,nod:=rfl,blk:=?_,inj:=?_,alh:=?_,alr:=?_,below:=by rw[Yx];exact Kept.refl _ _,x0:=?_,glob:=?_,mg:=?_,al0:=fun _ h=>h,uK:=fun _ _=>by rw[aSW] }
  ·intro t;rcases rN t with ⟨d,h1,h2⟩ |h
   ·rw[h2];have ht:=aR h1;obtain⟨v,hv⟩:=bA (l:=vs) (i:=t) (by omega);have e:(vs.toArray ++ Array.replicate (fn.ntmps-vs.toArray.size) undef).getD t undef=v:=by
     rw[Array.getD_eq_getD_getElem?,Array.getElem?_append_left (by simp;omega)];simp[hv]
    rw[e];cases hd:Am d with
    |false =>
     have hr:=(Wg hd (hargs t d v h1 hv)).later hl;cases d with
     |io=>cases hd
     |own e k ns=>exact hr
     |s x=>exact hr
     |rows a b c=>exact hr
     |agg cs=>exact hr
     |back=>exact hr.elim
    |true =>
     cases d with
     |io e' k ns off n =>
      obtain⟨_,v',aLU,⟨o',cap,h3,h4,h5,h6,h7⟩,_⟩:=bBD t _ _ _ _ _ h1;rw[hv]at aLU;cases aLU;refine⟨o',cap,h3,h4,h5,h6,fun blk k1 Sa vK Eg=>?_⟩;have:=Rk (i:=0) h1;rw[bLT]at this;rw[this]at vK;cases vK;cases Eg;exact h7
     |own=>cases hd
     |s=>cases hd
     |rows=>cases hd
     |agg=>cases hd
     |back=>cases hd
   ·rw[h];trivial
  ·intro id b hb;obtain⟨h1,e,k,ns,off,n,h2,rfl⟩:=aTL id b hb;obtain⟨_,v,_,_,h3⟩:=bBD id _ _ _ _ _ h2;exact⟨.inr ⟨iN id h1,by rw[aDL];exact⟨id,h1,rfl⟩⟩,h3⟩
  ·intro id Sb b b' h1 h2 h3;exact aUF id Sb (aTL id b h1).1 (aTL Sb b' h2).1 h3
  ·intro id b h1;exact iN id (aTL id b h1).1
  ·intro t i hi;rcases rN t with ⟨d,h1,h2⟩ |h
   ·rw[h2]at hi;cases d with
    |io e' k ns off n =>
     simp[argAt,refs,refsV,refsL]at hi;subst hi;exact iN _ (Jc _ _ h1 rfl)
    |own=>cases hi
    |s=>cases hi
    |rows=>cases hi
    |agg=>cases hi
    |back=>cases hi
   ·rw[h]at hi;cases hi
  ·rintro b ⟨h1,h2⟩ (hm |hm)
   ·rw[Yx]at hm;have:=hY b h1;omega
   ·rw[aDL]at hm;exact h2 hm
  ·rw[Yx];intro g k ns hg;obtain⟨h1,h2,h3⟩:=hG g k ns hg;exact⟨h1,fun h=>h2 h.1,h3.later ⟨bLR _,fun b _ hb=>⟨rfl,fun h=>hb h.1⟩⟩⟩
  ·intro g q hg hm;rw[aDL]at hm;obtain⟨k,ns⟩:=q;exact(hG g k ns hg).2.1 (bBA _ hm)
 have bJV:∀b,Y b->(Y b/\¬zE E.io g0 b)\/zE E.io g0 b:=fun b hb=>by
  by_cases h:zE E.io g0 b
  ·exact .inr h
  ·exact .inl ⟨hb,h⟩
 unfold aF at he;refine Uf hT hC hm _ c _ _ _ g0 _ w Tl he ?_;intro ex st ρ a' w' hK hs;have bAD:(∃i,ex=.exit i)\/(nodup (ownIds st fn.results.toList)=true/\fn.results.toList.mapM (resD E st)=some rs/\E.io.mapM (aSO st)=some js):=by
  have vJ:(bif nodup (ownIds st fn.results.toList)then(match E.io with
  | []=>fn.results.toList.mapM (resD E st)
  |p :: ps=>match fn.results.toList.mapM (resD E st),(p :: ps).mapM (aSO st)with
   |some rs,some is=>some (rs ++ is)
   |_,_=>none)else none)=some (rs ++ js)->(nodup (ownIds st fn.results.toList)=true/\fn.results.toList.mapM (resD E st)=some rs/\E.io.mapM (aSO st)=some js):=by
   intro hK;cases hn:nodup (ownIds st fn.results.toList)with
   |false=>rw[hn]at hK;cases hK
   |true =>
    rw[hn]at hK;simp only[cond_true]at hK;refine⟨rfl,?_⟩
    match Hg:E.io,hK with
    | [],hK =>
     rw[Hg]at aDV;have:js=[]:=List.eq_nil_of_length_eq_zero aDV;subst this;rw[bRR]at hK;exact⟨hK,rfl⟩
    |p :: ps,hK =>
     simp only at hK;split at hK
     ·rename_i aIM js' h1 h2;have aZS:=(wM h2).1;rw[Hg]at aDV;have:=List.append_inj' (Option.some.inj hK) (by rw[aZS,aDV]);rw[h1,h2,this.1,this.2];exact⟨rfl,rfl⟩
     ·cases hK
  cases ex with
  |exit i=>exact .inl ⟨i,rfl⟩
  |normal=>exact .inr (vJ hK)
  |ret=>exact .inr (vJ hK)
 rcases bAD with ⟨i,rfl⟩ |⟨hn,aTH,bIR⟩
 ·cases hK
 have key:a'.defers=[]/\∃v,(results fn a'.tmps).run P w'=.ok v w'/\∃vF,Ending.returned v=.returned (resV vF)/\zL (zE E.io g0) w w'/\Oe Y w.heap.size w' E.io js g0 rs vF/\∀(j i:Nat) (d:D),E.io[j]?=some i->js[j]?=some d->Om w' (g0 i) d:=by
  refine⟨hs.nod,?_⟩;obtain⟨aUA,aMI⟩:=wM aTH
  let X':Nat->Prop:=fun b=>Y b/\¬zE E.io g0 b
  let aPB (r:ResultVar) (d:D) (v:Value):Prop:=(By a' r).run P w'=.ok v w'/\Good E X' w.heap.size st ρ w' r v d
  have hex:∀r,∃v,∀d,resD E st r=some d->aPB r d v:=by
   intro r;cases hd:resD E st r with
   |none=>exact⟨undef,fun d h=>by cases h⟩
   |some d =>
    obtain⟨v,h1,h2⟩:=Sw hT hs hd;rw[Yx]at h2;exact⟨v,fun d' h=>by cases h;exact⟨h1,h2⟩⟩
  obtain⟨g,bJE⟩:=Classical.axiomOfChoice hex;have hg:∀r d,r∈fn.results.toList->resD E st r=some d->aPB r d (g r):=fun r d _ hd=>bJE r d hd
  have eZ:(fn.results.mapM (By a')).run P w'=.ok (fn.results.toList.map g).toArray w' :=
   aDA fun r hr=>by
    obtain⟨i,hi⟩:=List.mem_iff_getElem?.1 hr;obtain⟨d,_,hd⟩:=aMI i r hi;exact(hg r d hr hd).1
  have Tm:(results fn a'.tmps).run P w'=.ok (resV (fn.results.toList.map g)) w':=by
   have e:results fn a'.tmps=(fn.results.mapM (By a') >>= fun vs=>pure (if h:vs.size=1 then vs[0]else Value.tuple vs)):=by
    unfold results;congr 1
   rw[e,Sem.run_bind,eZ,Result.andThen_ok,Sem.run_pure];congr 1;exact oneOf _
  have Hf:=hs.below;rw[Yx]at Hf;have aTC:zL (zE E.io g0) w w':=⟨Hf.os,Hf.tape,Hf.output,Hf.size,fun b hb hM=>Hf.block b (fun hm=>by
   rcases hm with hm |hm
   ·rw[Yx]at hm;omega
   ·rw[aDL]at hm;exact hM hm),fun b hM=>Hf.room b (by rw[aDL];exact hM)⟩
  have aDW:∀(j i:Nat) (d:D),E.io[j]?=some i->js[j]?=some d->∃e k ns,d=.io e k ns 0 0/\st.hp i=some ⟨e,.ints k ns⟩/\ρ i=g0 i:=by
   intro j i d hj hd;obtain⟨_,h2⟩:=wM bIR;obtain⟨d',h3,h4⟩:=h2 j i hj;rw[hd]at h3;cases h3;unfold aSO at h4;split at h4
   ·rename_i e k ns hb;cases h4;refine⟨e,k,ns,rfl,hb,?_⟩;have:=hs.uK i (iN i (bMA hj));rw[aSW]at this;exact this
   ·cases h4
  have bJW:∀b,Y b->XO X' ρ st.hp b:=by
   intro b hb;rcases bJV b hb with h |⟨i,hi,rfl⟩
   ·exact .inl h
   ·obtain⟨j,hj⟩:=List.mem_iff_getElem?.1 hi;obtain⟨d,hd⟩:=bA (l:=js) (i:=j) (by have:=aR hj;omega);obtain⟨e,k,ns,_,h1,h2⟩:=aDW j i d hj hd;exact .inr ⟨i,_,h1,h2⟩
  refine⟨_,Tm,_,rfl,aTC,?_,?_⟩
  ·have bES:∀(i:Nat) (d:D),rs[i]?=some d->∃r,fn.results.toList[i]?=some r/\resD E st r=some d/\aPB r d (g r):=by
    intro i d hi;obtain⟨r,hr⟩:=bA (l:=fn.results.toList) (i:=i) (by have:=aR hi;omega);obtain⟨d',h1,h2⟩:=aMI i r hr;rw[hi]at h1;cases h1;exact⟨r,hr,h2,hg r d (bMA hr) h2⟩
   let blk (i:Nat):Nat:=match fn.results.toList[i]? with
    |some r=>match ownOf st r with
     |some j=>ρ j
     |none=>0
    |none=>0
   have pP:∀(i:Nat) (d:D),rs[i]?=some d->iU d=true->∃r j b,fn.results.toList[i]?=some r/\ownOf st r=some j/\st.hp j=some b/\blk i=ρ j:=by
    intro i d hi ho;obtain⟨r,h1,h2,h3⟩:=bES i d hi;cases d with
    |own e k ns =>
     obtain⟨_,j,h4,⟨b,h5⟩,_⟩:=h3;exact⟨r,j,b,h1,h4,h5,by simp only[blk,h1,h4]⟩
    |_=>cases ho
   refine⟨blk,by simp[aUA],?_,?_⟩
   ·intro i j d d' hi hj ho aAR yI;obtain⟨r,k,b,h1,h2,h3,h4⟩:=pP i d hi ho;obtain⟨r',k',b',Zi,aRF,bKN,bBJ⟩:=pP j d' hj aAR;rw[h4,bBJ]at yI;have:=hs.inj k k' b b' h3 bKN yI;subst this;exact Gr hn h1 Zi h2 aRF
   ·intro i d v hi hv;obtain⟨r,h1,h2,h3⟩:=bES i d hi;have e:v=g r:=by
     rw[bLV,h1]at hv;exact(Option.some.inj hv).symm
    subst e;have hl:fV (XO X' ρ st.hp) w' (fun b=>Y b\/∃(j:Nat) (d':D),rs[j]?=some d'/\iU d'=true/\blk j=b) w':=by
     refine⟨bLR _,fun b _ hx=>⟨rfl,fun hb=>hx ?_⟩⟩;rcases hb with hb |⟨j,d',hj,ho,rfl⟩
     ·exact bJW b hb
     ·obtain⟨r',k,b',_,_,h5,h6⟩:=pP j d' hj ho;exact .inr ⟨k,b',h5,h6.symm⟩
    cases d with
    |own e k ns =>
     obtain⟨_,j,h4,_,h5⟩:=h3;have:blk i=ρ j:=by simp only[blk,h1,h4]
     show Lj _ _ (blk i) _ _ _ _;rw[this];exact h5
    |s x=>exact lL.later hl (d:=.s x) h3.2
    |rows sz n fr=>exact lL.later hl (d:=.rows sz n fr) h3.2
    |agg cs=>exact lL.later hl (d:=.agg cs) h3.2
    |io=>exact h3.2.elim
    |back p off n =>
     obtain⟨_,h4,h5⟩:=h3;obtain⟨j,hj⟩:=List.mem_iff_getElem?.1 h4;obtain⟨d,hd⟩:=bA (l:=js) (i:=j) (by have:=aR hj;omega);obtain⟨e,k,ns,rfl,h6,h7⟩:=aDW j p d hj hd;have:=h5 _ k ns h6 rfl;rw[h7]at this;exact⟨j,e,k,ns,hj,hd,this⟩
  ·intro j i d hj hd;obtain⟨e,k,ns,rfl,h1,h2⟩:=aDW j i d hj hd;have:=(hs.blk i _ h1).2;rw[h2]at this;exact this
 cases ex with
 |normal=>exact key
 |ret=>exact key
 |exit i=>cases hK
theorem zL.below{M:Nat->Prop}(hM:∀b,¬M b){w w':World}(h:zL M w w'):Below w.heap.size w w':=⟨h.os,h.tape,h.output,h.size,fun k hk=>h.block k hk (hM k)⟩
theorem fn_contract{P:Program}{E:Env}(hT:mH P E.T)(hC:iS P E)(hm:P.follows .mixedOrders=true){f:FuncId}{fn:Func}{c:Code}(hf:P.funcs[f]?=some fn)(hb:fn.body=some c)(aTO:E.nt=fn.ntmps)(Hg:E.io=[])
  {ds rs:List D} (hle:ds.length<=fn.ntmps) (he:aF E fn c ds=some rs):Contract P E.glob f ds rs:=by
 intro Y w vs hY hG hlen hargs;have vU:∀(i:Nat) (d:D),ds[i]?=some d->Am d=false:=by
  intro i d hi;obtain⟨v,hv⟩:=bA (l:=vs) (i:=i) (by have:=aR hi;omega);have:=hargs i d v hi hv;cases d with
  |io=>exact this.elim
  |s=>rfl
  |rows=>rfl
  |agg=>rfl
  |own=>rfl
  |back=>rfl
 have:=fn_core hT hC hm hf hb aTO (rs:=rs) (js:=[]) hle (by rw[bRR];exact he) (by rw[Hg];rfl) (by rw[Hg];intro i hi;cases hi) (fun i d hi hd=>by rw[vU i d hi]at hd;cases hd) (by rw[Hg];intro i hi;cases hi) (g0:=fun _=>0) hY hG hlen (fun i d v hi hv=>Hy (vU i d hi) (hargs i d v hi hv)) (by rw[Hg];intro i j hi;cases hi);refine this.mono ?_;rintro e w' ⟨vF,h1,h2,⟨g,h3,h4,h5⟩,_⟩;refine⟨vF,h1,h2.below (fun b=>by rintro ⟨i,hi,_⟩;rw[Hg]at hi;cases hi),g,h3,h4,fun i d v hi hv=>?_⟩;have:=h5 i d v hi hv;cases d with
 |own e k ns=>exact this
 |s x=>exact this
 |rows a b c=>exact this
 |agg cs=>exact this
 |io=>exact this
 |back p off n =>
  obtain⟨j,e,k,ns,h6,_⟩:=this;rw[Hg]at h6;simp at h6
theorem Jn{P:Program}{E:Env}(hT:mH P E.T)(hC:iS P E)(hm:P.follows .mixedOrders=true){f:FuncId}{fn:Func}{c:Code}(hf:P.funcs[f]?=some fn)(hb:fn.body=some c)(aTO:E.nt=fn.ntmps)(iN:∀i,i∈E.io->i<E.n0)
  {ds rs js:List D} (hle:ds.length<=fn.ntmps) (he:aF E fn c ds=some (rs ++ js)) (aDV:js.length=E.io.length) (hL:aMP E.io ds js) (Jc:∀(i:Nat) (d:D),ds[i]?=some d->Am d=true->i∈E.io):mS P E.glob f E.io ds rs js:=by
 refine⟨aDV,hL,fun Y w vs g hY hG hlen hargs wR=>?_⟩;refine fn_core hT hC hm hf hb aTO hle he aDV iN Jc (fun i hi=>?_) hY hG hlen hargs wR;obtain⟨j,hj⟩:=List.mem_iff_getElem?.1 hi;obtain⟨e,k,ns,off,n,_,_,_,h1,_⟩:=hL j i hj;exact⟨e,k,ns,off,n,h1⟩
def kindOf(P:Program):TypeDesc->Option TK
 | .bool=>some .bool
 | .int k=>some (.int k)
 | .float k=>some (.float k)
 | .slice e=>some (.slice e)
 | .string=>some .str
 | .struct fields=>(fields.toList.mapM fun(f:Field)=>match P.info? f.type,P.underlying f.type with
  |some fi,some fd=>some (f.offset,fi.size,pM fd)
  |_,_=>none).map .struct
 | .array len e=>match P.info? e,P.underlying e with
  |some ei,some ed=>some (.arr len ei.size (pM ed))
  |_,_=>none
 |_=>some .other
def tiOf(P:Program)(t:TypeId):Option TI:=match P.info? t,P.underlying t with
 |some i,some d=>match i.zero,kindOf P d with
  |some z,some k=>some ⟨i.size,i.bytes,z.cells.toList,k⟩
  |_,_=>none
 |_,_=>none
def aMY(ti:TI):Bool:=bLS ti.zero.length ti.size&&ti.zero.all fun v=>v.oneCell'
theorem Yu{P:Program}{d:TypeDesc}{k:TK}(h:kindOf P d=some k):Iq P k d:=by
 unfold kindOf at h;split at h
 ·cases h;rfl
 ·cases h;rfl
 ·cases h;rfl
 ·cases h;rfl
 ·cases h;rfl
 ·rename_i fields;cases hm:(fields.toList.mapM fun(f:Field)=>match P.info? f.type,P.underlying f.type with
   |some fi,some fd=>some (f.offset,fi.size,pM fd)
   |_,_=>none)with
  |none=>rw[hm]at h;cases h
  |some fs =>
   rw[hm]at h;cases h;obtain⟨h1,h2⟩:=wM hm;refine⟨fields,rfl,by simpa using h1,fun i f hf=>?_⟩;obtain⟨y,e1,e2⟩:=h2 i f (by simpa using hf);split at e2
   ·rename_i fi fd aWT bJG;cases e2;exact⟨fi,fd,aWT,bJG,e1⟩
   ·cases e2
 ·rename_i len e;split at h
  ·rename_i ei ed bJN aWU;cases h;exact⟨e,ei,ed,rfl,bJN,rfl,aWU,rfl⟩
  ·cases h
 ·rename_i h1 h2 h3 h4 h5 h6 h7;cases h;show pM d=false;cases d <;> first |rfl | (exfalso;exact h6 _ rfl) | (exfalso;exact h7 _ _ rfl)
def eqChk(P:Program)(t:TypeId)(ti:TI):Bool:=match uI ti with
 |some ks=>(match P.underlying t with
  |some (.struct fields)=>!P.stoodInHeld t&&(eqChkF P 0 fields.toList ks&&!P.eqGuardType P.depth t)
  |_=>false)
 |none=>true
theorem aET{P:Program}{t:TypeId}{ti:TI}(h:eqChk P t ti=true)(ks:List IntKind)(hk:uI ti=some ks):aQL P t ks:=by
 unfold eqChk at h;rw[hk]at h;simp only at h;split at h
 ·rename_i fields hf;simp only[bLX,bMZ]at h;exact⟨fields,hf,h.1,h.2.1,h.2.2⟩
 ·cases h
theorem aBH{P:Program}{t:TypeId}{ti:TI}(h:tiOf P t=some ti)(hk:aMY ti=true)(hq:eqChk P t ti=true):xD P t ti:=by
 have heq:=aET hq;unfold tiOf at h;split at h
 ·rename_i i d hi hd;split at h
  ·rename_i z k hz bIO;cases h;unfold aMY at hk;simp only[bLX]at hk;exact { i:=⟨i,hi,rfl,rfl,z,hz,rfl⟩,zl:=bMF hk.1,zo:=fun v hv=>List.all_eq_true.1 hk.2 v hv,d:=⟨d,hd,Yu bIO⟩,eq:=heq }
  ·cases h
 ·cases h
def tlook{α:Type}:List (Nat×α)->Nat->Option α
 | [],_=>none
 |p :: r,t=>bif bLS p.1 t then some p.2 else tlook r t
theorem tD{α:Type}:∀{l:List (Nat×α)} {t:Nat} {x:α},tlook l t=some x->(t,x)∈l
 | [],t,x,h=>by cases h
 |p :: r,t,x,h=>by
  simp only[tlook]at h;cases hb:bLS p.1 t with
  |true =>
   rw[hb]at h;cases h;have:=bMF hb;subst this;exact bLY ..
  |false=>rw[hb]at h;exact bMK _ (tD h)
theorem aIA{P:Program}(Fx:List (Nat×TI))(h:Fx.map (fun p=>tiOf P p.1)=Fx.map fun p=>some p.2)(hk:(Fx.all fun p=>aMY p.2)=true)(hq:(Fx.all fun p=>eqChk P p.1 p.2)=true):mH P (tlook Fx):=by
 intro t ti ht;have hm:=tD ht;have h1:tiOf P t=some ti:=by
  have:=List.map_inj_left.1 h (t,ti) hm;exact this
 exact aBH h1 (List.all_eq_true.1 hk (t,ti) hm) (List.all_eq_true.1 hq (t,ti) hm)
end AI
namespace AI
open Go Go.RowKit
theorem oD{R:Type}(E:Env)(draw:Bool)(ops:Array Oper)(base:Nat):∀(rest:List Oper) (i:Nat) (mJ:List Rec) (st:St) (K:St->Option R),
  opsK E draw ops base rest i mJ st K=(opsK E draw ops base rest i mJ st some).bind K
 | [],i,mJ,st,K=>rfl
 |o :: rest,i,mJ,st,K=>by
  unfold opsK;cases (gY E.nt o&&(!draw||uU i o))with
  |false=>rfl
  |true =>
   simp only[cond_true];split
   ·rw[mV,mV];cases oR E (base+8*i) o (evA E st.fr) st.hp with
    |none=>rfl
    |some p =>
     simp only[bNI];cases (!draw||mJ.all fun r=>indep ops r i o (qH o (evA E st.fr) p.2) (p.2.map (·.1)))with
     |false=>rfl
     |true=>exact oD E draw ops base rest (i+1) _ _ K
   ·split
    ·split
     ·rename_i want _ _ d _ _ b _;cases b with
      |true =>
       simp only[cond_true];cases (true==want)with
       |true =>
        simp only[cond_true];rw[mV,mV];cases oR E (base+8*i) o (evA E (xO st.fr d (yF (.bool true)))) st.hp with
        |none=>rfl
        |some p =>
         simp only[bNI];cases (!draw||mJ.all fun r=>indep ops r i o (qH o (evA E (xO st.fr d (yF (.bool true)))) p.2) (p.2.map (·.1)))with
         |false=>rfl
         |true=>exact oD E draw ops base rest (i+1) _ _ K
       |false =>
        simp only[cond_false];cases (!draw||mJ.all fun r=>indep ops r i o [] [])with
        |false=>rfl
        |true=>exact oD E draw ops base rest (i+1) _ _ K
      |false =>
       simp only[cond_false];cases (false==want)with
       |true =>
        simp only[cond_true];rw[mV,mV];cases oR E (base+8*i) o (evA E (xO st.fr d (yF (.bool false)))) st.hp with
        |none=>rfl
        |some p =>
         simp only[bNI];cases (!draw||mJ.all fun r=>indep ops r i o (qH o (evA E (xO st.fr d (yF (.bool false)))) p.2) (p.2.map (·.1)))with
         |false=>rfl
         |true=>exact oD E draw ops base rest (i+1) _ _ K
       |false =>
        simp only[cond_false];cases (!draw||mJ.all fun r=>indep ops r i o [] [])with
        |false=>rfl
        |true=>exact oD E draw ops base rest (i+1) _ _ K
     ·cases (!draw||mJ.all fun r=>indep ops r i o [] [])with
      |false=>rfl
      |true=>exact oD E draw ops base rest (i+1) _ _ K
     ·rfl
    ·rfl
section
variable (n0:Nat) (keep:List Nat) (f:St->Option (Ex×St))
def runs:Nat->List KV->Option (Ex×St)
 |0,_=>none
 |n+1,l=>(f (mk n0 keep l)).bind fun p=>match p.1 with
  | .normal=>runs n (canon n0 keep p.2)
  | .exit i=>some (.exit i,p.2)
  | .ret=>some (.ret,p.2)
theorem Bv:∀(n k:Nat) (l:List KV) (p:Ex×St),runs n0 keep f n l=some p->runs n0 keep f (n+k) l=some p
 |0,_,_,_,h=>by cases h
 |n+1,k,l,p,h=>by
  rw[bSU];simp only[runs]at h ⊢;cases hf:f (mk n0 keep l)with
  |none=>rw[hf]at h;cases h
  |some q =>
   rw[hf]at h;simp only[bNI]at h ⊢;obtain⟨ex,st⟩:=q;cases ex with
   |normal=>exact Bv n k _ p h
   |exit i=>exact h
   |ret=>exact h
theorem Gg{n m:Nat}{l:List KV}{p q:Ex×St}(h:runs n0 keep f n l=some p)(h':runs n0 keep f m l=some q):p=q:=by
 have h1:=Bv n0 keep f n m l p h;have h2:=Bv n0 keep f m n l q h';rw[bRS m n,h1]at h2;exact Option.some.inj h2
open Classical in
def aAO (l:List KV):Option (Ex×St):=if h:∃p,∃n,runs n0 keep f n l=some p then some (Classical.choose h)else none
theorem Gx{n:Nat}{l:List KV}{p:Ex×St}(h:runs n0 keep f n l=some p):aAO n0 keep f l=some p:=by
 unfold aAO;have hex:∃p,∃n,runs n0 keep f n l=some p:=⟨p,n,h⟩;rw[dif_pos hex];obtain⟨m,hm⟩:=Classical.choose_spec hex;rw[Gg n0 keep f hm h]
theorem Mj{l:List KV}{p:Ex×St}(h:aAO n0 keep f l=some p):∃n,runs n0 keep f n l=some p:=by
 unfold aAO at h;split at h
 ·rename_i hex;cases h;exact Classical.choose_spec hex
 ·cases h
theorem aNU(l:List KV):aAO n0 keep f l=(f (mk n0 keep l)).bind fun p=>match p.1 with
  | .normal=>aAO n0 keep f (canon n0 keep p.2)
  | .exit i=>some (.exit i,p.2)
  | .ret=>some (.ret,p.2):=by
 cases hf:f (mk n0 keep l)with
 |none =>
  cases hl:aAO n0 keep f l with
  |none=>rfl
  |some p =>
   obtain⟨n,hn⟩:=Mj n0 keep f hl;cases n with
   |zero=>cases hn
   |succ n=>simp only[runs,hf]at hn;cases hn
 |some q =>
  obtain⟨ex,st⟩:=q;simp only[bNI];cases ex with
  |normal =>
   simp only;cases hl:aAO n0 keep f (canon n0 keep st)with
   |some p =>
    obtain⟨n,hn⟩:=Mj n0 keep f hl;exact Gx n0 keep f (n:=n+1) (by simp only[runs,hf,bNI];exact hn)
   |none =>
    cases aWQ:aAO n0 keep f l with
    |none=>rfl
    |some p =>
     obtain⟨n,hn⟩:=Mj n0 keep f aWQ;cases n with
     |zero=>cases hn
     |succ n =>
      simp only[runs,hf,bNI]at hn;rw[Gx n0 keep f hn]at hl;cases hl
  |exit i=>exact Gx n0 keep f (n:=1) (by simp only[runs,hf,bNI])
  |ret=>exact Gx n0 keep f (n:=1) (by simp only[runs,hf,bNI])
def aAX{R:Type}(K:Ex->St->Option R)(rec:List KV->Option R)(l:List KV):Option R :=
 (f (mk n0 keep l)).bind fun p=>match p.1 with
  | .normal=>rec (canon n0 keep p.2)
  | .exit i=>K (.exit i) p.2
  | .ret=>K .ret p.2
theorem rB{R:Type}(K:Ex->St->Option R):∀(n:Nat) (l:List KV),iter (aAX n0 keep f K) n l=(runs n0 keep f n l).bind fun p=>K p.1 p.2
 |0,_=>rfl
 |n+1,l=>by
  simp only[iter,aAX,runs];cases f (mk n0 keep l)with
  |none=>rfl
  |some q =>
   obtain⟨ex,st⟩:=q;simp only[bNI];cases ex with
   |normal=>exact rB K n _
   |exit i=>rfl
   |ret=>rfl
theorem Nd{R:Type}(K:Ex->St->Option R)(l:List KV):fix (aAX n0 keep f K) l=(aAO n0 keep f l).bind fun p=>K p.1 p.2:=by
 cases hl:aAO n0 keep f l with
 |none =>
  unfold fix;rw[dif_neg]
  ·rfl
  ·rintro ⟨r,n,h⟩;rw[rB]at h;cases hr:runs n0 keep f n l with
   |none=>rw[hr]at h;cases h
   |some p=>rw[Gx n0 keep f hr]at hl;cases hl
 |some p =>
  obtain⟨n,hn⟩:=Mj n0 keep f hl;simp only[bNI];cases hK:K p.1 p.2 with
  |some r =>
   unfold fix;have hex:∃r,∃n,iter (aAX n0 keep f K) n l=some r:=⟨r,n,by rw[rB,hn];exact hK⟩;rw[dif_pos hex];obtain⟨m,hm⟩:=Classical.choose_spec hex;rw[rB]at hm;cases hr:runs n0 keep f m l with
   |none=>rw[hr]at hm;cases hm
   |some q =>
    rw[hr,Gg n0 keep f hr hn]at hm;simp only[bNI]at hm;rw[hK]at hm;exact hm.symm
  |none =>
   unfold fix;rw[dif_neg];rintro ⟨r,m,h⟩;rw[rB]at h;cases hr:runs n0 keep f m l with
   |none=>rw[hr]at h;cases h
   |some q =>
    rw[hr,Gg n0 keep f hr hn]at h;simp only[bNI]at h;rw[hK]at h;cases h
theorem aJV{R:Type}(K:Ex->St->Option R)(l:List KV):fix (aAX n0 keep f K) l=aAX n0 keep f K (fix (aAX n0 keep f K)) l:=by
 rw[Nd,aNU];unfold aAX;cases f (mk n0 keep l)with
 |none=>rfl
 |some q =>
  obtain⟨ex,st⟩:=q;simp only[bNI];cases ex with
  |normal=>exact(Nd n0 keep f K _).symm
  |exit i=>rfl
  |ret=>rfl
end
def condSt(c:Operand)(st:St):Option (Bool×St):=match c with
 | .tmp s=>match st.fr s with
  | .v (.one (.s (.sc (.bool t))))=>some (t,⟨xO st.fr s (yF (.bool t)),st.hp,st.n⟩)
  |_=>none
 | .const (.bool t)=>some (t,st)
 |_=>none
theorem Rb{R:Type}(E:Env)(c:Operand)(a b:Code)(st:St)(K:Ex->St->Option R):evalCode E (.cond c a b) st K=(condSt c st).bind fun p=>bif p.1 then evalCode E a p.2 K else evalCode E b p.2 K:=by
 cases c with
 |tmp s =>
  simp only[evalCode,condSt];split
  ·rename_i t h;simp only[h,bNI];cases t <;> rfl
  ·rename_i h;split
   ·rename_i t h';exact(h t h').elim
   ·rfl
 |const v=>cases v <;> simp only[evalCode,condSt] <;> rfl
 |_=>simp only[evalCode,condSt];rfl
theorem evalCode_bind(E:Env)(c:Code):∃f:St->Option (Ex×St),∀(st:St) {R:Type} (K:Ex->St->Option R),evalCode E c st K=(f st).bind fun p=>K p.1 p.2:=by
 induction c with
 |skip=>exact⟨fun st=>some (.normal,st),fun st R K=>rfl⟩
 |label l=>exact⟨fun st=>some (.normal,st),fun st R K=>rfl⟩
 |exit id=>exact⟨fun st=>some (.exit id,st),fun st R K=>rfl⟩
 |ret=>exact⟨fun st=>some (.ret,st),fun st R K=>rfl⟩
 |region id ops draw =>
  refine⟨fun st=>(opsK E draw ops st.n ops.toList 0 [] st some).bind fun eI=>some (.normal,⟨eI.fr,eI.hp,st.n+8*ops.size⟩),fun st R K=>?_⟩;unfold evalCode;rw[oD];simp only[];cases opsK E draw ops st.n ops.toList 0 [] st some <;> rfl
 |seq a b wQ wP =>
  obtain⟨f,hf⟩:=wQ;obtain⟨g,hg⟩:=wP;refine⟨fun st=>(f st).bind fun p=>match p.1 with
   | .normal=>match E.cut (keyOf b)with
    |some keep=>g (mk E.n0 keep (canon E.n0 keep p.2))
    |none=>g p.2
   | .exit i=>some (.exit i,p.2)
   | .ret=>some (.ret,p.2),fun st R K=>?_⟩
  unfold evalCode;rw[hf];simp only[];cases f st with
  |none=>rfl
  |some q =>
   obtain⟨ex,eI⟩:=q;cases ex with
   |normal =>
    simp only[bNI];cases E.cut (keyOf b)with
    |none=>exact hg eI K
    |some keep=>exact hg _ K
   |exit i=>rfl
   |ret=>rfl
 |cond cd a b wQ wP =>
  obtain⟨f,hf⟩:=wQ;obtain⟨g,hg⟩:=wP;refine⟨fun st=>(condSt cd st).bind fun p=>bif p.1 then f p.2 else g p.2,fun st R K=>?_⟩;rw[Rb];simp only[];cases condSt cd st with
  |none=>rfl
  |some p =>
   obtain⟨t,eI⟩:=p;cases t with
   |true=>exact hf _ K
   |false=>exact hg _ K
 |block id c ih =>
  obtain⟨f,hf⟩:=ih;refine⟨fun st=>(f st).bind fun p=>match p.1 with
   | .normal=>some (.normal,p.2)
   | .exit i=>bif bLS i id then some (.normal,p.2)else some (.exit i,p.2)
   | .ret=>some (.ret,p.2),fun st R K=>?_⟩
  unfold evalCode;rw[hf];simp only[];cases f st with
  |none=>rfl
  |some q =>
   obtain⟨ex,eI⟩:=q;cases ex with
   |normal=>rfl
   |exit i =>
    simp only[bNI];cases bLS i id <;> rfl
   |ret=>rfl
 |loop c ih =>
  obtain⟨f,hf⟩:=ih;have hG:∀{R:Type} (keep:List Nat) (K:Ex->St->Option R),(fun(rec:List KV->Option R) l=>evalCode E c (mk E.n0 keep l) fun ex eI=>match ex with
    | .normal=>rec (canon E.n0 keep eI)
    | .exit i=>K (.exit i) eI
    | .ret=>K .ret eI)=aAX E.n0 keep f K:=by
   intro R keep K;funext rec l;rw[hf];unfold aAX;cases f (mk E.n0 keep l)with
   |none=>rfl
   |some q=>obtain⟨ex,eI⟩:=q;cases ex <;> rfl
  refine⟨fun st=>match E.roll (keyOf c)with
   |some n=>runs E.n0 (E.keep (keyOf c)) f n (canon E.n0 (E.keep (keyOf c)) st)
   |none=>aAO E.n0 (E.keep (keyOf c)) f (canon E.n0 (E.keep (keyOf c)) st),fun st R K=>?_⟩
  simp only[evalCode];cases E.roll (keyOf c)with
  |some n=>exact(congrArg (fun G=>iter G n (canon E.n0 (E.keep (keyOf c)) st)) (hG _ K)).trans (rB _ _ _ _ _ _)
  |none=>exact(congrArg (fun G=>fix G (canon E.n0 (E.keep (keyOf c)) st)) (hG _ K)).trans (Nd _ _ _ _ _)
 |rangeFunc f ps x y _ _=>exact⟨fun _=>none,fun st R K=>rfl⟩
 |scope c ih =>
  obtain⟨f,hf⟩:=ih;exact⟨f,fun st R K=>by unfold evalCode;exact hf st K⟩
 |goto l=>exact⟨fun _=>none,fun st R K=>rfl⟩
 |refuse bCQ=>exact⟨fun _=>none,fun st R K=>rfl⟩
theorem aJC{R:Type}(E:Env)(keep:List Nat)(c:Code)(K:Ex->St->Option R)(l:List KV) :
  fix (roundOf (evalCode E) E.n0 keep c K) l=roundOf (evalCode E) E.n0 keep c K (fix (roundOf (evalCode E) E.n0 keep c K)) l:=by
 obtain⟨f,hf⟩:=evalCode_bind E c;have hG:roundOf (evalCode E) E.n0 keep c K=aAX E.n0 keep f K:=by
  funext rec l;unfold roundOf;rw[hf];unfold aAX;cases f (mk E.n0 keep l)with
  |none=>rfl
  |some q=>obtain⟨ex,eI⟩:=q;cases ex <;> rfl
 rw[hG];exact aJV E.n0 keep f K l
def Ck(E:Env)(fn:Func)(c:Code)(key:Nat)(l:List KV):Option (List D) :=
 match findLoop E key c (oH E fn)with
 |some (b,K)=>fix (roundOf (evalCode E) E.n0 (E.keep key) b K) l
 |none=>none
def Me(E:Env)(fn:Func)(c:Code)(key:Nat)(l:List KV):Option (List D) :=
 match findLoop E key c (oH E fn)with
 |some (b,K)=>roundOf (evalCode E) E.n0 (E.keep key) b K (fix (roundOf (evalCode E) E.n0 (E.keep key) b K)) l
 |none=>none
theorem Ys(E:Env)(fn:Func)(c:Code)(key:Nat)(l:List KV):Ck E fn c key l=Me E fn c key l:=by
 unfold Ck Me;cases findLoop E key c (oH E fn)with
 |none=>rfl
 |some p=>exact aJC E _ p.1 p.2 l
def cutAt(E:Env)(fn:Func)(c:Code)(key:Nat)(l:List KV):Option (List D) :=
 match dW E key c (oH E fn),E.cut key with
 |some (b,K),some keep=>xY key l fun l=>evalCode E b (mk E.n0 keep l) K
 |_,_=>none
def No(E:Env)(fn:Func)(c:Code)(key:Nat)(l:List KV):Option (List D) :=
 match dW E key c (oH E fn),E.cut key with
 |some (b,K),some keep=>evalCode E b (mk E.n0 keep l) K
 |_,_=>none
theorem aFJ(E:Env)(fn:Func)(c:Code)(key:Nat)(l:List KV):cutAt E fn c key l=No E fn c key l:=by
 unfold cutAt No xY;rfl
end AI
namespace AI
open Go Go.RowKit
theorem Contract.of{P:Program}{G:Nat->Option (IntKind×List Int)}{f:FuncId}{ds ds' rs:List D}(h:Contract P G f ds' rs)(hl:ds.length=ds'.length)
  (hd:∀(i:Nat) (d d':D),ds[i]?=some d->ds'[i]?=some d'->∀(Y:Nat->Prop) (w:World) (v:Value),lL Y w d v->lL Y w d' v):Contract P G f ds rs:=by
 intro Y w vs hY hG hlen hargs;refine h Y w vs hY hG (by omega) fun i d' v hi hv=>?_
 obtain⟨d,Ds⟩:=bA (l:=ds) (i:=i) (by have:=aR hi;omega);exact hd i d d' Ds hi Y w v (hargs i d v Ds hv)
def dI(k:IntKind):D->Option (List Int)
 | .s (.ints k' ns)=>if _h:k=k' then some ns else none
 | .s (.sc (.slice none 0 0))=>some []
 |_=>none
def dN(k:IntKind):D->Option Int
 | .s (.sc (.int k' n))=>if _h:k=k' then some n else none
 |_=>none
def dB:D->Option Bool
 | .s (.sc (.bool b))=>some b
 |_=>none
def zQ(d d':D):Prop:=∀(Y:Nat->Prop) (w:World) (v:Value),lL Y w d v->lL Y w d' v
theorem zQ.refl(d:D):zQ d d:=fun _ _ _ h=>h
theorem aVH{k:IntKind}{d:D}{ns:List Int}(h:dI k d=some ns):zQ d (.s (.ints k ns)):=by
 intro Y w v hr;unfold dI at h;split at h
 ·split at h
  ·rename_i hk;cases h;subst hk;exact hr
  ·cases h
 ·cases h;obtain⟨rfl,_⟩:=hr;exact⟨none,0,rfl,bLR _,fun i n hn=>by simp at hn⟩
 ·cases h
theorem aVG{k:IntKind}{d:D}{n:Int}(h:dN k d=some n):d=.s (.sc (.int k n)):=by
 unfold dN at h;split at h
 ·split at h
  ·rename_i hk;cases h;subst hk;rfl
  ·cases h
 ·cases h
theorem aVF{k:IntKind}{d:D}{n:Int}(h:dN k d=some n):zQ d (.s (.sc (.int k n))):=by rw[aVG h];exact zQ.refl _
theorem aVK{d:D}{b:Bool}(h:dB d=some b):d=.s (.sc (.bool b)):=by
 unfold dB at h;split at h
 ·cases h;rfl
 ·cases h
theorem aVJ{d:D}{b:Bool}(h:dB d=some b):zQ d (.s (.sc (.bool b))):=by rw[aVK h];exact zQ.refl _
theorem Contract.aYA{P:Program}{G:Nat->Option (IntKind×List Int)}{f:FuncId}{d d':D}{rs:List D}(h:Contract P G f [d'] rs)(hd:zQ d d'):Contract P G f [d] rs :=
 h.of rfl fun i x x' hx vY=>by
  match i with
  |0=>simp at hx vY;subst hx;subst vY;exact hd
  |i+1=>simp at hx
theorem Contract.aXZ{P:Program}{G:Nat->Option (IntKind×List Int)}{f:FuncId}{d d' e e':D}{rs:List D}(h:Contract P G f [d',e'] rs)(hd:zQ d d')(he:zQ e e'):Contract P G f [d,e] rs :=
 h.of rfl fun i x x' hx vY=>by
  match i with
  |0=>simp at hx vY;subst hx;subst vY;exact hd
  |1=>simp at hx vY;subst hx;subst vY;exact he
  |i+2=>simp at hx
theorem Contract.bDA{P:Program}{G:Nat->Option (IntKind×List Int)}{f:FuncId}{d d' e e' g g':D}{rs:List D}(h:Contract P G f [d',e',g'] rs)(hd:zQ d d')(he:zQ e e')(hg:zQ g g'):Contract P G f [d,e,g] rs :=
 h.of rfl fun i x x' hx vY=>by
  match i with
  |0=>simp at hx vY;subst hx;subst vY;exact hd
  |1=>simp at hx vY;subst hx;subst vY;exact he
  |2=>simp at hx vY;subst hx;subst vY;exact hg
  |i+3=>simp at hx
theorem Contract.bGQ{P:Program}{G:Nat->Option (IntKind×List Int)}{f:FuncId}{d d' e e' g g' k k':D}{rs:List D}(h:Contract P G f [d',e',g',k'] rs)(hd:zQ d d')(he:zQ e e')(hg:zQ g g')(hk:zQ k k'):Contract P G f [d,e,g,k] rs :=
 h.of rfl fun i x x' hx vY=>by
  match i with
  |0=>simp at hx vY;subst hx;subst vY;exact hd
  |1=>simp at hx vY;subst hx;subst vY;exact he
  |2=>simp at hx vY;subst hx;subst vY;exact hg
  |3=>simp at hx vY;subst hx;subst vY;exact hk
  |i+4=>simp at hx
abbrev cX:=List D->Option (Prop×List D)
def kZ(P:Program)(G:Nat->Option (IntKind×List Int))(f:FuncId)(o:cX):Prop :=
 ∀ds g rs,o ds=some (g,rs)->g->Contract P G f ds rs/\sQ P f
def callsOf(Fx:List (Nat×cX))(f:FuncId)(ds:List D):Option (Prop×List D):=match tlook Fx f with
 |some o=>o ds
 |none=>none
theorem kG{P:Program}{E:Env}(Fx:List (Nat×cX))(hC:E.C=callsOf Fx)(h:∀p∈Fx,kZ P E.glob p.1 p.2)
  (hx:∀f vs g rs,E.ext f vs=some (g,rs)->g->(∀v∈rs,v.oneCell'=true)/\∀w,(callFunc f vs.toArray).run P w=.ok (.value (resV rs)) w) (hF:E.ioF=(fun _=>[]):=by rfl):iS P E:=by
 refine⟨fun f ds g rs _ he hg=>?_,fun f p ps ds g rs he=>(by rw[hF]at he;cases he),hx⟩;rw[hC]at he;unfold callsOf at he;split at he
 ·rename_i o ho;exact h _ (tD ho) ds g rs he hg
 ·cases he
theorem aD{P:Program}{G:Nat->Option (IntKind×List Int)}:∀p∈([]:List (Nat×cX)),kZ P G p.1 p.2:=fun _ h=>by cases h
theorem aA{P:Program}{G:Nat->Option (IntKind×List Int)}{f:Nat}{o:cX}{Fx:List (Nat×cX)}(h:kZ P G f o)(ht:∀p∈Fx,kZ P G p.1 p.2):∀p∈(f,o) :: Fx,kZ P G p.1 p.2:=by
 intro p hp;rcases List.mem_cons.1 hp with rfl |hp
 ·exact h
 ·exact ht p hp
def nW(P:Program)(G:Nat->Option (IntKind×List Int))(f:FuncId)(o:cX):Prop :=
 ∀ds g rs,o ds=some (g,rs)->g->(∃Bw js,rs=Bw ++ js/\mS P G f [0] ds Bw js)/\sQ P f
def oS(aID:List (Nat×cX))(r:FuncId->List D->Option (Prop×List D))(f:FuncId)(ds:List D):Option (Prop×List D):=match tlook aID f with
 |some o=>o ds
 |none=>r f ds
def Ji(aID:List (Nat×cX))(f:FuncId):List Nat:=match tlook aID f with
 |some _=>[0]
 |none=>[]
theorem kI{P:Program}{E:Env}(aID Fx:List (Nat×cX))(hC:E.C=oS aID (callsOf Fx))(hF:E.ioF=Ji aID)(hi:∀p∈aID,nW P E.glob p.1 p.2)(h:∀p∈Fx,kZ P E.glob p.1 p.2)
  (hx:∀f vs g rs,E.ext f vs=some (g,rs)->g->(∀v∈rs,v.oneCell'=true)/\∀w,(callFunc f vs.toArray).run P w=.ok (.value (resV rs)) w):iS P E:=by
 refine⟨fun f ds g rs h0 he hg=>?_,fun f p ps ds g rs h0 he hg=>?_,hx⟩
 ·rw[hF]at h0;rw[hC]at he;unfold Ji at h0;unfold oS at he;cases ht:tlook aID f with
  |some o=>rw[ht]at h0;cases h0
  |none =>
   rw[ht]at he;simp only at he;unfold callsOf at he;split at he
   ·rename_i o ho;exact h _ (tD ho) ds g rs he hg
   ·cases he
 ·rw[hF]at h0;rw[hC]at he;unfold Ji at h0;unfold oS at he;cases ht:tlook aID f with
  |none=>rw[ht]at h0;cases h0
  |some o =>
   rw[ht]at h0 he;simp only at h0 he;cases h0;obtain⟨⟨Bw,js,h1,h2⟩,h3⟩:=hi _ (tD ht) ds g rs he hg;exact⟨Bw,js,h1,h2,h3⟩
theorem uQ{P:Program}{G:Nat->Option (IntKind×List Int)}:∀p∈([]:List (Nat×cX)),nW P G p.1 p.2:=fun _ h=>by cases h
theorem kR{P:Program}{G:Nat->Option (IntKind×List Int)}{f:Nat}{o:cX}{Fx:List (Nat×cX)}(h:nW P G f o)(ht:∀p∈Fx,nW P G p.1 p.2):∀p∈(f,o) :: Fx,nW P G p.1 p.2:=by
 intro p hp;rcases List.mem_cons.1 hp with rfl |hp
 ·exact h
 ·exact ht p hp
theorem mS.bGR{P:Program}{G:Nat->Option (IntKind×List Int)}{f:FuncId}{d:D}{ds ds' rs js:List D}(h:mS P G f [0] (d :: ds') rs js)(hl:ds.length=ds'.length)
  (hd:∀(i:Nat) (x x':D),ds[i]?=some x->ds'[i]?=some x'->Am x=false/\Am x'=false/\zQ x x'):mS P G f [0] (d :: ds) rs js:=by
 refine⟨h.len,fun j i hj=>?_,fun Y w vs g hY hG hlen hargs wR=>?_⟩
 ·obtain⟨e,k,ns,off,n,e',k',lC,h1,h2,h3⟩:=h.io j i hj;have hi:i=0:=by
   match j with
   |0=>simp at hj;exact hj.symm
   |j+1=>simp at hj
  subst hi;exact⟨e,k,ns,off,n,e',k',lC,by simpa using h1,h2,h3⟩
 ·refine h.run Y w vs g hY hG (by simp at hlen ⊢;omega) (fun i x' v hi hv=>?_) wR
  match i with
  |0=>exact hargs 0 x' v (by simpa using hi) hv
  |i+1 =>
   have hi:ds'[i]?=some x':=by simpa using hi
   obtain⟨x,hx⟩:=bA (l:=ds) (i:=i) (by have:=aR hi;omega);obtain⟨h1,h2,h3⟩:=hd i x x' hx hi;exact Hy h2 (h3 Y w v (Wg h1 (hargs (i+1) x v (by simpa using hx) hv)))
def Yd(P:Program)(ext:FuncId->List Value->Option (Prop×List Value)):Prop:=∀f vs g rs,ext f vs=some (g,rs)->g->(∀v∈rs,v.oneCell'=true)/\∀w,(callFunc f vs.toArray).run P w=.ok (.value (resV rs)) w
end AI
namespace AI
open Go Go.RowKit
section
variable {R:Type} (E:Env) (J L:Nat->List KV->Option R)
def evalJ:Code->St->(Ex->St->Option R)->Option R
 | .skip,st,K=>K .normal st
 | .label _,st,K=>K .normal st
 | .region _ ops draw,st,K=>opsK E draw ops st.n ops.toList 0 [] st fun eI=>K .normal ⟨eI.fr,eI.hp,st.n+8*ops.size⟩
 | .seq a b,st,K=>evalJ a st fun ex eI=>match ex with
  | .normal=>match E.cut (keyOf b)with
   |some keep=>J (keyOf b) (canon E.n0 keep eI)
   |none=>evalJ b eI K
  | .exit i=>K (.exit i) eI
  | .ret=>K .ret eI
 | .cond c a b,st,K=>match c with
  | .tmp s=>match st.fr s with
   | .v (.one (.s (.sc (.bool t))))=>aB t (evalJ a ⟨xO st.fr s (yF (.bool true)),st.hp,st.n⟩ K) (evalJ b ⟨xO st.fr s (yF (.bool false)),st.hp,st.n⟩ K)
   |_=>none
  | .const (.bool t)=>aB t (evalJ a st K) (evalJ b st K)
  |_=>none
 | .block id c,st,K=>evalJ c st fun ex eI=>match ex with
  | .normal=>K .normal eI
  | .exit i=>bif bLS i id then K .normal eI else K (.exit i) eI
  | .ret=>K .ret eI
 | .exit id,st,K=>K (.exit id) st
 | .ret,st,K=>K .ret st
 | .loop c,st,_=>L (keyOf c) (canon E.n0 (E.keep (keyOf c)) st)
 | .scope c,st,K=>evalJ c st K
 |_,_,_=>none
def Wb(b:Code)(K:Ex->St->Option R)(ex:Ex)(eI:St):Option R:=match ex with
 | .normal=>match E.cut (keyOf b)with
  |some keep=>J (keyOf b) (canon E.n0 keep eI)
  |none=>evalJ E J L b eI K
 | .exit i=>K (.exit i) eI
 | .ret=>K .ret eI
def Mq(c:Code)(K:Ex->St->Option R)(ex:Ex)(eI:St):Option R:=match ex with
 | .normal=>L (keyOf c) (canon E.n0 (E.keep (keyOf c)) eI)
 | .exit i=>K (.exit i) eI
 | .ret=>K .ret eI
def findLoopJ(key:Nat):Code->(Ex->St->Option R)->Option (Code×(Ex->St->Option R))
 | .seq a b,K=>(findLoopJ key a (Wb E J L b K)).or (findLoopJ key b K)
 | .cond _ a b,K=>(findLoopJ key a K).or (findLoopJ key b K)
 | .block id c,K=>findLoopJ key c (Hu id K)
 | .loop c,K=>bif bLS (keyOf c) key then some (c,K)else findLoopJ key c (Mq E L c K)
 | .scope c,K=>findLoopJ key c K
 |_,_=>none
def jI(key:Nat):Code->(Ex->St->Option R)->Option (Code×(Ex->St->Option R))
 | .seq a b,K=>bif bLS (keyOf b) key then some (b,K)else(jI key a (Wb E J L b K)).or (jI key b K)
 | .cond _ a b,K=>(jI key a K).or (jI key b K)
 | .block id c,K=>jI key c (Hu id K)
 | .loop c,K=>jI key c (Mq E L c K)
 | .scope c,K=>jI key c K
 |_,_=>none
end
def loopKeys:Code->List Nat
 | .seq a b=>loopKeys a ++ loopKeys b
 | .cond _ a b=>loopKeys a ++ loopKeys b
 | .block _ c=>loopKeys c
 | .loop c=>keyOf c :: loopKeys c
 | .scope c=>loopKeys c
 |_=>[]
def eR(E:Env):Code->List Nat
 | .seq a b=>(match E.cut (keyOf b)with |some _=>[keyOf b] |none=>[]) ++ (eR E a ++ eR E b)
 | .cond _ a b=>eR E a ++ eR E b
 | .block _ c=>eR E c
 | .loop c=>eR E c
 | .scope c=>eR E c
 |_=>[]
theorem nodup_iff:∀{xs:List Nat},nodup xs=true↔xs.Nodup
 | []=>by simp[nodup]
 |x :: xs=>by
  have ih:=nodup_iff (xs:=xs);simp only[nodup,bLX,bMZ,bQE,ih];constructor
  ·rintro ⟨h1,h2⟩;refine⟨fun hm=>?_,h2⟩;have:xs.elem x=true:=List.elem_eq_true_of_mem hm;rw[this]at h1;cases h1
  ·rintro ⟨h1,h2⟩;refine⟨?_,h2⟩;cases hb:xs.elem x with
   |false=>rfl
   |true=>exact(h1 (List.mem_of_elem_eq_true hb)).elim
section
variable {R:Type} (E:Env)
theorem oQ(key:Nat):∀(c:Code) (K:Ex->St->Option R),(findLoop E key c K).isSome=true↔key∈loopKeys c:=by
 intro c
 induction c with
 |seq a b wQ wP =>
  intro K;simp only[findLoop,loopKeys,bMT,bRT,bNA,wQ,wP]
 |cond cd a b wQ wP =>
  intro K;simp only[findLoop,loopKeys,bMT,bRT,bNA,wQ,wP]
 |block id c ih=>intro K;simp only[findLoop,loopKeys,ih]
 |scope c ih=>intro K;simp only[findLoop,loopKeys,ih]
 |loop c ih =>
  intro K;simp only[findLoop,loopKeys,bMX];cases hb:bLS (keyOf c) key with
  |true=>simp[(bMF hb)]
  |false =>
   have:key≠keyOf c:=fun h=>by subst h;rw[bPX]at hb;cases hb
   simp only[cond_false,ih,this,false_or]
 |_=>intro K;simp[findLoop,loopKeys]
theorem qO{key:Nat}:∀{c:Code},key∈eR E c->(E.cut key).isSome=true:=by
 intro c
 induction c with
 |seq a b wQ wP =>
  intro h;simp only[eR,bMT]at h;rcases h with h |h |h
  ·split at h
   ·rename_i keep hk;simp at h;subst h;rw[hk];rfl
   ·cases h
  ·exact wQ h
  ·exact wP h
 |cond cd a b wQ wP =>
  intro h;simp only[eR,bMT]at h;exact h.elim wQ wP
 |block id c ih=>intro h;exact ih h
 |scope c ih=>intro h;exact ih h
 |loop c ih=>intro h;exact ih h
 |_=>intro h;simp[eR]at h
theorem qN{key:Nat}(hk:(E.cut key).isSome=true):∀(c:Code) (K:Ex->St->Option R),(dW E key c K).isSome=true↔key∈eR E c:=by
 intro c
 induction c with
 |seq a b wQ wP =>
  intro K;simp only[dW,eR,bMT];cases hb:bLS (keyOf b) key with
  |true =>
   have:=bMF hb;subst this;cases hc:E.cut (keyOf b)with
   |none=>rw[hc]at hk;cases hk
   |some x=>simp
  |false =>
   have hn:key≠keyOf b:=fun h=>by subst h;rw[bPX]at hb;cases hb
   simp only[cond_false,bRT,bNA,wQ,wP];constructor
   ·intro h;exact .inr h
   ·rintro (h |h)
    ·split at h
     ·simp at h;exact(hn h).elim
     ·cases h
    ·exact h
 |cond cd a b wQ wP =>
  intro K;simp only[dW,eR,bMT,bRT,bNA,wQ,wP]
 |block id c ih=>intro K;simp only[dW,eR,ih]
 |scope c ih=>intro K;simp only[dW,eR,ih]
 |loop c ih=>intro K;simp only[dW,eR,ih]
 |_=>intro K;simp[dW,eR]
theorem Fb{α:Type}{x y:Option α}(h:x.isSome=true):x.or y=x:=by cases x <;> simp_all
theorem Ah{α:Type}{x y:Option α}(h:¬x.isSome=true):x.or y=y:=by cases x <;> simp_all
structure Sub(c0:Code)(K0:Ex->St->Option R)(c:Code)(K:Ex->St->Option R):Prop where
 lp:∀key,key∈loopKeys c->findLoop E key c0 K0=findLoop E key c K
 ct:∀key,key∈eR E c->dW E key c0 K0=dW E key c K
 dl:(loopKeys c).Nodup
 dc:(eR E c).Nodup
variable {E} {c0:Code} {K0:Ex->St->Option R}
theorem Sub.seq1{a b:Code}{K:Ex->St->Option R}(h:Sub E c0 K0 (.seq a b) K):Sub E c0 K0 a (Sr E b K):=by
 have hl:=h.dl;have hc:=h.dc;simp only[loopKeys]at hl;simp only[eR]at hc;refine⟨fun key hk=>?_,fun key hk=>?_,(List.nodup_append.1 hl).1,(List.nodup_append.1 (List.nodup_append.1 hc).2.1).1⟩
 ·rw[h.lp key (by simp only[loopKeys,bMT];exact .inl hk),findLoop];exact Fb ((oQ E key a _).2 hk)
 ·rw[h.ct key (by simp only[eR,bMT];exact .inr (.inl hk)),dW];have hs:=qO E hk;cases hb:bLS (keyOf b) key with
  |true =>
   exfalso;have:=bMF hb;subst this;cases hx:E.cut (keyOf b)with
   |none=>rw[hx]at hs;cases hs
   |some x =>
    rw[hx]at hc;exact(List.nodup_append.1 hc).2.2 (keyOf b) (by simp) (keyOf b) (List.mem_append.2 (.inl hk)) rfl
  |false =>
   simp only[cond_false];exact Fb ((qN E hs a _).2 hk)
theorem Sub.Ss{a b:Code}{K:Ex->St->Option R}(h:Sub E c0 K0 (.seq a b) K):Sub E c0 K0 b K:=by
 have hl:=h.dl;have hc:=h.dc;simp only[loopKeys]at hl;simp only[eR]at hc;refine⟨fun key hk=>?_,fun key hk=>?_,(List.nodup_append.1 hl).2.1,(List.nodup_append.1 (List.nodup_append.1 hc).2.1).2.1⟩
 ·rw[h.lp key (by simp only[loopKeys,bMT];exact .inr hk),findLoop];refine Ah fun hx=>?_
  exact(List.nodup_append.1 hl).2.2 key ((oQ E key a _).1 hx) key hk rfl
 ·rw[h.ct key (by simp only[eR,bMT];exact .inr (.inr hk)),dW];have hs:=qO E hk;cases hb:bLS (keyOf b) key with
  |true =>
   exfalso;have:=bMF hb;subst this;cases hx:E.cut (keyOf b)with
   |none=>rw[hx]at hs;cases hs
   |some x =>
    rw[hx]at hc;exact(List.nodup_append.1 hc).2.2 (keyOf b) (by simp) (keyOf b) (List.mem_append.2 (.inr hk)) rfl
  |false =>
   simp only[cond_false];refine Ah fun hx=>?_
   exact(List.nodup_append.1 (List.nodup_append.1 hc).2.1).2.2 key ((qN E hs a _).1 hx) key hk rfl
theorem Sub.Rd{cd:Operand}{a b:Code}{K:Ex->St->Option R}(h:Sub E c0 K0 (.cond cd a b) K):Sub E c0 K0 a K:=by
 have hl:=h.dl;have hc:=h.dc;simp only[loopKeys]at hl;simp only[eR]at hc;refine⟨fun key hk=>?_,fun key hk=>?_,(List.nodup_append.1 hl).1,(List.nodup_append.1 hc).1⟩
 ·rw[h.lp key (by simp only[loopKeys,bMT];exact .inl hk),findLoop];exact Fb ((oQ E key a _).2 hk)
 ·rw[h.ct key (by simp only[eR,bMT];exact .inl hk),dW];exact Fb ((qN E (qO E hk) a _).2 hk)
theorem Sub.Rc{cd:Operand}{a b:Code}{K:Ex->St->Option R}(h:Sub E c0 K0 (.cond cd a b) K):Sub E c0 K0 b K:=by
 have hl:=h.dl;have hc:=h.dc;simp only[loopKeys]at hl;simp only[eR]at hc;refine⟨fun key hk=>?_,fun key hk=>?_,(List.nodup_append.1 hl).2.1,(List.nodup_append.1 hc).2.1⟩
 ·rw[h.lp key (by simp only[loopKeys,bMT];exact .inr hk),findLoop];refine Ah fun hx=>?_
  exact(List.nodup_append.1 hl).2.2 key ((oQ E key a _).1 hx) key hk rfl
 ·rw[h.ct key (by simp only[eR,bMT];exact .inr hk),dW];refine Ah fun hx=>?_
  exact(List.nodup_append.1 hc).2.2 key ((qN E (qO E hk) a _).1 hx) key hk rfl
theorem Sub.block{id:Nat}{c:Code}{K:Ex->St->Option R}(h:Sub E c0 K0 (.block id c) K):Sub E c0 K0 c (Hu id K) :=
 ⟨fun key hk=>h.lp key hk,fun key hk=>h.ct key hk,h.dl,h.dc⟩
theorem Sub.scope{c:Code}{K:Ex->St->Option R}(h:Sub E c0 K0 (.scope c) K):Sub E c0 K0 c K :=
 ⟨fun key hk=>h.lp key hk,fun key hk=>h.ct key hk,h.dl,h.dc⟩
theorem Sub.loop{c:Code}{K:Ex->St->Option R}(h:Sub E c0 K0 (.loop c) K):Sub E c0 K0 c (Kq E c K):=by
 have hl:=h.dl;simp only[loopKeys,bQE]at hl;refine⟨fun key hk=>?_,fun key hk=>h.ct key hk,hl.2,h.dc⟩;rw[h.lp key (by simp only[loopKeys,bMX];exact .inr hk),findLoop];cases hb:bLS (keyOf c) key with
 |true=>have:=bMF hb;subst this;exact(hl.1 hk).elim
 |false=>rfl
def Gw(E:Env)(c0:Code)(K0:Ex->St->Option R)(key:Nat)(l:List KV):Option R :=
 match findLoop E key c0 K0 with
 |some (b,K)=>fix (roundOf (evalCode E) E.n0 (E.keep key) b K) l
 |none=>none
def Jv(E:Env)(c0:Code)(K0:Ex->St->Option R)(key:Nat)(l:List KV):Option R :=
 match dW E key c0 K0,E.cut key with
 |some (b,K),some keep=>xY key l fun l=>evalCode E b (mk E.n0 keep l) K
 |_,_=>none
theorem Sub.aDC{c:Code}{K:Ex->St->Option R}(h:Sub E c0 K0 (.loop c) K)(l:List KV):Gw E c0 K0 (keyOf c) l=fix (roundOf (evalCode E) E.n0 (E.keep (keyOf c)) c K) l:=by
 unfold Gw;rw[h.lp (keyOf c) (by simp[loopKeys]),findLoop,bPX];rfl
theorem Sub.aFK{a b:Code}{K:Ex->St->Option R}(h:Sub E c0 K0 (.seq a b) K){keep:List Nat}(hk:E.cut (keyOf b)=some keep)(l:List KV):Jv E c0 K0 (keyOf b) l=evalCode E b (AI.mk E.n0 keep l) K:=by
 unfold Jv;rw[h.ct (keyOf b) (by simp[eR,hk]),dW,bPX,hk];rfl
theorem Aq(hr:∀k,E.roll k=none):∀(c:Code) (K:Ex->St->Option R),Sub E c0 K0 c K->∀st,evalJ E (Jv E c0 K0) (Gw E c0 K0) c st K=evalCode E c st K:=by
 intro c
 induction c with
 |seq a b wQ wP =>
  intro K h st;simp only[evalJ];have e:(fun(ex:Ex) (eI:St)=>match ex with
   | .normal=>match E.cut (keyOf b)with
    |some keep=>Jv E c0 K0 (keyOf b) (canon E.n0 keep eI)
    |none=>evalJ E (Jv E c0 K0) (Gw E c0 K0) b eI K
   | .exit i=>K (.exit i) eI
   | .ret=>K .ret eI)=Sr E b K:=by
   funext ex eI;unfold Sr;cases ex with
   |normal =>
    cases hk:E.cut (keyOf b)with
    |some keep=>simp only[];rw[h.aFK hk];rfl
    |none=>simp only[];exact wP K h.Ss eI
   |exit i=>rfl
   |ret=>rfl
  rw[e,wQ _ h.seq1 st];rfl
 |cond cd a b wQ wP =>
  intro K h st;simp only[evalJ,evalCode];have ha:=wQ K h.Rd;have hb:=wP K h.Rc;simp only[ha,hb];rfl
 |block id c ih =>
  intro K h st;exact ih _ h.block st
 |loop c ih =>
  intro K h st;simp only[evalJ,evalCode,hr];rw[h.aDC]
 |region id ops draw=>intro K h st;rfl
 |skip=>intro K h st;rfl
 |label l=>intro K h st;rfl
 |exit i=>intro K h st;rfl
 |ret=>intro K h st;rfl
 |rangeFunc f ps x y _ _=>intro K h st;rfl
 |scope c ih=>intro K h st;exact ih _ h.scope st
 |goto l=>intro K h st;rfl
 |refuse bCQ=>intro K h st;rfl
theorem Ph(hr:∀k,E.roll k=none){a b:Code}{K:Ex->St->Option R}(h:Sub E c0 K0 (.seq a b) K):Wb E (Jv E c0 K0) (Gw E c0 K0) b K=Sr E b K:=by
 funext ex eI;unfold Wb Sr;cases ex with
 |normal =>
  cases hk:E.cut (keyOf b)with
  |some keep=>simp only[];rw[h.aFK hk];rfl
  |none=>simp only[];exact Aq hr b K h.Ss eI
 |exit i=>rfl
 |ret=>rfl
theorem Ci{c:Code}{K:Ex->St->Option R}(h:Sub E c0 K0 (.loop c) K):Mq E (Gw E c0 K0) c K=Kq E c K:=by
 funext ex eI;unfold Mq Kq;cases ex with
 |normal=>exact h.aDC _
 |exit i=>rfl
 |ret=>rfl
theorem Nf(hr:∀k,E.roll k=none)(key:Nat):∀(c:Code) (K:Ex->St->Option R),Sub E c0 K0 c K->findLoopJ E (Jv E c0 K0) (Gw E c0 K0) key c K=findLoop E key c K:=by
 intro c
 induction c with
 |seq a b wQ wP =>
  intro K h;rw[findLoopJ,findLoop,Ph hr h,wQ _ h.seq1,wP _ h.Ss]
 |cond cd a b wQ wP =>
  intro K h;rw[findLoopJ,findLoop,wQ _ h.Rd,wP _ h.Rc]
 |block id c ih=>intro K h;rw[findLoopJ,findLoop,ih _ h.block]
 |scope c ih=>intro K h;rw[findLoopJ,findLoop,ih _ h.scope]
 |loop c ih=>intro K h;rw[findLoopJ,findLoop,Ci h,ih _ h.loop]
 |_=>intro K h;rfl
theorem Qr(hr:∀k,E.roll k=none)(key:Nat):∀(c:Code) (K:Ex->St->Option R),Sub E c0 K0 c K->jI E (Jv E c0 K0) (Gw E c0 K0) key c K=dW E key c K:=by
 intro c
 induction c with
 |seq a b wQ wP =>
  intro K h;rw[jI,dW,Ph hr h,wQ _ h.seq1,wP _ h.Ss]
 |cond cd a b wQ wP =>
  intro K h;rw[jI,dW,wQ _ h.Rd,wP _ h.Rc]
 |block id c ih=>intro K h;rw[jI,dW,ih _ h.block]
 |scope c ih=>intro K h;rw[jI,dW,ih _ h.scope]
 |loop c ih=>intro K h;rw[jI,dW,Ci h,ih _ h.loop]
 |_=>intro K h;rfl
theorem Sub.aPR:∀(c:Code) (K:Ex->St->Option R),Sub E c0 K0 c K->∀{key:Nat} {b:Code} {K':Ex->St->Option R},findLoop E key c K=some (b,K')->key=keyOf b/\Sub E c0 K0 (.loop b) K':=by
 intro c
 induction c with
 |seq a b wQ wP =>
  intro K h key b' K' hf;rw[findLoop]at hf;rcases Option.or_eq_some_iff.1 hf with hf |⟨_,hf⟩
  ·exact wQ _ h.seq1 hf
  ·exact wP _ h.Ss hf
 |cond cd a b wQ wP =>
  intro K h key b' K' hf;rw[findLoop]at hf;rcases Option.or_eq_some_iff.1 hf with hf |⟨_,hf⟩
  ·exact wQ _ h.Rd hf
  ·exact wP _ h.Rc hf
 |block id c ih=>intro K h key b' K' hf;exact ih _ h.block hf
 |scope c ih=>intro K h key b' K' hf;exact ih _ h.scope hf
 |loop c ih =>
  intro K h key b' K' hf;rw[findLoop]at hf;cases hb:bLS (keyOf c) key with
  |true =>
   rw[hb]at hf;cases hf;exact⟨(bMF hb).symm,h⟩
  |false=>rw[hb]at hf;exact ih _ h.loop hf
 |_=>intro K h key b' K' hf;simp[findLoop]at hf
theorem Sub.aVN:∀(c:Code) (K:Ex->St->Option R),Sub E c0 K0 c K->∀{key:Nat} {b:Code} {K':Ex->St->Option R},dW E key c K=some (b,K')->Sub E c0 K0 b K':=by
 intro c
 induction c with
 |seq a b wQ wP =>
  intro K h key b' K' hf;rw[dW]at hf;cases hb:bLS (keyOf b) key with
  |true=>rw[hb]at hf;cases hf;exact h.Ss
  |false =>
   rw[hb]at hf;rcases Option.or_eq_some_iff.1 hf with hf |⟨_,hf⟩
   ·exact wQ _ h.seq1 hf
   ·exact wP _ h.Ss hf
 |cond cd a b wQ wP =>
  intro K h key b' K' hf;rw[dW]at hf;rcases Option.or_eq_some_iff.1 hf with hf |⟨_,hf⟩
  ·exact wQ _ h.Rd hf
  ·exact wP _ h.Rc hf
 |block id c ih=>intro K h key b' K' hf;exact ih _ h.block hf
 |scope c ih=>intro K h key b' K' hf;exact ih _ h.scope hf
 |loop c ih=>intro K h key b' K' hf;exact ih _ h.loop hf
 |_=>intro K h key b' K' hf;simp[dW]at hf
end
def uO(E:Env)(c:Code):Bool:=nodup (loopKeys c)&&nodup (eR E c)
theorem sub_self{E:Env}{c:Code}{K:Ex->St->Option (List D)}(h:uO E c=true):Sub E c K c K:=by
 unfold uO at h;rw[bLX,nodup_iff,nodup_iff]at h;exact⟨fun _ _=>rfl,fun _ _=>rfl,h.1,h.2⟩
section
variable (E:Env) (fn:Func) (c:Code)
def aBX(J L:Nat->List KV->Option (List D))(ds:List D):Option (List D) :=
 evalJ E J L c ⟨Rl ds,argHp 0 ds,E.n0⟩ (oH E fn)
def Sv(J L:Nat->List KV->Option (List D))(key:Nat)(l:List KV):Option (List D) :=
 match findLoopJ E J L key c (oH E fn)with
 |some (b,K)=>evalJ E J L b (mk E.n0 (E.keep key) l) fun ex eI=>match ex with
  | .normal=>L key (canon E.n0 (E.keep key) eI)
  | .exit i=>K (.exit i) eI
  | .ret=>K .ret eI
 |none=>none
def aPH(J L:Nat->List KV->Option (List D))(key:Nat)(l:List KV):Option (List D) :=
 match jI E J L key c (oH E fn),E.cut key with
 |some (b,K),some keep=>evalJ E J L b (mk E.n0 keep l) K
 |_,_=>none
end
variable {E:Env} {fn:Func} {c:Code}
theorem Hp:cutAt E fn c=Jv E c (oH E fn):=by
 funext key l;unfold cutAt Jv;cases dW E key c (oH E fn) <;> cases E.cut key <;> rfl
theorem Cj:Ck E fn c=Gw E c (oH E fn):=by
 funext key l;unfold Ck Gw;cases findLoop E key c (oH E fn) <;> rfl
theorem aFL(E:Env)(fn:Func)(c:Code):∃f:Nat->List KV->Option (List D),f=cutAt E fn c:=⟨_,rfl⟩
def kV(E:Env)(fn:Func)(c:Code):Nat->List KV->Option (List D):=Classical.choose (aFL E fn c)
theorem Uc:kV E fn c=cutAt E fn c:=Classical.choose_spec (aFL E fn c)
theorem aDD(E:Env)(fn:Func)(c:Code):∃f:Nat->List KV->Option (List D),f=Ck E fn c:=⟨_,rfl⟩
def nG(E:Env)(fn:Func)(c:Code):Nat->List KV->Option (List D):=Classical.choose (aDD E fn c)
theorem Th:nG E fn c=Ck E fn c:=Classical.choose_spec (aDD E fn c)
theorem aER(hr:E.roll=fun _=>none)(h:uO E c=true)(ds:List D):aF E fn c ds=aBX E fn c (kV E fn c) (nG E fn c) ds:=by
 rw[Uc,Th,Hp,Cj];exact(Aq (c0:=c) (K0:=oH E fn) (fun k=>by rw[hr]) c (oH E fn) (sub_self h) _).symm
theorem aDE(hr:E.roll=fun _=>none)(h:uO E c=true)(key:Nat)(l:List KV):nG E fn c key l=Sv E fn c (kV E fn c) (nG E fn c) key l:=by
 rw[Uc,Th,Ys,Hp,Cj];unfold Me Sv;have hs:=sub_self (K:=oH E fn) h;have e:=Nf (c0:=c) (K0:=oH E fn) (fun k=>by rw[hr]) key c (oH E fn) hs;rw[e];cases hf:findLoop E key c (oH E fn)with
 |none=>rfl
 |some p =>
  obtain⟨b,K⟩:=p;simp only[];obtain⟨rfl,hb⟩:=Sub.aPR c (oH E fn) hs hf;have e2:(fun(ex:Ex) (eI:St)=>match ex with
   | .normal=>Gw E c (oH E fn) (keyOf b) (canon E.n0 (E.keep (keyOf b)) eI)
   | .exit i=>K (.exit i) eI
   | .ret=>K .ret eI)=Kq E b K:=Ci hb
  rw[e2];exact(Aq (c0:=c) (K0:=oH E fn) (fun k=>by rw[hr]) b _ hb.loop _).symm
theorem aKE(hr:E.roll=fun _=>none)(h:uO E c=true)(key:Nat)(l:List KV):kV E fn c key l=aPH E fn c (kV E fn c) (nG E fn c) key l:=by
 rw[Uc,Th,aFJ,Hp,Cj];unfold No aPH;have hs:=sub_self (K:=oH E fn) h;have e:=Qr (c0:=c) (K0:=oH E fn) (fun k=>by rw[hr]) key c (oH E fn) hs;rw[e];cases hf:dW E key c (oH E fn)with
 |none=>rfl
 |some p =>
  obtain⟨b,K⟩:=p;cases hc:E.cut key with
  |none=>rfl
  |some keep=>exact(Aq (c0:=c) (K0:=oH E fn) (fun k=>by rw[hr]) b _ (Sub.aVN c _ hs hf) _).symm
def Nk(E:Env)(c:Code):Prop:=(E.roll=fun _=>none)/\uO E c=true
theorem nk{E:Env}{c:Code}(h:uO E c=true:=by kernel_rfl)(hr:E.roll=fun _=>none:=by rfl):Nk E c:=⟨hr,h⟩
section
variable {E:Env} {fn:Func} {c:Code} {key:Nat} {l:List KV} {ds:List D} {r:Option (List D)} (h:Nk E c)
include h
theorem eJ(e:aBX E fn c (kV E fn c) (nG E fn c) ds=r:=by kernel_rfl):aF E fn c ds=r:=(aER h.1 h.2 ds).trans e
theorem lJ(e:Sv E fn c (kV E fn c) (nG E fn c) key l=r:=by kernel_rfl):nG E fn c key l=r:=(aDE h.1 h.2 key l).trans e
theorem cJ(e:aPH E fn c (kV E fn c) (nG E fn c) key l=r:=by kernel_rfl):kV E fn c key l=r:=(aKE h.1 h.2 key l).trans e
end
end AI
namespace AI
open Go Go.RowKit
structure kN(α:Type) where
 put:α->D
 get:D->Option α
 le:∀{d x},get d=some x->zQ d (put x)
def pI(k:IntKind):kN (List Int):=⟨fun a=>.s (.ints k a),dI k,aVH⟩
def pN(k:IntKind):kN Int:=⟨fun n=>.s (.sc (.int k n)),dN k,aVF⟩
def dIO(e:TypeId)(k:IntKind):D->Option (List Int×Nat×Nat)
 | .io e' k' ns off n=>if _h:e=e'/\k=k' then some (ns,off,n)else none
 |_=>none
theorem Nn{e:TypeId}{k:IntKind}{d:D}{x:List Int×Nat×Nat}(h:dIO e k d=some x):d=.io e k x.1 x.2.1 x.2.2:=by
 unfold dIO at h;split at h
 ·split at h
  ·rename_i hk;obtain⟨rfl,rfl⟩:=hk;cases h;rfl
  ·cases h
 ·cases h
def Ag(e:TypeId)(k:IntKind):kN (List Int×Nat×Nat):=⟨fun x=>.io e k x.1 x.2.1 x.2.2,dIO e k,fun h=>by rw[Nn h];exact zQ.refl _⟩
def pB:kN Bool:=⟨fun b=>.s (.sc (.bool b)),dB,aVJ⟩
def dF(k:FloatKind):D->Option Nat
 | .s (.sc (.float k' b))=>if _h:k=k' then some b else none
 |_=>none
theorem aVI{k:FloatKind}{d:D}{n:Nat}(h:dF k d=some n):zQ d (.s (.sc (.float k n))):=by
 unfold dF at h;split at h
 ·split at h
  ·rename_i hk;cases h;subst hk;exact zQ.refl _
  ·cases h
 ·cases h
def pF(k:FloatKind):kN Nat:=⟨fun b=>.s (.sc (.float k b)),dF k,aVI⟩
class aAF{α:Type}(p:kN α):Prop where
 no:∀{d x},p.get d=some x->Am d=false/\Am (p.put x)=false
instance {k:IntKind}:aAF (pI k):=⟨fun {d x} h=>⟨by cases d <;> first |rfl | (simp[pI,dI]at h),rfl⟩⟩
instance {k:IntKind}:aAF (pN k):=⟨fun {d x} h=>⟨by cases d <;> first |rfl | (simp[pN,dN]at h),rfl⟩⟩
instance:aAF pB:=⟨fun {d x} h=>⟨by cases d <;> first |rfl | (simp[pB,dB]at h),rfl⟩⟩
structure SPar(α:Type) where
 n:Nat
 put:α->List S
 get:List S->Option α
 le:∀{d x},get d=some x->d.length=n/\(put x).length=n/\∀(i:Nat) (s s':S),d[i]?=some s->(put x)[i]?=some s'->∀X w v,mZ X w s v->mZ X w s' v
def aXN{α:Type}(p:kN α)(put:α->S)(h:∀x,p.put x=.s (put x)):SPar α where
 n:=1
 put x:=[put x]
 get
  | [s]=>p.get (.s s)
  |_=>none
 le:=by
  intro d x hd
  match d,hd with
  | [s],hd =>
   refine⟨rfl,rfl,fun i s1 s2 h1 h2=>?_⟩
   match i with
   |0 =>
    simp at h1 h2;subst h1;subst h2;intro X w v hr;have:=p.le hd X w v hr;rw[h]at this;exact this
   |i+1=>simp at h1
def sI(k:IntKind):SPar (List Int):=aXN (pI k) (fun a=>.ints k a) fun _=>rfl
def sN(k:IntKind):SPar Int:=aXN (pN k) (fun n=>.sc (.int k n)) fun _=>rfl
def sB:SPar Bool:=aXN pB (fun b=>.sc (.bool b)) fun _=>rfl
def SPar.pair{α β:Type}(p:SPar α)(q:SPar β):SPar (α×β) where
 n:=p.n+q.n
 put x:=p.put x.1 ++ q.put x.2
 get d:=match p.get (d.take p.n),q.get (d.drop p.n)with
  |some a,some b=>some (a,b)
  |_,_=>none
 le:=by
  intro d x h;split at h
  ·rename_i a b ha hb;cases h;obtain⟨a1,a2,a3⟩:=p.le ha;obtain⟨b1,b2,b3⟩:=q.le hb;simp only[bOH,bPQ]at a1 b1;have bBZ:(p.put (a,b).fst).length=p.n:=a2;refine⟨by omega,by simp[a2,b2],fun i s s' h1 h2=>?_⟩
   by_cases hi:i<p.n
   ·rw[List.getElem?_append_left (by rw[bBZ];exact hi)]at h2;exact a3 i s s' (by rw[bLW hi];exact h1) h2
   ·rw[List.getElem?_append_right (by rw[bBZ];omega),bBZ]at h2;exact b3 (i-p.n) s s' (by rw[bMD,show p.n+(i-p.n)=i from by omega];exact h1) h2
  ·cases h
def pG{α:Type}(p:SPar α):kN α where
 put x:=.agg (p.put x)
 get
  | .agg cs=>p.get cs
  |_=>none
 le:=by
  intro d x h
  match d,h with
  | .agg cs,h =>
   obtain⟨h1,h2,h3⟩:=p.le h;rintro Y w v ⟨arr,rfl,hl,hr⟩;refine⟨arr,rfl,by omega,fun i s u hs hu=>?_⟩;obtain⟨s0,Jb⟩:=bA (l:=cs) (i:=i) (by have:=aR hs;omega);exact h3 i s0 s Jb hs Y w u (hr i s0 u Jb hu)
def vV(d d':D):Prop:=(d'=d)\/(iU d'=false/\((∃e k ns,d=.own e k ns/\d'=.s (.ints k ns))\/(iU d=false/\zQ d d')))
theorem vV.refl(d:D):vV d d:=.inl rfl
theorem vV.own(e:TypeId)(k:IntKind)(ns:List Int):vV (.own e k ns) (.s (.ints k ns)):=.inr ⟨rfl,.inl ⟨e,k,ns,rfl,rfl⟩⟩
theorem vV.nil(k:IntKind):vV (.s (.sc (.slice none 0 0))) (.s (.ints k [])) :=
 .inr ⟨rfl,.inr ⟨rfl,fun Y w v h=>by obtain⟨rfl,_⟩:=h;exact⟨none,0,rfl,bLR _,fun i n hn=>by simp at hn⟩⟩⟩
def yJ(s s':S):Prop:=∀X w v,mZ X w s v->mZ X w s' v
theorem yJ.refl(s:S):yJ s s:=fun _ _ _ h=>h
theorem yJ.nil(k:IntKind):yJ (.sc (.slice none 0 0)) (.ints k []):=fun X w v h=>by
 obtain⟨rfl,_⟩:=h;exact⟨none,0,rfl,bLR _,fun i n hn=>by simp at hn⟩
inductive uB:List S->List S->Prop where
 |nil:uB [] []
 |cons {s s':S} {l l':List S}:yJ s s'->uB l l'->uB (s :: l) (s' :: l')
theorem uB.refl:∀l,uB l l
 | []=>.nil
 |s :: l=>.cons (yJ.refl s) (uB.refl l)
theorem uB.len{l l':List S}(h:uB l l'):l.length=l'.length:=by induction h with |nil=>rfl |cons _ _ ih=>simp[ih]
theorem uB.at{l l':List S}(h:uB l l'):∀{i:Nat} {s s':S},l[i]?=some s->l'[i]?=some s'->yJ s s':=by
 induction h with
 |nil=>intro i s s' h;simp at h
 |cons hs _ ih =>
  intro i s s' h1 h2;cases i with
  |zero=>simp at h1 h2;subst h1;subst h2;exact hs
  |succ i=>simp at h1 h2;exact ih h1 h2
theorem vV.agg{l l':List S}(h:uB l l'):vV (.agg l) (.agg l') :=
 .inr ⟨rfl,.inr ⟨rfl,fun Y w v hv=>by
  obtain⟨arr,rfl,hl,hr⟩:=hv;refine⟨arr,rfl,by rw[<-h.len];exact hl,fun i s u hs hu=>?_⟩;obtain⟨s0,Jb⟩:=bA (l:=l) (i:=i) (by have:=aR hs;rw[h.len];exact this);exact h.at Jb hs Y w u (hr i s0 u Jb hu)⟩⟩
inductive fT:List D->List D->Prop where
 |nil:fT [] []
 |cons {s s':D} {l l':List D}:vV s s'->fT l l'->fT (s :: l) (s' :: l')
theorem fT.refl:∀l,fT l l
 | []=>.nil
 |s :: l=>.cons (vV.refl s) (fT.refl l)
theorem fT.len{l l':List D}(h:fT l l'):l.length=l'.length:=by induction h with |nil=>rfl |cons _ _ ih=>simp[ih]
theorem fT.at{l l':List D}(h:fT l l'):∀{i:Nat} {s s':D},l[i]?=some s->l'[i]?=some s'->vV s s':=by
 induction h with
 |nil=>intro i s s' h;simp at h
 |cons hs _ ih =>
  intro i s s' h1 h2;cases i with
  |zero=>simp at h1 h2;subst h1;subst h2;exact hs
  |succ i=>simp at h1 h2;exact ih h1 h2
theorem Contract.less{P:Program}{G:Nat->Option (IntKind×List Int)}{f:FuncId}{ds rs aIM:List D}(h:Contract P G f ds rs)(hr:fT rs aIM):Contract P G f ds aIM:=by
 intro Y w vs hY hG hlen hargs;refine(h Y w vs hY hG hlen hargs).mono ?_;rintro e w' ⟨vF,he,hb,g,hl,wR,Tm⟩;have pP:∀{i:Nat} {d d':D},rs[i]?=some d->aIM[i]?=some d'->iU d'=true->d'=d:=by
  intro i d d' h1 h2 ho;rcases hr.at h1 h2 with h3 |⟨h3,_⟩
  ·exact h3
  ·rw[h3]at ho;cases ho
 have rN:∀{i:Nat} {d':D},aIM[i]?=some d'->∃d,rs[i]?=some d:=fun {i d'} h=>bA (l:=rs) (i:=i) (by have:=aR h;rw[hr.len];exact this)
 have aOA:∀b,(Y b\/∃(j:Nat) (d':D),aIM[j]?=some d'/\iU d'=true/\g j=b)->(Y b\/∃(j:Nat) (d':D),rs[j]?=some d'/\iU d'=true/\g j=b):=by
  rintro b (hb |⟨j,d',h1,h2,h3⟩)
  ·exact .inl hb
  ·obtain⟨d,hd⟩:=rN h1;have:=pP hd h1 h2;subst this;exact .inr ⟨j,d',hd,h2,h3⟩
 refine⟨vF,he,hb,g,by rw[<-hr.len];exact hl,?_,?_⟩
 ·intro i j d d' h1 h2 h3 h4 h5;obtain⟨e1,Xe⟩:=rN h1;obtain⟨e2,aJL⟩:=rN h2;have q1:=pP Xe h1 h3;have q2:=pP aJL h2 h4;subst q1;subst q2;exact wR i j _ _ Xe aJL h3 h4 h5
 ·intro i d' v h1 hv;obtain⟨d,hd⟩:=rN h1;have aWV:=Tm i d v hd hv;have aOI:∀(X:Nat->Prop),(∀b,X b->(Y b\/∃(j:Nat) (d':D),rs[j]?=some d'/\iU d'=true/\g j=b))->fV (fun b=>Y b\/∃(j:Nat) (d':D),rs[j]?=some d'/\iU d'=true/\g j=b) w' X w' :=
   fun X hX=>⟨bLR _,fun b _ hn=>⟨rfl,fun hx=>hn (hX b hx)⟩⟩
  have bDU:∀{x:D},iU x=false->lL (fun b=>Y b\/∃(j:Nat) (d':D),rs[j]?=some d'/\iU d'=true/\g j=b) w' x v->lL (fun b=>Y b\/∃(j:Nat) (d':D),aIM[j]?=some d'/\iU d'=true/\g j=b) w' x v :=
   fun _ hx=>hx.later (aOI _ aOA)
  have aTQ:∀{x:D},iU x=false->(match x with
   | .own e k ns=>Lj w.heap.size w' (g i) e k ns v
   |d=>lL (fun b=>Y b\/∃(j:Nat) (d':D),rs[j]?=some d'/\iU d'=true/\g j=b) w' d v)->lL (fun b=>Y b\/∃(j:Nat) (d':D),rs[j]?=some d'/\iU d'=true/\g j=b) w' x v:=by
   intro x hx hm;cases x with
   |own e k ns=>cases hx
   |s x=>exact hm
   |rows a b c=>exact hm
   |agg cs=>exact hm
   |io=>exact hm
   |back=>exact hm
  have Xh:∀{x:D},iU x=false->lL (fun b=>Y b\/∃(j:Nat) (d':D),aIM[j]?=some d'/\iU d'=true/\g j=b) w' x v->(match x with
   | .own e k ns=>Lj w.heap.size w' (g i) e k ns v
   |d=>lL (fun b=>Y b\/∃(j:Nat) (d':D),aIM[j]?=some d'/\iU d'=true/\g j=b) w' d v):=by
   intro x hx hm;cases x with
   |own e k ns=>cases hx
   |s x=>exact hm
   |rows a b c=>exact hm
   |agg cs=>exact hm
   |io=>exact hm
   |back=>exact hm
  rcases hr.at hd h1 with rfl |⟨h3,⟨e0,k,ns,rfl,rfl⟩ |⟨h4,h5⟩⟩
  ·cases aLW:iU d' with
   |true =>
    cases d' with
    |own e k ns=>exact aWV
    |s x=>cases aLW
    |io=>cases aLW
    |back=>cases aLW
    |rows a b c=>cases aLW
    |agg cs=>cases aLW
   |false=>exact Xh aLW (bDU aLW (aTQ aLW aWV))
  ·obtain⟨arr,cap,Yz,hbg,hh,Xb,hn1b,aTU,Qn⟩:=aWV;refine⟨_,_,Yz,Xb,fun j n hj=>⟨g i,0,rfl,?_,?_,?_⟩⟩
   ·exact(Array.getElem?_eq_some_iff.1 hh).1
   ·rintro (hy |⟨j',d',q1,q2,q3⟩)
    ·have:=hY _ hy;omega
    ·obtain⟨d2,aRA⟩:=rN q1;have:=pP aRA q1 q2;subst this;have:=wR j' i _ _ aRA hd q2 rfl q3;subst this;rw[h1]at q1;cases q1;cases q2
   ·rw[cell_of_row w' (g i) _ arr e0 (0,0) hh];simpa using Qn j n hj
  ·exact Xh h3 (h5 _ _ _ (bDU h4 (aTQ h4 aWV)))
def orc0(r:Prop×List D):cX
 | []=>some r
 |_=>none
def orc1{α:Type}(p:kN α)(f:α->Prop×List D):cX
 | [a]=>match p.get a with
  |some x=>some (f x)
  |none=>none
 |_=>none
def orc2{α β:Type}(p:kN α)(q:kN β)(f:α->β->Prop×List D):cX
 | [a,b]=>match p.get a,q.get b with
  |some x,some y=>some (f x y)
  |_,_=>none
 |_=>none
def orc3{α β γ:Type}(p:kN α)(q:kN β)(r:kN γ)(f:α->β->γ->Prop×List D):cX
 | [a,b,c]=>match p.get a,q.get b,r.get c with
  |some x,some y,some z=>some (f x y z)
  |_,_,_=>none
 |_=>none
def orc4{α β γ δ:Type}(p:kN α)(q:kN β)(r:kN γ)(s:kN δ)(f:α->β->γ->δ->Prop×List D):cX
 | [a,b,c,d]=>match p.get a,q.get b,r.get c,s.get d with
  |some x,some y,some z,some u=>some (f x y z u)
  |_,_,_,_=>none
 |_=>none
structure qA(P:Program)(E:Env)(f:FuncId)(fn:Func)(c:Code):Prop where
 ty:mH P E.T
 calls:iS P E
 mix:P.follows .mixedOrders=true
 fnc:P.funcs[f]?=some fn
 body:fn.body=some c
 nt:E.nt=fn.ntmps
 has:sQ P f
 io:E.io=[]
theorem Zl{P:Program}{E:Env}{f:FuncId}{fn:Func}{c:Code}(ty:mH P E.T)(mix:P.follows .mixedOrders=true)(calls:iS P E)(hf:P.funcs[f]?=some fn)(hb:fn.body=some c)(nt:E.nt=fn.ntmps)(hn:(fn.name== "runtime.NumGoroutine")=false)(io:E.io=[]:=by rfl):qA P E f fn c :=
 ⟨ty,calls,mix,hf,hb,nt,uR hf hb hn,io⟩
structure kK(P:Program)(E:Env)(f:FuncId)(fn:Func)(c:Code):Prop where
 ty:mH P E.T
 calls:iS P E
 mix:P.follows .mixedOrders=true
 fnc:P.funcs[f]?=some fn
 body:fn.body=some c
 nt:E.nt=fn.ntmps
 has:sQ P f
 io:E.io=[0]
 n0:E.n0=1
theorem sV{P:Program}{E:Env}{f:FuncId}{fn:Func}{c:Code}(ty:mH P E.T)(mix:P.follows .mixedOrders=true)(calls:iS P E)(hf:P.funcs[f]?=some fn)(hb:fn.body=some c)(nt:E.nt=fn.ntmps)(hn:(fn.name== "runtime.NumGoroutine")=false)(io:E.io=[0])(n0:E.n0=1):kK P E f fn c :=
 ⟨ty,calls,mix,hf,hb,nt,uR hf hb hn,io,n0⟩
variable {P:Program} {E:Env} {f:FuncId} {fn:Func} {c:Code}
theorem qA.aXY(h:qA P E f fn c){r:Prop×List D}(hs:r.1->aF E fn c []=some r.2):kZ P E.glob f (orc0 r):=by
 intro ds g rs hd hg;unfold orc0 at hd;split at hd
 ·cases hd;exact⟨fn_contract h.ty h.calls h.mix h.fnc h.body h.nt h.io (bRU _) (hs hg),h.has⟩
 ·cases hd
theorem qA.nA{α:Type}(h:qA P E f fn c){p:kN α}{g:α->Prop×List D}(hn:bLU 1 fn.ntmps=true)(hs:∀x,(g x).1->aF E fn c [p.put x]=some (g x).2):kZ P E.glob f (orc1 p g):=by
 intro ds q rs hd hg;unfold orc1 at hd;split at hd
 ·split at hd
  ·rename_i x hx;have hd:=Option.some.inj hd;have e1:q=(g x).1:=by rw[hd]
   have e2:rs=(g x).2:=by rw[hd]
   subst e1;subst e2;exact⟨(fn_contract (ds:=[p.put x]) h.ty h.calls h.mix h.fnc h.body h.nt h.io (bNP hn) (hs x hg)).aYA (p.le hx),h.has⟩
  ·cases hd
 ·cases hd
theorem qA.lE{α β:Type}(h:qA P E f fn c){p:kN α}{p':kN β}{g:α->β->Prop×List D}(hn:bLU 2 fn.ntmps=true)(hs:∀x y,(g x y).1->aF E fn c [p.put x,p'.put y]=some (g x y).2):kZ P E.glob f (orc2 p p' g):=by
 intro ds q rs hd hg;unfold orc2 at hd;split at hd
 ·split at hd
  ·rename_i x y hx hy;have hd:=Option.some.inj hd;have e1:q=(g x y).1:=by rw[hd]
   have e2:rs=(g x y).2:=by rw[hd]
   subst e1;subst e2;exact⟨(fn_contract (ds:=[p.put x,p'.put y]) h.ty h.calls h.mix h.fnc h.body h.nt h.io (bNP hn) (hs x y hg)).aXZ (p.le hx) (p'.le hy),h.has⟩
  ·cases hd
 ·cases hd
theorem qA.zA{α β γ:Type}(h:qA P E f fn c){p:kN α}{p':kN β}{Mi:kN γ}{g:α->β->γ->Prop×List D}(hn:bLU 3 fn.ntmps=true)(hs:∀x y z,(g x y z).1->aF E fn c [p.put x,p'.put y,Mi.put z]=some (g x y z).2):kZ P E.glob f (orc3 p p' Mi g):=by
 intro ds q rs hd hg;unfold orc3 at hd;split at hd
 ·split at hd
  ·rename_i x y z hx hy hz;have hd:=Option.some.inj hd;have e1:q=(g x y z).1:=by rw[hd]
   have e2:rs=(g x y z).2:=by rw[hd]
   subst e1;subst e2;exact⟨(fn_contract (ds:=[p.put x,p'.put y,Mi.put z]) h.ty h.calls h.mix h.fnc h.body h.nt h.io (bNP hn) (hs x y z hg)).bDA (p.le hx) (p'.le hy) (Mi.le hz),h.has⟩
  ·cases hd
 ·cases hd
theorem qA.aSE{α β γ δ:Type}(h:qA P E f fn c){p:kN α}{p':kN β}{Mi:kN γ}{p3:kN δ}{g:α->β->γ->δ->Prop×List D}(hn:bLU 4 fn.ntmps=true)(hs:∀x y z u,(g x y z u).1->aF E fn c [p.put x,p'.put y,Mi.put z,p3.put u]=some (g x y z u).2):kZ P E.glob f (orc4 p p' Mi p3 g):=by
 intro ds q rs hd hg;unfold orc4 at hd;split at hd
 ·split at hd
  ·rename_i x y z u hx hy hz hu;have hd:=Option.some.inj hd;have e1:q=(g x y z u).1:=by rw[hd]
   have e2:rs=(g x y z u).2:=by rw[hd]
   subst e1;subst e2;exact⟨(fn_contract (ds:=[p.put x,p'.put y,Mi.put z,p3.put u]) h.ty h.calls h.mix h.fnc h.body h.nt h.io (bNP hn) (hs x y z u hg)).bGQ (p.le hx) (p'.le hy) (Mi.le hz) (p3.le hu),h.has⟩
  ·cases hd
 ·cases hd
theorem kK.aXV(h:kK P E f fn c){e:TypeId}{k:IntKind}{x:List Int×Nat×Nat}{ds ds' rs:List D}{lC:List Int}(hn:1+ds'.length<=fn.ntmps)
  (hs:aF E fn c ((Ag e k).put x :: ds')=some (rs ++ [.io e k lC 0 0])) (hl:lC.length=x.1.length) (aMA:ds.length=ds'.length)
  (hd:∀(i:Nat) (y y':D),ds[i]?=some y->ds'[i]?=some y'->Am y=false/\Am y'=false/\zQ y y'):mS P E.glob f [0] ((Ag e k).put x :: ds) rs [.io e k lC 0 0]:=by
 have vU:∀(i:Nat) (d:D),ds'[i]?=some d->Am d=false:=fun i d hi=>by
  obtain⟨y,hy⟩:=bA (l:=ds) (i:=i) (by have:=aR hi;omega);exact(hd i y d hy hi).2.1
 have:=Jn h.ty h.calls h.mix h.fnc h.body h.nt (fun i hi=>by rw[h.io]at hi;rw[h.n0];simp at hi;omega) (ds:=(Ag e k).put x :: ds') (by simp;omega) hs (by rw[h.io];rfl)
  (by
   rw[h.io];intro j i hj
   match j with
   |0 =>
    simp at hj;subst hj;exact⟨e,k,x.1,x.2.1,x.2.2,e,k,lC,rfl,rfl,hl⟩
   |j+1=>simp at hj)
  (by
   rw[h.io];intro i d hi Hg
   match i with
   |0=>simp
   |i+1=>rw[vU i d (by simpa using hi)]at Hg;cases Hg)
 rw[h.io]at this;exact this.bGR aMA hd
theorem kK.nA(h:kK P E f fn c){e:TypeId}{k:IntKind}{g:List Int×Nat×Nat->Prop×List D}(hn:bLU 1 fn.ntmps=true)(hs:∀x,(g x).1->aF E fn c [(Ag e k).put x]=some (g x).2/\∃rs lC,(g x).2=rs ++ [.io e k lC 0 0]/\lC.length=x.1.length):nW P E.glob f (orc1 (Ag e k) g):=by
 intro ds q rs hd hg;unfold orc1 at hd;split at hd
 ·rename_i d1;split at hd
  ·rename_i x hx;have hd:=Option.some.inj hd;have e1:q=(g x).1:=by rw[hd]
   have e2:rs=(g x).2:=by rw[hd]
   subst e1;subst e2;obtain⟨h1,Bw,lC,h2,h3⟩:=hs x hg;rw[h2]at h1 ⊢;refine⟨⟨Bw,_,rfl,?_⟩,h.has⟩;have e3:=Nn (show dIO e k d1=some x from hx);rw[e3];exact h.aXV (x:=x) (ds':=[]) (by have:=bNP hn;simp;omega) h1 h3 rfl fun i a b ha hb=>by simp at ha
  ·cases hd
 ·cases hd
theorem kK.lE{α:Type}(h:kK P E f fn c){e:TypeId}{k:IntKind}{p:kN α}[hp:aAF p]{g:List Int×Nat×Nat->α->Prop×List D}(hn:bLU 2 fn.ntmps=true)(hs:∀x y,(g x y).1->aF E fn c [(Ag e k).put x,p.put y]=some (g x y).2/\∃rs lC,(g x y).2=rs ++ [.io e k lC 0 0]/\lC.length=x.1.length):nW P E.glob f (orc2 (Ag e k) p g):=by
 intro ds q rs hd hg;unfold orc2 at hd;split at hd
 ·rename_i d1 d2;split at hd
  ·rename_i x y hx hy;have hd:=Option.some.inj hd;have e1:q=(g x y).1:=by rw[hd]
   have e2:rs=(g x y).2:=by rw[hd]
   subst e1;subst e2;obtain⟨h1,Bw,lC,h2,h3⟩:=hs x y hg;rw[h2]at h1 ⊢;refine⟨⟨Bw,_,rfl,?_⟩,h.has⟩;have e3:=Nn (show dIO e k d1=some x from hx);rw[e3];refine h.aXV (x:=x) (ds':=[p.put y]) (by have:=bNP hn;simp;omega) h1 h3 rfl fun i a b ha hb=>?_
   match i with
   |0=>simp at ha hb;subst ha;subst hb;exact⟨(hp.no hy).1,(hp.no hy).2,p.le hy⟩
   |i+1=>simp at ha
  ·cases hd
 ·cases hd
theorem kK.zA{α β:Type}(h:kK P E f fn c){e:TypeId}{k:IntKind}{p:kN α}[hp:aAF p]{p':kN β}[hp':aAF p']{g:List Int×Nat×Nat->α->β->Prop×List D}(hn:bLU 3 fn.ntmps=true)(hs:∀x y z,(g x y z).1->aF E fn c [(Ag e k).put x,p.put y,p'.put z]=some (g x y z).2/\∃rs lC,(g x y z).2=rs ++ [.io e k lC 0 0]/\lC.length=x.1.length):nW P E.glob f (orc3 (Ag e k) p p' g):=by
 intro ds q rs hd hg;unfold orc3 at hd;split at hd
 ·rename_i d1 d2 d3;split at hd
  ·rename_i x y z hx hy hz;have hd:=Option.some.inj hd;have e1:q=(g x y z).1:=by rw[hd]
   have e2:rs=(g x y z).2:=by rw[hd]
   subst e1;subst e2;obtain⟨h1,Bw,lC,h2,h3⟩:=hs x y z hg;rw[h2]at h1 ⊢;refine⟨⟨Bw,_,rfl,?_⟩,h.has⟩;have e3:=Nn (show dIO e k d1=some x from hx);rw[e3];refine h.aXV (x:=x) (ds':=[p.put y,p'.put z]) (by have:=bNP hn;simp;omega) h1 h3 rfl fun i a b ha hb=>?_
   match i with
   |0=>simp at ha hb;subst ha;subst hb;exact⟨(hp.no hy).1,(hp.no hy).2,p.le hy⟩
   |1=>simp at ha hb;subst ha;subst hb;exact⟨(hp'.no hz).1,(hp'.no hz).2,p'.le hz⟩
   |i+2=>simp at ha
  ·cases hd
 ·cases hd
theorem qA.aRQ{α:Type}(h:qA P E f fn c){p:kN α}{g:α->Prop×List D}(hn:bLU 1 fn.ntmps=true)(hs:∀x,(g x).1->∃rs,aF E fn c [p.put x]=some rs/\fT rs (g x).2):kZ P E.glob f (orc1 p g):=by
 intro ds q rs hd hg;unfold orc1 at hd;split at hd
 ·split at hd
  ·rename_i x hx;have hd:=Option.some.inj hd;have e1:q=(g x).1:=by rw[hd]
   have e2:rs=(g x).2:=by rw[hd]
   subst e1;subst e2;obtain⟨Md,he,hle⟩:=hs x hg;exact⟨((fn_contract (ds:=[p.put x]) h.ty h.calls h.mix h.fnc h.body h.nt h.io (bNP hn) he).aYA (p.le hx)).less hle,h.has⟩
  ·cases hd
 ·cases hd
theorem qA.aAJ{α β:Type}(h:qA P E f fn c){p:kN α}{p':kN β}{g:α->β->Prop×List D}(hn:bLU 2 fn.ntmps=true)(hs:∀x y,(g x y).1->∃rs,aF E fn c [p.put x,p'.put y]=some rs/\fT rs (g x y).2):kZ P E.glob f (orc2 p p' g):=by
 intro ds q rs hd hg;unfold orc2 at hd;split at hd
 ·split at hd
  ·rename_i x y hx hy;have hd:=Option.some.inj hd;have e1:q=(g x y).1:=by rw[hd]
   have e2:rs=(g x y).2:=by rw[hd]
   subst e1;subst e2;obtain⟨Md,he,hle⟩:=hs x y hg;exact⟨((fn_contract (ds:=[p.put x,p'.put y]) h.ty h.calls h.mix h.fnc h.body h.nt h.io (bNP hn) he).aXZ (p.le hx) (p'.le hy)).less hle,h.has⟩
  ·cases hd
 ·cases hd
theorem qA.bCP{α β γ:Type}(h:qA P E f fn c){p:kN α}{p':kN β}{Mi:kN γ}{g:α->β->γ->Prop×List D}(hn:bLU 3 fn.ntmps=true)(hs:∀x y z,(g x y z).1->∃rs,aF E fn c [p.put x,p'.put y,Mi.put z]=some rs/\fT rs (g x y z).2):kZ P E.glob f (orc3 p p' Mi g):=by
 intro ds q rs hd hg;unfold orc3 at hd;split at hd
 ·split at hd
  ·rename_i x y z hx hy hz;have hd:=Option.some.inj hd;have e1:q=(g x y z).1:=by rw[hd]
   have e2:rs=(g x y z).2:=by rw[hd]
   subst e1;subst e2;obtain⟨Md,he,hle⟩:=hs x y z hg;exact⟨((fn_contract (ds:=[p.put x,p'.put y,Mi.put z]) h.ty h.calls h.mix h.fnc h.body h.nt h.io (bNP hn) he).bDA (p.le hx) (p'.le hy) (Mi.le hz)).less hle,h.has⟩
  ·cases hd
 ·cases hd
def Xl(f:FuncId)(g:List Value->Option (Prop×List Value))(r:FuncId->List Value->Option (Prop×List Value)):FuncId->List Value->Option (Prop×List Value):=fun f' vs=>bif bLS f' f then g vs else r f' vs
def Xk:FuncId->List Value->Option (Prop×List Value):=fun _ _=>none
theorem Ty:Yd P Xk:=fun _ _ _ _ h=>by cases h
structure aMQ(P:Program)(f:FuncId)(e:Array Value->Sem Value):Prop where
 run:∀(args:Array Value) (w:World),(callFunc f args).run P w=((e args).run P w).andThen fun v w'=>.ok (.value v) w'
theorem Qt{f:FuncId}{g:List Value->Option (Prop×List Value)}{r:FuncId->List Value->Option (Prop×List Value)}{e:Array Value->Sem Value}(hf:aMQ P f e)
  (hg:∀vs q rs,g vs=some (q,rs)->q->(∀v∈rs,v.oneCell'=true)/\∀w,(e vs.toArray).run P w=.ok (resV rs) w) (hr:Yd P r):Yd P (Xl f g r):=by
 intro f' vs q rs h hq;unfold Xl at h;cases hb:bLS f' f with
 |true =>
  rw[hb]at h;have:=bMF hb;subst this;obtain⟨h1,h2⟩:=hg vs q rs h hq;exact⟨h1,fun w=>by rw[hf.run,h2];rfl⟩
 |false=>rw[hb]at h;exact hr f' vs q rs h hq
def gAdd:List Value->Option (Prop×List Value)
 | [.int .u64 x,.int .u64 y,.int .u64 c]=>some ((0<=x/\0<=y/\0<=c/\c<=1),[.int .u64 ((x+y+c)%18446744073709551616),.int .u64 ((x+y+c)/18446744073709551616)])
 |_=>none
theorem aJT(vs:List Value)(q:Prop)(rs:List Value)(h:gAdd vs=some (q,rs))(hq:q):(∀v∈rs,v.oneCell'=true)/\∀w,(add64Entry vs.toArray).run P w=.ok (resV rs) w:=by
 unfold gAdd at h;split at h
 ·cases h;obtain⟨h1,h2,h3,h4⟩:=hq;exact⟨by simp[Value.oneCell'],fun w=>run_add64 _ _ _ h1 h2 h3 h4 w⟩
 ·cases h
def uF:Array Value->Sem Value:=fun args=>do
 let (x,y,b) <-Extern.MathBitsCarry.three "Sub64" args
 pure (Extern.MathBitsCarry.pair ((x+Extern.MathBitsCarry.m64-y-b)%Extern.MathBitsCarry.m64) (if x<y+b then 1 else 0))
theorem Yl(x y c:Int)(hx:0<=x)(hy:0<=y)(aYP:y<18446744073709551616)(aWX:0<=c)(hc:c<=1)(w:World) :
  (uF #[.int .u64 x,.int .u64 y,.int .u64 c]).run P w =
   .ok (.tuple #[.int .u64 ((x-y-c)%18446744073709551616),.int .u64 (if x<y+c then 1 else 0)]) w:=by
 have key:∀k:Nat,k<=1->(uF #[.int .u64 x,.int .u64 y,.int .u64 (k:Int)]).run P w =
   .ok (Extern.MathBitsCarry.pair ((x.toNat+Extern.MathBitsCarry.m64-y.toNat-k)%Extern.MathBitsCarry.m64) (if x.toNat<y.toNat+k then 1 else 0)) w:=by
  intro k hk;have:k=0\/k=1:=by omega
  rcases this with rfl |rfl <;> rfl
 obtain⟨k,rfl⟩:=bQT aWX;rw[key k (by omega)];obtain⟨X,rfl⟩:=bQT hx;obtain⟨Y,rfl⟩:=bQT hy;simp only[Extern.MathBitsCarry.pair,Extern.MathBitsCarry.m64,bPN];have e1:Int.ofNat ((X+2^64-Y-k)%2^64)=((X:Int)-Y-k)%18446744073709551616:=by
  show((((X+2^64-Y-k)%2^64:Nat)):Int)=_;omega
 have e2:Int.ofNat (if X<Y+k then 1 else 0)=if(X:Int)<Y+k then 1 else 0:=by
  show(((if X<Y+k then 1 else 0:Nat)):Int)=_;split <;> split <;> omega
 rw[e1,e2]
def aPC:List Value->Option (Prop×List Value)
 | [.int .u64 x,.int .u64 y,.int .u64 c]=>some ((0<=x/\0<=y/\y<18446744073709551616/\0<=c/\c<=1),[.int .u64 ((x-y-c)%18446744073709551616),.int .u64 (if x<y+c then 1 else 0)])
 |_=>none
theorem aJS(vs:List Value)(q:Prop)(rs:List Value)(h:aPC vs=some (q,rs))(hq:q):(∀v∈rs,v.oneCell'=true)/\∀w,(uF vs.toArray).run P w=.ok (resV rs) w:=by
 unfold aPC at h;split at h
 ·cases h;obtain⟨h1,h2,h3,h4,h5⟩:=hq;exact⟨by simp[Value.oneCell'],fun w=>Yl _ _ _ h1 h2 h3 h4 h5 w⟩
 ·cases h
theorem Qu{f:FuncId}{fn:Func}{e:Array Value->Sem Value}(hf:P.funcs[f]?=some fn)(aTT:(fn.name== "runtime.NumGoroutine")=false)
  (hb:fn.body.isNone=true) (hn:Extern.findNext fn=none) (he:Extern.find fn=some e):aMQ P f e:=⟨fun args w=>run_callFunc_extern hf aTT hb hn he args w⟩
end AI
namespace M
open Go
def val:List Int->Nat
 | []=>0
 |d :: r=>d.toNat+4294967296*val r
def dg(n:Nat):List Int:=if h:n=0 then []else((n%4294967296:Nat):Int) :: dg (n/4294967296)
termination_by n
decreasing_by omega
def cA(a:List Int):Prop:=∀d∈a,0<=d/\d<4294967296
def cD(a:List Int):Prop:=a=dg (val a)
theorem bQ:dg 0=[]:=by rw[dg];rfl
theorem mR{n:Nat}(h:n≠0):dg n=((n%4294967296:Nat):Int) :: dg (n/4294967296):=by rw[dg,dif_neg h]
theorem bN(n:Nat):val (dg n)=n:=by
 induction n using bRC with
 |_ n ih =>
  by_cases h:n=0
  ·subst h;rw[bQ];rfl
  ·rw[mR h,val,ih _ (by omega)];have:=bQX n 4294967296;omega
theorem lV:cA []:=fun _ h=>by cases h
theorem jJ{d:Int}{r:List Int}:cA (d :: r)↔(0<=d/\d<4294967296)/\cA r:=by
 unfold cA;simp
theorem oI{a b:List Int}:cA (a ++ b)↔cA a/\cA b:=by
 unfold cA;simp only[bMT];exact⟨fun h=>⟨fun d hd=>h d (.inl hd),fun d hd=>h d (.inr hd)⟩,fun h d hd=>hd.elim (h.1 d) (h.2 d)⟩
theorem cA.take{a:List Int}(h:cA a)(n:Nat):cA (a.take n):=fun d hd=>h d (bSW hd)
theorem cA.drop{a:List Int}(h:cA a)(n:Nat):cA (a.drop n):=fun d hd=>h d (bSX hd)
theorem iI(n:Nat):cA (bNU n 0):=fun d hd=>by rw[(List.mem_replicate.1 hd).2];omega
theorem iE(n:Nat):cA (dg n):=by
 induction n using bRC with
 |_ n ih =>
  by_cases h:n=0
  ·subst h;rw[bQ];exact lV
  ·rw[mR h];exact jJ.2 ⟨by omega,ih _ (by omega)⟩
theorem aX(n:Nat):cD (dg n):=by unfold cD;rw[bN]
theorem cD.iP{a:List Int}(h:cD a):cA a:=by rw[h];exact iE _
theorem iA:∀(a b:List Int),val (a ++ b)=val a+4294967296^a.length*val b
 | [],b=>by simp[val]
 |d :: a,b=>by
  simp only[bNJ,val,iA a b,bPB,bQQ];rw[bQR,<-bQU,bQP 4294967296 (4294967296^a.length)];omega
theorem cK:∀{a:List Int},cA a->val a<4294967296^a.length
 | [],_=>by simp[val]
 |d :: a,h=>by
  obtain⟨h1,h2⟩:=jJ.1 h;have:=cK h2;simp only[val,bPB,bQQ];have:d.toNat<4294967296:=by omega
  have:4294967296*val a+4294967296<=4294967296^a.length*4294967296:=by
   rw[bQP (4294967296^a.length)];have:4294967296*(val a+1)<=4294967296*4294967296^a.length:=bOF _ (by omega);omega
  omega
theorem iG:∀n,val (bNU n 0)=0
 |0=>rfl
 |n+1=>by simp[bQZ,val,iG n]
theorem Cr:∀{a:List Int},cA a->∃k,a=dg (val a) ++ bNU k 0
 | [],_=>⟨0,by simp[val,bQ]⟩
 |d :: a,h=>by
  obtain⟨h1,h2⟩:=jJ.1 h;obtain⟨k,hk⟩:=Cr h2
  by_cases hz:d.toNat+4294967296*val a=0
  ·have hd:d=0:=by omega
   have hv:val a=0:=by omega
   rw[hv,bQ]at hk;refine⟨k+1,?_⟩;simp only[val];rw[hz,bQ,hd,hk];simp[bQZ]
  ·refine⟨k,?_⟩;simp only[val];rw[mR hz];have e1:(d.toNat+4294967296*val a)%4294967296=d.toNat:=by omega
   have e2:(d.toNat+4294967296*val a)/4294967296=val a:=by omega
   rw[e1,e2,bNJ,<-hk];congr 1;omega
theorem Fc:cD []:=by unfold cD;simp[val,bQ]
theorem wI{a:List Int}(h:cA a)(ht:∀d,a.getLast?=some d->d≠0):cD a:=by
 obtain⟨k,hk⟩:=Cr h;cases k with
 |zero=>unfold cD;simpa using hk
 |succ k =>
  exfalso;refine ht 0 ?_ rfl;rw[hk,bSY,<-bNM];simp
theorem cD.top{a:List Int}(h:cD a){d:Int}(hd:a.getLast?=some d):d≠0:=by
 have key:∀n,∀d,(dg n).getLast?=some d->d≠0:=by
  intro n
  induction n using bRC with
  |_ n ih =>
   intro d hd
   by_cases hn:n=0
   ·subst hn;rw[bQ]at hd;cases hd
   ·rw[mR hn]at hd
    by_cases hq:n/4294967296=0
    ·rw[hq,bQ]at hd;simp at hd;omega
    ·refine ih (n/4294967296) (by omega) d ?_;rw[mR hq]at hd ⊢;rwa [bRV]at hd
 rw[h]at hd;exact key _ d hd
theorem Pu{d:Int}{a:List Int}(h:cD (d :: a)):cD a:=by
 have hd:=h.iP;refine wI (jJ.1 hd).2 fun e he=>h.top ?_
 cases a with
 |nil=>cases he
 |cons x r=>rwa [bRV]
theorem cQ {n k : Nat} (h : n < 4294967296 ^ k) : (dg n).length ≤ k := by
  induction k generalizing n with
  | zero => have : n = 0 := by simpa using h
            subst this; rw [bQ]; exact bLR _
  | succ k ih =>
    by_cases hn : n = 0
    · subst hn; rw [bQ]; simp
    · rw [mR hn, bPB]
      have := ih (n := n / 4294967296) (by rw [bQQ] at h; exact bRL (by rw [bQP]; exact h))
      omega
theorem tI{n:Nat}:n<4294967296^(dg n).length:=by
 have:=cK (iE n);rwa [bN]at this
theorem sK{n m:Nat}(h:n<=m):(dg n).length<=(dg m).length:=cQ (bSG h tI)
theorem oP{a:List Int}(h:cA a):(dg (val a)).length<=a.length:=cQ (cK h)
theorem xV{n k:Nat}(h:k<(dg n).length):4294967296^k<=n:=by
 rcases bMG n (4294967296^k)with h1 |h1
 ·have:=cQ h1;omega
 ·exact h1
theorem jL{a:List Int}{n:Nat}(h:n<a.length):val (a.take (n+1))=val (a.take n)+4294967296^n*(a.getD n 0).toNat:=by
 rw[bRW h,iA,bOH,bRX (by omega)];simp[val,bQV,h]
theorem fX(a:List Int){n:Nat}(h:n<=a.length):val a=val (a.take n)+4294967296^n*val (a.drop n):=by
 have e:=iA (a.take n) (a.drop n);rw[bSZ,bOH,bRX h]at e;exact e
theorem Hl{a:List Int}{n:Nat}(h:n<a.length):a.getD n 0∈a:=by
 rw[bQV,bMH h];simp
theorem cA.get{a:List Int}(h:cA a)(n:Nat):0<=a.getD n 0/\a.getD n 0<4294967296:=by
 rcases bMG n a.length with hn |hn
 ·exact h _ (Hl hn)
 ·rw[bQV,bNN hn];simp
theorem getLast_take{a:List Int}{n:Nat}(h:n<a.length):(a.take (n+1)).getLast?=some (a.getD n 0):=by
 rw[bRW h,bTA];simp[bQV,h]
theorem aFR{xs:List Int}{n:Nat}(h:n<=xs.length):bRM n (bRN 0 (bRM n xs)) ++ bRN (min (bRN 0 (bRM n xs)).length n) (bNU n 0)=xs.take n:=by
 have e:(bRN 0 (bRM n xs)).length=n:=by simp;omega
 rw[e,Nat.min_self,bRY,List.take_take,Nat.min_self];simp
theorem oK{w:Int}(h:0<=w)(h':w<18446744073709551616):AI.dX .and .u64 w 4294967295=w%4294967296:=by
 obtain⟨n,rfl⟩:=bQT h;rw[AI.pA];unfold AI.bitsI0;simp only;have e:(BitVec.ofInt u64.bits (n:Int) &&& BitVec.ofInt u64.bits 4294967295).toNat=n%4294967296:=by
  show(BitVec.ofInt 64 (n:Int) &&& BitVec.ofInt 64 4294967295).toNat=_;rw[BitVec.toNat_and];have e1:(BitVec.ofInt 64 (n:Int)).toNat=n:=by simp;omega
  have e2:(BitVec.ofInt 64 4294967295).toNat=2^32-1:=by decide
  rw[e1,e2,Nat.and_two_pow_sub_one_eq_mod]
 rw[e,wrap_u64];omega
section
variable {R:Type} {x y:Option R}
theorem aO{p:Prop}[Decidable p](h:p:=by omega):AI.aB (decide p) x y=x:=by simp only[AI.aB,decide_eq_true h,cond_true]
theorem aI{p:Prop}[Decidable p](h:¬p:=by omega):AI.aB (decide p) x y=y:=by simp only[AI.aB,decide_eq_false h,cond_false]
theorem cC{a b:Int}(h:a=b:=by omega):AI.aB (a==b) x y=x:=by subst h;simp[AI.aB]
theorem bP{a b:Int}(h:a≠b:=by omega):AI.aB (a==b) x y=y:=by rw[beq_eq_false_iff_ne.2 h];rfl
theorem pW{a b:Int}(h:a≠b:=by omega):AI.aB (a !=b) x y=x:=by rw[bne_iff_ne.2 h];rfl
theorem eN{a b:Int}(h:a=b:=by omega):AI.aB (a !=b) x y=y:=by subst h;simp[AI.aB]
theorem bT:AI.aB true x y=x:=rfl
theorem bF:AI.aB false x y=y:=rfl
theorem aGB{b:Bool}(h:b=true):AI.aB b x y=x:=by rw[h];rfl
theorem Hw{b:Bool}(h:b=false):AI.aB b x y=y:=by rw[h];rfl
theorem gP{g:Prop}(h:g:=by omega):AI.aP g x=x:=AI.Xi h
end
def mY(a b:Nat):Int:=if a<b then -1 else if b<a then 1 else 0
theorem getD_none{a:List Int}{n:Nat}(h:a.length<=n):a.getD n 0=0:=by
 rw[bQV,bNN h];rfl
theorem cE{a:List Int}{n:Nat}(h:a.length<=n):val (a.take n)=val a:=by rw[bTC h]
theorem cB{a:List Int}(n:Nat):val (a.take (n+1))=val (a.take n)+4294967296^n*(a.getD n 0).toNat:=by
 rcases bMG n a.length with h |h
 ·exact jL h
 ·rw[cE (by omega),cE h,getD_none h];simp
theorem gJ{a:List Int}(h:cA a)(n:Nat):val (a.take n)<4294967296^n:=by
 have:=cK (h.take n);exact bMR this (bOR (by omega) (by rw[bOH];omega))
theorem lD{a:List Int}{d:Int}:val (a ++ [d])=val a+4294967296^a.length*d.toNat:=by
 rw[iA];simp[val]
theorem lF{a:List Int}{d:Int}(h:cA a)(hd:0<=d/\d<4294967296):cA (a ++ [d]):=by
 rw[oI,jJ];exact⟨h,hd,lV⟩
theorem Fe{a:List Int}(h:cD a):dg (val a)=a:=h.symm
theorem rL{a b:List Int}(ha:cA a)(hb:cD b)(h:a.length<b.length):val a<val b:=by
 have h1:=cK ha;have h2:4294967296^a.length<=val b:=xV (by rw[<-hb];exact h);omega
theorem cO{a:List Int}(ha:cD a):a.length=0↔val a=0:=by
 constructor
 ·intro h;have:a=[]:=List.length_eq_zero_iff.1 h;subst this;rfl
 ·intro h;rw[ha,h,bQ];rfl
theorem fU{n:Nat}:(dg n).length=0↔n=0:=by rw[cO (aX n),bN]
theorem lU{a:List Int}(h:cA a){n:Nat}{d:Int}(hd:0<=d/\d<4294967296):cA (a.set n d):=by
 intro x hx;rcases bTD hx with h1 |h1
 ·exact h x h1
 ·subst h1;exact hd
theorem qG{a:List Int}{n:Nat}(h:n<a.length)(d:Int):val ((a.set n d).drop n)=d.toNat+4294967296*val (a.drop (n+1)):=by
 have e:(a.set n d).drop n=d :: a.drop (n+1):=by
  rw[bRZ (by simpa using h)];simp[bTE]
 rw[e];rfl
theorem fM{a:List Int}(n:Nat):val (a.drop n)=(a.getD n 0).toNat+4294967296*val (a.drop (n+1)):=by
 rcases bMG n a.length with h |h
 ·rw[bRZ h];simp[val,bQV,h]
 ·rw[bRG h,bRG (by omega),getD_none h];rfl
theorem aFG{l B n d r w:Nat}(hw:0<w):((l*B+d)*n+r)/w=(((l*B+d)%w)*n+r)/w+n*((l*B+d)/w):=by
 have h:=bQX (l*B+d) w;have e:(l*B+d)*n+r=((l*B+d)%w*n+r)+w*(n*((l*B+d)/w)):=by
  generalize l*B+d=t at *;generalize t/w=q at *;generalize t%w=m at *;subst h;rw[Nat.add_mul];have:w*q*n=w*(n*q):=by rw[bQU,bQP q n]
  omega
 rw[e,bSH _ _ hw]
theorem aCX{l B n d r w:Nat}:((l*B+d)*n+r)%w=(((l*B+d)%w)*n+r)%w:=by
 conv=>rhs;rw[bSA,bSB,Nat.mod_mod,<-bSB,<-bSA]
theorem aFT(u v k:Nat):mY (u+k) (v+k)=mY u v:=by
 unfold mY;simp only[Nat.add_lt_add_iff_right]
theorem Pb{a b:Int}(ha:0<=a)(hb:0<=b):(a/b).toNat=a.toNat/b.toNat:=by
 obtain⟨x,rfl⟩:=bQT ha;obtain⟨y,rfl⟩:=bQT hb;rw[<-bRH,bPN,bPN,bPN]
theorem Pa{a b:Int}(ha:0<=a)(hb:0<=b):(a%b).toNat=a.toNat%b.toNat:=by
 obtain⟨x,rfl⟩:=bQT ha;obtain⟨y,rfl⟩:=bQT hb;rw[<-bSI,bPN,bPN,bPN]
end M
namespace M
open Go
def bl(n:Nat):Nat:=if n=0 then 0 else n.log2+1
theorem Fk:bl 0=0:=rfl
theorem tJ(n:Nat):n<2^bl n:=by
 unfold bl;split
 ·omega
 ·exact Nat.lt_log2_self
theorem Xz{n:Nat}(h:n≠0):2^(bl n-1)<=n:=by
 unfold bl;rw[if_neg h];exact Nat.log2_self_le h
theorem dP{n k:Nat}:bl n<=k↔n<2^k:=by
 constructor
 ·intro h;exact bMR (tJ n) (bOR (by omega) h)
 ·intro h
  by_cases hn:n=0
  ·subst hn;exact bRU _
  ·rcases bMG k (bl n)with h1 |h1
   ·exfalso;have h2:=Xz hn;have h3:2^k<=2^(bl n-1):=fD;omega
   ·exact h1
theorem rA{n k:Nat}:k<bl n↔2^k<=n:=by
 have:=@dP n k;omega
theorem rQ{n:Nat}(h:n≠0):0<bl n:=by rw[rA];simp;omega
theorem aVM{n k:Nat}(h:2^k<=n)(h':n<2^(k+1)):bl n=k+1:=by
 have:=dP.2 h';have:=rA.2 h;omega
theorem Ul{r k t:Nat}(hr:r<2^k)(ht:t≠0):bl (r+2^k*t)=k+bl t:=by
 have hp:=rQ ht;have e:k+bl t=(k+(bl t-1))+1:=by omega
 rw[e];apply aVM
 ·rw[bQS];have:=bOF (2^k) (Xz ht);omega
 ·have h1:=tJ t;have h2:2^k*(t+1)<=2^k*2^bl t:=bOF _ h1;rw[<-bQS]at h2;rw[bQR]at h2;have e2:k+(bl t-1)+1=k+bl t:=by omega
  rw[e2];omega
theorem Cu{k t:Nat}(ht:t≠0):bl (2^k*t)=k+bl t:=by
 have:=Ul (r:=0) (k:=k) (t:=t) (cN) ht;rwa [bLT]at this
theorem gD{a b:Nat}(h:a<=b):bl a<=bl b:=dP.2 (bSG h (tJ b))
theorem Km(k:Nat):4294967296^k=2^(32*k):=by rw[bSJ]
theorem Py{n k:Nat}(h:n<2^k):(dg n).length<=k/32+1:=by
 apply cQ;rw[Km];exact bMR h (fD)
theorem aCG{k:Int}(h:0<=k)(h':k<32):u32.wrap (1*((2^(min k.toNat 32):Nat):Int))=((2^k.toNat:Nat):Int):=by
 have e:min k.toNat 32=k.toNat:=by omega
 rw[e,Int.one_mul,wrap_u32];have:2^k.toNat<2^32:=bSK (by omega) (by omega);generalize 2^k.toNat=p at *;omega
theorem aMZ{n:Int}(h:0<=n):n.tdiv 32=n/32:=bTG h
theorem aMX{n:Int}(h:0<=n):n.tmod 32=n%32:=bTH h
theorem Bz(n:Nat):2^n=4294967296^(n/32)*2^(n%32):=by
 rw[Km,<-bQS];congr 1;omega
theorem Zw(v n:Nat):v/4294967296^(n/32)/2^(n%32)=v/2^n:=by
 rw[bRI,<-Bz]
theorem jD{a:List Int}(h:cA a)(n:Nat):val (a.drop n)=val a/4294967296^n:=by
 rcases Nat.le_or_ge n a.length with hn |hn
 ·rw[fX a hn,bSH _ _ (cN),bRO (gJ h n),bLT]
 ·rw[bRG hn,bRO]
  ·rfl
  ·exact bMR (cK h) (bOR (by omega) hn)
end M
namespace M6
open Go
def val:List Int->Nat
 | []=>0
 |d :: r=>d.toNat+18446744073709551616*val r
def dg(n:Nat):List Int:=if h:n=0 then []else((n%18446744073709551616:Nat):Int) :: dg (n/18446744073709551616)
termination_by n
decreasing_by omega
def cA(a:List Int):Prop:=∀d∈a,0<=d/\d<18446744073709551616
def cD(a:List Int):Prop:=a=dg (val a)
theorem bQ:dg 0=[]:=by rw[dg];rfl
theorem mR{n:Nat}(h:n≠0):dg n=((n%18446744073709551616:Nat):Int) :: dg (n/18446744073709551616):=by rw[dg,dif_neg h]
theorem bN(n:Nat):val (dg n)=n:=by
 induction n using bRC with
 |_ n ih =>
  by_cases h:n=0
  ·subst h;rw[bQ];rfl
  ·rw[mR h,val,ih _ (by omega)];have:=bQX n 18446744073709551616;omega
theorem lV:cA []:=fun _ h=>by cases h
theorem jJ{d:Int}{r:List Int}:cA (d :: r)↔(0<=d/\d<18446744073709551616)/\cA r:=by
 unfold cA;simp
theorem oI{a b:List Int}:cA (a ++ b)↔cA a/\cA b:=by
 unfold cA;simp only[bMT];exact⟨fun h=>⟨fun d hd=>h d (.inl hd),fun d hd=>h d (.inr hd)⟩,fun h d hd=>hd.elim (h.1 d) (h.2 d)⟩
theorem cA.take{a:List Int}(h:cA a)(n:Nat):cA (a.take n):=fun d hd=>h d (bSW hd)
theorem cA.drop{a:List Int}(h:cA a)(n:Nat):cA (a.drop n):=fun d hd=>h d (bSX hd)
theorem iI(n:Nat):cA (bNU n 0):=fun d hd=>by rw[(List.mem_replicate.1 hd).2];omega
theorem iE(n:Nat):cA (dg n):=by
 induction n using bRC with
 |_ n ih =>
  by_cases h:n=0
  ·subst h;rw[bQ];exact lV
  ·rw[mR h];exact jJ.2 ⟨by omega,ih _ (by omega)⟩
theorem aX(n:Nat):cD (dg n):=by unfold cD;rw[bN]
theorem cD.iP{a:List Int}(h:cD a):cA a:=by rw[h];exact iE _
theorem iA:∀(a b:List Int),val (a ++ b)=val a+18446744073709551616^a.length*val b
 | [],b=>by simp[val]
 |d :: a,b=>by
  simp only[bNJ,val,iA a b,bPB,bQQ];rw[bQR,<-bQU,bQP 18446744073709551616 (18446744073709551616^a.length)];omega
theorem cK:∀{a:List Int},cA a->val a<18446744073709551616^a.length
 | [],_=>by simp[val]
 |d :: a,h=>by
  obtain⟨h1,h2⟩:=jJ.1 h;have:=cK h2;simp only[val,bPB,bQQ];have:d.toNat<18446744073709551616:=by omega
  have:18446744073709551616*val a+18446744073709551616<=18446744073709551616^a.length*18446744073709551616:=by
   rw[bQP (18446744073709551616^a.length)];have:18446744073709551616*(val a+1)<=18446744073709551616*18446744073709551616^a.length:=bOF _ (by omega);omega
  omega
theorem iG:∀n,val (bNU n 0)=0
 |0=>rfl
 |n+1=>by simp[bQZ,val,iG n]
theorem Cr:∀{a:List Int},cA a->∃k,a=dg (val a) ++ bNU k 0
 | [],_=>⟨0,by simp[val,bQ]⟩
 |d :: a,h=>by
  obtain⟨h1,h2⟩:=jJ.1 h;obtain⟨k,hk⟩:=Cr h2
  by_cases hz:d.toNat+18446744073709551616*val a=0
  ·have hd:d=0:=by omega
   have hv:val a=0:=by omega
   rw[hv,bQ]at hk;refine⟨k+1,?_⟩;simp only[val];rw[hz,bQ,hd,hk];simp[bQZ]
  ·refine⟨k,?_⟩;simp only[val];rw[mR hz];have e1:(d.toNat+18446744073709551616*val a)%18446744073709551616=d.toNat:=by omega
   have e2:(d.toNat+18446744073709551616*val a)/18446744073709551616=val a:=by omega
   rw[e1,e2,bNJ,<-hk];congr 1;omega
theorem Fc:cD []:=by unfold cD;simp[val,bQ]
theorem wI{a:List Int}(h:cA a)(ht:∀d,a.getLast?=some d->d≠0):cD a:=by
 obtain⟨k,hk⟩:=Cr h;cases k with
 |zero=>unfold cD;simpa using hk
 |succ k =>
  exfalso;refine ht 0 ?_ rfl;rw[hk,bSY,<-bNM];simp
theorem cD.top{a:List Int}(h:cD a){d:Int}(hd:a.getLast?=some d):d≠0:=by
 have key:∀n,∀d,(dg n).getLast?=some d->d≠0:=by
  intro n
  induction n using bRC with
  |_ n ih =>
   intro d hd
   by_cases hn:n=0
   ·subst hn;rw[bQ]at hd;cases hd
   ·rw[mR hn]at hd
    by_cases hq:n/18446744073709551616=0
    ·rw[hq,bQ]at hd;simp at hd;omega
    ·refine ih (n/18446744073709551616) (by omega) d ?_;rw[mR hq]at hd ⊢;rwa [bRV]at hd
 rw[h]at hd;exact key _ d hd
theorem Pu{d:Int}{a:List Int}(h:cD (d :: a)):cD a:=by
 have hd:=h.iP;refine wI (jJ.1 hd).2 fun e he=>h.top ?_
 cases a with
 |nil=>cases he
 |cons x r=>rwa [bRV]
theorem cQ {n k : Nat} (h : n < 18446744073709551616 ^ k) : (dg n).length ≤ k := by
  induction k generalizing n with
  | zero => have : n = 0 := by simpa using h
            subst this; rw [bQ]; exact bLR _
  | succ k ih =>
    by_cases hn : n = 0
    · subst hn; rw [bQ]; simp
    · rw [mR hn, bPB]
      have := ih (n := n / 18446744073709551616) (by rw [bQQ] at h; exact bRL (by rw [bQP]; exact h))
      omega
theorem tI{n:Nat}:n<18446744073709551616^(dg n).length:=by
 have:=cK (iE n);rwa [bN]at this
theorem sK{n m:Nat}(h:n<=m):(dg n).length<=(dg m).length:=cQ (bSG h tI)
theorem oP{a:List Int}(h:cA a):(dg (val a)).length<=a.length:=cQ (cK h)
theorem xV{n k:Nat}(h:k<(dg n).length):18446744073709551616^k<=n:=by
 rcases bMG n (18446744073709551616^k)with h1 |h1
 ·have:=cQ h1;omega
 ·exact h1
theorem jL{a:List Int}{n:Nat}(h:n<a.length):val (a.take (n+1))=val (a.take n)+18446744073709551616^n*(a.getD n 0).toNat:=by
 rw[bRW h,iA,bOH,bRX (by omega)];simp[val,bQV,h]
theorem fX(a:List Int){n:Nat}(h:n<=a.length):val a=val (a.take n)+18446744073709551616^n*val (a.drop n):=by
 have e:=iA (a.take n) (a.drop n);rw[bSZ,bOH,bRX h]at e;exact e
theorem Hl{a:List Int}{n:Nat}(h:n<a.length):a.getD n 0∈a:=by
 rw[bQV,bMH h];simp
theorem cA.get{a:List Int}(h:cA a)(n:Nat):0<=a.getD n 0/\a.getD n 0<18446744073709551616:=by
 rcases bMG n a.length with hn |hn
 ·exact h _ (Hl hn)
 ·rw[bQV,bNN hn];simp
theorem getLast_take{a:List Int}{n:Nat}(h:n<a.length):(a.take (n+1)).getLast?=some (a.getD n 0):=by
 rw[bRW h,bTA];simp[bQV,h]
theorem getD_none{a:List Int}{n:Nat}(h:a.length<=n):a.getD n 0=0:=by
 rw[bQV,bNN h];rfl
theorem cE{a:List Int}{n:Nat}(h:a.length<=n):val (a.take n)=val a:=by rw[bTC h]
theorem cB{a:List Int}(n:Nat):val (a.take (n+1))=val (a.take n)+18446744073709551616^n*(a.getD n 0).toNat:=by
 rcases bMG n a.length with h |h
 ·exact jL h
 ·rw[cE (by omega),cE h,getD_none h];simp
theorem gJ{a:List Int}(h:cA a)(n:Nat):val (a.take n)<18446744073709551616^n:=by
 have:=cK (h.take n);exact bMR this (bOR (by omega) (by rw[bOH];omega))
theorem lD{a:List Int}{d:Int}:val (a ++ [d])=val a+18446744073709551616^a.length*d.toNat:=by
 rw[iA];simp[val]
theorem lF{a:List Int}{d:Int}(h:cA a)(hd:0<=d/\d<18446744073709551616):cA (a ++ [d]):=by
 rw[oI,jJ];exact⟨h,hd,lV⟩
theorem Fe{a:List Int}(h:cD a):dg (val a)=a:=h.symm
theorem rL{a b:List Int}(ha:cA a)(hb:cD b)(h:a.length<b.length):val a<val b:=by
 have h1:=cK ha;have h2:18446744073709551616^a.length<=val b:=xV (by rw[<-hb];exact h);omega
theorem cO{a:List Int}(ha:cD a):a.length=0↔val a=0:=by
 constructor
 ·intro h;have:a=[]:=List.length_eq_zero_iff.1 h;subst this;rfl
 ·intro h;rw[ha,h,bQ];rfl
theorem fU{n:Nat}:(dg n).length=0↔n=0:=by rw[cO (aX n),bN]
theorem lU{a:List Int}(h:cA a){n:Nat}{d:Int}(hd:0<=d/\d<18446744073709551616):cA (a.set n d):=by
 intro x hx;rcases bTD hx with h1 |h1
 ·exact h x h1
 ·subst h1;exact hd
theorem qG{a:List Int}{n:Nat}(h:n<a.length)(d:Int):val ((a.set n d).drop n)=d.toNat+18446744073709551616*val (a.drop (n+1)):=by
 have e:(a.set n d).drop n=d :: a.drop (n+1):=by
  rw[bRZ (by simpa using h)];simp[bTE]
 rw[e];rfl
theorem fM{a:List Int}(n:Nat):val (a.drop n)=(a.getD n 0).toNat+18446744073709551616*val (a.drop (n+1)):=by
 rcases bMG n a.length with h |h
 ·rw[bRZ h];simp[val,bQV,h]
 ·rw[bRG h,bRG (by omega),getD_none h];rfl
end M6
namespace M
open Go AI
def zs(b:Bool)(n:Nat):Int:=bif b then -(n:Int)else n
def zv(x:Bool×List Int):Int:=zs x.1 (val x.2)
def aGE(x:Bool×List Int):Prop:=cD x.2/\(x.1=true->val x.2≠0)/\x.2.length<=549755813888
def isNeg(z:Int):Bool:=match z with
 | .negSucc _=>true
 | .ofNat _=>false
def zD(z:Int):D:=.agg [.sc (.bool (isNeg z)),.ints .u32 (dg z.natAbs)]
theorem lR{z:Int}:isNeg z=true↔z<0:=by cases z <;> simp[isNeg] <;> omega
theorem jH{z:Int}:isNeg z=false↔0<=z:=by cases z <;> simp[isNeg] <;> omega
theorem aKX(z:Int):zv (isNeg z,dg z.natAbs)=z:=by
 unfold zv zs;simp only[bN];cases h:isNeg z with
 |true=>have:=lR.1 h;simp only[cond_true];omega
 |false=>have:=jH.1 h;simp only[cond_false];omega
theorem aBA{z:Int}(h:(dg z.natAbs).length<=549755813888):aGE (isNeg z,dg z.natAbs):=by
 refine⟨aX _,fun hn=>?_,h⟩;rw[bN];have:=lR.1 hn;omega
theorem Fq(b:Bool)(n:Nat):isNeg (zs b n)=(b&&decide (n≠0)):=by
 unfold zs;cases b with
 |false=>simp only[cond_false,bRA];exact jH.2 (by omega)
 |true =>
  simp only[cond_true,bOS]
  by_cases h:n=0
  ·subst h;rfl
  ·rw[decide_eq_true h];exact lR.2 (by omega)
theorem jR(b:Bool)(n:Nat):(zs b n).natAbs=n:=by
 unfold zs;cases b <;> simp
theorem aRN(b:Bool)(n:Nat):zD (zs b n)=.agg [.sc (.bool (b&&decide (n≠0))),.ints .u32 (dg n)]:=by
 unfold zD;rw[Fq,jR]
theorem aGE.cells{x:Bool×List Int}(h:aGE x):isNeg (zv x)=x.1/\dg (zv x).natAbs=x.2:=by
 obtain⟨h1,h2,h3⟩:=h;unfold zv;rw[Fq,jR,<-h1];refine⟨?_,rfl⟩;cases hx:x.1 with
 |false=>rfl
 |true=>rw[decide_eq_true (h2 hx)];rfl
theorem aGE.len{x:Bool×List Int}(h:aGE x):x.2.length<=549755813888:=h.2.2
theorem aMR(x:Bool×List Int):(zv x).natAbs=val x.2:=jR _ _
def lG(a b:Int):Int:=if a<b then -1 else if b<a then 1 else 0
theorem Xw{a b:Nat}:0<=mY a b↔b<=a:=by unfold mY;split <;> (try split) <;> omega
theorem Ti(a b:Nat):(dg (a/b)).length<=(dg a).length:=sK (Nat.div_le_self _ _)
theorem aFZ{a:List Int}(h:cA a){n:Nat}(hn:a.length<=n):bl (val a)<=32*n:=by
 rw[dP,<-Km];exact bMR (cK h) (bOR (by omega) hn)
theorem yA(a b:Nat):bl (a+b)<=max (bl a) (bl b)+1:=by
 rw[dP,bQQ];have h1:=tJ a;have h2:=tJ b;have h3:2^bl a<=2^max (bl a) (bl b):=fD;have h4:2^bl b<=2^max (bl a) (bl b):=fD;omega
theorem Le(a b:Nat):bl (a*b)<=bl a+bl b:=by
 rw[dP,bQS];exact Nat.mul_lt_mul'' (tJ a) (tJ b)
theorem Cl{n k:Nat}(h:bl n<=k):(dg n).length<=k/32+1:=Py (dP.1 h)
theorem aIW{x:List Int}(h:cD x):(dg (val x)).length=x.length:=by rw[<-h]
abbrev K6:=Int×Int×Int×Int×Int×Int
def kP(k:K6):Nat:=k.2.1.toNat
def kH(k:K6):Nat:=2^(kP k-1)
end M
namespace M
open Go
theorem Ro{a b:Int}(ha:0<=a)(aXA:a<18446744073709551616)(hb:0<=b)(vL:b<18446744073709551616):AI.dX .and .u64 a b=((a.toNat &&& b.toNat:Nat):Int):=by
 obtain⟨n,rfl⟩:=bQT ha;obtain⟨m,rfl⟩:=bQT hb;rw[AI.pA];unfold AI.bitsI0;simp only;have e:(BitVec.ofInt u64.bits (n:Int) &&& BitVec.ofInt u64.bits (m:Int)).toNat=n &&& m:=by
  show(BitVec.ofInt 64 (n:Int) &&& BitVec.ofInt 64 (m:Int)).toNat=_;rw[BitVec.toNat_and];have e1:(BitVec.ofInt 64 (n:Int)).toNat=n:=by simp;omega
  have e2:(BitVec.ofInt 64 (m:Int)).toNat=m:=by simp;omega
  rw[e1,e2]
 have hle:n &&& m<=n:=Nat.and_le_left;rw[e,wrap_u64];rfl
theorem Pq{a b:Int}(ha:0<=a)(aXA:a<18446744073709551616)(hb:0<=b)(vL:b<18446744073709551616):AI.dX .or .u64 a b=((a.toNat |||b.toNat:Nat):Int):=by
 obtain⟨n,rfl⟩:=bQT ha;obtain⟨m,rfl⟩:=bQT hb;rw[AI.pA];unfold AI.bitsI0;simp only;have e:(BitVec.ofInt u64.bits (n:Int) |||BitVec.ofInt u64.bits (m:Int)).toNat=n |||m:=by
  show(BitVec.ofInt 64 (n:Int) |||BitVec.ofInt 64 (m:Int)).toNat=_;rw[BitVec.toNat_or];have e1:(BitVec.ofInt 64 (n:Int)).toNat=n:=by simp;omega
  have e2:(BitVec.ofInt 64 (m:Int)).toNat=m:=by simp;omega
  rw[e1,e2]
 have iN:n |||m<2^64:=Nat.or_lt_two_pow (by omega) (by omega);rw[e,wrap_u64];rfl
def tz:Nat->Nat
 |0=>0
 |n+1=>if(n+1)%2=1 then 0 else tz ((n+1)/2)+1
termination_by n=>n
decreasing_by omega
theorem yT{n:Nat}(h:n%2=1):tz n=0:=by
 cases n with
 |zero=>omega
 |succ n=>rw[tz,if_pos h]
theorem zR{n:Nat}(h0:n≠0)(h:n%2=0):tz n=tz (n/2)+1:=by
 cases n with
 |zero=>omega
 |succ n=>rw[tz,aY]
theorem oO:∀n,n≠0->n%2^tz n=0/\(n/2^tz n)%2=1:=by
 intro n
 induction n using bRC with
 |_ n ih =>
  intro h0
  by_cases h:n%2=1
  ·rw[yT h];simp[Nat.mod_one];exact h
  ·rw[zR h0 (by omega)];obtain⟨h1,h2⟩:=ih (n/2) (by omega) (by omega);have e:2^(tz (n/2)+1)=2*2^tz (n/2):=by rw[bQQ];omega
   rw[e];refine⟨?_,by rw[<-bRI];exact h2⟩;have h3:=bQX (n/2) (2^tz (n/2));rw[h1]at h3;generalize tz (n/2)=t at *;have h4:n=2*2^t*(n/2/2^t):=by rw[bQU];omega
   generalize n/2/2^t=q at *;rw[h4];exact Nat.mul_mod_right _ _
theorem Fu{n:Nat}(h:n≠0):2^tz n<=n:=by
 obtain⟨h1,h2⟩:=oO n h;have h3:=bQX n (2^tz n);rw[h1]at h3;generalize 2^tz n=p at *;generalize n/p=q at *;have:p*1<=p*q:=bOF _ (by omega);omega
theorem Ls{n:Nat}(h:n≠0):∀k,tz (2^k*n)=k+tz n
 |0=>by simp
 |k+1=>by
  have hp:0<2^k:=cN;have h0:2^k*n≠0:=Nat.mul_ne_zero (by omega) h;have e:2^(k+1)*n=2*(2^k*n):=by rw[bQQ,bQP (2^k) 2,bQU]
  rw[e,zR (by omega) (by omega),Nat.mul_div_cancel_left _ (by omega),Ls h k];omega
theorem aMT{r k n:Nat}(hr:r<2^k)(h:r≠0):tz (r+2^k*n)=tz r:=by
 induction k generalizing r n with
 |zero=>simp at hr;omega
 |succ k ih =>
  have e:2^(k+1)*n=2*(2^k*n):=by rw[bQQ,bQP (2^k) 2,bQU]
  rw[e];rw[bQQ]at hr
  by_cases ho:r%2=1
  ·rw[yT ho,yT (by omega)]
  ·rw[zR (by omega) (by omega),zR h (by omega),show(r+2*(2^k*n))/2=r/2+2^k*n from by omega,ih (by omega) (by omega)]
theorem Qb(a b:Nat):a &&& b=2*(a/2 &&& b/2)+(if a%2=1/\b%2=1 then 1 else 0):=by
 have h1:(a &&& b)/2=a/2 &&& b/2:=Nat.and_div_two;have h2:(a &&& b)%2=1↔a%2=1/\b%2=1:=Nat.and_mod_two_eq_one;rw[<-h1];split
 ·rename_i h;have:=h2.2 h;omega
 ·rename_i h;have:¬(a &&& b)%2=1:=fun hh=>h (h2.1 hh)
  omega
theorem Gz:∀(p m:Nat),m<2^p->m &&& (2^p-1-m)=0
 |0,m,h=>by simp at h;subst h;rfl
 |p+1,m,h=>by
  rw[bQQ]at h ⊢;rw[Qb,show(2^p*2-1-m)/2=2^p-1-m/2 from by omega,Gz p (m/2) (by omega),aY]
theorem Qa:∀(p a b:Nat),a+b=2^p->a≠0->b≠0->a &&& b=2^tz a
 |0,a,b,h,ha,hb=>by simp at h;omega
 |p+1,a,b,h,ha,hb=>by
  rw[bQQ]at h;rw[Qb]
  by_cases ho:a%2=1
  ·rw[yT ho,show b/2=2^p-1-a/2 from by omega,Gz p (a/2) (by omega),aU]
  ·rw[zR ha (by omega),Qa p (a/2) (b/2) (by omega) (by omega) (by omega),aY,bQQ,bQP,bMS]
theorem wH{pre:List Int}{i k:Nat}(h:pre.length=i)(v:Int):(pre ++ bNU (k+1) 0).set i v=(pre ++ [v]) ++ bNU k 0:=by
 subst h;rw[bTI _ _ (bLR _),bPV,bQZ,bTJ,bNM];rfl
theorem Co{pre:List Int}{i:Nat}(h:pre.length=i)(v:Int)(r:List Int):(pre ++ v :: r).getD i 0=v:=by
 subst h;simp[bQV]
theorem Bu{pre:List Int}{i:Nat}(h:pre.length=i)(v u:Int)(r:List Int):(pre ++ v :: r).set i u=pre ++ u :: r:=by
 subst h;rw[bTI _ _ (bLR _),bPV,bTJ]
theorem Cc{c n k:Nat}(h:c<2^k):c |||2^k*n=c+2^k*n:=by
 rw[Nat.or_comm,<-Nat.two_pow_add_eq_or_of_lt h,bRS]
theorem Kl(k:Nat):18446744073709551616^k=2^(64*k):=by rw[bSJ]
theorem eQ{n k:Nat}(h:bl n<=64*k):(M6.dg n).length<=k:=by
 apply M6.cQ;rw[Kl,<-dP];exact h
theorem uX{a:List Int}(h:M6.cA a){n:Nat}(hn:a.length<=n):bl (M6.val a)<=64*n:=by
 rw[dP,<-Kl];exact bMR (M6.cK h) (bOR (by omega) hn)
theorem aCU{x:List Int}(h:M6.cD x):(M6.dg (M6.val x)).length=x.length:=by rw[<-h]
theorem aBQ{n:Int}(h:0<=n):n.tdiv 64=n/64:=bTG h
theorem aBM{n:Int}(h:0<=n):n.tmod 64=n%64:=bTH h
theorem Gk(n:Nat):2^n=18446744073709551616^(n/64)*2^(n%64):=by
 rw[Kl,<-bQS];congr 1;omega
theorem Bs(x k:Nat)(h:k<64):x*2^k=18446744073709551616*(x/2^(64-k))+x*2^k%18446744073709551616:=by
 have e:(18446744073709551616:Nat)=2^(64-k)*2^k:=by rw[<-bQS,show 64-k+k=64 from by omega]
 have h1:x*2^k/18446744073709551616=x/2^(64-k):=by
  rw[e,Nat.mul_div_mul_right _ _ (cN)]
 have:=bQX (x*2^k) 18446744073709551616;rw[h1]at this;omega
theorem Es(x k:Nat)(h:k<64):x*2^k%18446744073709551616=2^k*(x%2^(64-k)):=by
 have e:(18446744073709551616:Nat)=2^(64-k)*2^k:=by rw[<-bQS,show 64-k+k=64 from by omega]
 rw[e,Nat.mul_mod_mul_right,bQP]
end M
namespace W
open Go AI
abbrev Lt(k:IntKind)(b:Nat):TI:={size:=1,bytes:=b,zero:=[.int k 0],kind:=.int k}
abbrev aQP(e:Nat):TI:={size:=1,bytes:=24,zero:=[.slice none 0 0],kind:=.slice e}
abbrev vR(n b:Nat)(z:List Value)(f:List (Nat×Nat×Bool)):TI:={size:=n,bytes:=b,zero:=z,kind:=.struct f}
abbrev kA(k:IntKind):Value:=.int k 0
def Fx:List (Nat×TI):=[
 (2,Lt .i64 8),
 (3,Lt .i64 8),
 (4,{ size:=1,bytes:=1,zero:=[.bool false],kind:=TK.bool }),
 (5,Lt .u8 1),
 (6,Lt .u8 1),
 (7,vR 4 24 [kA .i64,kA .i64,.bool false,kA .u8] [(0,1,false),(1,1,false),(2,1,false),(3,1,false)]),
 (8,vR 4 24 [kA .i64,kA .i64,.bool false,kA .u8] [(0,1,false),(1,1,false),(2,1,false),(3,1,false)]),
 (9,{ size:=1,bytes:=16,zero:=[Value.string ByteArray.empty],kind:=TK.str }),
 (10,{ size:=1,bytes:=16,zero:=[Value.string ByteArray.empty],kind:=TK.str }),
 (11,{ size:=1,bytes:=16,zero:=[Value.string ByteArray.empty],kind:=TK.str }),
 (12,Lt .u64 8),
 (18,vR 1 8 [.pointer none] [(0,1,false)]),
 (19,vR 1 8 [.pointer none] [(0,1,false)]),
 (21,Lt .i32 4),
 (22,Lt .u64 8),
 (25,aQP 22),
 (26,vR 2 32 [.bool false,.slice none 0 0] [(0,1,false),(1,1,false)]),
 (27,vR 2 32 [.bool false,.slice none 0 0] [(0,1,false),(1,1,false)]),
 (28,vR 3 40 [.bool false,.slice none 0 0,kA .i64] [(0,2,true),(2,1,false)]),
 (29,vR 3 40 [.bool false,.slice none 0 0,kA .i64] [(0,2,true),(2,1,false)]),
 (30,Lt .i64 8),
 (33,Lt .i64 8),
 (42,Lt .i64 8),
 (43,vR 6 80 [.bool false,.slice none 0 0,kA .i64,.bool false,.slice none 0 0,kA .i64] [(0,3,true),(3,3,true)]),
 (44,vR 6 80 [.bool false,.slice none 0 0,kA .i64,.bool false,.slice none 0 0,kA .i64] [(0,3,true),(3,3,true)]),
 (51,aQP 3),
 (55,vR 6 48 [kA .i64,kA .i64,kA .i64,kA .u64,kA .i64,kA .i64] [(0,1,false),(1,1,false),(2,1,false),(3,1,false),(4,1,false),(5,1,false)]),
 (56,vR 6 48 [kA .i64,kA .i64,kA .i64,kA .u64,kA .i64,kA .i64] [(0,1,false),(1,1,false),(2,1,false),(3,1,false),(4,1,false),(5,1,false)]),
 (57,aQP 56),
 (61,vR 3 24 [kA .u64,.bool false,kA .i64] [(0,1,false),(1,1,false),(2,1,false)]),
 (62,vR 3 24 [kA .u64,.bool false,kA .i64] [(0,1,false),(1,1,false),(2,1,false)]),
 (66,vR 6 48 [kA .u64,kA .i64,kA .i64,kA .i64,kA .u64,kA .u64] [(0,1,false),(1,1,false),(2,1,false),(3,1,false),(4,1,false),(5,1,false)]),
 (67,vR 6 48 [kA .u64,kA .i64,kA .i64,kA .i64,kA .u64,kA .u64] [(0,1,false),(1,1,false),(2,1,false),(3,1,false),(4,1,false),(5,1,false)]),
 (71,Lt .u32 4),
 (83,vR 4 32 [kA .i64,kA .i64,kA .i64,kA .u64] [(0,1,false),(1,1,false),(2,1,false),(3,1,false)]),
 (84,vR 4 32 [kA .i64,kA .i64,kA .i64,kA .u64] [(0,1,false),(1,1,false),(2,1,false),(3,1,false)]),
 (97,vR 3 24 [kA .i64,kA .i64,kA .i64] [(0,1,false),(1,1,false),(2,1,false)]),
 (98,vR 3 24 [kA .i64,kA .i64,kA .i64] [(0,1,false),(1,1,false),(2,1,false)]),
 (107,vR 2 16 [kA .i64,.bool false] [(0,1,false),(1,1,false)]),
 (108,vR 2 16 [kA .i64,.bool false] [(0,1,false),(1,1,false)]),
 (122,Lt .i64 8),
 (128,vR 2 16 [kA .i64,Value.nilFunc] [(0,1,false),(1,1,false)]),
 (129,vR 2 16 [kA .i64,Value.nilFunc] [(0,1,false),(1,1,false)]),
 (139,Lt .u64 8),
 (164,Lt .i64 8),
 (178,aQP 71),
 (179,vR 2 32 [.bool false,.slice none 0 0] [(0,1,false),(1,1,false)]),
 (180,vR 2 32 [.bool false,.slice none 0 0] [(0,1,false),(1,1,false)]),
 (191,vR 0 0 [] []),
 (192,vR 0 0 [] []),
 (196,vR 1 1 [.bool false] [(0,1,false)]),
 (197,vR 1 1 [.bool false] [(0,1,false)]),
 (199,vR 1 1 [.bool false] [(0,1,false)]),
 (200,vR 3 40 [.bool false,.slice none 0 0,kA .i64] [(0,3,true)]),
 (201,vR 3 40 [.bool false,.slice none 0 0,kA .i64] [(0,3,true)]),
 (211,Lt .i64 8),
 (218,aQP 29),
 (223,aQP 44),
 (241,{ size:=64,bytes:=64,zero:=(bNU 64 (kA .u8)),kind:=TK.arr 64 1 false }),
 (298,{ size:=4,bytes:=96,zero:=[.slice none 0 0,.slice none 0 0,.slice none 0 0,.slice none 0 0],kind:=TK.arr 4 1 false }),
 (311,{ size:=0,bytes:=0,zero:=[],kind:=TK.arr 0 1 false }),
 (312,vR 0 0 [] [(0,0,true)]),
 (313,vR 0 0 [] [(0,0,true)]),
 (315,Lt .u8 1),
 (316,Lt .u8 1),
 (319,Lt .i32 4),
 (320,Lt .i32 4),
 (321,vR 11 48 [kA .u64,kA .u64,kA .u32,kA .u8,kA .u8,kA .u8,kA .u8,Value.nilFunc,.pointer none,kA .i32,kA .i32] [(0,1,false),(1,1,false),(2,1,false),(3,1,false),(4,1,false),(5,1,false),(6,1,false),(7,1,false),(8,1,false),(9,1,false),(10,1,false)]),
 (322,vR 11 48 [kA .u64,kA .u64,kA .u32,kA .u8,kA .u8,kA .u8,kA .u8,Value.nilFunc,.pointer none,kA .i32,kA .i32] [(0,1,false),(1,1,false),(2,1,false),(3,1,false),(4,1,false),(5,1,false),(6,1,false),(7,1,false),(8,1,false),(9,1,false),(10,1,false)])]
theorem oV:mH prog (tlook Fx):=aIA Fx (by kernel_rfl) (by kernel_rfl) (by kernel_rfl)
def ext:FuncId->List Value->Option (Prop×List Value):=(Xl 148 aPC (Xl 146 gAdd Xk))
theorem mG:Yd prog ext:=(Qt (Qu (P:=prog) (f:=148) (fn:=f148) (e:=uF) func148 rfl rfl (by kernel_rfl) (by kernel_rfl)) aJS (Qt (Qu (P:=prog) (f:=146) (fn:=f146) (e:=add64Entry) func146 rfl rfl (by kernel_rfl) (by kernel_rfl)) aJT Ty))
def globs(g:Nat):Option (IntKind×List Int):=bif bLS g 0 then some (.u8,[0,1,56,2,57,49,28,3,61,58,42,50,38,29,17,4,62,47,59,36,45,43,51,22,53,39,33,30,24,18,12,5,63,55,48,27,60,41,37,16,46,35,44,21,52,32,23,11,54,26,40,15,34,20,31,10,25,14,19,9,13,8,7,6])else(none)
def base:Env:={ T:=tlook Fx,C:=fun _ _=>none,ext:=ext,glob:=globs,nt:=0,own:=[],keep:=fun _=>[],roll:=fun _=>none,cut:=fun _=>none }
theorem mixed:prog.follows .mixedOrders=true:=by kernel_rfl
abbrev OK(n:Nat)(o:cX):Prop:=kZ prog base.glob n o
theorem eB(E:Env)(c:Code){n:FuncId}{f:Func}{t:List (Nat×cX)}(h:∀p∈t,kZ prog base.glob p.1 p.2)(hf:prog.funcs[n]?=some f)(hb:f.body=some c:=by exact rfl)(hn:(f.name== "runtime.NumGoroutine")=false:=by exact rfl)(hE:E={ base with C:=callsOf t,nt:=f.ntmps,own:=E.own,keep:=E.keep,cut:=E.cut,wide:=E.wide }:=by exact rfl):qA prog E n f c:=by
 have hg:E.glob=base.glob:=by rw[hE]
 exact Zl (by rw[hE];exact oV) mixed (kG t (by rw[hE]) (by rw[hg];exact h) (by rw[hE];exact mG) (by rw[hE];rfl)) hf hb (by rw[hE]) hn (by rw[hE];rfl)
abbrev Je:TypeId:=71
abbrev eX:TypeId:=22
end W
namespace AI
open Go Go.RowKit
theorem Contract.bGP{P:Program}{G:Nat->Option (IntKind×List Int)}{f:FuncId}{d d' e e' g g' k k' l l':D}{rs:List D}(h:Contract P G f [d',e',g',k',l'] rs)(hd:zQ d d')(he:zQ e e')(hg:zQ g g')(hk:zQ k k')(hl:zQ l l'):Contract P G f [d,e,g,k,l] rs :=
 h.of rfl fun i x x' hx vY=>by
  match i with
  |0=>simp at hx vY;subst hx;subst vY;exact hd
  |1=>simp at hx vY;subst hx;subst vY;exact he
  |2=>simp at hx vY;subst hx;subst vY;exact hg
  |3=>simp at hx vY;subst hx;subst vY;exact hk
  |4=>simp at hx vY;subst hx;subst vY;exact hl
  |i+5=>simp at hx
def orc5{α β γ δ ε:Type}(p:kN α)(q:kN β)(r:kN γ)(s:kN δ)(t:kN ε)(f:α->β->γ->δ->ε->Prop×List D):cX
 | [a,b,c,d,e]=>match p.get a,q.get b,r.get c,s.get d,t.get e with
  |some x,some y,some z,some u,some v=>some (f x y z u v)
  |_,_,_,_,_=>none
 |_=>none
variable {P:Program} {E:Env} {f:FuncId} {fn:Func} {c:Code}
theorem qA.aXX{α β γ δ ε:Type}(h:qA P E f fn c){p:kN α}{p':kN β}{Mi:kN γ}{p3:kN δ}{p4:kN ε}{g:α->β->γ->δ->ε->Prop×List D}(hn:bLU 5 fn.ntmps=true)(hs:∀x y z u v,(g x y z u v).1->aF E fn c [p.put x,p'.put y,Mi.put z,p3.put u,p4.put v]=some (g x y z u v).2):kZ P E.glob f (orc5 p p' Mi p3 p4 g):=by
 intro ds q rs hd hg;unfold orc5 at hd;split at hd
 ·split at hd
  ·rename_i x y z u v hx hy hz hu hv;have hd:=Option.some.inj hd;have e1:q=(g x y z u v).1:=by rw[hd]
   have e2:rs=(g x y z u v).2:=by rw[hd]
   subst e1;subst e2;exact⟨(fn_contract (ds:=[p.put x,p'.put y,Mi.put z,p3.put u,p4.put v]) h.ty h.calls h.mix h.fnc h.body h.nt h.io (bNP hn) (hs x y z u v hg)).bGP (p.le hx) (p'.le hy) (Mi.le hz) (p3.le hu) (p4.le hv),h.has⟩
  ·cases hd
 ·cases hd
end AI
namespace M
open Go AI
def wv(x:Bool×List Int):Int:=zs x.1 (M6.val x.2)
def jK(x:Bool×List Int):Prop:=M6.cD x.2/\(x.1=true->M6.val x.2≠0)/\x.2.length<=8192
def wD(z:Int):D:=.agg [.sc (.bool (isNeg z)),.ints .u64 (M6.dg z.natAbs)]
def fit(n:Nat):Bool:=decide (bl n<=524288)
theorem iO(x:Bool×List Int):(wv x).natAbs=M6.val x.2:=jR _ _
theorem Lp{x:Bool×List Int}(h:x.1=true):wv x=-(M6.val x.2:Int):=by unfold wv zs;rw[h];rfl
theorem Bo{x:Bool×List Int}(h:x.1=false):wv x=(M6.val x.2:Int):=by unfold wv zs;rw[h];rfl
theorem jK.cells{x:Bool×List Int}(h:jK x):isNeg (wv x)=x.1/\M6.dg (wv x).natAbs=x.2:=by
 obtain⟨h1,h2,h3⟩:=h;unfold wv;rw[Fq,jR,<-h1];refine⟨?_,rfl⟩;cases hx:x.1 with
 |false=>rfl
 |true=>rw[decide_eq_true (h2 hx)];rfl
theorem jK.len{x:Bool×List Int}(h:jK x):x.2.length<=8192:=h.2.2
theorem aLA(b:Bool)(n:Nat):wD (zs b n)=.agg [.sc (.bool (b&&decide (n≠0))),.ints .u64 (M6.dg n)]:=by
 unfold wD;rw[Fq,jR]
theorem rD(z:Int):wv (isNeg z,M6.dg z.natAbs)=z:=by
 unfold wv zs;simp only[M6.bN];cases h:isNeg z with
 |true=>have:=lR.1 h;simp only[cond_true];omega
 |false=>have:=jH.1 h;simp only[cond_false];omega
theorem mP{z:Int}(h:bl z.natAbs<=524288):jK (isNeg z,M6.dg z.natAbs):=by
 refine⟨M6.aX _,fun hn=>?_,eQ (k:=8192) (by omega)⟩;rw[M6.bN];have:=lR.1 hn;omega
theorem Uk{n:Nat}(h:(M6.dg n).length<=8192):bl n<=524288:=by
 have:=uX (M6.iE n) h;rw[M6.bN]at this;omega
theorem jK.bl{x:Bool×List Int}(h:jK x):bl (M6.val x.2)<=524288:=by
 have:=uX h.1.iP h.len;omega
def wE(ok:Bool)(z:Int):List D:=[wD (bif ok then z else 0),.s (.sc (.int .i64 (bif ok then 0 else 5)))]
theorem Eo(neg ok:Bool)(n:Nat):[D.agg [.sc (.bool (isNeg (bif (bif ok then(0:Int)else 5)==0 then zs neg (M6.val (bif ok then M6.dg n else []))else 0))),.ints .u64 (M6.dg (bif (bif ok then(0:Int)else 5)==0 then zs neg (M6.val (bif ok then M6.dg n else []))else 0).natAbs)],D.s (.sc (.int .i64 (bif ok then 0 else 5)))]=wE ok (zs neg n):=by
 cases ok with
 |true=>rw[cond_true,cond_true,show((0:Int)==0)=true from rfl,cond_true,M6.bN];rfl
 |false=>rfl
theorem Ff{ok:Bool}{n:Nat}(h:ok=true->bl n<=524288):M6.cD (bif ok then M6.dg n else [])/\(bif ok then M6.dg n else []).length<=1099511627776:=by
 cases ok with
 |true=>have:=eQ (n:=n) (k:=8192) (by have:=h rfl;omega);exact⟨M6.aX _,by rw[cond_true];omega⟩
 |false=>exact⟨M6.Fc,by simp⟩
theorem xU{n:Nat}:decide ((M6.dg n).length<=8192)=fit n:=by
 unfold fit
 by_cases h:bl n<=524288
 ·rw[decide_eq_true h,decide_eq_true (eQ (k:=8192) (by omega))]
 ·rw[decide_eq_false h,decide_eq_false (fun hl=>h (Uk hl))]
theorem wV{n:Nat}(h:fit n=true):bl n<=524288:=of_decide_eq_true h
end M
namespace M
open Go AI
abbrev dR:=Bool×List Int×Int
def aL(x:dR):Prop:=jK (x.1,x.2.1)/\(-1048576<=x.2.2/\x.2.2<=1048576)/\(M6.val x.2.1=0->x.2.2=0)/\(M6.val x.2.1≠0->M6.val x.2.1%2=1)
def dv(x:dR):Int×Int:=(wv (x.1,x.2.1),x.2.2)
def dD(p:Int×Int):D:=.agg [.sc (.bool (isNeg p.1)),.ints .u64 (M6.dg p.1.natAbs),.sc (.int .i64 p.2)]
def dE(ok:Bool)(p:Int×Int):List D:=[dD (bif ok then p else(0,0)),.s (.sc (.int .i64 (bif ok then 0 else 5)))]
def aK(z e:Int):Int×Int:=if z=0 then(0,0)else(z/((2^tz z.natAbs:Nat):Int),e+(tz z.natAbs:Nat))
def fR(z e:Int):Bool:=decide (z=0)||(decide (-1048576<=e+(tz z.natAbs:Nat))&&decide (e+(tz z.natAbs:Nat)<=1048576))
theorem aL.Dh{x:dR}(h:aL x):jK (x.1,x.2.1):=h.1
theorem aL.len{x:dR}(h:aL x):x.2.1.length<=8192:=h.1.len
theorem aL.Fg{x:dR}(h:aL x):M6.cD x.2.1:=h.1.1
theorem aL.dD{x:dR}(h:aL x):M.dD (dv x)=.agg [.sc (.bool x.1),.ints .u64 x.2.1,.sc (.int .i64 x.2.2)]:=by
 have:=h.Dh.cells;unfold M.dD dv;dsimp only at *;rw[this.1,this.2]
theorem aHV{b:Bool}{n:Nat}:zs b n=0↔n=0:=by
 have:=jR b n;omega
theorem aAZ{b:Bool}{n q:Nat}(hq:0<q)(h:n%q=0):zs b n/(q:Int)=zs b (n/q):=by
 have hd:=bQX n q;have e:n=q*(n/q):=by omega
 cases b with
 |false =>
  show((n:Nat):Int)/(q:Int)=((n/q:Nat):Int);rw[bRH]
 |true =>
  show -(n:Int)/(q:Int)=-((n/q:Nat):Int);have e1:-(n:Int)=(q:Int)*(-((n/q:Nat):Int)):=by rw[Int.mul_neg,<-bRP,<-e]
  rw[e1,Int.mul_ediv_cancel_left _ (by omega)]
theorem zS{n:Nat}(h:n≠0):tz n<bl n:=by
 have h1:=Fu h;exact rA.2 h1
def iL(p:Int×Int):Prop:=bl p.1.natAbs<=524288/\(-1048576<=p.2/\p.2<=1048576)/\(p.1=0->p.2=0)/\(p.1≠0->p.1%2=1)
theorem cU(p:Int×Int):dv (isNeg p.1,M6.dg p.1.natAbs,p.2)=p:=by
 unfold dv;dsimp only;rw[rD]
theorem cF{p:Int×Int}(h:iL p):aL (isNeg p.1,M6.dg p.1.natAbs,p.2):=by
 obtain⟨h1,h2,h3,h4⟩:=h;refine⟨mP h1,h2,fun hz=>h3 ?_,fun hz=>?_⟩
 ·dsimp only at hz;rw[M6.bN]at hz;omega
 ·dsimp only at hz ⊢;rw[M6.bN]at hz ⊢;have:=h4 (by omega);omega
theorem aL.uK{x:dR}(h:aL x):iL (dv x):=by
 obtain⟨h1,h2,h3,h4⟩:=h;have ha:=iO (x.1,x.2.1);dsimp only at ha;refine⟨?_,h2,fun hz=>h3 ?_,fun hz=>?_⟩
 ·show bl (wv _).natAbs<=_;rw[ha];exact h1.bl
 ·have hz:wv (x.1,x.2.1)=0:=hz;omega
 ·have hz:wv (x.1,x.2.1)≠0:=hz;have:=h4 (by omega);show wv (x.1,x.2.1)%2=1;omega
theorem iL.neg{p:Int×Int}(h:iL p):iL (-p.1,p.2):=by
 obtain⟨h1,h2,h3,h4⟩:=h;refine⟨by dsimp only;rwa [bSL],h2,fun hz=>h3 (by dsimp only at hz;omega),fun hz=>?_⟩;have:=h4 (by dsimp only at hz;omega);dsimp only;omega
theorem bKW{z:Int}{m n:Nat}(hm:bl z.natAbs<=m)(hn:bl z.natAbs<=n):z/((2^m:Nat):Int)=z/((2^n:Nat):Int):=by
 have one:∀k,bl z.natAbs<=k->z/((2^k:Nat):Int)=if z<0 then -1 else 0:=by
  intro k hk;have h:=dP.1 hk;have hp:0<2^k:=bOQ (by decide);generalize 2^k=q at *
  by_cases hz:z<0
  ·rw[if_pos hz];have e:z=(q+z)+(q:Int)*(-1):=by omega
   rw[e,Int.add_mul_ediv_left _ _ (by omega),bTK (by omega) (by omega)];rfl
  ·rw[if_neg hz,bTK (by omega) (by omega)]
 rw[one m hm,one n hn]
theorem Ar{z:Int}{q:Nat}(hq:0<q):(z/(q:Int)).natAbs<=z.natAbs:=by
 have h:=Int.mul_ediv_add_emod z (q:Int);have h1:=Int.emod_nonneg z (show(q:Int)≠0 by omega);have h2:=Int.emod_lt_of_pos z (show 0<(q:Int) by omega)
 by_cases hz:0<=z
 ·have h3:0<=z/(q:Int):=Int.ediv_nonneg hz (by omega);have h4:z/(q:Int)<=z:=Int.ediv_le_self _ hz;omega
 ·have h3:z/(q:Int)<0:=Int.ediv_neg_of_neg_of_pos (by omega) (by omega);have h4:(q:Int)*(z/(q:Int)+1)<=1*(z/(q:Int)+1):=Int.mul_le_mul_of_nonpos_right (by omega) (by omega);rw[Int.mul_add]at h4;omega
end M
open Go.Value(int bool slice)
open AI.S(sc ints)
namespace W
open Go AI M
def mE(t:List (Nat×cX))(n:Nat)(o:List Nat)(k:List (Nat×List Nat))(c:List Nat):Env:={({base with C:=callsOf t})with nt:=n,own:=o,keep:=fun j=>(tlook k j).getD [],cut:=fun j=>bif c.elem j then tlook k j else none}
noncomputable def bd(f:Func):Code:=f.body.getD .skip
def vA(s:S):KV:=(A.v (V.one (L.s s)),none)
def fW(l:List Int):KV:=vA (S.ints .u64 l)
def vZ(l:List Int):KV:=vA (S.ints .u32 l)
def bI(n:Int):KV:=vA (S.sc (.int .i64 n))
def cG(n:Int):KV:=vA (S.sc (.int .u64 n))
def Lq(b:Bool):KV:=vA (S.sc (.bool b))
def dG(i e:Nat)(c:List S):KV:=(A.v (V.one (L.ptr i 0)),some ⟨e,.cells c⟩)
def cP(n:Int):S:=S.sc (.int .i64 n)
def aHZ(n:Int):S:=S.sc (.int .u64 n)
def cI(b:Bool):S:=S.sc (.bool b)
def eT(l:List Int):S:=S.ints .u64 l
def aRT(l:List Int):S:=S.ints .u32 l
def yD(i n e:Nat)(l:List Int):KV:=(A.v (V.one (L.buf i n)),some ⟨e,.ints .u64 l⟩)
abbrev gI{α:Type}(E:Env)(f:Func)(c:Code)(p:kN α)(g:α→Prop×List D):Prop:=∀x,(g x).1→aF E f c [p.put x]=some (g x).2
abbrev fK{α β:Type}(E:Env)(f:Func)(c:Code)(p:kN α)(q:kN β)(g:α→β→Prop×List D):Prop:=∀x y,(g x y).1→aF E f c [p.put x,q.put y]=some (g x y).2
abbrev qR{α β γ:Type}(E:Env)(f:Func)(c:Code)(p:kN α)(q:kN β)(r:kN γ)(g:α→β→γ→Prop×List D):Prop:=∀x y z,(g x y z).1→aF E f c [p.put x,q.put y,r.put z]=some (g x y z).2
abbrev aGH{α β γ δ:Type}(E:Env)(f:Func)(c:Code)(p:kN α)(q:kN β)(r:kN γ)(t:kN δ)(g:α→β→γ→δ→Prop×List D):Prop:=∀x y z u,(g x y z u).1→aF E f c [p.put x,q.put y,r.put z,t.put u]=some (g x y z u).2
abbrev aGG{α:Type}(E:Env)(f:Func)(c:Code)(p:kN α)(g:α→Prop×List D):Prop:=∀x,(g x).1→∃rs,aF E f c [p.put x]=some rs∧fT rs (g x).2
abbrev El{α β:Type}(E:Env)(f:Func)(c:Code)(p:kN α)(q:kN β)(g:α→β→Prop×List D):Prop:=∀x y,(g x y).1→∃rs,aF E f c [p.put x,q.put y]=some rs∧fT rs (g x y).2
abbrev aVR{α β γ:Type}(E:Env)(f:Func)(c:Code)(p:kN α)(q:kN β)(r:kN γ)(g:α→β→γ→Prop×List D):Prop:=∀x y z,(g x y z).1→∃rs,aF E f c [p.put x,q.put y,r.put z]=some rs∧fT rs (g x y z).2
abbrev sZ:=pG (.pair sB (.pair (sI .u64) (.pair (sN .i64) (.pair sB (.pair (sI .u64) (sN .i64))))))
abbrev gZ:=pG (.pair sB (.pair (sI .u64) (sN .i64)))
abbrev aWD:=pG (.pair sB (sI .u32))
abbrev vI:=pG (.pair sB (sI .u64))
namespace fC
def E:=mE [] 20 [] [] []
def aE:=bd f144
theorem aW:Nk E aE:=nk
theorem start a:aF E f144 aE [D.s (ints u64 a)]=letI A:=(a.length:Int);letI B:=A-(1:Int);aB (decide (A<=(8192:Int))) (aB (A==(0:Int)) (some [D.s (sc (bool true))]) (if 0<=i64.wrap B/\i64.wrap B<A then some [D.s (sc (bool (a.getD (i64.wrap B).toNat 0 !=(0:Int))))]else none)) (some [D.s (sc (bool false))]):=eJ aW
def mU(a:List Int):Bool:=decide (a.length<=8192)&&(a.length==0||a.getD (a.length-1) 0 !=0)
theorem lT{a:List Int}(h:M6.cD a)(hl:a.length<=8192):mU a=true:=by
 unfold mU;rw[decide_eq_true hl,bOS]
 by_cases hz:a.length=0
 ·simp[hz]
 ·have:=M6.getLast_take (a:=a) (n:=a.length-1) (by omega);rw[show a.length-1+1=a.length from by omega,bSM]at this;have:=h.top this;have e1:(a.getD (a.length-1) 0 !=0)=true:=by simpa using this
  rw[e1,bRQ]
def sp(a:List Int):Prop×List D:=(a.length<=1099511627776,[.s (.sc (.bool (mU a)))])
theorem spec:gI E f144 aE (pI .u64) sp:=by
 intro a h;have hl:a.length<=1099511627776:=h;refine(start a).trans ?_;show _=some [D.s (.sc (.bool (mU a)))];unfold mU
 by_cases h1:a.length<=8192
 ·rw[aO,decide_eq_true h1,bOS]
  by_cases hz:a.length=0
  ·rw[cC];simp[hz]
  ·have e:((a.length:Int)-1).toNat=a.length-1:=by omega
   rw[bP,wrap_i64 (n:=(a.length:Int)-1),aU,e];simp[hz]
 ·rw[aI,decide_eq_false h1];rfl
def aG:cX:=orc1 (pI .u64) sp
theorem ok:OK 144 aG:=(eB E aE aD func144).nA rfl spec
end fC
namespace gG
def E:=mE [(144,fC.aG)] 17 [] [] []
def aE:=bd f96
theorem aW:Nk E aE:=nk
theorem start a b:aF E f96 aE [D.agg [sc (bool a),ints u64 b]]=aP (b.length<=1099511627776) (aB (fC.mU b) (aB a (some [D.s (sc (bool !(b.length:Int)==(0:Int)))]) (some [D.s (sc (bool true))])) (some [D.s (sc (bool false))])):=eJ aW
def qD(x:Bool×List Int):Bool:=fC.mU x.2&&!(x.1&&((x.2.length:Int)==0))
theorem nH{x:Bool×List Int}(h:jK x):qD x=true:=by
 unfold qD;rw[fC.lT h.1 h.len,bOS];cases hx:x.1 with
 |false=>rfl
 |true =>
  have:=h.2.1 hx;have hz:x.2.length≠0:=fun hl=>this ((M6.cO h.1).1 hl)
  rw[bOS,beq_eq_false_iff_ne.2 (by omega)];rfl
def sp(x:Bool×List Int):Prop×List D:=(x.2.length<=1099511627776,[.s (.sc (.bool (qD x)))])
theorem spec:gI E f96 aE vI sp:=by
 intro x h;have hl:x.2.length<=1099511627776:=h;refine(start x.1 x.2).trans ?_;show _=some [D.s (.sc (.bool (qD x)))];unfold qD;rw[gP hl];cases fC.mU x.2 with
 |false=>rfl
 |true=>cases x.1 <;> rfl
def aG:cX:=orc1 vI sp
theorem ok:OK 96 aG:=(eB E aE (aA fC.ok aD) func96).nA rfl spec
end gG
namespace kM
def E:=mE [] 8 [] [] []
def aE:=bd f46
theorem aW:Nk E aE:=nk
theorem start a b c:aF E f46 aE [D.agg [sc (bool a),ints u64 b,sc (int i64 c)]]=some [D.s (sc (bool ((b.length:Int)==(0:Int))))]:=eJ aW
def sp(x:dR):Prop×List D:=(True,[.s (.sc (.bool ((x.2.1.length:Int)==0)))])
theorem spec:gI E f46 aE gZ sp:=fun x h=>start x.1 x.2.1 x.2.2
def aG:cX:=orc1 gZ sp
theorem ok:OK 46 aG:=(eB E aE aD func46).nA rfl spec
end kM
namespace jZ
def E:=mE [(96,gG.aG),(46,kM.aG)] 29 [] [(3,[1])] [3]
def aE:=bd f45
theorem aW:Nk E aE:=nk
def J3 a b c:=kV E f45 aE 3 [dG 0 29 [cI a,eT b,cP c]]
theorem start a b c:aF E f45 aE [D.agg [sc (bool a),ints u64 b,sc (int i64 c)]]=letI A:=some [D.s (sc (bool false))];aP (b.length<=1099511627776) (aB (!gG.qD (a,b)) A (aB (decide (c<(-1048576:Int))) A (aB (decide (1048576<c)) A (jZ.J3 a b c)))):=eJ aW
theorem gH a b c:J3 a b c=aP True (aB ((b.length:Int)==(0:Int)) (some [D.s (sc (bool (c==0)))]) (if(0:Int)<=(0:Int)/\0<(b.length:Int)then some [D.s (sc (bool (dX BinOp.and u64 (b.getD 0 0) 1==(1:Int))))]else none)):=cJ aW
def sp(x:dR):Prop×List D:=(aL x,[.s (.sc (.bool true))])
theorem aIV{a:List Int}(h:M6.cD a)(hv:M6.val a%2=1):dX .and .u64 (a.getD 0 0) 1=1:=by
 have g:=h.iP.get 0;rw[Ro g.1 g.2 (by omega) (by omega)];have e:M6.val a=(a.getD 0 0).toNat+18446744073709551616*M6.val (a.drop 1):=by
  have:=M6.fM (a:=a) 0;rwa [bRY]at this
 have e1:(a.getD 0 0).toNat &&& (1:Int).toNat=(a.getD 0 0).toNat%2:=Nat.and_one_is_mod _;rw[e1];omega
theorem spec:gI E f45 aE gZ sp:=by
 intro x h;have h:aL x:=h;have hl:=h.len;have hf:=gG.nH h.Dh;have hn:=h.Fg;obtain⟨b,a,e⟩:=x;obtain⟨hw,he,h0,h1⟩:=h;refine(start b a e).trans ?_
 try dsimp only at *
 unfold sp
 try dsimp only
 rw[gP,hf,bNR,bF,aI,aI,gH,gP trivial]
 try dsimp only
 by_cases hz:a.length=0
 ·rw[cC,h0 ((M6.cO hn).1 hz)];rfl
 ·rw[bP,if_pos ⟨by omega,by omega⟩,aIV hn (h1 (fun hv=>hz ((M6.cO hn).2 hv)))];rfl
def aG:cX:=orc1 gZ sp
theorem ok:OK 45 aG:=(eB E aE (aA gG.ok (aA kM.ok aD)) func45).nA rfl spec
end jZ
namespace Clone
def Jh:Go.Shelf.Ren:=⟨fun |41=>97 |n=>n,fun |22=>25 |23=>22 |4=>4 |n=>n,fun |n=>n⟩
theorem Cm:Go.Proofs.SlLaysE0.n41 prog Jh:={
 mixed:=by kernel_rfl
 f41:=⟨f97.name,by decide,func97.trans (congrArg some (by kernel_rfl))⟩
 t4:=Tryz.underlying4
 a4:=Tryz.isAgg4
 z4:=Tryz.sizeOf4
 v4:=Tryz.zeroValue4
 t22:=Tryz.underlying25
 a22:=Tryz.isAgg25
 z22:=Tryz.sizeOf25
 v22:=Tryz.zeroValue25 }
def sp(a:List Int):Prop×List D:=(a.length<=1099511627776,[.s (.ints .u64 a)])
section
open Go.Shelf Go.RowKit Go.Lib
set_option maxHeartbeats 2000000
set_option maxRecDepth 100000
theorem zero{P:Program}{ρ:Ren}(L:SlLaysE0.n41 P ρ)(i0:TypeInfo)(z:Value)(bytes:Nat)(hi:P.info? (ρ.t 23)=some i0)(Yw:i0.zero=some z)(aLS:i0.size=1)(aJF:i0.bytes=bytes)(Wy:z.cells.size=1)
  (z23:∀w,(Go.sizeOf (ρ.t 23)).run P w=.ok 1 w) (a:Addr) (c:Nat) (w:World) :
  Calls P (ρ.f 41) #[.slice (some a) 0 c] w fun e w'=>∃v',e=.returned v'/\w'.ownsRow w.heap.size (ρ.t 23) 1 v' 0 []/\Below w.heap.size w w':=by
 have mixed:=L.mixed;have t4:=L.t4;have a4:=L.a4;have z4:=L.z4;have v4:=L.v4;have t22:=L.t22;have a22:=L.a22;have z22:=L.z22;have v22:=L.v22;have q22:∀(w:World) (a:Option Addr) (n c n' c':Nat),(binOp .eql (ρ.t 22) (.slice a n c) (.slice none n' c')).run P w=.ok (.bool a.isNone) w:=fun w a n c n' c'=>Lib.run_eql_slice_nil w _ _ a n c n' c' L.t22
 have u22:∀w,Sem.run P (underlying (ρ.t 22)) w=.ok (TypeDesc.slice (ρ.t 23)) w:=run_underlying t22;obtain⟨_,_,FG⟩:=L.f41
 go_enter FG,SlBodyN.n41_ntmps ρ
 go_wp2_with (at_builtin;refine wpList_append_own _ rfl _ _ (ρ.t 22) rfl w.heap.size (ρ.t 23) i0 z 1 bytes t22 hi Yw aLS aJF Wy (by decide) _ _ _ rfl (World.ownsRow_made w #[] 0 (bLR _) (bRU _) (by simp)) a 0 c [] rfl rfl (by intro j u hj;simp at hj) (by intro u hu;cases hu) (by unfold maxLen;omega) (by omega) (by simp) ?_)
 intro v' w1 pP aUL aTS
 go_wp2
 go_ret
 exact⟨v',rfl,by simpa using pP,((Below.refl _ w).alloc (bLR _) _).grown aUL (by simp) (by intro k hk;simp[Value.ownBlock]at hk;omega)⟩
end
theorem aCQ{X:Nat->Prop}{w:World}{base:Nat}{e:TypeId}{v:Value}{a:List Int}(hX:∀b,X b->b<base)(h:w.ownsRow base e 1 v a.length (a.map (Value.int .u64))):mZ X w (.ints .u64 a) v:=by
 obtain⟨_,⟨rfl,h0⟩ |⟨g,cap,cur,rfl,hg,hb,hn,hm,hs,ht⟩⟩:=h
 ·have:a=[]:=List.length_eq_zero_iff.1 h0;subst this;exact⟨none,0,rfl,bLR _,fun i n hn=>by simp at hn⟩
 ·refine⟨some ⟨g,0,none⟩,cap,rfl,hn,fun i n hi=>⟨g,0,rfl,?_,fun hx=>?_,?_⟩⟩
  ·exact(Array.getElem?_eq_some_iff.1 hb).1
  ·have:=hX g hx;omega
  ·have iN:i<a.length:=(List.getElem?_eq_some_iff.1 hi).1;have e1:(cur.toList.take (a.length*1))[i]?=some (Value.int .u64 n):=by
    rw[ht,bLV,hi];rfl
   rw[List.getElem?_take,aU]at e1;simp only[World.cell?,hb,bLT];simpa using e1
theorem aIU{Y:Nat->Prop}{base:Nat}{w:World}{d:D}{v:Value}(hd:iU d=false)(h:lL Y w d v):Uy Y base w [d] [v]:=by
 refine⟨fun _=>0,rfl,fun i j d1 d2 h1 h2 o1 _ _=>?_,fun i d1 v1 h1 h2=>?_⟩
 ·have:d1=d:=by
   match i with
   |0=>simpa using h1.symm
   |i+1=>simp at h1
  rw[this,hd]at o1;cases o1
 ·have h3:d1=d/\v1=v:=by
   match i with
   |0=>exact⟨by simpa using h1.symm,by simpa using h2.symm⟩
   |i+1=>simp at h1
  obtain⟨rfl,rfl⟩:=h3;have e:(fun b=>Y b\/∃(j:Nat) (d':D),[d1][j]?=some d'/\iU d'=true/\(fun _:Nat=>0) j=b)=Y:=by
   funext b;refine propext ⟨fun hh=>?_,.inl⟩;rcases hh with hh |⟨j,d',h4,h5,_⟩
   ·exact hh
   ·match j with
    |0 =>
     have:d'=d1:=by simpa using h4.symm
     rw[this,hd]at h5;cases h5
    |j+1=>simp at h4
  rw[e];cases d1 with
  |own=>cases hd
  |_=>exact h
theorem aFS(a:List Int)(hl:a.length<=1099511627776):Contract prog base.glob 97 [(pI .u64).put a] [.s (.ints .u64 a)]:=by
 intro Y w vs hY hG hlen hargs;obtain⟨v,rfl⟩:∃v,vs=[v]:=by
  match vs,hlen with
  | [v],_=>exact⟨v,rfl⟩
 obtain⟨A,c,rfl,hc,iD⟩:mZ Y w (.ints .u64 a) v:=hargs 0 _ _ rfl rfl;have t1:=oV eX _ rfl;obtain⟨i0,hi,hs,aUT,z,hz,Jk⟩:=t1.i;have z23:=fun w=>t1.run_sizeOf (w:=w)
 have fin:∀(e:Ending) (w':World),(∃v',e=.returned v'/\w'.ownsRow w.heap.size eX 1 v' a.length (a.map (Value.int .u64))/\RowKit.Below w.heap.size w w')->∃vF,e=.returned (resV vF)/\RowKit.Below w.heap.size w w'/\Uy Y w.heap.size w' [.s (.ints .u64 a)] vF:=by
  rintro e w' ⟨v',rfl,ho,hb⟩;exact⟨[v'],rfl,hb,aIU rfl (aCQ hY ho)⟩
 have Wy:z.cells.size=1:=by
  have:=congrArg List.length Jk;simpa using this
 cases A with
 |none =>
  have ha:a=[]:=by
   cases a with
   |nil=>rfl
   |cons x r=>obtain⟨b,off,h1,_⟩:=iD 0 x rfl;cases h1
  subst ha;refine(AnyE.slices_Clone_nil Cm 0 c w).mono ?_;rintro e w' ⟨rfl,rfl⟩;exact fin _ _ ⟨_,rfl,⟨rfl,.inl ⟨rfl,rfl⟩⟩,RowKit.Below.refl _ _⟩
 |some ad =>
  cases a with
  |nil =>
   refine(zero Cm i0 z _ hi hz hs aUT Wy z23 ad c w).mono ?_;rintro e w' ⟨v',rfl,ho,hb⟩;exact fin _ _ ⟨v',rfl,ho,hb⟩
  |cons x r =>
   obtain⟨b,off,h1,_⟩:=iD 0 x rfl;cases h1;refine(AnyE.slices_Clone Cm i0 z 1 _ hi hz hs aUT Wy (by decide) z23 b off (x :: r).length c ((x :: r).map (Value.int .u64)) w (by simp) (by unfold maxLen;omega) (by show(x :: r).length*8<=_;omega) ?_ ?_).mono ?_
   ·intro j u hj;rw[bLV]at hj;obtain⟨n,hn,rfl⟩:=Option.map_eq_some_iff.1 hj;obtain⟨b',aSF,h2,_,_,h3⟩:=iD j n hn;cases h2;exact h3
   ·intro u hu;obtain⟨n,_,rfl⟩:=List.mem_map.1 hu;rfl
   ·rintro e w' ⟨v',rfl,ho,_,hb⟩;exact fin _ _ ⟨v',rfl,ho,hb⟩
theorem bAT:sQ prog 97:=uR func97 rfl rfl
def aG:cX:=orc1 (pI .u64) sp
theorem ok:kZ prog base.glob 97 aG:=by
 intro ds g rs hd hg;unfold aG orc1 at hd;split at hd
 ·split at hd
  ·rename_i x hx;have hd:=Option.some.inj hd;have e1:g=(sp x).1:=by rw[hd]
   have e2:rs=(sp x).2:=by rw[hd]
   subst e1;subst e2;exact⟨(aFS x hg).aYA ((pI .u64).le hx),bAT⟩
  ·cases hd
 ·cases hd
end Clone
namespace Bk
def E:=mE [(97,Clone.aG)] 10 [] [] []
def aE:=bd f47
theorem aW:Nk E aE:=nk
theorem start a b c:aF E f47 aE [D.agg [sc (bool a),ints u64 b,sc (int i64 c)]]=aP (b.length<=1099511627776) (some [D.agg [sc (bool a),ints u64 b,sc (int i64 c)]]):=eJ aW
def sp(x:dR):Prop×List D:=(x.2.1.length<=1099511627776,[.agg [.sc (.bool x.1),.ints .u64 x.2.1,.sc (.int .i64 x.2.2)]])
theorem spec:gI E f47 aE gZ sp:=fun x h=>(start x.1 x.2.1 x.2.2).trans (gP h)
def aG:cX:=orc1 gZ sp
theorem ok:OK 47 aG:=(eB E aE (aA Clone.ok aD) func47).nA rfl spec
end Bk
namespace xH
def E:=mE [] 21 [] [(2,[0,3])] []
def aE:=bd f147
theorem aW:Nk E aE:=nk
def L2 a b:=nG E f147 aE 2 [fW a,bI b]
theorem start a:aF E f147 aE [D.s (ints u64 a)]=xH.L2 a (a.length:Int):=eJ aW
theorem jY a b:L2 a b=letI B:=(a.length:Int);letI A:=ints u64 (bRN 0 (bRM b.toNat a));aB (decide (0<b)) (if 0<=i64.wrap (b-1)/\i64.wrap (b-1)<B then aB (a.getD (i64.wrap (b-1)).toNat 0==(0:Int)) (xH.L2 a (i64.wrap (b-1))) (if(0:Int)<=(0:Int)/\0<=b/\b<=B then some [D.s A]else none)else none) (if(0:Int)<=(0:Int)/\0<=b/\b<=B then some [D.s A]else none):=lJ aW
def sp(a:List Int):Prop×List D:=(M6.cA a/\a.length<=1099511627776,[.s (.ints .u64 (M6.dg (M6.val a)))])
theorem L{xs:List Int}(hd:M6.cA xs)(hl:xs.length<=4398046511104):∀n:Nat,n<=xs.length->L2 xs n=some [D.s (.ints .u64 (M6.dg (M6.val (xs.take n))))]
 |0,h=>by
  rw[jY,aI,aU];simp[M6.val,M6.bQ]
 |n+1,h=>by
  rw[jY];have e:i64.wrap (((n+1:Nat):Int)-1)=(n:Int):=by rw[wrap_i64];omega
  rw[e,aO,aU,bPN]
  by_cases hz:xs.getD n 0=0
  ·rw[cC hz,L hd hl n (by omega),M6.jL (by omega),hz];simp
  ·rw[bP hz,aU,bPN,bRY];have:M6.cD (xs.take (n+1)):=M6.wI (hd.take _) fun d hg=>by
    rw[M6.getLast_take (by omega)]at hg;cases hg;exact hz
   rw[<-this]
theorem spec:gI E f147 aE (pI .u64) sp:=by
 rintro a ⟨hd,hl⟩;refine(start a).trans ?_;rw[L hd (by omega) a.length (bLR _),bSM];rfl
def aG:cX:=orc1 (pI .u64) sp
theorem ok:OK 147 aG:=(eB E aE aD func147).nA rfl spec
end xH
namespace bZ
def E:=mE [(147,xH.aG)] 10 [5] [] []
def aE:=bd f145
theorem aW:Nk E aE:=nk
theorem start a:aF E f145 aE [D.s (ints u64 a)]=aP (M6.cA a/\a.length<=1099511627776) (aB (decide (8192<(↑(M6.dg (M6.val a)).length:Int))) (some [D.s (sc (slice none 0 0)),D.s (sc (int i64 5))]) (some [D.s (ints u64 (M6.dg (M6.val a))),D.s (sc (int i64 0))])):=eJ aW
def kU(n:Nat):Bool:=decide ((M6.dg n).length<=8192)
def sp(a:List Int):Prop×List D:=(M6.cA a/\a.length<=1099511627776,[.s (.ints .u64 (bif kU (M6.val a)then M6.dg (M6.val a)else [])),.s (.sc (.int .i64 (bif kU (M6.val a)then 0 else 5)))])
theorem spec:aGG E f145 aE (pI .u64) sp:=by
 intro a h;have hl:=M6.oP h.1;have h2:=h.2;have e:=(start a).trans (gP h);unfold sp kU;simp only
 by_cases hc:(M6.dg (M6.val a)).length<=8192
 ·rw[aI]at e;rw[decide_eq_true hc];exact⟨_,e,fT.refl _⟩
 ·rw[aO]at e;rw[decide_eq_false hc];exact⟨_,e,.cons (vV.nil _) (fT.refl _)⟩
def aG:cX:=orc1 (pI .u64) sp
theorem ok:OK 145 aG:=(eB E aE (aA xH.ok aD) func145).aRQ rfl spec
end bZ
namespace xK
def aLC:ByteArray:=⟨((bNB 256).map fun n=>UInt8.ofNat (bl n)).toArray⟩
def E:=mE [] 25 [] [(4,[0,2]),(7,[0,2])] [4,7]
def aE:=bd f137
theorem aW:Nk E aE:=nk
def J4 a b:=kV E f137 aE 4 [cG a,bI b]
def J7 a b:=kV E f137 aE 7 [cG a,bI b]
theorem start a:aF E f137 aE [D.s (sc (int u64 a))]=aB (decide (4294967296<=a)) (xK.J4 (a/4294967296) 32) (xK.J4 a 0):=eJ aW
theorem Ry a b:J4 a b=aB (decide (65536<=a)) (xK.J7 (a/65536) (i64.wrap (b+16))) (xK.J7 a b):=cJ aW
theorem Rx a b:J7 a b=aB (decide (256<=a)) (if 0<=u8.wrap (a/256)/\u8.wrap (a/256)<256 then some [D.s (sc (int i64 (i64.wrap (i64.wrap (b+8)+i64.wrap (Di aLC (u8.wrap (a/256)))))))]else none) (if 0<=u8.wrap a/\u8.wrap a<256 then some [D.s (sc (int i64 (i64.wrap (b+i64.wrap (Di aLC (u8.wrap a))))))]else none):=cJ aW
theorem Lx:(bNB 256).all (fun n=>Di aLC (n:Nat)==(bl n:Nat))=true:=by kernel_rfl
theorem Lw{x:Int}(h:0<=x)(h':x<256):Di aLC x=(bl x.toNat:Nat):=by
 have:=List.all_eq_true.1 Lx x.toNat (List.mem_range.2 (by omega));rw[show((x.toNat:Nat):Int)=x from by omega]at this;exact eq_of_beq this
theorem wrap_u8{x:Int}(h:0<=x)(h':x<256):u8.wrap x=x:=by
 show(if(false&&decide (x%256>=128))=true then x%256-256 else x%256)=x;rw[Int.emod_eq_of_lt h h'];simp
theorem rP{x:Int}{k:Nat}(h:(2:Int)^k<=x):bl x.toNat=k+bl (x/2^k).toNat:=by
 have hp:(0:Int)<2^k:=Int.pow_pos (by omega);have bIA:((2^k:Nat):Int)=2^k:=by rw[Int.natCast_pow];rfl
 obtain⟨n,rfl⟩:=bQT (show 0<=x by omega);rw[<-bIA]at h ⊢;rw[<-bRH,bPN,bPN];have h1:=bQX n (2^k);have h2:=bNZ n (bOQ (n:=k) (show 0<2 by omega));have h3:n/2^k≠0:=by
  intro h0;have:=(Nat.div_eq_zero_iff_lt (bOQ (n:=k) (show 0<2 by omega))).1 h0;omega
 have:=Ul h2 h3;rw[show n%2^k+2^k*(n/2^k)=n from by omega]at this;exact this
theorem bFP{x n:Int}(h:0<=x)(h':x<65536)(hn:0<=n)(Zc:n<=1000):J7 x n=some [D.s (.sc (.int .i64 (n+(bl x.toNat:Nat))))]:=by
 rw[Rx]
 by_cases hc:256<=x
 ·have hb:bl (x/256).toNat<=8:=dP.2 (by omega);have hs:=rP (x:=x) (k:=8) (by omega);rw[show((2:Int)^8)=256 from rfl]at hs;rw[aO hc,wrap_u8 (by omega) (by omega),if_pos ⟨by omega,by omega⟩,Lw (by omega) (by omega),wrap_i64 (n:=n+8),wrap_i64 (n:=((bl (x/256).toNat:Nat):Int)) (by omega) (by omega),wrap_i64,hs];congr 5;omega
 ·have hb:bl x.toNat<=8:=dP.2 (by omega);rw[aI hc,wrap_u8 (by omega) (by omega),if_pos ⟨by omega,by omega⟩,Lw (by omega) (by omega),wrap_i64 (n:=(bl x.toNat:Int)),wrap_i64]
theorem bFR{x n:Int}(h:0<=x)(h':x<4294967296)(hn:0<=n)(Zc:n<=500):J4 x n=some [D.s (.sc (.int .i64 (n+(bl x.toNat:Nat))))]:=by
 rw[Ry]
 by_cases hc:65536<=x
 ·have hs:=rP (x:=x) (k:=16) (by omega);rw[show((2:Int)^16)=65536 from rfl]at hs;rw[aO hc,wrap_i64 (n:=n+16),bFP (by omega) (by omega) (by omega) (by omega),hs];congr 5;omega
 ·rw[aI hc,bFP (by omega) (by omega) (by omega) (by omega)]
def sp(a:Int):Prop×List D:=(0<=a/\a<18446744073709551616,[.s (.sc (.int .i64 (bl a.toNat:Nat)))])
theorem spec:gI E f137 aE (pN .u64) sp:=by
 rintro a ⟨h1,h2⟩;refine(start a).trans ?_;show _=some [D.s (.sc (.int .i64 (bl a.toNat:Nat)))]
 by_cases hc:4294967296<=a
 ·have hs:=rP (x:=a) (k:=32) (by omega);rw[show((2:Int)^32)=4294967296 from rfl]at hs;rw[aO hc,bFR (by omega) (by omega) (by omega) (by omega),hs];congr 5
 ·rw[aI hc,bFR (by omega) (by omega) (by omega) (by omega)];congr 5;omega
def aG:cX:=orc1 (pN .u64) sp
theorem ok:OK 137 aG:=(eB E aE aD func137).nA rfl spec
end xK
namespace sA
def E:=mE [(147,xH.aG),(137,xK.aG)] 21 [] [] []
def aE:=bd f106
theorem aW:Nk E aE:=nk
theorem start a:aF E f106 aE [D.s (ints u64 a)]=letI B:=M6.dg (M6.val a);letI A:=(B.length:Int);letI C:=A-(1:Int);letI F:=i64.wrap C;aP (M6.cA a/\a.length<=1099511627776) (aB (A==(0:Int)) (some [D.s (sc (int i64 0))]) (if 0<=i64.wrap C/\i64.wrap C<A then aP (0<=B.getD F.toNat 0/\B.getD F.toNat 0<(18446744073709551616:Int)) (some [D.s (sc (int i64 (i64.wrap (i64.wrap ((64:Int)*i64.wrap C)+(↑(bl (B.getD F.toNat 0).toNat):Int)))))])else none)):=eJ aW
def sp(a:List Int):Prop×List D:=(M6.cA a/\a.length<=1099511627776,[.s (.sc (.int .i64 (bl (M6.val a):Nat)))])
theorem Kl(k:Nat):18446744073709551616^k=2^(64*k):=by rw[bSJ]
theorem spec:gI E f106 aE (pI .u64) sp:=by
 intro a h;refine(start a).trans ((gP h).trans ?_);show _=some [D.s (.sc (.int .i64 (bl (M6.val a):Nat)))];have hl:=M6.oP h.1;have h2:=h.2;have hn:=M6.aX (M6.val a);have hv:=M6.bN (M6.val a);generalize M6.dg (M6.val a)=d at *;rw[<-hv]
 by_cases hz:d.length=0
 ·rw[cC,(M6.cO hn).1 hz];rfl
 ·have hd:=hn.iP.get (d.length-1);have hv:=M6.cB (a:=d) (d.length-1);rw[show d.length-1+1=d.length from by omega,M6.cE (bLR _)]at hv;have ht:d.getD (d.length-1) 0≠0:=by
   have:=M6.getLast_take (a:=d) (n:=d.length-1) (by omega);rw[show d.length-1+1=d.length from by omega,bSM]at this;exact hn.top this
  have hb:bl (d.getD (d.length-1) 0).toNat<=64:=dP.2 (by omega);have e:((d.length:Int)-1).toNat=d.length-1:=by omega
  rw[bP,wrap_i64 (n:=(d.length:Int)-1),aU,e,gP hd,wrap_i64 (n:=64*((d.length:Int)-1)),wrap_i64,
   hv,Kl,Ul (by rw[<-Kl];exact M6.gJ hn.iP _) (by omega)]
  congr 5;omega
def aG:cX:=orc1 (pI .u64) sp
theorem ok:OK 106 aG:=(eB E aE (aA xH.ok (aA xK.ok aD)) func106).nA rfl spec
end sA
namespace iY
def E:=mE [(144,fC.aG),(145,bZ.aG),(106,sA.aG)] 71 [68] [(12,[0,6,7,8,34,35])] []
def aE:=bd f98
theorem aW:Nk E aE:=nk
def aRM a b c (d:Nat) (e:List Int) f g:=nG E f98 aE 12 [fW a,bI b,bI c,yD 3 d 22 e,bI f,bI g]
theorem start a b:aF E f98 aE [D.s (ints u64 a),D.s (sc (int i64 b))]=letI C:=(a.length:Int);letI B:=sc (slice none 0 0);letI A:=i64.wrap (i64.wrap (b.tdiv 64)+C)+1;aB (decide (b<0)) (some [D.s B,D.s (sc (int i64 1))]) (aP (a.length<=1099511627776) (aB (!fC.mU a) (some [D.s B,D.s (sc (int i64 2))]) (aB (C==(0:Int)) (some [D.s B,D.s (sc (int i64 0))]) (aP (M6.cA a/\a.length<=1099511627776) (aB (decide (i64.wrap ((524288:Int)-(↑(bl (M6.val a)):Int))<b)) (some [D.s B,D.s (sc (int i64 5))]) (if 0<=i64.wrap A/\i64.wrap A<=i64.wrap A/\i64.wrap A<=8796093022208 then iY.aRM a (i64.wrap (b.tdiv 64)) (b.tmod 64) (i64.wrap A).toNat (bNU (i64.wrap A).toNat (0:Int)) C 0 else none)))))):=eJ aW
theorem aGU a b c d e f g:aRM a b c d e f g=letI A:=i64.wrap (b+g)+1;aB (decide (g<f)) (if 0<=i64.wrap (b+g)/\i64.wrap (b+g)<(d:Int)then if 0<=g/\g<(a.length:Int)then if c<0 then none else if 0<=i64.wrap (b+g)/\i64.wrap (b+g)<(d:Int)then if 0<=g/\g<(a.length:Int)then if i64.wrap ((63:Int)-c)<0 then none else if 0<=i64.wrap A/\i64.wrap A<(d:Int)then iY.aRM a b c d ((e.set (i64.wrap (b+g)).toNat (dX BinOp.or u64 (e.getD (i64.wrap (b+g)).toNat 0) (u64.wrap (a.getD g.toNat 0*(↑((2:Nat)^min c.toNat 64):Int))))).set (i64.wrap A).toNat (a.getD g.toNat 0/(2:Int)/(↑((2:Nat)^min (i64.wrap ((63:Int)-c)).toNat 64):Int))) f (i64.wrap (g+1))else none else none else none else none else none) (aP (M6.cA e/\e.length<=1099511627776) (some [D.s (ints u64 (bif bZ.kU (M6.val e)then M6.dg (M6.val e)else [])),D.s (sc (int i64 (bif bZ.kU (M6.val e)then(0:Int)else(5:Int))))])):=lJ aW
theorem step{a P:List Int}{c:Int}{q k i r:Nat}(ha:M6.cA a)(hP:P.length=q+i)(hi:i<a.length)(hl:a.length<=8192)(hq:q<=8192)(hk:k<64)(h0:0<=c)(h1:c<((2^k:Nat):Int))(hr:i+(r+1)=a.length) :
  aRM a q k (q+a.length+1) (P ++ c :: bNU (r+1) 0) a.length i =
   aRM a q k (q+a.length+1) ((P ++ [c+(((a.getD i 0).toNat*2^k%18446744073709551616:Nat):Int)]) ++ (((a.getD i 0).toNat/2^(64-k):Nat):Int) :: bNU r 0) a.length ((i+1:Nat):Int):=by
 have g:=ha.get i;have w1:i64.wrap ((q:Int)+i)=((q+i:Nat):Int):=by rw[wrap_i64];omega
 have w2:i64.wrap (((q+i:Nat):Int)+1)=((q+i+1:Nat):Int):=by rw[wrap_i64];omega
 have w3:i64.wrap (63-(k:Int))=((63-k:Nat):Int):=by rw[wrap_i64];omega
 have m1:min k 64=k:=by omega
 have m2:min (63-k) 64=63-k:=by omega
 have aTJ:2^k<2^64:=bSK (by omega) hk;obtain⟨x,hx⟩:=bQT g.1;rw[aGU,aO,w1,if_pos ⟨by omega,by omega⟩,if_pos ⟨by omega,by omega⟩,aY,if_pos ⟨by omega,by omega⟩,if_pos ⟨by omega,by omega⟩,w3,aY,w2,if_pos ⟨by omega,by omega⟩,
  bPN,bPN,bPN,bPN,bPN,m1,m2,Co hP,Bu hP,wrap_i64 (n:=(i:Int)+1),hx,bPN]
 have Tq:u64.wrap ((x:Int)*((2^k:Nat):Int))=((x*2^k%18446744073709551616:Nat):Int):=by
  rw[eE,<-bRP,bSI];rfl
 have iN:x*2^k%18446744073709551616<18446744073709551616:=bNZ _ (by omega);have aTN:dX .or .u64 c ((x*2^k%18446744073709551616:Nat):Int)=c+((x*2^k%18446744073709551616:Nat):Int):=by
  rw[Pq h0 (by generalize 2^k=p at *;omega) (by omega) (by omega),bPN,Es x k hk,Cc (by omega)];omega
 have Si:(x:Int)/2/((2^(63-k):Nat):Int)=((x/2^(64-k):Nat):Int):=by
  have e:2^(64-k)=2*2^(63-k):=by rw[show 64-k=(63-k)+1 from by omega,bQQ,bQP]
  rw[e,<-bRI,bRH,bRH];rfl
 rw[Tq,aTN,Si];have hs:=Bu (pre:=P ++ [c+((x*2^k%18446744073709551616:Nat):Int)]) (i:=q+i+1) (by simp[hP]) 0 ((x/2^(64-k):Nat):Int) (bNU r 0);rw[bNM,bSN,<-bQZ]at hs;rw[hs];rfl
theorem L{a:List Int}{q k:Nat}(ha:M6.cD a)(hl:a.length<=8192)(hq:q<=8192)(hk:k<64)(Kt:bZ.kU (M6.val a*2^k*18446744073709551616^q)=true):∀(r i:Nat) (P:List Int) (c:Int),i+r=a.length->P.length=q+i->M6.cA P->0<=c->c<((2^k:Nat):Int) ->
  M6.val P+18446744073709551616^(q+i)*c.toNat=18446744073709551616^q*(M6.val (a.take i)*2^k) ->
  aRM a q k (q+a.length+1) (P ++ c :: bNU r 0) a.length i=some [D.s (.ints .u64 (M6.dg (M6.val a*2^k*18446744073709551616^q))),D.s (.sc (.int .i64 0))]:=by
 intro r;have aTJ:2^k<2^64:=bSK (by omega) hk
 induction r with
 |zero =>
  intro i P c hi hP hd h0 h1 hv;have Yz:M6.val (P ++ c :: bNU 0 0)=M6.val a*2^k*18446744073709551616^q:=by
   rw[bSD,M6.lD,hP,hv,M6.cE (by omega),bQP]
  have aMB:M6.cA (P ++ c :: bNU 0 0):=by
   rw[bSD];exact M6.lF hd ⟨h0,by generalize 2^k=p at *;omega⟩
  rw[aGU,aI,gP ⟨aMB,by simp;omega⟩,Yz,Kt];rfl
 |succ r ih =>
  intro i P c hi hP hd h0 h1 hv;have g:=ha.iP.get i;rw[step ha.iP hP (by omega) hl hq hk h0 h1 (by omega)];have iN:(a.getD i 0).toNat*2^k%18446744073709551616<18446744073709551616:=bNZ _ (by omega);have Tp:=Es (a.getD i 0).toNat k hk;have aOC:=Bs (a.getD i 0).toNat k hk;have Si:(a.getD i 0).toNat/2^(64-k)<2^k:=by
   apply bRL;rw[<-bQS,show 64-k+k=64 from by omega];omega
  have aJG:c.toNat+(a.getD i 0).toNat*2^k%18446744073709551616<18446744073709551616:=by
   rw[Tp];have hm:(a.getD i 0).toNat%2^(64-k)<2^(64-k):=bNZ _ (cN);have e:(18446744073709551616:Nat)=2^k*2^(64-k):=by rw[<-bQS,show k+(64-k)=64 from by omega]
   have h3:2^k*((a.getD i 0).toNat%2^(64-k)+1)<=2^k*2^(64-k):=bOF _ hm;rw[<-e,bQR]at h3;omega
  refine ih (i+1) _ _ (by omega) (by simp[hP];omega) (M6.lF hd ⟨by omega,by omega⟩) (by omega) (by omega) ?_;rw[M6.lD,hP,M6.cB,bPN,show q+(i+1)=(q+i)+1 from by omega,bQQ,bQU];have e1:(c+(((a.getD i 0).toNat*2^k%18446744073709551616:Nat):Int)).toNat=c.toNat+(a.getD i 0).toNat*2^k%18446744073709551616:=by omega
  rw[e1];have e2:18446744073709551616^(q+i)*(c.toNat+(a.getD i 0).toNat*2^k%18446744073709551616)+18446744073709551616^(q+i)*(18446744073709551616*((a.getD i 0).toNat/2^(64-k)))=18446744073709551616^(q+i)*c.toNat+18446744073709551616^(q+i)*((a.getD i 0).toNat*2^k):=by
   rw[<-bQR,<-bQR];congr 1;omega
  have e3:18446744073709551616^q*((M6.val (a.take i)+18446744073709551616^i*(a.getD i 0).toNat)*2^k)=18446744073709551616^q*(M6.val (a.take i)*2^k)+18446744073709551616^(q+i)*((a.getD i 0).toNat*2^k):=by
   rw[Nat.add_mul,bQR,bQS,bQU,bQU]
  rw[e3];omega
def iB(n k:Nat):Bool:=decide (n=0)||decide (bl n+k<=524288)
def sp(a:List Int)(n:Int):Prop×List D:=(M6.cD a/\a.length<=8192/\0<=n/\n<4611686018427387904,[.s (.ints .u64 (bif iB (M6.val a) n.toNat then M6.dg (M6.val a*2^n.toNat)else [])),.s (.sc (.int .i64 (bif iB (M6.val a) n.toNat then 0 else 5)))])
theorem spec:El E f98 aE (pI .u64) (pN .i64) sp:=by
 rintro a n ⟨ha,hl,h0,h1⟩;have e:=start a n;have hb:=uX ha.iP hl;rw[aI,gP,fC.lT ha hl,bNR,bF]at e;unfold sp iB;simp only
 by_cases hz:a.length=0
 ·have hv:=(M6.cO ha).1 hz;rw[cC]at e;rw[hv,Nat.zero_mul,M6.bQ,decide_eq_true rfl,bRB];exact⟨_,e,.cons (vV.nil _) (fT.refl _)⟩
 ·have hv:M6.val a≠0:=fun h=>hz ((M6.cO ha).2 h)
  rw[bP,gP ⟨ha.iP,by omega⟩,wrap_i64 (n:=524288-(bl (M6.val a):Int))]at e;rw[decide_eq_false hv,bNS]
  by_cases hc:bl (M6.val a)+n.toNat<=524288
  ·have bER:=rQ hv;have eq:n/64=((n.toNat/64:Nat):Int):=by omega
   have ek:n%64=((n.toNat%64:Nat):Int):=by omega
   rw[aI,aBQ h0,aBM h0,wrap_i64 (n:=n/64),wrap_i64 (n:=n/64+a.length),wrap_i64,if_pos ⟨by omega,by omega,by omega⟩,eq,ek,
    show(((n.toNat/64:Nat):Int)+(a.length:Int)+1).toNat=n.toNat/64+a.length+1 from by omega]at e
   have hval:M6.val a*2^n.toNat=M6.val a*2^(n.toNat%64)*18446744073709551616^(n.toNat/64):=by
    rw[Gk,bQU,bQP (2^(n.toNat%64))]
   have Kt:bZ.kU (M6.val a*2^(n.toNat%64)*18446744073709551616^(n.toNat/64))=true:=by
    rw[<-hval];exact decide_eq_true (eQ (k:=8192) (by rw[bQP,Cu hv];omega))
   have:=L (q:=n.toNat/64) (k:=n.toNat%64) ha hl (by omega) (by omega) Kt a.length 0 (bNU (n.toNat/64) 0) 0 (by omega) (by simp) (M6.iI _) (by omega) (by have:=bOQ (n:=n.toNat%64) (show 0<2 by omega);omega) (by rw[M6.iG];simp[M6.val]);rw[show(bNU (n.toNat/64) (0:Int) ++ 0 :: bNU a.length 0)=bNU (n.toNat/64+a.length+1) 0 from by rw[<-bQZ,List.replicate_append_replicate,bPH]]at this;rw[decide_eq_true hc,hval];exact⟨_,e.trans this,fT.refl _⟩
  ·rw[aO]at e;rw[decide_eq_false hc];exact⟨_,e,.cons (vV.nil _) (fT.refl _)⟩
def aG:cX:=orc2 (pI .u64) (pN .i64) sp
theorem ok:OK 98 aG:=(eB E aE (aA fC.ok (aA bZ.ok (aA sA.ok aD))) func98).aAJ rfl spec
end iY
namespace Ik
def E:=mE [] 13 [] [] []
def aE:=bd f105
theorem aW:Nk E aE:=nk
theorem start a b:aF E f105 aE [D.s (sc (bool a)),D.s (ints u64 b)]=aB a (some [D.agg [sc (bool (decide (0<(b.length:Int)))),ints u64 b]]) (some [D.agg [sc (bool false),ints u64 b]]):=eJ aW
def sp(a:Bool)(b:List Int):Prop×List D:=(M6.cD b/\b.length<=1099511627776,[wD (zs a (M6.val b))])
theorem spec:fK E f105 aE pB (pI .u64) sp:=by
 rintro a b ⟨hb,hl⟩;refine(start a b).trans ?_;show _=some [wD (zs a (M6.val b))];rw[aLA,<-hb];cases a with
 |false=>rfl
 |true =>
  rw[bT,bOS];have:=M6.cO hb
  by_cases hz:b.length=0
  ·rw[decide_eq_false (show ¬(0<(b.length:Int)) by omega),decide_eq_false (show ¬(M6.val b≠0)from fun h=>h (this.1 hz))]
  ·rw[decide_eq_true (show(0<(b.length:Int)) by omega),decide_eq_true (show(M6.val b≠0)from fun h=>hz (this.2 h))]
def aG:cX:=orc2 pB (pI .u64) sp
theorem ok:OK 105 aG:=(eB E aE aD func105).lE rfl spec
end Ik
namespace xJ
def E:=mE [(105,Ik.aG)] 15 [] [] []
def aE:=bd f99
theorem aW:Nk E aE:=nk
theorem start a b c:aF E f99 aE [D.s (sc (bool a)),D.s (ints u64 b),D.s (sc (int i64 c))]=aB (c !=0) (some [D.agg [sc (bool false),sc (slice none 0 0)],D.s (sc (int i64 c))]) (aP (M6.cD b/\b.length<=1099511627776) (some [D.agg [sc (bool (isNeg (zs a (M6.val b)))),ints u64 (M6.dg (zs a (M6.val b)).natAbs)],D.s (sc (int i64 0))])):=eJ aW
def sp(a:Bool)(b:List Int)(c:Int):Prop×List D:=(M6.cD b/\b.length<=1099511627776,[wD (bif c==0 then zs a (M6.val b)else 0),.s (.sc (.int .i64 c))])
theorem spec:aVR E f99 aE pB (pI .u64) (pN .i64) sp:=by
 intro a b c h;have e:=start a b c;have hg:M6.cD b/\b.length<=1099511627776:=h;unfold sp;simp only
 by_cases hc:c=0
 ·subst hc;rw[eN rfl,gP hg]at e;exact⟨_,e,fT.refl _⟩
 ·rw[pW hc]at e;rw[beq_eq_false_iff_ne.2 hc,cond_false];refine⟨_,e,.cons ?_ (fT.refl _)⟩;unfold wD;rw[show(0:Int).natAbs=0 from rfl,M6.bQ];exact vV.agg (.cons (yJ.refl _) (.cons (yJ.nil _) .nil))
def aG:cX:=orc3 pB (pI .u64) (pN .i64) sp
theorem ok:OK 99 aG:=(eB E aE (aA Ik.ok aD) func99).bCP rfl spec
end xJ
namespace Il
def E:=mE [(96,gG.aG),(98,iY.aG),(99,xJ.aG)] 29 [26] [] []
def aE:=bd f48
theorem aW:Nk E aE:=nk
theorem start a c b:aF E f48 aE [D.agg [sc (bool a),ints u64 c],D.s (sc (int i64 b))]=letI B:=bif iY.iB (M6.val c) b.toNat then(0:Int)else(5:Int);letI A:=bif iY.iB (M6.val c) b.toNat then M6.dg (M6.val c*(2:Nat)^b.toNat)else [];letI C:=bif B==0 then zs a (M6.val A)else(0:Int);aB (decide (b<0)) (some [D.agg [sc (bool false),sc (slice none 0 0)],D.s (sc (int i64 1))]) (aP (c.length<=1099511627776) (aB (!gG.qD (a,c)) (some [D.agg [sc (bool false),sc (slice none 0 0)],D.s (sc (int i64 2))]) (aP (M6.cD c/\c.length<=8192/\0<=b/\b<4611686018427387904) (aP (M6.cD A/\A.length<=1099511627776) (some [D.agg [sc (bool (isNeg C)),ints u64 (M6.dg C.natAbs)],D.s (sc (int i64 B))]))))):=eJ aW
theorem Et(n k:Nat):iY.iB n k=fit (n*2^k):=by
 unfold iY.iB fit
 by_cases h:n=0
 ·subst h;rw[Nat.zero_mul];rfl
 ·rw[decide_eq_false h,bNS,bQP,Cu h,bRS]
def sp(x:Bool×List Int)(n:Int):Prop×List D:=(jK x/\0<=n/\n<4611686018427387904,wE (fit (M6.val x.2*2^n.toNat)) (wv x*((2^n.toNat:Nat):Int)))
theorem spec:fK E f48 aE vI (pN .i64) sp:=by
 rintro x n ⟨hx,h0,h1⟩;refine(start x.1 x.2 n).trans ?_;have l1:=hx.len;have f1:=gG.nH hx;obtain⟨p,a⟩:=x;have n1:M6.cD a:=hx.1
 try dsimp only at *
 unfold sp
 try dsimp only
 have hs:wv (p,a)*((2^n.toNat:Nat):Int)=zs p (M6.val a*2^n.toNat):=by
  unfold wv zs;cases p with
  |true=>simp[Int.neg_mul]
  |false=>simp
 rw[aI,gP,f1,bNR,bF,gP ⟨n1,l1,h0,h1⟩,gP (Ff (fun h=>by rw[Et]at h;exact wV h)),Eo,Et,hs]
def aG:cX:=orc2 vI (pN .i64) sp
theorem ok:OK 48 aG:=(eB E aE (aA gG.ok (aA iY.ok (aA xJ.ok aD))) func48).lE rfl spec
end Il
namespace qT
def E:=mE [(144,fC.aG),(145,bZ.aG)] 65 [62] [(8,[0,1,6,7,30,31]),(3,[0,1]),(5,[0,1]),(13,[0,1,6,7,8,9,30,31])] [3,5,13]
def aE:=bd f100
theorem aW:Nk E aE:=nk
def J3 a b:=kV E f100 aE 3 [fW a,fW b]
def J5 a b:=kV E f100 aE 5 [fW a,fW b]
def L8 a b (c:Nat) (d:List Int) e f g:=nG E f100 aE 8 [fW a,fW b,yD 2 c 22 d,cG e,bI f,bI g]
def Ln a b (c:Nat) (d:List Int) e f g h i:=kV E f100 aE 13 [fW a,fW b,yD 2 c 22 d,cG e,bI f,cG g,bI h,bI i]
theorem start a b:aF E f100 aE [D.s (ints u64 a),D.s (ints u64 b)]=letI A:=some [D.s (sc (slice none 0 0)),D.s (sc (int i64 2))];aP (a.length<=1099511627776) (aB (!fC.mU a) A (aP (b.length<=1099511627776) (aB (!fC.mU b) A (qT.J3 a b)))):=eJ aW
theorem gH a b:J3 a b=aB (decide ((a.length:Int)<(b.length:Int))) (qT.J5 b a) (qT.J5 a b):=cJ aW
theorem Is a b:J5 a b=letI A:=(a.length:Int);letI B:=A+(1:Int);if 0<=i64.wrap B/\i64.wrap B<=i64.wrap B/\i64.wrap B<=8796093022208 then qT.L8 a b (i64.wrap B).toNat (bNU (i64.wrap B).toNat (0:Int)) 0 A 0 else none:=cJ aW
theorem Eb a b c d e f g:L8 a b c d e f g=letI B:=(a.length:Int);letI A:=d.set B.toNat e;aB (decide (g<f)) (aB (decide (g<(b.length:Int))) (if 0<=g/\g<(b.length:Int)then qT.Ln a b c d e g (b.getD g.toNat 0) f g else none) (qT.Ln a b c d e g 0 f g)) (if 0<=B/\B<(c:Int)then aP (M6.cA A/\A.length<=1099511627776) (some [D.s (ints u64 (bif bZ.kU (M6.val A)then M6.dg (M6.val A)else [])),D.s (sc (int i64 (bif bZ.kU (M6.val A)then(0:Int)else(5:Int))))])else none):=lJ aW
theorem vE a b c d e f g h i:Ln a b c d e f g h i=letI A:=a.getD f.toNat 0+g+e;if 0<=f/\f<(a.length:Int)then aP (0<=a.getD f.toNat 0/\0<=g/\0<=e/\e<=1) (if 0<=f/\f<(c:Int)then qT.L8 a b c (d.set f.toNat (A%18446744073709551616)) (A/18446744073709551616) h (i64.wrap (i+1))else none)else none:=cJ aW
theorem step{a b pre:List Int}{c:Int}{i k:Nat}(ha:M6.cA a)(hb:M6.cA b)(hp:pre.length=i)(hi:i<a.length)(hl:a.length<=8192)(h0:0<=c)(h1:c<=1) :
  L8 a b (i+(k+1)) (pre ++ bNU (k+1) 0) c a.length i=L8 a b ((i+1)+k) ((pre ++ [(a.getD i 0+b.getD i 0+c)%18446744073709551616]) ++ bNU k 0) ((a.getD i 0+b.getD i 0+c)/18446744073709551616) a.length ((i+1:Nat):Int):=by
 have g1:=ha.get i;have g2:=hb.get i;have hJ:∀y:Int,0<=y->Ln a b (i+(k+1)) (pre ++ bNU (k+1) 0) c i y a.length i=L8 a b ((i+1)+k) ((pre ++ [(a.getD i 0+y+c)%18446744073709551616]) ++ bNU k 0) ((a.getD i 0+y+c)/18446744073709551616) a.length ((i+1:Nat):Int):=by
  intro y hy;rw[vE,aU,bPN,gP ⟨g1.1,hy,h0,h1⟩,aU,wH hp,wrap_i64,show i+(k+1)=(i+1)+k from by omega];rfl
 rw[Eb,aO]
 by_cases h:i<b.length
 ·rw[aO,aU,bPN,hJ _ g2.1]
 ·rw[aI,hJ 0 (by omega),M6.getD_none (a:=b) (by omega)]
theorem L{a b:List Int}(ha:M6.cA a)(hb:M6.cA b)(hl:a.length<=8192)(aMG:b.length<=a.length):∀(k i:Nat) (pre:List Int) (c:Int),i+k=a.length->pre.length=i->M6.cA pre->0<=c->c<=1 ->
  M6.val pre+18446744073709551616^i*c.toNat=M6.val (a.take i)+M6.val (b.take i) ->
  L8 a b (i+(k+1)) (pre ++ bNU (k+1) 0) c a.length i=some [D.s (.ints .u64 (bif bZ.kU (M6.val a+M6.val b)then M6.dg (M6.val a+M6.val b)else [])),D.s (.sc (.int .i64 (bif bZ.kU (M6.val a+M6.val b)then 0 else 5)))]:=by
 intro k
 induction k with
 |zero =>
  intro i pre c hi hp hd h0 h1 hv;have aZX:i=a.length:=by omega
  subst aZX;have hs:(pre ++ bNU (0+1) 0).set a.length c=pre ++ [c]:=by rw[wH hp];simp
  have Yz:M6.val (pre ++ [c])=M6.val a+M6.val b:=by
   rw[M6.lD,hp,hv,M6.cE (bLR _),M6.cE (by omega)]
  rw[Eb,aI,aU,bPN,hs,Yz,gP ⟨M6.lF hd (by omega),by simp;omega⟩]
 |succ k ih =>
  intro i pre c hi hp hd h0 h1 hv;have g1:=ha.get i;have g2:=hb.get i;rw[step ha hb hp (by omega) hl h0 h1];refine ih (i+1) _ _ (by omega) (by simp[hp]) (M6.lF hd (by omega)) (by omega) (by omega) ?_;rw[M6.lD,M6.cB,M6.cB,hp,bQQ,bQU];generalize a.getD i 0=x at *;generalize b.getD i 0=y at *;generalize 18446744073709551616^i=B at *;have e:18446744073709551616*((x+y+c)/18446744073709551616).toNat+((x+y+c)%18446744073709551616).toNat=c.toNat+x.toNat+y.toNat:=by omega
  have e2:B*(18446744073709551616*((x+y+c)/18446744073709551616).toNat)+B*((x+y+c)%18446744073709551616).toNat=B*c.toNat+B*x.toNat+B*y.toNat:=by
   rw[<-bQR,e,bQR,bQR]
  omega
theorem bFQ{a b:List Int}(ha:M6.cA a)(hb:M6.cA b)(hl:a.length<=8192)(aMG:b.length<=a.length):J5 a b=some [D.s (.ints .u64 (bif bZ.kU (M6.val a+M6.val b)then M6.dg (M6.val a+M6.val b)else [])),D.s (.sc (.int .i64 (bif bZ.kU (M6.val a+M6.val b)then 0 else 5)))]:=by
 rw[Is,wrap_i64,if_pos ⟨by omega,by omega,by omega⟩,show((a.length:Int)+1).toNat=0+(a.length+1)from by omega];have:=L ha hb hl aMG a.length 0 [] 0 (by omega) rfl M6.lV (by omega) (by omega) (by simp[M6.val]);rw[bPT]at this;rw[show 0+(a.length+1)=a.length+1 from by omega]at this ⊢;exact this
def sp(a b:List Int):Prop×List D:=(M6.cD a/\M6.cD b/\a.length<=8192/\b.length<=8192,[.s (.ints .u64 (bif bZ.kU (M6.val a+M6.val b)then M6.dg (M6.val a+M6.val b)else [])),.s (.sc (.int .i64 (bif bZ.kU (M6.val a+M6.val b)then 0 else 5)))])
theorem spec:fK E f100 aE (pI .u64) (pI .u64) sp:=by
 rintro a b ⟨ha,hb,h1,h2⟩;refine(start a b).trans ?_;rw[gP,gP,fC.lT ha h1,fC.lT hb h2,bNR,bF,bF,gH]
 by_cases hl:a.length<b.length
 ·rw[aO,bFQ hb.iP ha.iP h2 (by omega),bRS];rfl
 ·rw[aI,bFQ ha.iP hb.iP h1 (by omega)];rfl
def aG:cX:=orc2 (pI .u64) (pI .u64) sp
theorem ok:OK 100 aG:=(eB E aE (aA fC.ok (aA bZ.ok aD)) func100).lE rfl spec
end qT
namespace De
def E:=mE [(147,xH.aG)] 47 [] [(7,[5,6,7])] []
def aE:=bd f101
theorem aW:Nk E aE:=nk
def L7 a b c:=nG E f101 aE 7 [fW a,fW b,bI c]
theorem start a b:aF E f101 aE [D.s (ints u64 a),D.s (ints u64 b)]=letI B:=M6.dg (M6.val b);letI A:=(↑(M6.dg (M6.val a)).length:Int);aP (M6.cA a/\a.length<=1099511627776) (aP (M6.cA b/\b.length<=1099511627776) (aB (A !=(B.length:Int)) (aB (decide (A<(B.length:Int))) (some [D.s (sc (int i64 (-1:Int)))]) (some [D.s (sc (int i64 1))])) (De.L7 (M6.dg (M6.val a)) B (i64.wrap (A-(1:Int)))))):=eJ aW
theorem tZ a b c:L7 a b c=aB (decide (0<=c)) (if 0<=c/\c<(a.length:Int)then if 0<=c/\c<(b.length:Int)then aB (a.getD c.toNat 0 !=b.getD c.toNat 0) (if 0<=c/\c<(a.length:Int)then if 0<=c/\c<(b.length:Int)then aB (decide (a.getD c.toNat 0<b.getD c.toNat 0)) (some [D.s (sc (int i64 (-1:Int)))]) (some [D.s (sc (int i64 1))])else none else none) (De.L7 a b (i64.wrap (c-1)))else none else none) (some [D.s (sc (int i64 0))]):=lJ aW
def sp(a b:List Int):Prop×List D:=(M6.cA a/\M6.cA b/\a.length<=1099511627776/\b.length<=1099511627776,[.s (.sc (.int .i64 (mY (M6.val a) (M6.val b))))])
theorem L{a b:List Int}(ha:M6.cA a)(hb:M6.cA b)(hl:a.length=b.length)(hm:a.length<=4398046511104):∀n:Nat,n<=a.length->L7 a b ((n:Int)-1)=some [D.s (.sc (.int .i64 (mY (M6.val (a.take n)) (M6.val (b.take n)))))]
 |0,_=>by
  rw[tZ,aI];simp[mY,M6.val]
 |n+1,h=>by
  have e:(((n+1:Nat):Int)-1)=(n:Int):=by omega
  rw[e,tZ,aO,aU,aU,aU,aU,bPN,wrap_i64,L ha hb hl hm n (by omega)];have h1:=ha.get n;have h2:=hb.get n;have l1:=M6.gJ ha n;have l2:=M6.gJ hb n;rw[M6.cB,M6.cB];generalize a.getD n 0=x at *;generalize b.getD n 0=y at *;generalize M6.val (a.take n)=u at *;generalize M6.val (b.take n)=v at *;generalize 18446744073709551616^n=B at *
  by_cases aSS:x<y
  ·rw[pW,aO aSS];have:B*x.toNat+B<=B*y.toNat:=by
    have:B*(x.toNat+1)<=B*y.toNat:=bOF _ (by omega);rw[bQR]at this;omega
   unfold mY;rw[aU]
  ·by_cases hyx:y<x
   ·rw[pW,aI aSS];have:B*y.toNat+B<=B*x.toNat:=by
     have:B*(y.toNat+1)<=B*x.toNat:=bOF _ (by omega);rw[bQR]at this;omega
    unfold mY;rw[aY,aU]
   ·have:x=y:=by omega
    subst this;rw[eN rfl,aFT]
theorem spec:fK E f101 aE (pI .u64) (pI .u64) sp:=by
 rintro a b ⟨ha,hb,h1,h2⟩;refine(start a b).trans ?_;have la:=M6.oP ha;have lb:=M6.oP hb;rw[gP ⟨ha,h1⟩,gP ⟨hb,h2⟩];show _=some [D.s (.sc (.int .i64 (mY (M6.val a) (M6.val b))))];have na:=M6.aX (M6.val a);have nb:=M6.aX (M6.val b);have va:=M6.bN (M6.val a);have vb:=M6.bN (M6.val b);rw[<-va,<-vb];generalize M6.dg (M6.val a)=x at *;generalize M6.dg (M6.val b)=y at *;have e1:=M6.Fe na;have e2:=M6.Fe nb;rw[e1,e2]
 by_cases hl:x.length=y.length
 ·rw[eN,wrap_i64,L na.iP nb.iP hl (by omega) x.length (bLR _),M6.cE (bLR _),M6.cE (by omega)]
 ·rw[pW]
  by_cases iN:x.length<y.length
  ·have:=M6.rL na.iP nb iN;rw[aO];unfold mY;rw[if_pos this]
  ·have:=M6.rL nb.iP na (by omega);rw[aI];unfold mY;rw[aY,if_pos this]
def aG:cX:=orc2 (pI .u64) (pI .u64) sp
theorem ok:OK 101 aG:=(eB E aE (aA xH.ok aD) func101).lE rfl spec
end De
namespace sH
def E:=mE [(144,fC.aG),(145,bZ.aG),(101,De.aG)] 56 [53] [(8,[0,1,6,7,26,27]),(3,[0,1]),(13,[0,1,6,7,8,9,26,27])] [3,13]
def aE:=bd f102
theorem aW:Nk E aE:=nk
def J3 a b:=kV E f102 aE 3 [fW a,fW b]
def L8 a b (c:Nat) (d:List Int) e f g:=nG E f102 aE 8 [fW a,fW b,yD 2 c 22 d,cG e,bI f,bI g]
def Ln a b (c:Nat) (d:List Int) e f g h i:=kV E f102 aE 13 [fW a,fW b,yD 2 c 22 d,cG e,bI f,cG g,bI h,bI i]
theorem start a b:aF E f102 aE [D.s (ints u64 a),D.s (ints u64 b)]=letI A:=some [D.s (sc (slice none 0 0)),D.s (sc (int i64 2))];aP (a.length<=1099511627776) (aB (!fC.mU a) A (aP (b.length<=1099511627776) (aB (!fC.mU b) A (sH.J3 a b)))):=eJ aW
theorem gH a b:J3 a b=letI A:=(a.length:Int);aP (M6.cA a/\M6.cA b/\a.length<=1099511627776/\b.length<=1099511627776) (aB (decide (mY (M6.val a) (M6.val b)<0)) (some [D.s (sc (slice none 0 0)),D.s (sc (int i64 3))]) (if 0<=A/\A<=A/\A<=(8796093022208:Int)then sH.L8 a b A.toNat (bNU A.toNat (0:Int)) 0 A 0 else none)):=cJ aW
theorem Eb a b c d e f g:L8 a b c d e f g=aB (decide (g<f)) (aB (decide (g<(b.length:Int))) (if 0<=g/\g<(b.length:Int)then sH.Ln a b c d e g (b.getD g.toNat 0) f g else none) (sH.Ln a b c d e g 0 f g)) (aP (M6.cA d/\d.length<=1099511627776) (some [D.s (ints u64 (bif bZ.kU (M6.val d)then M6.dg (M6.val d)else [])),D.s (sc (int i64 (bif bZ.kU (M6.val d)then(0:Int)else(5:Int))))])):=lJ aW
theorem vE a b c d e f g h i:Ln a b c d e f g h i=if 0<=f/\f<(a.length:Int)then aP (0<=a.getD f.toNat 0/\0<=g/\g<18446744073709551616/\0<=e/\e<=1) (if 0<=f/\f<(c:Int)then sH.L8 a b c (d.set f.toNat ((a.getD f.toNat 0-g-e)%18446744073709551616)) (if a.getD f.toNat 0<g+e then(1:Int)else(0:Int)) h (i64.wrap (i+1))else none)else none:=cJ aW
theorem step{a b pre:List Int}{o:Int}{i k:Nat}(ha:M6.cA a)(hb:M6.cA b)(hp:pre.length=i)(hi:i<a.length)(hl:a.length<=8192)(h0:0<=o)(h1:o<=1) :
  L8 a b (i+(k+1)) (pre ++ bNU (k+1) 0) o a.length i=L8 a b ((i+1)+k) ((pre ++ [(a.getD i 0-b.getD i 0-o)%18446744073709551616]) ++ bNU k 0) (if a.getD i 0<b.getD i 0+o then 1 else 0) a.length ((i+1:Nat):Int):=by
 have g1:=ha.get i;have g2:=hb.get i;have hJ:∀y:Int,0<=y->y<18446744073709551616->Ln a b (i+(k+1)) (pre ++ bNU (k+1) 0) o i y a.length i=L8 a b ((i+1)+k) ((pre ++ [(a.getD i 0-y-o)%18446744073709551616]) ++ bNU k 0) (if a.getD i 0<y+o then 1 else 0) a.length ((i+1:Nat):Int):=by
  intro y hy aYP;rw[vE,aU,bPN,gP ⟨g1.1,hy,aYP,h0,h1⟩,aU,wH hp,wrap_i64,show i+(k+1)=(i+1)+k from by omega];rfl
 rw[Eb,aO]
 by_cases h:i<b.length
 ·rw[aO,aU,bPN,hJ _ g2.1 g2.2]
 ·rw[aI,hJ 0 (by omega) (by omega),M6.getD_none (a:=b) (by omega)]
theorem L{a b:List Int}(ha:M6.cA a)(hb:M6.cA b)(hl:a.length<=8192)(aMF:b.length<=a.length)(aMG:M6.val b<=M6.val a):∀(k i:Nat) (pre:List Int) (o:Int),i+k=a.length->pre.length=i->M6.cA pre->0<=o->o<=1 ->
  M6.val pre+M6.val (b.take i)=M6.val (a.take i)+18446744073709551616^i*o.toNat ->
  L8 a b (i+k) (pre ++ bNU k 0) o a.length i=some [D.s (.ints .u64 (M6.dg (M6.val a-M6.val b))),D.s (.sc (.int .i64 0))]:=by
 intro k
 induction k with
 |zero =>
  intro i pre o hi hp hd h0 h1 hv;have bHC:=M6.cK hd;rw[hp]at bHC;rw[M6.cE (by omega),M6.cE (by omega)]at hv;have:o=0:=by
   by_cases ho:o=0
   ·exact ho
   ·exfalso;have:o=1:=by omega
    subst this;rw[show(1:Int).toNat=1 from rfl,Nat.mul_one]at hv;omega
  subst this;simp only[bTM,bSO,bMS]at hv;have hlen:=M6.oP hd;have Kt:bZ.kU (M6.val pre)=true:=decide_eq_true (by omega);rw[Eb,aI,bSD,bRR,gP ⟨hd,by omega⟩,Kt,cond_true,cond_true,show M6.val pre=M6.val a-M6.val b from by omega]
 |succ k ih =>
  intro i pre o hi hp hd h0 h1 hv;have g1:=ha.get i;have g2:=hb.get i;rw[step ha hb hp (by omega) hl h0 h1];refine ih (i+1) _ _ (by omega) (by simp[hp]) (M6.lF hd (by omega)) (by split <;> omega) (by split <;> omega) ?_;rw[M6.lD,M6.cB,M6.cB,hp,bQQ,bQU];generalize a.getD i 0=x at *;generalize b.getD i 0=y at *;have e:((x-y-o)%18446744073709551616).toNat+y.toNat+o.toNat=x.toNat+18446744073709551616*(if x<y+o then 1 else 0:Int).toNat:=by split <;> omega
  generalize 18446744073709551616^i=B at *;have e2:=congrArg (B*·) e;simp only[bQR]at e2;omega
def sp(a b:List Int):Prop×List D:=(M6.cD a/\M6.cD b/\a.length<=8192/\b.length<=8192,[.s (.ints .u64 (M6.dg (M6.val a-M6.val b))),.s (.sc (.int .i64 (if M6.val a<M6.val b then 3 else 0)))])
theorem spec:El E f102 aE (pI .u64) (pI .u64) sp:=by
 rintro a b ⟨ha,hb,h1,h2⟩;have e:=start a b;rw[gP,gP,fC.lT ha h1,fC.lT hb h2,bNR,bF,bF,gH,gP ⟨ha.iP,hb.iP,by omega,by omega⟩]at e;unfold sp;simp only
 by_cases hc:M6.val a<M6.val b
 ·rw[aO (by unfold mY;rw[if_pos hc];omega)]at e;rw[if_pos hc,show M6.val a-M6.val b=0 from by omega,M6.bQ];exact⟨_,e,.cons (vV.nil _) (fT.refl _)⟩
 ·have aMF:b.length<=a.length:=by
   rcases bMG a.length b.length with h |h
   ·have:=M6.rL ha.iP hb h;omega
   ·exact h
  have:=L ha.iP hb.iP h1 aMF (by omega) a.length 0 [] 0 (by omega) rfl M6.lV (by omega) (by omega) (by simp[M6.val]);rw[aI (by unfold mY;rw[if_neg hc];split <;> omega),if_pos ⟨by omega,by omega,by omega⟩,bPN]at e;rw[bPT,show 0+a.length=a.length from by omega]at this;rw[if_neg hc];exact⟨_,e.trans this,fT.refl _⟩
def aG:cX:=orc2 (pI .u64) (pI .u64) sp
theorem ok:OK 102 aG:=(eB E aE (aA fC.ok (aA bZ.ok (aA De.ok aD))) func102).aAJ rfl spec
end sH
namespace aAH
def E:=mE [(96,gG.aG),(100,qT.aG),(101,De.aG),(102,sH.aG),(99,xJ.aG)] 62 [36,59] [(3,[2,3,4]),(8,[2,3,4])] [3,8]
def aE:=bd f49
theorem aW:Nk E aE:=nk
def J3 a b c d e:=kV E f49 aE 3 [dG 0 27 [cI a,eT b],dG 1 27 [cI c,eT d],dG 2 27 [cI e,sc (slice none 0 0)]]
def J8 a b c d e:=kV E f49 aE 8 [dG 0 27 [cI a,eT b],dG 1 27 [cI c,eT d],dG 2 27 [cI e,sc (slice none 0 0)]]
theorem start a b c d:aF E f49 aE [D.agg [sc (bool a),ints u64 b],D.agg [sc (bool c),ints u64 d]]=letI A:=some [D.agg [sc (bool false),sc (slice none 0 0)],D.s (sc (int i64 2))];aP (b.length<=1099511627776) (aB (!gG.qD (a,b)) A (aP (d.length<=1099511627776) (aB (!gG.qD (c,d)) A (aAH.J3 a b c d false)))):=eJ aW
theorem gH a b c d e:J3 a b c d e=letI F:=M6.val b+M6.val d;letI B:=bif bZ.kU F then(0:Int)else(5:Int);letI A:=bif bZ.kU F then M6.dg F else [];letI C:=bif B==0 then zs a (M6.val A)else(0:Int);aB (a==c) (aP (M6.cD b/\M6.cD d/\b.length<=8192/\d.length<=8192) (aP (M6.cD A/\A.length<=1099511627776) (some [D.agg [sc (bool (isNeg C)),ints u64 (M6.dg C.natAbs)],D.s (sc (int i64 B))]))) (aP (M6.cA b/\M6.cA d/\b.length<=1099511627776/\d.length<=1099511627776) (aB (decide (mY (M6.val b) (M6.val d)<0)) (aAH.J8 c d a b e) (aAH.J8 a b c d e))):=cJ aW
theorem vQ a b c d e:J8 a b c d e=letI B:=M6.dg (M6.val b-M6.val d);letI A:=bif (if M6.val b<M6.val d then(3:Int)else(0:Int))==0 then zs a (M6.val B)else(0:Int);aP (M6.cD b/\M6.cD d/\b.length<=8192/\d.length<=8192) (aP (M6.cD B/\B.length<=1099511627776) (some [D.agg [sc (bool (isNeg A)),ints u64 (M6.dg A.natAbs)],D.s (sc (int i64 (if M6.val b<M6.val d then(3:Int)else(0:Int))))])):=cJ aW
theorem Wr(n:Nat):bZ.kU n=fit n:=xU
def sp(x y:Bool×List Int):Prop×List D:=(jK x/\jK y,wE (fit (wv x+wv y).natAbs) (wv x+wv y))
theorem spec:fK E f49 aE vI vI sp:=by
 rintro x y ⟨hx,hy⟩;refine(start x.1 x.2 y.1 y.2).trans ?_;have l1:=hx.len;have l2:=hy.len;have f1:=gG.nH hx;have f2:=gG.nH hy;have b1:=hx.bl;have b2:=hy.bl;obtain⟨p,a⟩:=x;obtain⟨q,b⟩:=y;have n1:M6.cD a:=hx.1;have n2:M6.cD b:=hy.1
 try dsimp only at *
 unfold sp
 try dsimp only
 rw[gP,f1,bNR,bF,gP,f2,bNR,bF,gH];have one:∀(s:Bool) (m n:Nat),n<=m->bl m<=524288->some [D.agg [S.sc (.bool (isNeg (bif (if m<n then(3:Int)else 0)==0 then zs s (M6.val (M6.dg (m-n)))else 0))),S.ints .u64 (M6.dg (bif (if m<n then(3:Int)else 0)==0 then zs s (M6.val (M6.dg (m-n)))else 0).natAbs)],D.s (S.sc (.int .i64 (if m<n then 3 else 0)))]=some (wE (fit (zs s (m-n)).natAbs) (zs s (m-n))):=by
  intro s m n h hb;have:fit (zs s (m-n)).natAbs=true:=by
   rw[jR];exact decide_eq_true (bMN (gD (bSP _ _)) hb)
  rw[aY,this,show((0:Int)==0)=true from rfl,cond_true,M6.bN];rfl
 by_cases he:p=q
 ·subst he;have hs:wv (p,a)+wv (p,b)=zs p (M6.val a+M6.val b):=by
   unfold wv zs;cases p <;> simp <;> omega
  rw[aGB (by simp),gP ⟨n1,n2,l1,l2⟩,gP (Ff (fun h=>by rw[Wr]at h;exact wV h)),Eo,Wr,hs,jR]
 ·rw[Hw (by simpa using he),gP ⟨n1.iP,n2.iP,by omega,by omega⟩]
  by_cases hc:M6.val b<=M6.val a
  ·have hs:wv (p,a)+wv (q,b)=zs p (M6.val a-M6.val b):=by
    unfold wv zs;cases p <;> cases q <;> simp_all <;> omega
   have l3:=eQ (n:=M6.val a-M6.val b) (k:=8192) (bMN (gD (bSP _ _)) b1);rw[aI (by have:=Xw.2 hc;omega),vQ,gP ⟨n1,n2,l1,l2⟩,gP ⟨M6.aX _,by omega⟩,hs,one _ _ _ hc b1]
  ·have hs:wv (p,a)+wv (q,b)=zs q (M6.val b-M6.val a):=by
    unfold wv zs;cases p <;> cases q <;> simp_all <;> omega
   have l3:=eQ (n:=M6.val b-M6.val a) (k:=8192) (bMN (gD (bSP _ _)) b2);rw[aO (by have:=(not_congr Xw).2 hc;omega),vQ,gP ⟨n2,n1,l2,l1⟩,gP ⟨M6.aX _,by omega⟩,hs,one _ _ _ (by omega) b2]
def aG:cX:=orc2 vI vI sp
theorem ok:OK 49 aG:=(eB E aE (aA gG.ok (aA qT.ok (aA De.ok (aA sH.ok (aA xJ.ok aD))))) func49).lE rfl spec
end aAH
namespace aGF
def E:=mE [] 14 [] [] []
def aE:=bd f136
theorem aW:Nk E aE:=nk
theorem start a:aF E f136 aE [D.s (sc (int u64 a))]=letI A:=dX BinOp.and u64 a (u64.wrap ((0:Int)-a))*285870213051353865;aB (a==0) (some [D.s (sc (int i64 64))]) (if 0<=u64.wrap A/288230376151711744/\u64.wrap A/288230376151711744<(64:Int)then some [D.s (sc (int i64 (i64.wrap ([(0:Int),(1:Int),(56:Int),(2:Int),(57:Int),(49:Int),(28:Int),(3:Int),(61:Int),(58:Int),(42:Int),(50:Int),(38:Int),(29:Int),(17:Int),(4:Int),(62:Int),(47:Int),(59:Int),(36:Int),(45:Int),(43:Int),(51:Int),(22:Int),(53:Int),(39:Int),(33:Int),(30:Int),(24:Int),(18:Int),(12:Int),(5:Int),(63:Int),(55:Int),(48:Int),(27:Int),(60:Int),(41:Int),(37:Int),(16:Int),(46:Int),(35:Int),(44:Int),(21:Int),(52:Int),(32:Int),(23:Int),(11:Int),(54:Int),(26:Int),(40:Int),(15:Int),(34:Int),(20:Int),(31:Int),(10:Int),(25:Int),(14:Int),(19:Int),(9:Int),(13:Int),(8:Int),(7:Int),(6:Int)].getD (u64.wrap A/288230376151711744).toNat 0))))]else none):=eJ aW
def aLC:List Int:=[0,1,56,2,57,49,28,3,61,58,42,50,38,29,17,4,62,47,59,36,45,43,51,22,53,39,33,30,24,18,12,5,63,55,48,27,60,41,37,16,46,35,44,21,52,32,23,11,54,26,40,15,34,20,31,10,25,14,19,9,13,8,7,6]
theorem Lx:(bNB 64).all (fun k=>aLC.getD (((2^k*285870213051353865%18446744073709551616:Nat):Int)/288230376151711744).toNat 0==(k:Int))=true:=by kernel_rfl
theorem Lw{k:Nat}(h:k<64):aLC.getD (((2^k*285870213051353865%18446744073709551616:Nat):Int)/288230376151711744).toNat 0=(k:Int):=eq_of_beq (List.all_eq_true.1 Lx k (List.mem_range.2 h))
def sp(a:Int):Prop×List D:=(0<=a/\a<18446744073709551616,[.s (.sc (.int .i64 (if a=0 then 64 else(tz a.toNat:Int))))])
theorem spec:gI E f136 aE (pN .u64) sp:=by
 rintro a ⟨h1,h2⟩;refine(start a).trans ?_;show _=some [D.s (.sc (.int .i64 (if a=0 then 64 else(tz a.toNat:Int))))]
 by_cases hz:a=0
 ·rw[cC hz,if_pos hz]
 ·have iN:tz a.toNat<64:=by
   have:=Fu (n:=a.toNat) (by omega);rcases bMG (tz a.toNat) 64 with h |h
   ·exact h
   ·have h3:2^64<=2^tz a.toNat:=bOR (by omega) h;omega
  have ew:u64.wrap (0-a)=18446744073709551616-a:=by rw[eE];omega
  have el:dX .and .u64 a (u64.wrap (0-a))=((2^tz a.toNat:Nat):Int):=by
   rw[ew,Ro h1 h2 (by omega) (by omega),Qa 64 a.toNat (18446744073709551616-a).toNat (by omega) (by omega) (by omega)]
  have em:u64.wrap (((2^tz a.toNat:Nat):Int)*285870213051353865)=((2^tz a.toNat*285870213051353865%18446744073709551616:Nat):Int):=by
   rw[eE];generalize 2^tz a.toNat=p;omega
  have ht:=Lw iN;have hm:2^tz a.toNat*285870213051353865%18446744073709551616<18446744073709551616:=bNZ _ (by omega);rw[bP hz,if_neg hz,el,em];generalize 2^tz a.toNat*285870213051353865%18446744073709551616=q at *;rw[if_pos ⟨by omega,by omega⟩];have e3:([0,1,56,2,57,49,28,3,61,58,42,50,38,29,17,4,62,47,59,36,45,43,51,22,53,39,33,30,24,18,12,5,63,55,48,27,60,41,37,16,46,35,44,21,52,32,23,11,54,26,40,15,34,20,31,10,25,14,19,9,13,8,7,6]:List Int)=aLC:=rfl;rw[e3,ht,wrap_i64]
def aG:cX:=orc1 (pN .u64) sp
theorem ok:OK 136 aG:=(eB E aE aD func136).nA rfl spec
end aGF
namespace zN
def E:=mE [(136,aGF.aG)] 23 [] [(2,[0,5,6])] []
def aE:=bd f103
theorem aW:Nk E aE:=nk
def L2 a b c:=nG E f103 aE 2 [fW a,bI b,bI c]
theorem start a:aF E f103 aE [D.s (ints u64 a)]=zN.L2 a (a.length:Int) 0:=eJ aW
theorem jY a b c:L2 a b c=aB (decide (c<b)) (if 0<=c/\c<(a.length:Int)then aB (a.getD c.toNat 0 !=(0:Int)) (if 0<=c/\c<(a.length:Int)then aP (0<=a.getD c.toNat 0/\a.getD c.toNat 0<(18446744073709551616:Int)) (some [D.s (sc (int i64 (i64.wrap (i64.wrap ((64:Int)*c)+if a.getD c.toNat 0=(0:Int)then(64:Int)else(↑(tz (a.getD c.toNat 0).toNat):Int)))))])else none) (zN.L2 a b (i64.wrap (c+1)))else none) (some [D.s (sc (int i64 0))]):=lJ aW
def sp(a:List Int):Prop×List D:=(M6.cA a/\a.length<=1099511627776,[.s (.sc (.int .i64 (tz (M6.val a):Nat)))])
theorem L{a:List Int}(ha:M6.cA a)(hl:a.length<=1099511627776):∀(d i:Nat),i+d=a.length->L2 a a.length i=some [D.s (.sc (.int .i64 (if M6.val (a.drop i)=0 then 0 else(((64*i+tz (M6.val (a.drop i)):Nat)):Int))))]:=by
 intro d
 induction d with
 |zero =>
  intro i hi;rw[jY,aI,bRG (by omega)];rfl
 |succ d ih =>
  intro i hi;have g:=ha.get i;have hv:=M6.fM (a:=a) i;have bIY:=ih (i+1) (by omega);rw[jY,aO,aU,bPN,aU,gP g,wrap_i64 (n:=(i:Int)+1),wrap_i64 (n:=64*(i:Int)),show(i:Int)+1=((i+1:Nat):Int)from by omega,bIY];generalize a.getD i 0=x at *;rw[hv]
  by_cases hz:x=0
  ·subst hz;rw[eN rfl];simp only[bTM,bLT]
   by_cases aJF:M6.val (a.drop (i+1))=0
   ·rw[if_pos aJF,aU]
   ·have:=Ls aJF 64;rw[show(2:Nat)^64=18446744073709551616 from rfl]at this;rw[if_neg aJF,aY,this];congr 5;omega
  ·have ht:=Fu (n:=x.toNat) (by omega);have aWM:tz x.toNat<64:=by
    rcases bMG (tz x.toNat) 64 with h |h
    ·exact h
    ·have h3:2^64<=2^tz x.toNat:=bOR (by omega) h;omega
   have:=aMT (r:=x.toNat) (k:=64) (n:=M6.val (a.drop (i+1))) (by omega) (by omega);rw[show(2:Nat)^64=18446744073709551616 from rfl]at this;rw[pW hz,if_neg hz,aY,this,wrap_i64];congr 5
theorem spec:gI E f103 aE (pI .u64) sp:=by
 rintro a ⟨ha,hl⟩;refine(start a).trans ?_;have:=L ha hl a.length 0 (by omega);rw[show(0:Int)=((0:Nat):Int)from rfl,this,bRY];show _=some [D.s (.sc (.int .i64 (tz (M6.val a):Nat)))]
 by_cases hz:M6.val a=0
 ·rw[if_pos hz,hz];simp[tz]
 ·rw[if_neg hz];congr 5;omega
def aG:cX:=orc1 (pI .u64) sp
theorem ok:OK 103 aG:=(eB E aE (aA aGF.ok aD) func103).nA rfl spec
end zN
namespace Bi
def E:=mE [(144,fC.aG),(145,bZ.aG)] 73 [70] [(10,[0,6,7,8,29,30])] []
def aE:=bd f104
theorem aW:Nk E aE:=nk
def Ip a b c (d:Nat) (e:List Int) f g:=nG E f104 aE 10 [fW a,bI b,bI c,yD 3 d 22 e,bI f,bI g]
theorem start a b:aF E f104 aE [D.s (ints u64 a),D.s (sc (int i64 b))]=letI G:=b.tdiv 64;letI C:=sc (slice none 0 0);letI A:=(a.length:Int);letI B:=A-i64.wrap G;letI F:=i64.wrap B;aB (decide (b<0)) (some [D.s C,D.s (sc (int i64 1))]) (aP (a.length<=1099511627776) (aB (!fC.mU a) (some [D.s C,D.s (sc (int i64 2))]) (aB (decide (A<=i64.wrap G)) (some [D.s C,D.s (sc (int i64 0))]) (if 0<=i64.wrap B/\i64.wrap B<=i64.wrap B/\i64.wrap B<=8796093022208 then Bi.Ip a (i64.wrap G) (b.tmod 64) F.toNat (bNU F.toNat (0:Int)) (F.toNat:Int) 0 else none)))):=eJ aW
theorem sE a b c d e f g:Ip a b c d e f g=letI C:=(a.length:Int);letI B:=i64.wrap (b+g)+1;letI A:=e.set g.toNat (a.getD (i64.wrap (b+g)).toNat 0/(↑((2:Nat)^min c.toNat 64):Int));aB (decide (g<f)) (if 0<=i64.wrap (b+g)/\i64.wrap (b+g)<C then if c<0 then none else if 0<=g/\g<(d:Int)then aB (decide (i64.wrap B<C)) (if 0<=g/\g<(d:Int)then if 0<=i64.wrap B/\i64.wrap B<C then if i64.wrap ((63:Int)-c)<0 then none else if 0<=g/\g<(d:Int)then Bi.Ip a b c d (A.set g.toNat (dX BinOp.or u64 (A.getD g.toNat 0) (u64.wrap (u64.wrap (a.getD (i64.wrap B).toNat 0*(2:Int))*(↑((2:Nat)^min (i64.wrap ((63:Int)-c)).toNat 64):Int))))) f (i64.wrap (g+1))else none else none else none) (Bi.Ip a b c d A f (i64.wrap (g+1)))else none else none) (aP (M6.cA e/\e.length<=1099511627776) (some [D.s (ints u64 (bif bZ.kU (M6.val e)then M6.dg (M6.val e)else [])),D.s (sc (int i64 (bif bZ.kU (M6.val e)then(0:Int)else(5:Int))))])):=lJ aW
theorem Tx(a:List Int)(q i:Nat):(a.drop q).getD i 0=a.getD (q+i) 0:=by
 simp[bQV,bMD]
theorem high{x k:Nat}(h:k<64):x*2^(64-k)%18446744073709551616=2^(64-k)*(x%2^k):=by
 rw[show(18446744073709551616:Nat)=2^(64-k)*2^k from by rw[<-bQS,show 64-k+k=64 from by omega],bQP x,Nat.mul_mod_mul_left]
theorem step{a P:List Int}{q k i r:Nat}(ha:M6.cA a)(hP:P.length=i)(hk:k<64)(hl:a.length<=8192)(hr:q+i+(r+1)=a.length) :
  Ip a q k (a.length-q) (P ++ bNU (r+1) 0) ((a.length-q:Nat):Int) i =
   Ip a q k (a.length-q) ((P ++ [(((a.getD (q+i) 0).toNat/2^k+2^(64-k)*((a.getD (q+i+1) 0).toNat%2^k):Nat):Int)]) ++ bNU r 0) ((a.length-q:Nat):Int) ((i+1:Nat):Int):=by
 have g:=ha.get (q+i);have g1:=ha.get (q+i+1);have w1:i64.wrap ((q:Int)+i)=((q+i:Nat):Int):=by rw[wrap_i64];omega
 have w2:i64.wrap (((q+i:Nat):Int)+1)=((q+i+1:Nat):Int):=by rw[wrap_i64];omega
 have w3:i64.wrap (63-(k:Int))=((63-k:Nat):Int):=by rw[wrap_i64];omega
 have m1:min k 64=k:=by omega
 have m2:min (63-k) 64=63-k:=by omega
 have aNZ:(a.getD (q+i) 0)/((2^k:Nat):Int)=(((a.getD (q+i) 0).toNat/2^k:Nat):Int):=by
  obtain⟨x,hx⟩:=bQT g.1;rw[hx,bPN,bRH]
 have Tp:(a.getD (q+i) 0).toNat/2^k<2^(64-k):=by
  apply bRL;rw[<-bQS,show k+(64-k)=64 from by omega];omega
 rw[sE,aO,w1,if_pos ⟨by omega,by omega⟩,aY,if_pos ⟨by omega,by omega⟩,w2,w3,wrap_i64 (n:=(i:Int)+1),
  bPN,bPN,bPN,bPN,bPN,m1,m2,bQZ,Bu hP,Co hP,aNZ]
 by_cases hn:q+i+1<a.length
 ·rw[aO,if_pos ⟨by omega,by omega⟩,if_pos ⟨by omega,by omega⟩,aY,if_pos ⟨by omega,by omega⟩,Bu hP];have hw:u64.wrap (u64.wrap (a.getD (q+i+1) 0*2)*((2^(63-k):Nat):Int))=((2^(64-k)*((a.getD (q+i+1) 0).toNat%2^k):Nat):Int):=by
   obtain⟨x,hx⟩:=bQT g1.1;have aAQ:u64.wrap ((x:Int)*2)=((x*2%18446744073709551616:Nat):Int):=by rw[eE];omega
   have bHG:∀p:Nat,u64.wrap (((x*2%18446744073709551616:Nat):Int)*(p:Int))=((x*2*p%18446744073709551616:Nat):Int):=by
    intro p;rw[eE,<-bRP,show(18446744073709551616:Int)=((18446744073709551616:Nat):Int)from rfl,<-bSI,bSB,Nat.mod_mod,<-bSB]
   rw[hx,aAQ,bHG,bPN,<-high hk,show 64-k=(63-k)+1 from by omega,bQQ,bQU,bQP 2]
  have hh:2^(64-k)*((a.getD (q+i+1) 0).toNat%2^k)<18446744073709551616:=by rw[<-high hk];exact bNZ _ (by omega)
  have bFB:2^(64-k)<=2^64:=fD;have aTN:dX .or .u64 (((a.getD (q+i) 0).toNat/2^k:Nat):Int) ((2^(64-k)*((a.getD (q+i+1) 0).toNat%2^k):Nat):Int)=(((a.getD (q+i) 0).toNat/2^k+2^(64-k)*((a.getD (q+i+1) 0).toNat%2^k):Nat):Int):=by
   have:=Cc (n:=(a.getD (q+i+1) 0).toNat%2^k) Tp;rw[<-this];generalize 2^(64-k)*((a.getD (q+i+1) 0).toNat%2^k)=Y at *;generalize (a.getD (q+i) 0).toNat/2^k=X at *;generalize 2^(64-k)=p at *;rw[Pq (by omega) (by omega) (by omega) (by omega),bPN,bPN]
  rw[hw,aTN,bNM,bSN];rfl
 ·rw[aI,M6.getD_none (a:=a) (n:=q+i+1) (by omega),show((0:Int).toNat%2^k)=0 from Nat.zero_mod _,bSO,bMS,bNM,bSN];rfl
theorem L{a:List Int}{q k:Nat}(ha:M6.cD a)(hl:a.length<=8192)(hq:q<a.length)(hk:k<64):∀(r i:Nat) (P:List Int),q+i+r=a.length->P.length=i->M6.cA P ->
  2^k*M6.val P+(a.getD q 0).toNat%2^k=M6.val ((a.drop q).take i)+18446744073709551616^i*((a.getD (q+i) 0).toNat%2^k) ->
  Ip a q k (a.length-q) (P ++ bNU r 0) ((a.length-q:Nat):Int) i=some [D.s (.ints .u64 (M6.dg (M6.val (a.drop q)/2^k))),D.s (.sc (.int .i64 0))]:=by
 intro r;have aTJ:0<2^k:=cN
 induction r with
 |zero =>
  intro i P hi hP hd hv;rw[M6.getD_none (a:=a) (n:=q+i) (by omega),show((0:Int).toNat%2^k)=0 from Nat.zero_mod _,bSO,bMS,M6.cE (by rw[bPQ];omega)]at hv;have bDL:M6.val P=M6.val (a.drop q)/2^k:=by
   rw[<-hv,Nat.mul_add_div aTJ,bRO (bNZ _ aTJ),bMS]
  have Kt:bZ.kU (M6.val (a.drop q)/2^k)=true:=by
   refine decide_eq_true ?_;rw[<-bDL];have:=M6.oP hd;omega
  rw[bSD,bRR,sE,aI,gP ⟨hd,by omega⟩,bDL,Kt];rfl
 |succ r ih =>
  intro i P hi hP hd hv;have g:=ha.iP.get (q+i);have Tp:(a.getD (q+i) 0).toNat/2^k<2^(64-k):=by
   apply bRL;rw[<-bQS,show k+(64-k)=64 from by omega];omega
  have aMM:2^(64-k)*2^k=18446744073709551616:=by rw[<-bQS,show 64-k+k=64 from by omega]
  have hs:(a.getD (q+i) 0).toNat/2^k+2^(64-k)*((a.getD (q+i+1) 0).toNat%2^k)<18446744073709551616:=by
   have hm:(a.getD (q+i+1) 0).toNat%2^k<2^k:=bNZ _ aTJ;have h3:2^(64-k)*((a.getD (q+i+1) 0).toNat%2^k+1)<=2^(64-k)*2^k:=bOF _ hm;rw[aMM,bQR]at h3;omega
  rw[step ha.iP hP hk hl (by omega)];refine ih (i+1) _ (by omega) (by simp[hP]) (M6.lF hd ⟨Int.natCast_nonneg _,by have:=Int.ofNat_lt.2 hs;exact this⟩) ?_;rw[M6.lD,hP,M6.cB,Tx,bPN,<-bPH q i 1,bQR,bSU,hv];have hx:=bQX (a.getD (q+i) 0).toNat (2^k);generalize (a.getD (q+i) 0).toNat=x at *;generalize (a.getD (q+i+1) 0).toNat%2^k=y at *;generalize M6.val ((a.drop q).take i)=v at *;have e1:2^k*(18446744073709551616^i*(x/2^k+2^(64-k)*y))=18446744073709551616^i*(2^k*(x/2^k))+18446744073709551616^(i+1)*y:=by
   rw[bQQ];generalize (18446744073709551616^i)=B;rw[bTO,bQR,<-bQU (2^k) (2^(64-k)),bQP (2^k) (2^(64-k)),aMM,bQR,bQU B]
  rw[e1];have e2:18446744073709551616^i*x=18446744073709551616^i*(2^k*(x/2^k))+18446744073709551616^i*(x%2^k):=by rw[<-bQR,hx]
  rw[e2];omega
def sp(a:List Int)(n:Int):Prop×List D:=(M6.cD a/\a.length<=8192/\0<=n/\n<4611686018427387904,[.s (.ints .u64 (M6.dg (M6.val a/2^n.toNat))),.s (.sc (.int .i64 0))])
theorem spec:El E f104 aE (pI .u64) (pN .i64) sp:=by
 rintro a n ⟨ha,hl,h0,h1⟩;have e:=start a n;have eq:n/64=((n.toNat/64:Nat):Int):=by omega
 have ek:n%64=((n.toNat%64:Nat):Int):=by omega
 rw[aI,gP,fC.lT ha hl,bNR,bF,aBQ h0,aBM h0,wrap_i64 (n:=n/64),eq,ek]at e;unfold sp;simp only;rw[Gk,<-bRI];generalize hqq:n.toNat/64=q at *;have hk:n.toNat%64<64:=bNZ _ (by omega);generalize n.toNat%64=k at *
 by_cases hz:a.length<=q
 ·have hv:M6.val a/18446744073709551616^q=0:=bRO (bMR (M6.cK ha.iP) (bOR (by omega) hz));rw[aO]at e;rw[hv,Nat.zero_div,M6.bQ];exact⟨_,e,.cons (vV.nil _) (fT.refl _)⟩
 ·have hval:M6.val a/18446744073709551616^q=M6.val (a.drop q):=by
   rw[M6.fX a (n:=q) (by omega),bSH _ _ (cN),bRO (M6.gJ ha.iP _),bLT]
  have w:i64.wrap ((a.length:Int)-(q:Int))=((a.length-q:Nat):Int):=by rw[wrap_i64];omega
  rw[aI,w,if_pos ⟨by omega,by omega,by omega⟩,bPN]at e;have:=L (q:=q) (k:=k) ha hl (by omega) hk (a.length-q) 0 [] (by omega) rfl M6.lV (by simp[M6.val]);rw[hval];exact⟨_,e.trans this,fT.refl _⟩
def aG:cX:=orc2 (pI .u64) (pN .i64) sp
theorem ok:OK 104 aG:=(eB E aE (aA fC.ok (aA bZ.ok aD)) func104).aAJ rfl spec
end Bi
namespace iJ
def E:=mE [(96,gG.aG),(103,zN.aG),(104,Bi.aG)] 55 [] [(8,[1,2,4,6])] [8]
def aE:=bd f50
theorem aW:Nk E aE:=nk
def J8 a b c d e f:=kV E f50 aE 8 [bI a,dG 1 27 [cI b,eT c],dG 2 29 [cI d,sc (slice none 0 0),cP e],bI f]
theorem start a c b:aF E f50 aE [D.agg [sc (bool a),ints u64 c],D.s (sc (int i64 b))]=letI G:=bool false;letI F:=int i64 0;letI C:=slice none 0 0;letI B:=(↑(tz (M6.val c)):Int);letI A:=some [D.agg [sc G,sc C,sc F],D.s (sc (int i64 5))];aP (c.length<=1099511627776) (aB (!gG.qD (a,c)) (some [D.agg [sc G,sc C,sc F],D.s (sc (int i64 2))]) (aB ((c.length:Int)==(0:Int)) (some [D.agg [sc G,sc C,sc F],D.s (sc F)]) (aP (M6.cA c/\c.length<=1099511627776) (aB (decide (1048576<b)) A (aB (decide (b<(-1572864:Int))) A (aB (decide (i64.wrap (b+B)<(-1048576:Int))) A (aB (decide (1048576<i64.wrap (b+B))) A (iJ.J8 b a c false 0 B)))))))):=eJ aW
theorem vQ a b c d e f:J8 a b c d e f=aP (M6.cD c/\c.length<=8192/\0<=f/\f<4611686018427387904) (some [D.agg [sc (bool b),ints u64 (M6.dg (M6.val c/(2:Nat)^f.toNat)),sc (int i64 (i64.wrap (a+f)))],D.s (sc (int i64 0))]):=cJ aW
def sp(x:Bool×List Int)(e:Int):Prop×List D:=(jK x/\-9223372036854775808<=e/\e<9223372036854775808,dE (fR (wv x) e) (aK (wv x) e))
theorem kC(p:Int×Int):fT [D.agg [.sc (.bool false),.sc (.slice none 0 0),.sc (.int .i64 0)],.s (.sc (.int .i64 5))] (dE false p):=by
 refine .cons ?_ (fT.refl _);show vV _ (M.dD (0,0));unfold dD;rw[show((0,0):Int×Int).1.natAbs=0 from rfl,M6.bQ];exact vV.agg (.cons (yJ.refl _) (.cons (yJ.nil _) (uB.refl _)))
theorem spec:El E f50 aE vI (pN .i64) sp:=by
 rintro x e ⟨hw,h1,h2⟩;have s:=start x.1 x.2 e;have hl:=hw.len;have hf:=gG.nH hw;have hb:=hw.bl;obtain⟨b,a⟩:=x;have hn:M6.cD a:=hw.1
 try dsimp only at *
 unfold sp
 try dsimp only
 rw[gP,hf,bNR,bF]at s;have aEF:=iO (b,a)
 try dsimp only at aEF
 by_cases hz:a.length=0
 ·have hv:=(M6.cO hn).1 hz;have Yy:wv (b,a)=0:=by omega
  rw[cC]at s;refine⟨_,s,?_⟩;rw[Yy];refine .cons ?_ (fT.refl _);show vV _ (M.dD (0,0));unfold dD;rw[show((0,0):Int×Int).1.natAbs=0 from rfl,M6.bQ];exact vV.agg (.cons (yJ.refl _) (.cons (yJ.nil _) (uB.refl _)))
 ·have hv:M6.val a≠0:=fun h=>hz ((M6.cO hn).2 h)
  have Yy:wv (b,a)≠0:=by omega
  have ht:=zS hv;have hs:=oO _ hv;have vU:∀p:Bool,(p=(decide (-1048576<=e+(tz (M6.val a):Nat))&&decide (e+(tz (M6.val a):Nat)<=1048576)))->fR (wv (b,a)) e=p:=by
   intro p hp;unfold fR;rw[aEF,decide_eq_false Yy,bNS,hp]
  rw[bP,gP ⟨hn.iP,by omega⟩]at s
  by_cases c1:1048576<e
  ·rw[aO c1]at s;rw[vU false (by rw[decide_eq_false (show ¬(e+(tz (M6.val a):Nat)<=1048576) by omega),bRD])];exact⟨_,s,kC _⟩
  ·rw[aI c1]at s
   by_cases c2:e < -1572864
   ·rw[aO c2]at s;rw[vU false (by rw[decide_eq_false (show ¬(-1048576<=e+(tz (M6.val a):Nat)) by omega),bRA])];exact⟨_,s,kC _⟩
   ·have w:i64.wrap (e+(tz (M6.val a):Int))=e+(tz (M6.val a):Int):=wrap_i64;rw[aI c2,w]at s
    by_cases c3:e+(tz (M6.val a):Int) < -1048576
    ·rw[aO c3]at s;rw[vU false (by rw[decide_eq_false (show ¬(-1048576<=e+(tz (M6.val a):Nat)) by omega),bRA])];exact⟨_,s,kC _⟩
    ·rw[aI c3]at s
     by_cases c4:1048576<e+(tz (M6.val a):Int)
     ·rw[aO c4]at s;rw[vU false (by rw[decide_eq_false (show ¬(e+(tz (M6.val a):Nat)<=1048576) by omega),bRD])];exact⟨_,s,kC _⟩
     ·rw[aI c4,vQ,gP ⟨hn,hl,by omega,by omega⟩,w,bPN]at s;rw[vU true (by rw[decide_eq_true (show(e+(tz (M6.val a):Nat)<=1048576) by omega),decide_eq_true (show(-1048576<=e+(tz (M6.val a):Nat)) by omega)];rfl)];refine⟨_,s,?_⟩;have:aK (wv (b,a)) e=(zs b (M6.val a/2^tz (M6.val a)),e+(tz (M6.val a):Nat)):=by
       unfold aK;rw[if_neg Yy,aEF];have:=aAZ (b:=b) (bOQ (n:=tz (M6.val a)) (show 0<2 by decide)) hs.1;rw[<-this];rfl
      rw[this];have hq:M6.val a/2^tz (M6.val a)≠0:=by omega
      show fT _ [M.dD (zs b (M6.val a/2^tz (M6.val a)),e+(tz (M6.val a):Nat)),_];unfold dD
      try dsimp only
      rw[Fq,jR,decide_eq_true hq,Bool.and_true];exact fT.refl _
def aG:cX:=orc2 vI (pN .i64) sp
theorem ok:OK 50 aG:=(eB E aE (aA gG.ok (aA zN.ok (aA Bi.ok aD))) func50).aAJ rfl spec
end iJ
namespace bJ
def E:=mE [(45,jZ.aG),(46,kM.aG),(47,Bk.aG),(48,Il.aG),(49,aAH.aG),(50,iJ.aG)] 79 [44,67,76] [(7,[2,3,4]),(12,[4,6,7,9])] [7,12]
def aE:=bd f13
theorem aW:Nk E aE:=nk
def J7 a b c d e f g h:=kV E f13 aE 7 [dG 0 29 [cI a,eT b,cP c],dG 1 29 [cI d,eT e,cP f],dG 2 29 [cI g,sc (slice none 0 0),cP h]]
def aQH a b c d e f g:=kV E f13 aE 12 [dG 0 29 [cI a,sc (slice none 0 0),cP b],bI c,dG 2 27 [cI d,eT e],dG 3 27 [cI f,eT g]]
theorem start a b c d e f:aF E f13 aE [D.agg [sc (bool a),ints u64 b,sc (int i64 c)],D.agg [sc (bool d),ints u64 e,sc (int i64 f)]]=aP (aL (a,b,c)) (aP (aL (d,e,f)) (aP True (aB ((b.length:Int)==(0:Int)) (aP (e.length<=1099511627776) (some [D.agg [sc (bool d),ints u64 e,sc (int i64 f)],D.s (sc (int i64 0))])) (aP True (aB ((e.length:Int)==(0:Int)) (aP (b.length<=1099511627776) (some [D.agg [sc (bool a),ints u64 b,sc (int i64 c)],D.s (sc (int i64 0))])) (bJ.J7 a b c d e f false 0)))))):=eJ aW
theorem Rx a b c d e f g h:J7 a b c d e f g h=letI G:=i64.wrap (c-if f<c then f else c);letI I:=M6.val b*(2:Nat)^G.toNat;letI F:=i64.wrap (f-if f<c then f else c);letI H:=M6.val e*(2:Nat)^F.toNat;letI C:=some [D.agg [sc (bool false),sc (slice none 0 0),sc (int i64 0)],D.s (sc (int i64 5))];letI B:=bif fit H then wv (d,e)*(↑((2:Nat)^F.toNat):Int)else(0:Int);letI A:=bif fit I then wv (a,b)*(↑((2:Nat)^G.toNat):Int)else(0:Int);aP (jK (a,b)/\0<=i64.wrap (c-if f<c then f else c)/\i64.wrap (c-if f<c then f else c)<4611686018427387904) (aP (jK (d,e)/\0<=i64.wrap (f-if f<c then f else c)/\i64.wrap (f-if f<c then f else c)<4611686018427387904) (aB ((bif fit I then(0:Int)else(5:Int)) !=0) C (aB ((bif fit H then(0:Int)else(5:Int)) !=0) C (bJ.aQH g h (if f<c then f else c) (isNeg A) (M6.dg A.natAbs) (isNeg B) (M6.dg B.natAbs))))):=cJ aW
theorem Vd a b c d e f g:aQH a b c d e f g=letI G:=wv (d,e)+wv (f,g);letI F:=bif fit G.natAbs then(0:Int)else(5:Int);letI C:=bif fit G.natAbs then wv (d,e)+wv (f,g)else(0:Int);letI A:=(isNeg C,M6.dg C.natAbs);letI B:=bif fR (wv A) c then aK (wv A) c else((0:Int),(0:Int));aP (jK (d,e)/\jK (f,g)) (aB (F !=0) (some [D.agg [sc (bool false),sc (slice none 0 0),sc (int i64 0)],D.s (sc (int i64 F))]) (aP (jK A/\(-9223372036854775808:Int)<=c/\c<9223372036854775808) (some [D.agg [sc (bool (isNeg B.fst)),ints u64 (M6.dg B.fst.natAbs),sc (int i64 B.snd)],D.s (sc (int i64 (bif fR (wv A) c then(0:Int)else(5:Int))))]))):=cJ aW
def fH(p q:Int×Int):Int:=if q.2<p.2 then q.2 else p.2
def lK(p q:Int×Int):Int:=p.1*((2^(p.2-fH p q).toNat:Nat):Int)
def lI(p q:Int×Int):Int:=q.1*((2^(q.2-fH p q).toNat:Nat):Int)
def mL(p q:Int×Int):Int×Int:=if p.1=0 then q else if q.1=0 then p else aK (lK p q+lI p q) (fH p q)
def iV(p q:Int×Int):Bool:=decide (p.1=0)||(decide (q.1=0)||(fit (lK p q).natAbs&&(fit (lI p q).natAbs&&(fit (lK p q+lI p q).natAbs&&fR (lK p q+lI p q) (fH p q)))))
def sp(x y:dR):Prop×List D:=(aL x/\aL y,dE (iV (dv x) (dv y)) (mL (dv x) (dv y)))
theorem spec:El E f13 aE gZ gZ sp:=by
 rintro x y ⟨hx,hy⟩;have s:=start x.1 x.2.1 x.2.2 y.1 y.2.1 y.2.2;have dx:=hx.dD;have dy:=hy.dD;have lx:=hx.len;have ly:=hy.len;have rx:=hx.2.1;have ry:=hy.2.1;have zx:=M6.cO hx.Fg;have zy:=M6.cO hy.Fg;have wx:=hx.Dh;have wy:=hy.Dh;obtain⟨b,a,e⟩:=x;obtain⟨c,d,f⟩:=y
 try dsimp only at *
 unfold sp
 try dsimp only
 have ax:=iO (b,a);have ay:=iO (c,d)
 try dsimp only at ax ay
 rw[gP hx,gP hy,gP trivial]at s
 by_cases h0:a.length=0
 ·have hw:(dv (b,a,e)).1=0:=by have:=zx.1 h0;show wv (b,a)=0;omega
  rw[cC,gP]at s;refine⟨_,s,?_⟩;unfold iV mL;rw[decide_eq_true hw,bRB,if_pos hw];show fT _ [M.dD (dv (c,d,f)),_];rw[dy];exact fT.refl _
 ·have hw:(dv (b,a,e)).1≠0:=by have:M6.val a≠0:=fun h=>h0 (zx.2 h);show wv (b,a)≠0;omega
  rw[bP,gP trivial]at s
  by_cases g0:d.length=0
  ·have hv:(dv (c,d,f)).1=0:=by have:=zy.1 g0;show wv (c,d)=0;omega
   rw[cC,gP]at s;refine⟨_,s,?_⟩;unfold iV mL;rw[decide_eq_false hw,bNS,decide_eq_true hv,bRB,if_neg hw,if_pos hv];show fT _ [M.dD (dv (b,a,e)),_];rw[dx];exact fT.refl _
  ·have hv:(dv (c,d,f)).1≠0:=by have:M6.val d≠0:=fun h=>g0 (zy.2 h);show wv (c,d)≠0;omega
   have i1:fH (dv (b,a,e)) (dv (c,d,f))<=e/\fH (dv (b,a,e)) (dv (c,d,f))<=f/\-1048576<=fH (dv (b,a,e)) (dv (c,d,f)):=by
    unfold fH dv
    try dsimp only
    split <;> omega
   have u1:i64.wrap (e-fH (dv (b,a,e)) (dv (c,d,f)))=e-fH (dv (b,a,e)) (dv (c,d,f)):=wrap_i64;have u2:i64.wrap (f-fH (dv (b,a,e)) (dv (c,d,f)))=f-fH (dv (b,a,e)) (dv (c,d,f)):=wrap_i64;have e1:(if f<e then f else e)=fH (dv (b,a,e)) (dv (c,d,f)):=rfl;have f1:M6.val a*2^(e-fH (dv (b,a,e)) (dv (c,d,f))).toNat=(lK (dv (b,a,e)) (dv (c,d,f))).natAbs:=by
    show _=(wv (b,a)*_).natAbs;rw[bRE,ax,bRJ];rfl
   have f2:M6.val d*2^(f-fH (dv (b,a,e)) (dv (c,d,f))).toNat=(lI (dv (b,a,e)) (dv (c,d,f))).natAbs:=by
    show _=(wv (c,d)*_).natAbs;rw[bRE,ay,bRJ];rfl
   have f3:wv (b,a)*((2^(e-fH (dv (b,a,e)) (dv (c,d,f))).toNat:Nat):Int)=lK (dv (b,a,e)) (dv (c,d,f)):=rfl;have f4:wv (c,d)*((2^(f-fH (dv (b,a,e)) (dv (c,d,f))).toNat:Nat):Int)=lI (dv (b,a,e)) (dv (c,d,f)):=rfl;rw[bP,Rx,e1,u1,u2]at s
   try dsimp only at s
   rw[f1,f2,f3,f4,gP ⟨wx,by omega,by omega⟩,gP ⟨wy,by omega,by omega⟩]at s;have ao:iV (dv (b,a,e)) (dv (c,d,f))=(fit (lK (dv (b,a,e)) (dv (c,d,f))).natAbs&&(fit (lI (dv (b,a,e)) (dv (c,d,f))).natAbs&&(fit (lK (dv (b,a,e)) (dv (c,d,f))+lI (dv (b,a,e)) (dv (c,d,f))).natAbs&&fR (lK (dv (b,a,e)) (dv (c,d,f))+lI (dv (b,a,e)) (dv (c,d,f))) (fH (dv (b,a,e)) (dv (c,d,f)))))):=by
    unfold iV;rw[decide_eq_false hw,bNS,decide_eq_false hv,bNS]
   have ad:mL (dv (b,a,e)) (dv (c,d,f))=aK (lK (dv (b,a,e)) (dv (c,d,f))+lI (dv (b,a,e)) (dv (c,d,f))) (fH (dv (b,a,e)) (dv (c,d,f))):=by
    unfold mL;rw[if_neg hw,if_neg hv]
   rw[ao,ad];generalize lK (dv (b,a,e)) (dv (c,d,f))=X at *;generalize lI (dv (b,a,e)) (dv (c,d,f))=Y at *;generalize fH (dv (b,a,e)) (dv (c,d,f))=k at *;cases c1:fit X.natAbs with
   |false =>
    rw[c1,cond_false,pW]at s;rw[bRA];exact⟨_,s,iJ.kC _⟩
   |true =>
    rw[c1,cond_true,eN rfl]at s;cases c2:fit Y.natAbs with
    |false =>
     rw[c2,cond_false,pW]at s;rw[bRA,bRD];exact⟨_,s,iJ.kC _⟩
    |true =>
     rw[c2,cond_true,eN rfl,Vd,gP ⟨mP (wV c1),mP (wV c2)⟩]at s
     try dsimp only[cond_true]at s
     rw[rD,rD]at s;cases c3:fit (X+Y).natAbs with
     |false =>
      rw[c3]at s
      try dsimp only[cond_false]at s
      rw[pW]at s;rw[bRA,bRD,bRD];exact⟨_,s,iJ.kC _⟩
     |true =>
      rw[c3]at s
      try dsimp only[cond_true]at s
      rw[eN rfl,gP ⟨mP (wV c3),by omega,by omega⟩,rD]at s;rw[bOS,bOS,bOS];exact⟨_,s,fT.refl _⟩
def aG:cX:=orc2 gZ gZ sp
theorem ok:OK 13 aG:=(eB E aE (aA jZ.ok (aA kM.ok (aA Bk.ok (aA Il.ok (aA aAH.ok (aA iJ.ok aD)))))) func13).aAJ rfl spec
end bJ
namespace mI
def E:=mE [(45,jZ.aG),(46,kM.aG),(47,Bk.aG)] 45 [] [(7,[1,2,4])] [7]
def aE:=bd f56
theorem aW:Nk E aE:=nk
def J7 a b c d e f:=kV E f56 aE 7 [bI a,dG 1 29 [cI b,eT c,cP d],dG 2 29 [cI e,sc (slice none 0 0),cP f]]
theorem start a c d b:aF E f56 aE [D.agg [sc (bool a),ints u64 c,sc (int i64 d)],D.s (sc (int i64 b))]=letI B:=int i64 0;letI A:=some [D.agg [sc (bool false),sc (slice none 0 0),sc B],D.s (sc (int i64 5))];aP (aL (a,c,d)) (aP True (aB ((c.length:Int)==(0:Int)) (some [D.agg [sc (bool false),sc (slice none 0 0),sc B],D.s (sc B)]) (aB (decide (2097152<b)) A (aB (decide (b<(-2097152:Int))) A (aB (decide (1048576<i64.wrap (d+b))) A (aB (decide (i64.wrap (d+b)<(-1048576:Int))) A (mI.J7 b a c d false 0))))))):=eJ aW
theorem Rx a b c d e f:J7 a b c d e f=aP (c.length<=1099511627776) (some [D.agg [sc (bool b),ints u64 c,sc (int i64 (i64.wrap (d+a)))],D.s (sc (int i64 0))]):=cJ aW
def aIK(p:Int×Int)(n:Int):Int×Int:=if p.1=0 then(0,0)else(p.1,p.2+n)
def Jg(p:Int×Int)(n:Int):Bool:=decide (p.1=0)||(decide (-1048576<=p.2+n)&&decide (p.2+n<=1048576))
def sp(x:dR)(n:Int):Prop×List D:=(aL x/\-9223372036854775808<=n/\n<9223372036854775808,dE (Jg (dv x) n) (aIK (dv x) n))
theorem spec:El E f56 aE gZ (pN .i64) sp:=by
 rintro x n ⟨h,h1,h2⟩;have hl:=h.len;have hd:=h.dD;have hr:=h.2.1;have s:=start x.1 x.2.1 x.2.2 n;obtain⟨b,a,e⟩:=x
 try dsimp only at *
 unfold sp
 try dsimp only
 have hz:=M6.cO h.Fg;have ha:=iO (b,a)
 try dsimp only at ha hz
 rw[gP h,gP trivial]at s
 by_cases h0:a.length=0
 ·have hw:(dv (b,a,e)).1=0:=by have:=hz.1 h0;show wv (b,a)=0;omega
  rw[cC]at s;refine⟨_,s,?_⟩;unfold Jg aIK;rw[decide_eq_true hw,bRB,if_pos hw];refine .cons ?_ (fT.refl _);show vV _ (M.dD (0,0));unfold M.dD;rw[show((0,0):Int×Int).1.natAbs=0 from rfl,M6.bQ];exact vV.agg (.cons (yJ.refl _) (.cons (yJ.nil _) (uB.refl _)))
 ·have hw:(dv (b,a,e)).1≠0:=by have:M6.val a≠0:=fun h=>h0 (hz.2 h);show wv (b,a)≠0;omega
  have vU:∀p:Bool,(p=(decide (-1048576<=e+n)&&decide (e+n<=1048576)))->Jg (dv (b,a,e)) n=p:=by
   intro p hp;unfold Jg;rw[decide_eq_false hw,bNS,hp];rfl
  rw[bP]at s
  by_cases c1:2097152<n
  ·rw[aO c1]at s;rw[vU false (by rw[decide_eq_false (show ¬(e+n<=1048576) by omega),bRD])];exact⟨_,s,iJ.kC _⟩
  ·rw[aI c1]at s
   by_cases c2:n < -2097152
   ·rw[aO c2]at s;rw[vU false (by rw[decide_eq_false (show ¬(-1048576<=e+n) by omega),bRA])];exact⟨_,s,iJ.kC _⟩
   ·have w:i64.wrap (e+n)=e+n:=wrap_i64;rw[aI c2,w]at s
    by_cases c3:1048576<e+n
    ·rw[aO c3]at s;rw[vU false (by rw[decide_eq_false (show ¬(e+n<=1048576) by omega),bRD])];exact⟨_,s,iJ.kC _⟩
    ·rw[aI c3]at s
     by_cases c4:e+n < -1048576
     ·rw[aO c4]at s;rw[vU false (by rw[decide_eq_false (show ¬(-1048576<=e+n) by omega),bRA])];exact⟨_,s,iJ.kC _⟩
     ·rw[aI c4,Rx]at s
      try dsimp only at s
      rw[gP,w]at s;rw[vU true (by rw[decide_eq_true (show(e+n<=1048576) by omega),decide_eq_true (show(-1048576<=e+n) by omega)];rfl)];refine⟨_,s,?_⟩;unfold aIK;rw[if_neg hw];have hc:=h.Dh.cells;show fT _ [M.dD (wv (b,a),e+n),_];unfold M.dD
      try dsimp only
      rw[hc.1,hc.2];exact fT.refl _
def aG:cX:=orc2 gZ (pN .i64) sp
theorem ok:OK 56 aG:=(eB E aE (aA jZ.ok (aA kM.ok (aA Bk.ok aD))) func56).aAJ rfl spec
end mI
namespace aGO
def E:=mE [(106,sA.aG)] 11 [] [] []
def aE:=bd f207
theorem aW:Nk E aE:=nk
theorem start a b:aF E f207 aE [D.agg [sc (bool a),ints u64 b]]=aP (M6.cA b/\b.length<=1099511627776) (aB ((↑(bl (M6.val b)):Int)==(0:Int)) (some [D.s (sc (int i64 0))]) (aB a (some [D.s (sc (int i64 (-1:Int)))]) (some [D.s (sc (int i64 1))]))):=eJ aW
def sp(x:Bool×List Int):Prop×List D:=(jK x,[.s (.sc (.int .i64 (lG (wv x) 0)))])
theorem spec:gI E f207 aE vI sp:=by
 intro x h;refine(start x.1 x.2).trans ?_;have h:jK x:=h;have hl:=h.len;obtain⟨h1,h2,h3⟩:=h;unfold sp;simp only;rw[gP ⟨h1.iP,by omega⟩]
 by_cases hz:M6.val x.2=0
 ·rw[hz,Fk,cC (a:=((0:Nat):Int)) (b:=0) rfl];cases hx:x.1 with
  |true=>exact(h2 hx hz).elim
  |false=>rw[Bo hx,hz];rfl
 ·have:=rQ hz;rw[bP];cases hx:x.1 with
  |true=>rw[bT,Lp hx];unfold lG;rw[aU]
  |false=>rw[bF,Bo hx];unfold lG;rw[aY,aU]
def aG:cX:=orc1 vI sp
theorem ok:OK 207 aG:=(eB E aE (aA sA.ok aD) func207).nA rfl spec
end aGO
namespace aGZ
def E:=mE [(106,sA.aG)] 11 [] [] []
def aE:=bd f234
theorem aW:Nk E aE:=nk
theorem start a b c:aF E f234 aE [D.agg [sc (bool a),ints u64 b,sc (int i64 c)]]=aP (M6.cA b/\b.length<=1099511627776) (some [D.s (sc (int i64 (i64.wrap (i64.wrap (c+(↑(bl (M6.val b)):Int))-1))))]):=eJ aW
def sp(x:dR):Prop×List D:=(aL x,[.s (.sc (.int .i64 (x.2.2+(bl (M6.val x.2.1):Nat)-1)))])
theorem spec:gI E f234 aE gZ sp:=by
 intro x h;have h:aL x:=h;have hl:=h.len;have hb:=h.Dh.bl;refine(start x.1 x.2.1 x.2.2).trans ?_;have he:=h.2.1
 try dsimp only at hb
 rw[gP ⟨h.Fg.iP,by omega⟩,wrap_i64 (n:=x.2.2+_),wrap_i64];rfl
def aG:cX:=orc1 gZ sp
theorem ok:OK 234 aG:=(eB E aE (aA sA.ok aD) func234).nA rfl spec
end aGZ
namespace aHA
def E:=mE [(234,aGZ.aG),(98,iY.aG),(101,De.aG)] 54 [53] [] []
def aE:=bd f208
theorem aW:Nk E aE:=nk
theorem start a b c d e f:aF E f208 aE [D.agg [sc (bool a),ints u64 b,sc (int i64 c)],D.agg [sc (bool d),ints u64 e,sc (int i64 f)]]=letI H:=(↑(bl (M6.val e)):Int);letI G:=(↑(bl (M6.val b)):Int);letI F:=i64.wrap (c-if f<c then f else c);letI C:=i64.wrap (f-if f<c then f else c);letI B:=bif iY.iB (M6.val e) C.toNat then M6.dg (M6.val e*(2:Nat)^C.toNat)else [];letI A:=bif iY.iB (M6.val b) F.toNat then M6.dg (M6.val b*(2:Nat)^F.toNat)else [];aP (aL (a,b,c)) (aP (aL (d,e,f)) (aB (decide (c+G-(1:Int)<f+H-(1:Int))) (some [D.s (sc (int i64 (-1:Int)))]) (aB (decide (f+H-(1:Int)<c+G-(1:Int))) (some [D.s (sc (int i64 1))]) (aP (M6.cD b/\b.length<=8192/\0<=i64.wrap (c-if f<c then f else c)/\i64.wrap (c-if f<c then f else c)<4611686018427387904) (aP (M6.cD e/\e.length<=8192/\0<=i64.wrap (f-if f<c then f else c)/\i64.wrap (f-if f<c then f else c)<4611686018427387904) (aP (M6.cA A/\M6.cA B/\A.length<=1099511627776/\B.length<=1099511627776) (some [D.s (sc (int i64 (mY (M6.val A) (M6.val B))))]))))))):=eJ aW
def sp(x y:dR):Prop×List D:=((aL x/\aL y)/\x.2.1.length≠0/\y.2.1.length≠0,[.s (.sc (.int .i64 (mY (bJ.lK (dv x) (dv y)).natAbs (bJ.lI (dv x) (dv y)).natAbs)))])
theorem spec:fK E f208 aE gZ gZ sp:=by
 rintro x y ⟨⟨hx,hy⟩,h0,g0⟩;refine(start x.1 x.2.1 x.2.2 y.1 y.2.1 y.2.2).trans ?_;have lx:=hx.len;have ly:=hy.len;have nx:=hx.Fg;have ny:=hy.Fg;have bx:=hx.Dh.bl;have bLJ:=hy.Dh.bl
 have rx:=hx.2.1;have ry:=hy.2.1;obtain⟨b,a,e⟩:=x;obtain⟨c,d,f⟩:=y
 try dsimp only at *
 unfold sp
 try dsimp only
 have ax:=iO (b,a);have ay:=iO (c,d)
 try dsimp only at ax ay
 have vx:M6.val a≠0:=fun h=>h0 ((M6.cO nx).2 h)
 have vy:M6.val d≠0:=fun h=>g0 ((M6.cO ny).2 h)
 rw[gP hx,gP hy];have i1:bJ.fH (dv (b,a,e)) (dv (c,d,f))<=e/\bJ.fH (dv (b,a,e)) (dv (c,d,f))<=f/\-1048576<=bJ.fH (dv (b,a,e)) (dv (c,d,f))/\(bJ.fH (dv (b,a,e)) (dv (c,d,f))=e\/bJ.fH (dv (b,a,e)) (dv (c,d,f))=f):=by
  unfold bJ.fH dv
  try dsimp only
  split <;> omega
 have u1:i64.wrap (e-bJ.fH (dv (b,a,e)) (dv (c,d,f)))=e-bJ.fH (dv (b,a,e)) (dv (c,d,f)):=wrap_i64;have u2:i64.wrap (f-bJ.fH (dv (b,a,e)) (dv (c,d,f)))=f-bJ.fH (dv (b,a,e)) (dv (c,d,f)):=wrap_i64;have e1:(if f<e then f else e)=bJ.fH (dv (b,a,e)) (dv (c,d,f)):=rfl;have f1:(bJ.lK (dv (b,a,e)) (dv (c,d,f))).natAbs=M6.val a*2^(e-bJ.fH (dv (b,a,e)) (dv (c,d,f))).toNat:=by
  show(wv (b,a)*_).natAbs=_;rw[bRE,ax,bRJ];rfl
 have f2:(bJ.lI (dv (b,a,e)) (dv (c,d,f))).natAbs=M6.val d*2^(f-bJ.fH (dv (b,a,e)) (dv (c,d,f))).toNat:=by
  show(wv (c,d)*_).natAbs=_;rw[bRE,ay,bRJ];rfl
 rw[f1,f2,e1,u1,u2];generalize bJ.fH (dv (b,a,e)) (dv (c,d,f))=k at *;have m1:bl (M6.val a*2^(e-k).toNat)=(e-k).toNat+bl (M6.val a):=by rw[bQP,Cu vx]
 have m2:bl (M6.val d*2^(f-k).toNat)=(f-k).toNat+bl (M6.val d):=by rw[bQP,Cu vy]
 have lt:∀m n:Nat,bl m<bl n->m<n:=fun m n h=>Nat.lt_of_not_le fun hc=>by have:=gD hc;omega
 by_cases c1:e+(bl (M6.val a):Int)-1<f+(bl (M6.val d):Int)-1
 ·have:=lt (M6.val a*2^(e-k).toNat) (M6.val d*2^(f-k).toNat) (by rw[m1,m2];omega);rw[aO c1];unfold mY;rw[if_pos this]
 ·rw[aI c1]
  by_cases c2:f+(bl (M6.val d):Int)-1<e+(bl (M6.val a):Int)-1
  ·have:=lt (M6.val d*2^(f-k).toNat) (M6.val a*2^(e-k).toNat) (by rw[m1,m2];omega);rw[aO c2];unfold mY;rw[aY,if_pos this]
  ·have o1:iY.iB (M6.val a) (e-k).toNat=true:=by
    unfold iY.iB;rw[decide_eq_true (show bl (M6.val a)+(e-k).toNat<=524288 by omega),bRQ]
   have o2:iY.iB (M6.val d) (f-k).toNat=true:=by
    unfold iY.iB;rw[decide_eq_true (show bl (M6.val d)+(f-k).toNat<=524288 by omega),bRQ]
   have k1:=eQ (n:=M6.val a*2^(e-k).toNat) (k:=8192) (by rw[m1];omega);have k2:=eQ (n:=M6.val d*2^(f-k).toNat) (k:=8192) (by rw[m2];omega);rw[aI c2,gP ⟨nx,lx,by omega,by omega⟩,gP ⟨ny,ly,by omega,by omega⟩,o1,o2,cond_true,cond_true,gP ⟨M6.iE _,M6.iE _,by omega,by omega⟩,M6.bN,M6.bN]
def aG:cX:=orc2 gZ gZ sp
theorem ok:OK 208 aG:=(eB E aE (aA aGZ.ok (aA iY.ok (aA De.ok aD))) func208).lE rfl spec
end aHA
namespace Kc
def E:=mE [(45,jZ.aG),(207,aGO.aG),(208,aHA.aG)] 38 [] [(3,[2,3])] [3]
def aE:=bd f158
theorem aW:Nk E aE:=nk
def J3 a b c d e f:=kV E f158 aE 3 [dG 0 29 [cI a,eT b,cP c],dG 1 29 [cI d,eT e,cP f]]
theorem start a b c d e f:aF E f158 aE [D.agg [sc (bool a),ints u64 b,sc (int i64 c)],D.agg [sc (bool d),ints u64 e,sc (int i64 f)]]=aP (aL (a,b,c)) (aP (aL (d,e,f)) (Kc.J3 a b c d e f)):=eJ aW
theorem gH a b c d e f:J3 a b c d e f=letI B:=wv (a,b);letI A:=sc (int i64 0);aP (jK (a,b)) (aP (jK (d,e)) (aB (decide (lG B 0<lG (wv (d,e)) 0)) (some [D.s (sc (int i64 (-1:Int))),D.s A]) (aB (decide (lG (wv (d,e)) 0<lG B 0)) (some [D.s (sc (int i64 1)),D.s A]) (aB (lG B 0==(0:Int)) (some [D.s A,D.s A]) (aP ((aL (a,b,c)/\aL (d,e,f))/\b.length≠0/\e.length≠0) (some [D.s (sc (int i64 (i64.wrap (lG B 0*mY (bJ.lK (dv (a,b,c)) (dv (d,e,f))).natAbs (bJ.lI (dv (a,b,c)) (dv (d,e,f))).natAbs)))),D.s A])))))):=cJ aW
def sp(x y:dR):Prop×List D:=(aL x/\aL y,[.s (.sc (.int .i64 (lG (bJ.lK (dv x) (dv y)) (bJ.lI (dv x) (dv y))))),.s (.sc (.int .i64 0))])
theorem bCU(z:Int)(P:Nat)(h:0<P):(0<z->0<z*(P:Int))/\(z<0->z*(P:Int)<0)/\(z=0->z*(P:Int)=0) :=
 ⟨fun hz=>Int.mul_pos hz (by omega),fun hz=>Int.mul_neg_of_neg_of_pos hz (by omega),fun hz=>by rw[hz,bRF]⟩
theorem cz(z:Int):(0<z/\lG z 0=1)\/(z<0/\lG z 0=-1)\/(z=0/\lG z 0=0):=by
 unfold lG
 by_cases h:z<0
 ·rw[if_pos h];omega
 ·rw[if_neg h]
  by_cases h':0<z
  ·rw[if_pos h'];omega
  ·rw[if_neg h'];omega
theorem spec:fK E f158 aE gZ gZ sp:=by
 rintro x y ⟨hx,hy⟩;refine(start x.1 x.2.1 x.2.2 y.1 y.2.1 y.2.2).trans ?_;have wx:=hx.Dh;have wy:=hy.Dh;have nx:=hx.Fg;have ny:=hy.Fg;obtain⟨b,a,e⟩:=x;obtain⟨c,d,f⟩:=y
 try dsimp only at *
 unfold sp
 try dsimp only
 have ax:=iO (b,a);have ay:=iO (c,d)
 try dsimp only at ax ay
 have zx:=M6.cO nx;have zy:=M6.cO ny;have sX:(0<wv (b,a)->0<bJ.lK (dv (b,a,e)) (dv (c,d,f)))/\(wv (b,a)<0->bJ.lK (dv (b,a,e)) (dv (c,d,f))<0)/\(wv (b,a)=0->bJ.lK (dv (b,a,e)) (dv (c,d,f))=0):=bCU _ _ (bOQ (by decide));have sY:(0<wv (c,d)->0<bJ.lI (dv (b,a,e)) (dv (c,d,f)))/\(wv (c,d)<0->bJ.lI (dv (b,a,e)) (dv (c,d,f))<0)/\(wv (c,d)=0->bJ.lI (dv (b,a,e)) (dv (c,d,f))=0):=bCU _ _ (bOQ (by decide));rw[gP hx,gP hy,gH,gP wx,gP wy];have guard:wv (b,a)≠0->wv (c,d)≠0->(aL (b,a,e)/\aL (c,d,f))/\a.length≠0/\d.length≠0:=fun h1 h2=>⟨⟨hx,hy⟩,fun h=>h1 (by have:=zx.1 h;omega),fun h=>h2 (by have:=zy.1 h;omega)⟩
 generalize bJ.lK (dv (b,a,e)) (dv (c,d,f))=X at *;generalize bJ.lI (dv (b,a,e)) (dv (c,d,f))=Y at *;have aPP:∀n:Int,lG X Y=n->some [D.s (.sc (.int .i64 n)),D.s (.sc (.int .i64 0))]=some [D.s (.sc (.int .i64 (lG X Y))),D.s (.sc (.int .i64 0))]:=fun n h=>by rw[h]
 rcases cz (wv (b,a))with ⟨h1,c1⟩ |⟨h1,c1⟩ |⟨h1,c1⟩ <;> rcases cz (wv (c,d))with ⟨h2,c2⟩ |⟨h2,c2⟩ |⟨h2,c2⟩ <;> rw[c1,c2]
 ·rw[aI,aI,bP,gP (guard (by omega) (by omega))];have:=sX.1 h1;have:=sY.1 h2;refine(congrArg (fun n=>some [D.s (.sc (.int .i64 n)),D.s (.sc (.int .i64 0))]) ?_);unfold mY lG;split <;> split <;> (try split) <;> (try split) <;> first |rfl |omega
 ·rw[aI,aO];refine aPP _ ?_;have:=sX.1 h1;have:=sY.2.1 h2;unfold lG;rw[aY,aU]
 ·rw[aI,aO];refine aPP _ ?_;have:=sX.1 h1;have:=sY.2.2 h2;unfold lG;rw[aY,aU]
 ·rw[aO];refine aPP _ ?_;have:=sX.2.1 h1;have:=sY.1 h2;unfold lG;rw[aU]
 ·rw[aI,aI,bP,gP (guard (by omega) (by omega))];have:=sX.2.1 h1;have:=sY.2.1 h2;refine(congrArg (fun n=>some [D.s (.sc (.int .i64 n)),D.s (.sc (.int .i64 0))]) ?_);unfold mY lG;split <;> split <;> (try split) <;> (try split) <;> first |rfl |omega
 ·rw[aO];refine aPP _ ?_;have:=sX.2.1 h1;have:=sY.2.2 h2;unfold lG;rw[aU]
 ·rw[aO];refine aPP _ ?_;have:=sX.2.2 h1;have:=sY.1 h2;unfold lG;rw[aU]
 ·rw[aI,aO];refine aPP _ ?_;have:=sX.2.2 h1;have:=sY.2.1 h2;unfold lG;rw[aY,aU]
 ·rw[aI,aI,cC rfl];refine aPP _ ?_;have:=sX.2.2 h1;have:=sY.2.2 h2;unfold lG;rw[aY,aY]
def aG:cX:=orc2 gZ gZ sp
theorem ok:OK 158 aG:=(eB E aE (aA jZ.ok (aA aGO.ok (aA aHA.ok aD))) func158).lE rfl spec
end Kc
end W
namespace M
open Go AI W
def p2(n:Int):Int:=((2^n.toNat:Nat):Int)
theorem Ca(n:Int):0<p2 n:=by unfold p2;have:=bOQ (n:=n.toNat) (show 0<2 by decide);omega
theorem nF{m n:Int}(hm:0<=m)(hn:0<=n):p2 (m+n)=p2 m*p2 n:=by
 unfold p2;rw[Int.toNat_add hm hn,bQS,bRP]
theorem Cb(k:Nat):p2 (k:Int)=((2^k:Nat):Int):=by unfold p2;rw[bPN]
theorem Wo:p2 0=1:=rfl
theorem aCP:p2 1=2:=rfl
theorem cZ(e:Int):aK 0 e=(0,0):=by unfold aK;rw[if_pos rfl]
theorem dC{z e:Int}:(aK z e).1=0↔z=0:=by
 constructor
 ·intro h;unfold aK at h
  by_cases hz:z=0
  ·exact hz
  ·rw[if_neg hz]at h;dsimp only at h;have hs:=(oO z.natAbs (by omega)).1;have hd:((2^tz z.natAbs:Nat):Int)∣z:=Int.ofNat_dvd_left.2 (bSQ hs);have:=bTP hd;rw[h,bRF]at this;omega
 ·rintro rfl;rw[cZ]
theorem jG{z e:Int}(hz:z≠0):z=(aK z e).1*p2 (tz z.natAbs:Nat)/\(aK z e).2=e+(tz z.natAbs:Nat):=by
 unfold aK;rw[if_neg hz];dsimp only;have hs:=(oO z.natAbs (by omega)).1;have hd:((2^tz z.natAbs:Nat):Int)∣z:=Int.ofNat_dvd_left.2 (bSQ hs);rw[Cb,bTP hd];exact⟨rfl,rfl⟩
theorem uL(z e:Int){k:Int}(hk:0<=k):aK (z*p2 k) e=aK z (e+k):=by
 obtain⟨n,rfl⟩:=bQT hk;rw[Cb]
 by_cases hz:z=0
 ·subst hz;rw[bRF,cZ,cZ]
 ·have hp:0<2^n:=bOQ (by decide);have hn:z*((2^n:Nat):Int)≠0:=bTQ hz (by omega);have ht:tz (z*((2^n:Nat):Int)).natAbs=n+tz z.natAbs:=by
   rw[bRE,bRJ,bQP,Ls (by omega)]
  unfold aK;rw[if_neg hz,if_neg hn,ht,bQS,bRP,Int.mul_comm z,Int.mul_ediv_mul_of_pos _ _ (by omega)];congr 1;omega
theorem tF{p:Int×Int}(h0:p.1=0->p.2=0)(h1:p.1≠0->p.1%2=1):aK p.1 p.2=p:=by
 unfold aK
 by_cases hz:p.1=0
 ·rw[if_pos hz];exact Prod.ext hz.symm (h0 hz).symm
 ·rw[if_neg hz,yT (by have:=h1 hz;omega)];refine Prod.ext ?_ ?_
  ·show p.1/((2^0:Nat):Int)=p.1;rw[Nat.pow_zero];omega
  ·show p.2+((0:Nat):Int)=p.2;omega
theorem iL.same{p:Int×Int}(h:iL p):aK p.1 p.2=p:=tF h.2.2.1 h.2.2.2
theorem Gt{z e:Int}(h:(aK z e).1≠0):(aK z e).1%2=1:=by
 have hz:z≠0:=fun hz=>h (dC.2 hz)
 have hs:=(oO z.natAbs (by omega));have hv:=(jG (e:=e) hz).1;have ha:z.natAbs=(aK z e).1.natAbs*2^tz z.natAbs:=by
  rw[Cb]at hv;have:=congrArg Int.natAbs hv;rwa [bRE,bRJ]at this
 have:z.natAbs/2^tz z.natAbs=(aK z e).1.natAbs:=by
  have hp:0<2^tz z.natAbs:=bOQ (by decide);generalize tz z.natAbs=t at *;rw[ha,Nat.mul_div_cancel _ hp]
 rw[this]at hs;omega
theorem zB{z e:Int}(h:(aK z e).1=0):(aK z e).2=0:=by rw[dC.1 h,cZ]
theorem qZ{z e G:Int}(hz:z≠0)(h:G<=e):(aK z e).1*p2 ((aK z e).2-G)=z*p2 (e-G):=by
 obtain⟨h1,h2⟩:=jG (e:=e) hz;rw[h2];have:e+(tz z.natAbs:Int)-G=(tz z.natAbs:Int)+(e-G):=by omega
 rw[this,nF (by omega) (by omega),<-bSE,<-h1]
theorem Tc{z e G:Int}(h:G<=e):(aK z e).1*p2 ((aK z e).2-G)=z*p2 (e-G):=by
 by_cases hz:z=0
 ·subst hz;rw[cZ,bRF,bRF]
 ·exact qZ hz h
theorem mN{z e:Int}(hz:z≠0):e<=(aK z e).2:=by have:=(jG (e:=e) hz).2;omega
theorem Pw(z e:Int):aK (-z) e=(-(aK z e).1,(aK z e).2):=by
 by_cases hz:z=0
 ·subst hz;rw[Int.neg_zero,cZ];rfl
 ·have h:=jG (e:=e) hz;unfold aK;rw[if_neg hz,aY,bSL];have hs:=(oO z.natAbs (by omega)).1;have hd:((2^tz z.natAbs:Nat):Int)∣z:=Int.ofNat_dvd_left.2 (bSQ hs);rw[Int.neg_ediv_of_dvd hd]
theorem Wd(z e n:Int):mI.aIK (aK z e) n=aK z (e+n):=by
 unfold mI.aIK
 by_cases hz:z=0
 ·subst hz;rw[cZ,cZ];rfl
 ·rw[if_neg (fun h=>hz (dC.1 h))];unfold aK;rw[if_neg hz,if_neg hz];dsimp only;congr 1;omega
theorem Mn{p q:Int×Int}:bJ.fH p q<=p.2/\bJ.fH p q<=q.2:=by unfold bJ.fH;split <;> omega
theorem Ba{a E b F G:Int}(h1:G<=E)(h2:G<=F):bJ.mL (aK a E) (aK b F)=aK (a*p2 (E-G)+b*p2 (F-G)) G:=by
 unfold bJ.mL
 by_cases ha:a=0
 ·subst ha;rw[if_pos (by rw[cZ]),bRF,Int.zero_add,uL _ _ (by omega),show G+(F-G)=F by omega]
 ·rw[if_neg (fun h=>ha (dC.1 h))]
  by_cases hb:b=0
  ·subst hb;rw[if_pos (by rw[cZ]),bRF,Int.add_zero,uL _ _ (by omega),show G+(E-G)=E by omega]
  ·rw[if_neg (fun h=>hb (dC.1 h))];have ga:=qZ (e:=E) ha h1;have gb:=qZ (e:=F) hb h2;have la:=mN (e:=E) ha;have lb:=mN (e:=F) hb;have hm:=Mn (p:=aK a E) (q:=aK b F);have hg:G<=bJ.fH (aK a E) (aK b F):=by unfold bJ.fH;split <;> omega
   rw[<-ga,<-gb];unfold bJ.lK bJ.lI;generalize bJ.fH (aK a E) (aK b F)=m at *;generalize aK a E=p at *;generalize aK b F=q at *;have e1:p2 (p.2-G)=p2 (p.2-m)*p2 (m-G):=by rw[<-nF (by omega) (by omega)];congr 1;omega
   have e2:p2 (q.2-G)=p2 (q.2-m)*p2 (m-G):=by rw[<-nF (by omega) (by omega)];congr 1;omega
   rw[e1,e2,<-bSE,<-bSE,<-Int.add_mul,uL _ _ (by omega),show G+(m-G)=m by omega];rfl
theorem fJ{z e:Int}(h1:-1048576<=e)(h2:e+(bl z.natAbs:Int)<=1048577):fR z e=true:=by
 unfold fR
 by_cases hz:z=0
 ·rw[decide_eq_true hz,bRB]
 ·have:=zS (n:=z.natAbs) (by omega);rw[decide_eq_true (show -1048576<=e+(tz z.natAbs:Int) by omega),decide_eq_true (show e+(tz z.natAbs:Int)<=1048576 by omega),bOS,bRQ]
theorem Ai(z e:Int):(aK z e).1.natAbs<=z.natAbs:=by
 unfold aK;split
 ·simp
 ·exact Ar (bOQ (by decide))
theorem fF{z e:Int}(hi:fR z e=true)(hf:bl z.natAbs<=524288):iL (aK z e):=by
 refine⟨bMN (gD (Ai z e)) hf,?_,zB,Gt⟩
 by_cases hz:z=0
 ·subst hz;rw[cZ];exact⟨by show(-1048576:Int)<=0;omega,by show(0:Int)<=1048576;omega⟩
 ·rw[(jG hz).2];unfold fR at hi;rw[decide_eq_false hz,bNS,bLX]at hi;exact⟨of_decide_eq_true hi.1,of_decide_eq_true hi.2⟩
theorem Us(z n:Int):(z*p2 n).natAbs=z.natAbs*2^n.toNat:=by
 rw[bRE];rfl
theorem yB{a E b F G:Int}(h1:G<=E)(h2:G<=F)(h3:-1048576<=G)(f1:bl (a*p2 (E-G)).natAbs<=524287)(f2:bl (b*p2 (F-G)).natAbs<=524287)(f3:G<=524288) :
  bJ.iV (aK a E) (aK b F)=true:=by
 unfold bJ.iV
 by_cases ha:a=0
 ·rw[decide_eq_true (dC.2 ha),bRB]
 ·by_cases hb:b=0
  ·rw[decide_eq_true (dC.2 hb),bRB,bRQ]
  ·have ga:=qZ (e:=E) ha h1;have gb:=qZ (e:=F) hb h2;have la:=mN (e:=E) ha;have lb:=mN (e:=F) hb;have hm:=Mn (p:=aK a E) (q:=aK b F);have hg:G<=bJ.fH (aK a E) (aK b F):=by unfold bJ.fH;split <;> omega
   rw[<-ga]at f1;rw[<-gb]at f2;have inner:∀(p:Int×Int) (m:Int),G<=m->m<=p.2->bl (p.1*p2 (p.2-G)).natAbs<=524287->p.1≠0->bl (p.1*p2 (p.2-m)).natAbs+(m-G).toNat<=524287:=by
    intro p m h1 h2 h3 hp;have e1:p2 (p.2-G)=p2 (m-G)*p2 (p.2-m):=by rw[<-nF (by omega) (by omega)];congr 1;omega
    rw[e1,Int.mul_comm (p2 (m-G)),<-bSE,Us,bQP,Cu (by
     have:=Ca (p.2-m);have:=bTQ hp (show p2 (p.2-m)≠0 by omega);omega)]at h3
    omega
   have i1:=inner _ _ hg hm.1 f1 (fun h=>ha (dC.1 h));have i2:=inner _ _ hg hm.2 f2 (fun h=>hb (dC.1 h));have x1:bl (bJ.lK (aK a E) (aK b F)).natAbs+(bJ.fH (aK a E) (aK b F)-G).toNat<=524287:=i1;have x2:bl (bJ.lI (aK a E) (aK b F)).natAbs+(bJ.fH (aK a E) (aK b F)-G).toNat<=524287:=i2;generalize bJ.lK (aK a E) (aK b F)=X at *;generalize bJ.lI (aK a E) (aK b F)=Y at *;have x3:bl (X+Y).natAbs<=max (bl X.natAbs) (bl Y.natAbs)+1:=bMN (gD (bTT _ _)) (yA _ _);have hi:fR (X+Y) (bJ.fH (aK a E) (aK b F))=true:=fJ (by omega) (by omega);have yes:∀n,bl n<=524288->fit n=true:=fun n h=>decide_eq_true h
   rw[decide_eq_false (fun h=>ha (dC.1 h)),decide_eq_false (fun h=>hb (dC.1 h)),hi,yes _ (by omega),yes _ (by omega),yes _ (by omega)];rfl
theorem Pj{z e n:Int}(h1:-1048576<=e+n)(h2:e+n+(bl z.natAbs:Int)<=1048577):mI.Jg (aK z e) n=true:=by
 unfold mI.Jg
 by_cases hz:z=0
 ·rw[decide_eq_true (dC.2 hz),bRB]
 ·have:=zS (n:=z.natAbs) (by omega);have h3:=(jG (e:=e) hz).2;rw[decide_eq_false (fun h=>hz (dC.1 h)),decide_eq_true (by omega),decide_eq_true (by omega)];rfl
theorem wY{z:Int}{b k:Nat}{n:Int}(h:bl z.natAbs<=b)(hn:n<=k):bl (z*p2 n).natAbs<=b+k:=by
 rw[Us];refine dP.2 ?_;rw[bQS];exact Nat.mul_lt_mul_of_lt_of_le (dP.1 h) (bOR (by decide) (by omega)) (bOQ (by decide))
theorem Uj{x y:Int}{n:Nat}(h1:bl x.natAbs<=n)(h2:bl y.natAbs<=n):bl (x+y).natAbs<=n+1:=by
 have:=bMN (gD (bTT x y)) (yA _ _);omega
theorem aPQ{z:Int}{n:Nat}(h:bl z.natAbs<=n)(k:Int):bl (z/p2 k).natAbs<=n:=bMN (gD (Ar (bOQ (by decide)))) h
theorem Ns{z:Int}{n:Nat}(h:bl z.natAbs<=n):bl (-z).natAbs<=n:=by rwa [bSL]
theorem wZ:bl (1:Int).natAbs<=1:=dP.2 (by decide)
theorem nT{R:Type}(V:Int×Int)(k:Bool->List Int->Int->Option R):(aC (isNeg V.1) fun b=>aC (M6.dg V.1.natAbs) fun l=>aC V.2 fun e=>k b l e)=k (isNeg V.1) (M6.dg V.1.natAbs) V.2:=rfl
theorem vl{α R:Type}(x:α)(k:α->Option R):aC x k=k x:=rfl
end M
namespace AI
open Go Go.RowKit
def allB:Nat->(Nat->Bool)->Bool
 |0,_=>true
 |n+1,f=>f n&&allB n f
theorem Rq{f:Nat->Bool}:∀{n:Nat},allB n f=true->∀i,i<n->f i=true
 |0,_,i,hi=>absurd hi (by omega)
 |n+1,h,i,hi=>by
  simp only[allB,bLX]at h
  by_cases hc:i=n
  ·subst hc;exact h.1
  ·exact Rq h.2 i (by omega)
def pR{β:Type}(p:SPar β)(d:β):kN (Nat×(Nat->β)) where
 put x:=.rows p.n x.1 fun i=>p.put (x.2 i)
 get
  | .rows sz n g=>if sz=p.n/\allB n (fun i=>(p.get (g i)).isSome)=true then some (n,fun i=>(p.get (g i)).getD d)else none
  |_=>none
 le:=by
  intro dd x h
  match dd,h with
  | .rows sz n g,h =>
   dsimp only at h;split at h
   ·rename_i hc;cases h;obtain⟨rfl,wT⟩:=hc;rintro Y w v ⟨A,c,hv,hle,aOE⟩;refine⟨A,c,hv,hle,fun i hi=>?_⟩;obtain⟨h1,b,off,hA,h2⟩:=aOE i hi;have hs:=Rq wT i hi;obtain⟨y,hy⟩:=Option.isSome_iff_exists.1 hs;obtain⟨a1,a2,a3⟩:=p.le hy;dsimp only;rw[hy];refine⟨a2,b,off,hA,fun j s hj=>?_⟩;obtain⟨s0,Jb⟩:=bA (l:=g i) (i:=j) (by have:=aR hj;simp only[Option.getD_some]at this;omega);obtain⟨b1,b2,u,hu,hr⟩:=h2 j s0 Jb;exact⟨b1,b2,u,hu,a3 j s0 s Jb hj Y w u hr⟩
   ·cases h
def pFn(id:FuncId):kN Unit where
 put _:=.s (.sc (.func (.func id) #[] #[]))
 get
  | .s (.sc (.func (.func g) ⟨[]⟩ ⟨[]⟩))=>if g=id then some ()else none
  |_=>none
 le:=by
  intro dd x h;split at h
  ·split at h
   ·rename_i hg;subst hg;exact zQ.refl _
   ·cases h
  ·cases h
end AI
namespace R
def sum(f:Nat->Rat):Nat->Rat
 |0=>0
 |n+1=>sum f n+f n
theorem cY(f:Nat->Rat)(n:Nat):sum f (n+1)=sum f n+f n:=rfl
theorem iK{f g:Nat->Rat}{n:Nat}(h:∀k,k<n->f k=g k):sum f n=sum g n:=by
 induction n with
 |zero=>rfl
 |succ n ih=>rw[cY,cY,ih fun k hk=>h k (by omega),h n (by omega)]
theorem sum_add(f g:Nat->Rat)(n:Nat):sum (fun k=>f k+g k) n=sum f n+sum g n:=by
 induction n with
 |zero=>simp only[sum];grind
 |succ n ih=>simp only[cY,ih];grind
theorem xP(f g:Nat->Rat)(n:Nat):sum (fun k=>f k-g k) n=sum f n-sum g n:=by
 induction n with
 |zero=>simp only[sum];grind
 |succ n ih=>simp only[cY,ih];grind
theorem kX(c:Rat)(f:Nat->Rat)(n:Nat):sum (fun k=>c*f k) n=c*sum f n:=by
 induction n with
 |zero=>simp only[sum];grind
 |succ n ih=>simp only[cY,ih];grind
theorem sR{f g:Nat->Rat}{n:Nat}(h:∀k,k<n->f k<=g k):sum f n<=sum g n:=by
 induction n with
 |zero=>simp only[sum];grind
 |succ n ih=>simp only[cY];have:=ih fun k hk=>h k (by omega);have:=h n (by omega);grind
def ab(x:Rat):Rat:=if 0<=x then x else -x
theorem aT(x:Rat):0<=ab x:=by unfold ab;split <;> grind
theorem Pz(x:Rat):x<=ab x:=by unfold ab;split <;> grind
theorem tH(x:Rat):-x<=ab x:=by unfold ab;split <;> grind
theorem dY{x a:Rat}:ab x<=a↔-a<=x/\x<=a:=by unfold ab;split <;> grind
theorem gT(x:Rat):ab (-x)=ab x:=by unfold ab;split <;> split <;> grind
theorem Ny(x y:Rat):ab (x+y)<=ab x+ab y:=by unfold ab;split <;> split <;> split <;> grind
theorem aH{a b:Rat}(h:0<=a)(h':0<=b):0<=a*b:=Rat.mul_nonneg h h'
theorem gQ(x y:Rat):ab (x*y)=ab x*ab y:=by
 unfold ab
 by_cases hx:0<=x <;> by_cases hy:0<=y
 ·rw[if_pos hx,if_pos hy,if_pos (aH hx hy)]
 ·rw[if_pos hx,if_neg hy];have:=aH hx (show 0<=-y by grind);split <;> grind
 ·rw[if_neg hx,if_pos hy];have:=aH (show 0<=-x by grind) hy;split <;> grind
 ·rw[if_neg hx,if_neg hy];have:=aH (show 0<=-x by grind) (show 0<=-y by grind);split <;> grind
theorem cT{a b c d:Rat}(h1:0<=a)(h2:a<=b)(h3:0<=c)(h4:c<=d):a*c<=b*d:=by
 have:=aH h1 (show 0<=d-c by grind);have:=aH (show 0<=b-a by grind) (show 0<=d by grind);grind
theorem uY(f:Nat->Rat)(n:Nat):ab (sum f n)<=sum (fun k=>ab (f k)) n:=by
 induction n with
 |zero=>simp[sum,ab]
 |succ n ih=>simp only[cY];have:=Ny (sum f n) (f n);grind
theorem aBU{f:Nat->Rat}{n:Nat}(h:∀k,0<=f k):0<=sum f n:=by
 induction n with
 |zero=>simp only[sum];grind
 |succ n ih=>simp only[cY];have:=h n;grind
def conv(f g:Nat->Rat)(m:Nat):Rat:=sum (fun j=>f j*g (m-j)) (m+1)
theorem aBV(f g:Nat->Rat)(n:Nat):sum (conv f g) n=sum (fun j=>f j*sum g (n-j)) n:=by
 induction n with
 |zero=>rfl
 |succ n ih =>
  rw[cY,ih,conv,cY,cY];rw[show n+1-n=1 by omega,bPV];have:sum (fun j=>f j*sum g (n+1-j)) n=sum (fun j=>f j*sum g (n-j)+f j*g (n-j)) n :=
   iK fun k hk=>by rw[show n+1-k=(n-k)+1 by omega,cY];grind
  rw[this,sum_add];have:sum g 1=g 0:=by simp only[sum];grind
  grind
theorem Af(f g:Nat->Rat)(n:Nat):sum f n*sum g n=sum (conv f g) n+sum (fun j=>f j*(sum g n-sum g (n-j))) n:=by
 rw[aBV,<-sum_add];have:sum (fun k=>f k*sum g (n-k)+f k*(sum g n-sum g (n-k))) n=sum (fun k=>sum g n*f k) n:=iK fun k _=>by grind
 rw[this,kX];grind
def tm(x:Rat):Nat->Rat
 |0=>1
 |k+1=>tm x k*x/((k+1:Nat):Rat)
theorem cast_pos(k:Nat):(0:Rat)<((k+1:Nat):Rat):=by
 exact_mod_cast Nat.succ_pos k
theorem iR(x:Rat)(k:Nat):((k+1:Nat):Rat)*tm x (k+1)=x*tm x k:=by
 have:=cast_pos k;rw[tm];grind
theorem Lu(x y:Rat):∀m,conv (tm x) (tm y) m=tm (x+y) m
 |0=>by simp only[conv,sum,tm,Nat.sub_zero];grind
 |m+1=>by
  have ih:=Lu x y m;have hp:=cast_pos m;have e:=iR (x+y) m;have h:((m+1:Nat):Rat)*conv (tm x) (tm y) (m+1)=(x+y)*conv (tm x) (tm y) m:=by
   unfold conv;rw[<-kX];have h1:sum (fun k=>((m+1:Nat):Rat)*(tm x k*tm y (m+1-k))) (m+1+1)=sum (fun k=>(k:Rat)*tm x k*tm y (m+1-k)) (m+1+1)+sum (fun k=>tm x k*(((m+1-k:Nat):Rat)*tm y (m+1-k))) (m+1+1):=by
    rw[<-sum_add];refine iK fun k hk=>?_
    have:((m+1:Nat):Rat)=(k:Rat)+((m+1-k:Nat):Rat):=by
     rw[<-Rat.natCast_add];congr 1;omega
    rw[this];grind
   have h2:∀n,sum (fun k=>(k:Rat)*tm x k*tm y (m+1-k)) (n+1)=x*sum (fun k=>tm x k*tm y (m-k)) n:=by
    intro n
    induction n with
    |zero=>simp only[sum];grind
    |succ n ih =>
     rw[cY,ih,cY,show m+1-(n+1)=m-n by omega];have:=iR x n;grind
   have h3:sum (fun k=>tm x k*(((m+1-k:Nat):Rat)*tm y (m+1-k))) (m+1+1)=y*sum (fun k=>tm x k*tm y (m-k)) (m+1):=by
    rw[cY,bPV];have:sum (fun k=>tm x k*(((m+1-k:Nat):Rat)*tm y (m+1-k))) (m+1)=sum (fun k=>y*(tm x k*tm y (m-k))) (m+1):=by
     refine iK fun k hk=>?_
     have:=iR y (m-k);rw[show m+1-k=m-k+1 by omega];grind
    rw[this,kX];grind
   rw[h1,h2,h3];grind
  rw[ih]at h;generalize ((m+1:Nat):Rat)=q at *;generalize conv (tm x) (tm y) (m+1)=u at *;generalize tm (x+y) (m+1)=v at *;have:q*u=q*v:=by rw[h,e]
  have hq:q≠0:=by grind
  clear h e ih;grind
theorem iZ(f:Nat->Rat)(a n:Nat):sum f (a+n)=sum f a+sum (fun i=>f (a+i)) n:=by
 induction n with
 |zero=>simp only[sum,bMS];grind
 |succ n ih=>rw[<-bPH,cY,ih,cY];grind
theorem Pc{f:Nat->Rat}(h:∀k,0<=f k){a b:Nat}(aWY:a<=b):sum f a<=sum f b:=by
 obtain⟨n,rfl⟩:=bMW aWY;rw[iZ];have:=aBU (f:=fun i=>f (a+i)) (n:=n) fun k=>h _
 grind
def hf:Nat->Rat
 |0=>1
 |k+1=>hf k/2
theorem wS:∀k,0<hf k
 |0=>by simp only[hf];grind
 |k+1=>by have:=wS k;simp only[hf];grind
theorem Mz(a:Nat):∀b,hf (a+b)=hf a*hf b
 |0=>by simp only[hf,bMS];grind
 |b+1=>by rw[<-bPH,hf,Mz a b,hf];grind
theorem aLZ{a b:Nat}(h:a<=b):hf b<=hf a:=by
 obtain⟨n,rfl⟩:=bMW h;clear h
 induction n with
 |zero=>grind
 |succ n ih=>rw[<-bPH,hf];have:=wS (a+n);grind
theorem Ts(k:Nat):hf k*(2^k:Nat)=1:=by
 induction k with
 |zero=>simp only[hf];grind
 |succ k ih=>rw[hf,bQQ,bSR];grind
theorem bBM(n:Nat):sum hf n<=2:=by
 have:sum hf n=2-2*hf n:=by
  induction n with
  |zero=>simp only[sum,hf];grind
  |succ n ih=>rw[cY,ih,hf];grind
 have:=wS n;grind
theorem kW{x:Rat}(h:0<=x):∀k,0<=tm x k
 |0=>by simp only[tm];grind
 |k+1=>by
  have h1:=aH h (kW h k);have h2:=iR x k;have h3:=cast_pos k;refine Rat.not_lt.1 fun hn=>?_
  have:=bRK h3 (show 0 < -(tm x (k+1)) by grind);grind
theorem Kd(x:Rat):∀k,ab (tm x k)=tm (ab x) k
 |0=>by simp only[tm,ab];grind
 |k+1=>by
  have h3:=cast_pos k;have h1:=Kd x k;have h2:=iR x k;have h4:=iR (ab x) k;have h5:ab (((k+1:Nat):Rat)*tm x (k+1))=ab x*ab (tm x k):=by rw[h2,gQ]
  rw[gQ,h1]at h5;have h6:ab ((k+1:Nat):Rat)=((k+1:Nat):Rat):=by unfold ab;rw[if_pos (by grind)]
  rw[h6]at h5;generalize ((k+1:Nat):Rat)=q at *;generalize ab (tm x (k+1))=u at *;generalize tm (ab x) (k+1)=v at *;have hq:q≠0:=by grind
  have:q*u=q*v:=by grind
  clear h1 h2 h4 h5 h6;grind
theorem Vn{x y:Rat}(h:0<=x)(aSS:x<=y):∀k,tm x k<=tm y k
 |0=>by simp only[tm];grind
 |k+1=>by
  have h1:=cT (kW h k) (Vn h aSS k) h aSS;have h2:=iR x k;have h4:=iR y k;have h3:=cast_pos k;refine Rat.not_lt.1 fun hn=>?_
  have:=bRK h3 (show 0<tm x (k+1)-tm y (k+1) by grind);grind
theorem aBO(j:Nat):tm 4 (8+j)<=2*hf j:=by
 induction j with
 |zero =>
  have:tm 4 8=65536/40320:=by simp only[tm];grind
  simp only[hf,bMS,this];grind
 |succ j ih =>
  have h2:=iR 4 (8+j);have h3:(8:Rat)<=((8+j+1:Nat):Rat):=by exact_mod_cast(show 8<=8+j+1 by omega)
  have h4:=kW (x:=4) (by grind) (8+j+1);rw[<-bPH,hf];have:=aH (show 0<=((8+j+1:Nat):Rat)-8 by grind) h4;grind
theorem wA(m n:Nat):sum (fun i=>tm 4 (8+m+i)) n<=4*hf m:=by
 have h1:sum (fun i=>tm 4 (8+m+i)) n<=sum (fun i=>2*hf m*hf i) n:=sR fun k _=>by
  have:=aBO (m+k);rw[Mz,<-bPH]at this;grind
 rw[kX]at h1;have:=aH (show 0<=2*hf m by have:=wS m;grind) (show 0<=2-sum hf n by have:=bBM n;grind);grind
theorem Vo(n:Nat):sum (tm 4) n<=64:=by
 have h0:∀k,0<=tm 4 k:=kW (by grind);have h1:=Pc h0 (show n<=8+n by omega);have h2:=iZ (tm 4) 8 n;have h3:=wA 0 n;have h4:sum (tm 4) 8<=52:=by
  simp only[sum,tm];grind
 simp only[hf,bMS]at h3;grind
theorem Ev{f g:Nat->Rat}(aUP:∀k,ab (f k)<=tm 4 k)(hg:∀k,ab (g k)<=tm 4 k)(m:Nat) :
  ab (sum (fun j=>f j*(sum g (2*(8+m))-sum g (2*(8+m)-j))) (2*(8+m)))<=512*hf m:=by
 have hG:∀a n,ab (sum g (a+n)-sum g a)<=sum (fun i=>tm 4 (a+i)) n:=fun a n=>by
  rw[iZ,show sum g a+sum (fun i=>g (a+i)) n-sum g a=sum (fun i=>g (a+i)) n by grind];exact bQW (uY _ _) (sR fun k _=>hg _)
 have h0:∀k,0<=tm 4 k:=kW (by grind);refine bQW (uY _ _) ?_;have hp:=wS m;have e:2*(8+m)=(8+m)+(8+m):=by omega
 rw[show sum (fun k=>ab (f k*(sum g (2*(8+m))-sum g (2*(8+m)-k)))) (2*(8+m))=sum (fun k=>ab (f k*(sum g (2*(8+m))-sum g (2*(8+m)-k)))) ((8+m)+(8+m)) by rw[<-e],iZ];have p1:sum (fun k=>ab (f k*(sum g (2*(8+m))-sum g (2*(8+m)-k)))) (8+m)<=sum (fun k=>4*hf m*tm 4 k) (8+m):=sR fun k hk=>by
  rw[gQ];have h1:=hG (2*(8+m)-k) k;rw[show 2*(8+m)-k+k=2*(8+m) by omega]at h1;have h2:=wA (8+m-k) k;rw[show 8+(8+m-k)=2*(8+m)-k-m by omega]at h2;have h3:=wA (m+(8+m-k)-8+8-8+8) k;have h5:sum (fun i=>tm 4 (2*(8+m)-k+i)) k<=4*hf (2*(8+m)-k-8):=by
   have:=wA (2*(8+m)-k-8) k;rwa [show 8+(2*(8+m)-k-8)=2*(8+m)-k by omega]at this
  have h6:=aLZ (show m<=2*(8+m)-k-8 by omega);have:=cT (aT _) (aUP k) (aT _) (show ab (sum g (2*(8+m))-sum g (2*(8+m)-k))<=4*hf m by grind);grind
 have p2:sum (fun i=>ab (f (8+m+i)*(sum g (2*(8+m))-sum g (2*(8+m)-(8+m+i))))) (8+m)<=sum (fun i=>64*tm 4 (8+m+i)) (8+m):=sR fun k hk=>by
  rw[gQ];have h1:=hG (2*(8+m)-(8+m+k)) (8+m+k);rw[show 2*(8+m)-(8+m+k)+(8+m+k)=2*(8+m) by omega]at h1;have h2:=iZ (tm 4) (2*(8+m)-(8+m+k)) (8+m+k);have h3:=Vo (2*(8+m)-(8+m+k)+(8+m+k));have h4:=aBU (n:=2*(8+m)-(8+m+k)) h0;have:=cT (aT _) (aUP (8+m+k)) (aT _) (show ab (sum g (2*(8+m))-sum g (2*(8+m)-(8+m+k)))<=64 by grind);grind
 rw[kX]at p1 p2;have t1:=Vo (8+m);have t2:=wA m (8+m);have:=aH (show 0<=4*hf m by grind) (show 0<=64-sum (tm 4) (8+m) by grind);grind
def cc(k:Nat):Rat:=if k%4=0 then 1 else if k%4=2 then -1 else 0
def ss(k:Nat):Rat:=if k%4=1 then 1 else if k%4=3 then -1 else 0
theorem aPO(j l:Nat):cc j*cc l-ss j*ss l=cc (j+l):=by
 unfold cc ss;rw[bSA];have h1:=bNZ j (show 4>0 by omega);have h2:=bNZ l (show 4>0 by omega);generalize j%4=a at *;generalize l%4=b at *;have h3:a=0\/a=1\/a=2\/a=3:=by omega
 have h4:b=0\/b=1\/b=2\/b=3:=by omega
 rcases h3 with rfl |rfl |rfl |rfl <;> rcases h4 with rfl |rfl |rfl |rfl <;> simp <;> grind
theorem aNA(j l:Nat):ss j*cc l+cc j*ss l=ss (j+l):=by
 unfold cc ss;rw[bSA];have h1:=bNZ j (show 4>0 by omega);have h2:=bNZ l (show 4>0 by omega);generalize j%4=a at *;generalize l%4=b at *;have h3:a=0\/a=1\/a=2\/a=3:=by omega
 have h4:b=0\/b=1\/b=2\/b=3:=by omega
 rcases h3 with rfl |rfl |rfl |rfl <;> rcases h4 with rfl |rfl |rfl |rfl <;> simp <;> grind
theorem aFU(k:Nat):ab (cc k)<=1:=by
 unfold cc ab;split <;> split <;> grind
theorem Vr(k:Nat):ab (ss k)<=1:=by
 unfold ss ab;split <;> split <;> grind
def qP(x:Rat)(n:Nat):Rat:=sum (fun k=>cc k*tm x k) n
def qI(x:Rat)(n:Nat):Rat:=sum (fun k=>ss k*tm x k) n
theorem Xr{x:Rat}(h:ab x<=4)(k:Nat):ab (cc k*tm x k)<=tm 4 k:=by
 rw[gQ,Kd];have:=cT (aT _) (aFU k) (kW (aT x) k) (Vn (aT x) h k);grind
theorem Vq{x:Rat}(h:ab x<=4)(k:Nat):ab (ss k*tm x k)<=tm 4 k:=by
 rw[gQ,Kd];have:=cT (aT _) (Vr k) (kW (aT x) k) (Vn (aT x) h k);grind
theorem aPL(x y:Rat)(m:Nat):conv (fun k=>cc k*tm x k) (fun k=>cc k*tm y k) m-conv (fun k=>ss k*tm x k) (fun k=>ss k*tm y k) m=cc m*tm (x+y) m:=by
 rw[<-Lu];unfold conv;rw[<-xP,<-kX];refine iK fun k hk=>?_
 have:=aPO k (m-k);rw[show k+(m-k)=m by omega]at this;rw[<-this];grind
theorem aPK(x y:Rat)(m:Nat):conv (fun k=>ss k*tm x k) (fun k=>cc k*tm y k) m+conv (fun k=>cc k*tm x k) (fun k=>ss k*tm y k) m=ss m*tm (x+y) m:=by
 rw[<-Lu];unfold conv;rw[<-sum_add,<-kX];refine iK fun k hk=>?_
 have:=aNA k (m-k);rw[show k+(m-k)=m by omega]at this;rw[<-this];grind
theorem aFP{x y:Rat}(hx:ab x<=4)(hy:ab y<=4)(m:Nat):ab (qP (x+y) (2*(8+m))-(qP x (2*(8+m))*qP y (2*(8+m))-qI x (2*(8+m))*qI y (2*(8+m))))<=1024*hf m:=by
 have h1:=Ev (Xr hx) (Xr hy) m;have h2:=Ev (Vq hx) (Vq hy) m;unfold qP qI;rw[Af,Af];have h3:sum (fun k=>cc k*tm (x+y) k) (2*(8+m))=sum (conv (fun k=>cc k*tm x k) (fun k=>cc k*tm y k)) (2*(8+m))-sum (conv (fun k=>ss k*tm x k) (fun k=>ss k*tm y k)) (2*(8+m)):=by
  rw[<-xP];exact iK fun k _=>(aPL x y k).symm
 rw[h3];rw[dY]at *;grind
theorem aCE{x y:Rat}(hx:ab x<=4)(hy:ab y<=4)(m:Nat):ab (qI (x+y) (2*(8+m))-(qI x (2*(8+m))*qP y (2*(8+m))+qP x (2*(8+m))*qI y (2*(8+m))))<=1024*hf m:=by
 have h1:=Ev (Vq hx) (Xr hy) m;have h2:=Ev (Xr hx) (Vq hy) m;unfold qP qI;rw[Af,Af];have h3:sum (fun k=>ss k*tm (x+y) k) (2*(8+m))=sum (conv (fun k=>ss k*tm x k) (fun k=>cc k*tm y k)) (2*(8+m))+sum (conv (fun k=>cc k*tm x k) (fun k=>ss k*tm y k)) (2*(8+m)):=by
  rw[<-sum_add];exact iK fun k _=>(aPK x y k).symm
 rw[h3];rw[dY]at *;grind
theorem aFQ(x:Rat)(n:Nat):qP (-x) n=qP x n:=by
 refine iK fun k _=>?_
 have:∀k,cc k*tm (-x) k=cc k*tm x k/\ss k*tm (-x) k=- (ss k*tm x k):=by
  intro k;have h:∀j,tm (-x) (2*j)=tm x (2*j)/\tm (-x) (2*j+1)=- tm x (2*j+1):=by
   intro j
   induction j with
   |zero=>simp only[tm];grind
   |succ j ih =>
    rw[show 2*(j+1)=2*j+1+1 by omega];obtain⟨h1,h2⟩:=ih;have e:tm (-x) (2*j+1+1)=tm x (2*j+1+1):=by rw[tm,h2];grind [tm]
    refine⟨e,?_⟩;rw[tm,e];grind [tm]
  have:=h (k/2);unfold cc ss
  by_cases hk:k%2=0
  ·rw[show 2*(k/2)=k by omega]at this;rw[if_neg (show ¬k%4=1 by omega),if_neg (show ¬k%4=3 by omega),this.1];grind
  ·rw[show 2*(k/2)+1=k by omega]at this;rw[if_neg (show ¬k%4=0 by omega),if_neg (show ¬k%4=2 by omega),this.2];grind
 exact(this k).1
theorem aCF(x:Rat)(n:Nat):qI (-x) n=- qI x n:=by
 unfold qI;rw[show -sum (fun k=>ss k*tm x k) n=(-1)*sum (fun k=>ss k*tm x k) n by grind,<-kX];refine iK fun k _=>?_
 have h:∀j,tm (-x) (2*j)=tm x (2*j)/\tm (-x) (2*j+1)=- tm x (2*j+1):=by
  intro j
  induction j with
  |zero=>simp only[tm];grind
  |succ j ih =>
   rw[show 2*(j+1)=2*j+1+1 by omega];obtain⟨h1,h2⟩:=ih;have e:tm (-x) (2*j+1+1)=tm x (2*j+1+1):=by rw[tm,h2];grind [tm]
   refine⟨e,?_⟩;rw[tm,e];grind [tm]
 have:=h (k/2);unfold ss
 by_cases hk:k%2=0
 ·rw[if_neg (show ¬k%4=1 by omega),if_neg (show ¬k%4=3 by omega)];grind
 ·rw[show 2*(k/2)+1=k by omega]at this;rw[this.2];grind
theorem Fw{x:Rat}(h0:0<=x)(h1:x<=1)(a:Nat)(ha:1<=a)(n:Nat):sum (fun i=>tm x (a+i)) n<=2*tm x a:=by
 have hh:∀i,tm x (a+i)<=tm x a*hf i:=by
  intro i
  induction i with
  |zero=>simp only[hf,bMS];grind
  |succ i ih =>
   have h2:=iR x (a+i);have h3:(2:Rat)<=((a+i+1:Nat):Rat):=by exact_mod_cast(show 2<=a+i+1 by omega)
   have h4:=kW h0 (a+i+1);have h5:=kW h0 (a+i);have:=aH (show 0<=((a+i+1:Nat):Rat)-2 by grind) h4;have:=aH (show 0<=1-x by grind) h5;rw[<-bPH,hf];grind
 have h1:sum (fun i=>tm x (a+i)) n<=sum (fun i=>tm x a*hf i) n:=sR fun k _=>hh k
 rw[kX]at h1;have:=aH (kW h0 a) (show 0<=2-sum hf n by have:=bBM n;grind);grind
theorem aFO{x:Rat}(h:ab x<=1){a n:Nat}(ha:1<=a)(hn:a<=n):ab (qP x n-qP x a)<=2*tm (ab x) a:=by
 obtain⟨m,rfl⟩:=bMW hn;unfold qP;rw[iZ,show sum (fun k=>cc k*tm x k) a+sum (fun i=>cc (a+i)*tm x (a+i)) m-sum (fun k=>cc k*tm x k) a=sum (fun i=>cc (a+i)*tm x (a+i)) m by grind];refine bQW (uY _ _) (bQW (sR fun k _=>?_) (Fw (aT x) h a ha m));rw[gQ,Kd];have:=cT (aT _) (aFU (a+k)) (kW (aT x) (a+k)) bSF;grind
theorem aCC{x:Rat}(h:ab x<=1){a n:Nat}(ha:1<=a)(hn:a<=n):ab (qI x n-qI x a)<=2*tm (ab x) a:=by
 obtain⟨m,rfl⟩:=bMW hn;unfold qI;rw[iZ,show sum (fun k=>ss k*tm x k) a+sum (fun i=>ss (a+i)*tm x (a+i)) m-sum (fun k=>ss k*tm x k) a=sum (fun i=>ss (a+i)*tm x (a+i)) m by grind];refine bQW (uY _ _) (bQW (sR fun k _=>?_) (Fw (aT x) h a ha m));rw[gQ,Kd];have:=cT (aT _) (Vr (a+k)) (kW (aT x) (a+k)) bSF;grind
theorem aVX:∃k:Nat,k=1048576:=⟨_,rfl⟩
def K:Nat:=Classical.choose aVX
theorem aPZ:K=1048576:=Classical.choose_spec aVX
def aKO:Nat:=2*(8+(K+10))
def uE:Rat:=hf K
def sn(x:Rat):Rat:=qI x aKO
def cs(x:Rat):Rat:=qP x aKO
theorem xW:0<uE:=wS K
theorem aEV:1024*hf (K+10)=uE:=by
 have:=Mz K 10;have h:hf 10=1/1024:=by simp only[hf];grind
 unfold uE;grind
theorem Cq{n:Nat}(h:n<=1048576):uE<=hf n:=aLZ (by rw[aPZ];exact h)
theorem aEU:uE<=1/1048576:=by
 have:=Cq (n:=20) (by omega);simp only[hf]at this;grind
theorem Hq{x y:Rat}(hx:ab x<=4)(hy:ab y<=4):ab (cs (x+y)-(cs x*cs y-sn x*sn y))<=uE:=by
 rw[<-aEV];exact aFP hx hy _
theorem aNB{x y:Rat}(hx:ab x<=4)(hy:ab y<=4):ab (sn (x+y)-(sn x*cs y+cs x*sn y))<=uE:=by
 rw[<-aEV];exact aCE hx hy _
theorem Ud(x:Rat):cs (-x)=cs x:=aFQ x _
theorem yV(x:Rat):sn (-x)=- sn x:=aCF x _
theorem aIC(k:Nat):tm 0 (k+1)=0:=by rw[tm];grind
theorem aII:sn 0=0:=by
 have:=yV 0;rw[show(-0:Rat)=0 by grind]at this;grind
theorem Nt{a:Nat}(h:a<=1048576):a<=aKO:=by unfold aKO;rw[aPZ];omega
theorem Fi{x:Rat}(h:ab x<=1){a:Nat}(ha:1<=a)(hn:a<=1048576):ab (cs x-qP x a)<=2*tm (ab x) a:=aFO h ha (Nt hn)
theorem Lz{x:Rat}(h:ab x<=1){a:Nat}(ha:1<=a)(hn:a<=1048576):ab (sn x-qI x a)<=2*tm (ab x) a:=aCC h ha (Nt hn)
theorem Np:cs 0=1:=by
 have h:=Fi (x:=0) (by simp only[ab];grind) (a:=1) (by omega) (by omega);rw[show ab 0=0 by simp only[ab];grind,show(1:Nat)=0+1 by rfl,aIC]at h;have h2:qP 0 (0+1)=1:=by simp[qP,sum,cc,tm];grind
 rw[dY,h2]at h;grind
theorem aNM{x:Rat}(hx:ab x<=4):ab (sn x*sn x+cs x*cs x-1)<=uE:=by
 have:=Hq hx (show ab (-x)<=4 by rwa [gT]);rw[show x+-x=0 by grind,Np,Ud,yV]at this;rw[dY]at *;grind
theorem Yj{x:Rat}(hx:ab x<=4):ab (sn (2*x)-2*sn x*cs x)<=uE:=by
 have:=aNB hx hx;rw[show x+x=2*x by grind]at this;rw[dY]at *;grind
theorem Kx{x:Rat}(hx:ab x<=4):ab (cs (2*x)-(1-2*(sn x*sn x)))<=2*uE:=by
 have:=Hq hx hx;have:=aNM hx;rw[show x+x=2*x by grind]at *;rw[dY]at *;grind
theorem Ga{a b:Rat}(h:a*a<=b*b)(hb:0<=b):ab a<=b:=by
 rw[dY];constructor
 ·refine Rat.not_lt.1 fun hn=>?_
  have:=bRK (show 0 < -a-b by grind) (show 0 < -a+b by grind);grind
 ·refine Rat.not_lt.1 fun hn=>?_
  have:=bRK (show 0<a-b by grind) (show 0<a+b by grind);grind
theorem bCS(a:Rat):0<=a*a:=by
 by_cases h:0<=a
 ·exact aH h h
 ·have:=aH (show 0<=-a by grind) (show 0<=-a by grind);grind
theorem aLE{x:Rat}(hx:ab x<=4):ab (sn x)<=1+uE:=by
 have h:=aNM hx;have h1:=xW;have h2:=bCS (cs x);have h3:=aH (show 0<=uE by grind) (show 0<=uE by grind);refine Ga ?_ (by grind);rw[dY]at h;grind
theorem aMN{x:Rat}(hx:ab x<=4):ab (cs x)<=1+uE:=by
 have h:=aNM hx;have h1:=xW;have h2:=bCS (sn x);have h3:=aH (show 0<=uE by grind) (show 0<=uE by grind);refine Ga ?_ (by grind);rw[dY]at h;grind
theorem bS{x:Rat}(h:0<=x):ab x=x:=by unfold ab;rw[if_pos h]
theorem yU(x:Rat):tm x 1=x/\tm x 2=x*x/2/\tm x 3=x*x*x/6/\tm x 4=x*x*x*x/24/\tm x 5=x*x*x*x*x/120/\tm x 6=x*x*x*x*x*x/720:=by
 simp only[tm];refine⟨?_,?_,?_,?_,?_,?_⟩ <;> grind
theorem zY{x:Rat}(h0:0<=x)(h1:x<=1):x-x*x*x/6<=sn x/\sn x<=x-x*x*x/6+x*x*x*x*x/60:=by
 have a1:ab x<=1:=by rwa [bS h0]
 have t5:=Lz a1 (a:=5) (by omega) (by omega);have t7:=Lz a1 (a:=7) (by omega) (by omega);rw[bS h0]at t5 t7;obtain⟨e1,e2,e3,e4,e5,e6⟩:=yU x;have p5:qI x 5=x-x*x*x/6:=by simp[qI,sum,ss];rw[e1,e3];grind
 have p7:qI x 7=x-x*x*x/6+x*x*x*x*x/120:=by simp[qI,sum,ss];rw[e1,e3,e5];grind
 have e7:tm x 7<=tm x 5/4:=by
  have h2:=iR x 6;have h3:=iR x 5;have:=kW h0 7;have:=kW h0 6;have:=kW h0 5;have:=aH (show 0<=1-x by grind) (kW h0 6);have:=aH (show 0<=1-x by grind) (kW h0 5);norm_cast at h2 h3;grind
 rw[dY,p5,e5]at t5;rw[dY,p7]at t7;rw[e5]at e7;grind
theorem Ra{x:Rat}(h0:0<=x)(h1:x<=1):1-x*x/2<=cs x/\cs x<=1-x*x/2+x*x*x*x/12:=by
 have a1:ab x<=1:=by rwa [bS h0]
 have t5:=Fi a1 (a:=4) (by omega) (by omega);have t7:=Fi a1 (a:=6) (by omega) (by omega);rw[bS h0]at t5 t7;obtain⟨e1,e2,e3,e4,e5,e6⟩:=yU x;have p5:qP x 4=1-x*x/2:=by simp[qP,sum,cc];rw[e2,tm];grind
 have p7:qP x 6=1-x*x/2+x*x*x*x/24:=by simp[qP,sum,cc];rw[e2,e4,tm];grind
 have e7:tm x 6<=tm x 4/4:=by
  have h2:=iR x 5;have h3:=iR x 4;have:=kW h0 6;have:=kW h0 5;have:=kW h0 4;have:=aH (show 0<=1-x by grind) (kW h0 5);have:=aH (show 0<=1-x by grind) (kW h0 4);norm_cast at h2 h3;grind
 rw[dY,p5,e4]at t5;rw[dY,p7]at t7;rw[e4]at e7;grind
theorem aBN{x y:Rat}(hx:ab x<=1)(hy:ab y<=1):∀k,ab (tm y (k+1)-tm x (k+1))<=ab (y-x)*tm 1 k
 |0=>by
  obtain⟨e1,_⟩:=yU x;obtain⟨e2,_⟩:=yU y;rw[show 0+1=1 by rfl,e1,e2,tm];grind
 |k+1=>by
  have ih:=aBN hx hy k;have h2:=iR x (k+1);have h3:=iR y (k+1);have h1:=iR 1 k;have hp:=cast_pos (k+1);have e:((k+1+1:Nat):Rat)*(tm y (k+1+1)-tm x (k+1+1))=(y-x)*tm y (k+1)+x*(tm y (k+1)-tm x (k+1)):=by grind
  have e2:=congrArg ab e;have e3:=Ny ((y-x)*tm y (k+1)) (x*(tm y (k+1)-tm x (k+1)));rw[gQ,bS (show(0:Rat)<=((k+1+1:Nat):Rat) by grind)]at e2;rw[gQ,gQ,Kd]at e3;have b1:=cT (aT (y-x)) bSF (kW (aT y) (k+1)) (Vn (aT y) hy (k+1));have b2:=cT (aT x) hx (aT _) ih;have hc:((k+1+1:Nat):Rat)=((k+1:Nat):Rat)+1:=by norm_cast
  refine Rat.not_lt.1 fun hn=>?_
  have:=bRK hp (show 0<ab (tm y (k+1+1)-tm x (k+1+1))-ab (y-x)*tm 1 (k+1) by grind);have Zi:tm 1 k=((k+1:Nat):Rat)*tm 1 (k+1):=by grind
  rw[Zi]at b2;rw[hc]at this e2;clear e h2 h3 h1 ih Zi hc hp hx hy;generalize ((k+1:Nat):Rat)=q at *;generalize ab (tm y (k+1+1)-tm x (k+1+1))=A at *;generalize ab ((y-x)*tm y (k+1)+x*(tm y (k+1)-tm x (k+1)))=B at *;generalize ab (y-x)=d at *;generalize tm 1 (k+1)=T at *;grind
theorem aBP(a:Nat)(ha:1<=a)(n:Nat):sum (fun i=>tm 1 (a+i)) n<=2*tm 1 a:=Fw (by grind) (by grind) a ha n
theorem aCA{x y:Rat}(hx:ab x<=1)(hy:ab y<=1):ab (sn y-sn x-(y-x))<=3/4*ab (y-x):=by
 have hN:=Nt (a:=3) (by omega);obtain⟨n,hn⟩:=bMW hN;unfold sn qI;rw[hn,iZ,iZ];obtain⟨e1,_⟩:=yU x;obtain⟨e2,_⟩:=yU y;have p:sum (fun k=>ss k*tm x k) 3=x:=by simp[sum,ss];rw[e1];grind
 have q:sum (fun k=>ss k*tm y k) 3=y:=by simp[sum,ss];rw[e2];grind
 rw[p,q,show y+sum (fun i=>ss (3+i)*tm y (3+i)) n-(x+sum (fun i=>ss (3+i)*tm x (3+i)) n)-(y-x)=sum (fun i=>ss (3+i)*tm y (3+i)) n-sum (fun i=>ss (3+i)*tm x (3+i)) n by grind,<-xP];refine bQW (uY _ _) ?_;have h1:sum (fun k=>ab (ss (3+k)*tm y (3+k)-ss (3+k)*tm x (3+k))) n<=sum (fun k=>ab (y-x)*tm 1 (2+k)) n:=sR fun k _=>by
  have:=aBN hx hy (2+k);rw[show 2+k+1=3+k by omega]at this;rw[show ss (3+k)*tm y (3+k)-ss (3+k)*tm x (3+k)=ss (3+k)*(tm y (3+k)-tm x (3+k)) by grind,gQ];have:=cT (aT _) (Vr (3+k)) (aT _) this;grind
 rw[kX]at h1;have h2:sum (fun k=>tm 1 (2+k)) n<=3/4:=by
  have h3:=Pc (f:=fun k=>tm 1 (2+k)) (fun k=>kW (by grind) _) (show n<=2+n by omega);have h4:=iZ (fun k=>tm 1 (2+k)) 2 n;have h5:=aBP 4 (by omega) n;obtain⟨_,f2,f3,f4,_⟩:=yU 1;have h6:sum (fun k=>tm 1 (2+k)) 2=2/3:=by simp[sum];rw[f2,f3];grind
  have h7:sum (fun i=>tm 1 (2+(2+i))) n=sum (fun i=>tm 1 (4+i)) n:=iK fun k _=>by rw[show 2+(2+k)=4+k by omega]
  rw[f4]at h5;grind
 have:=aH (aT (y-x)) (show 0<=3/4-sum (fun k=>tm 1 (2+k)) n by grind);grind
theorem Xu{a b:Rat}(ha:ab a<=4)(hb:ab b<=4):ab (cs (a-b)-cs (a+b)-2*(sn a*sn b))<=2*uE:=by
 have h1:=Hq ha hb;have h2:=Hq ha (show ab (-b)<=4 by rwa [gT]);rw[Ud,yV,show a+-b=a-b by grind]at h2;rw[dY]at *;grind
theorem Gc{x:Rat}(h0:0<=x)(h1:x<=1):0<=sn x:=by
 have:=(zY h0 h1).1;have h2:=cT h0 h1 h0 h1;have h3:=aH h0 (show 0<=1*1-x*x by grind);grind
theorem Vw{x:Rat}(h0:0<=x)(h1:x<=1):sn x<=x:=by
 have:=(zY h0 h1).2;have h2:=cT h0 h1 h0 h1;have h4:=aH (aH h0 h0) h0;have h3:=aH h4 (show 0<=1*1-x*x by grind);grind
theorem Sq{x:Rat}(h:ab x<=1):ab (sn x)<=ab x:=by
 by_cases h0:0<=x
 ·rw[bS h0]at *;have:=Gc h0 h;have:=Vw h0 h;rw[dY];grind
 ·have e:ab x=-x:=by unfold ab;rw[if_neg h0]
  rw[e]at h;rw[e];have h1:=Gc (show 0<=-x by grind) h;have h2:=Vw (show 0<=-x by grind) h;rw[yV]at h1 h2;rw[dY];grind
theorem Xs{x y:Rat}(h0:0<=x)(h:x<=y)(h1:y<=1):cs y<=cs x+2*uE:=by
 have h2:=Xu (a:=(x+y)/2) (b:=(y-x)/2) (by rw[dY];grind) (by rw[dY];grind);rw[show(x+y)/2-(y-x)/2=x by grind,show(x+y)/2+(y-x)/2=y by grind,dY]at h2;have h3:=aH (Gc (x:=(x+y)/2) (by grind) (by grind)) (Gc (x:=(y-x)/2) (by grind) (by grind));grind
theorem aFM{x y:Rat}(hx:ab x<=1)(hy:ab y<=1):ab (cs y-cs x)<=ab (y-x)+2*uE:=by
 have b1:ab ((x+y)/2)<=1:=by rw[dY]at *;grind
 have b2:ab ((y-x)/2)<=1:=by rw[dY]at *;grind
 have h2:=Xu (a:=(x+y)/2) (b:=(y-x)/2) (by grind) (by grind);rw[show(x+y)/2-(y-x)/2=x by grind,show(x+y)/2+(y-x)/2=y by grind]at h2;have h3:=cT (aT _) (Sq b1) (aT _) (Sq b2);have h4:=cT (aT _) b1 (aT _) (show ab ((y-x)/2)<=ab ((y-x)/2)from bSF);rw[<-gQ]at h3;have h5:ab ((y-x)/2)=ab (y-x)/2:=by unfold ab;split <;> split <;> grind
 rw[h5]at h3 h4;have h6:=Pz (sn ((x+y)/2)*sn ((y-x)/2));have h7:=tH (sn ((x+y)/2)*sn ((y-x)/2));rw[dY]at h2 ⊢;clear h5 b1 b2 hx hy;generalize sn ((x+y)/2)*sn ((y-x)/2)=P at *;generalize ab ((x+y)/2)*(ab (y-x)/2)=Q at *;grind
theorem Vv{x y:Rat}(hx:ab x<=1)(hy:ab y<=1):ab (sn y-sn x)<=2*ab (y-x):=by
 have h:=aCA hx hy;have h1:=Pz (y-x);have h2:=tH (y-x);rw[dY]at h ⊢;grind
theorem Vu{x y:Rat}(hx:ab x<=1)(hy:ab y<=1)(h:x<=y):sn x<=sn y:=by
 have h1:=aCA hx hy;rw[bS (show 0<=y-x by grind),dY]at h1;grind
theorem uN(a:Nat){b:Nat}(_hb:0<b):(b:Rat)*((a/b:Nat):Rat)<=(a:Rat)/\(a:Rat)<(b:Rat)*((a/b:Nat):Rat)+(b:Rat):=by
 have h1:=bQX a b;have h2:=bNZ a _hb;constructor
 ·exact_mod_cast(show b*(a/b)<=a by omega)
 ·exact_mod_cast(show a<b*(a/b)+b by omega)
theorem dK{q a b:Rat}(hq:0<q)(h:q*a<=q*b):a<=b:=by
 refine Rat.not_lt.1 fun hn=>?_
 have:=bRK hq (show 0<a-b by grind);grind
theorem oJ{q a b:Rat}(hq:0<q)(h:q*a<q*b):a<b:=by
 refine Rat.not_le.1 fun hn=>?_
 have:=aH (bQY hq) (show 0<=a-b by grind);grind
def sq(u W:Nat):Nat->Nat
 |0=>W
 |k+1=>sq u W k*u/W/(k+1)
theorem Gb{u W:Nat}(hW:0<W){x:Rat}(hx:x*(W:Rat)=(u:Rat))(h0:0<=x)(h1:x<=1/2):∀k,0<=tm x k*W-sq u W k/\tm x k*W-sq u W k<=2
 |0=>by simp only[tm,sq];grind
 |k+1=>by
  obtain⟨i1,i2⟩:=Gb hW hx h0 h1 k;obtain⟨d1,d2⟩:=uN (sq u W k*u) (b:=W*(k+1)) (bSS hW (by omega));rw[sq,bRI];rw[bSR,bSR,<-hx]at d1 d2;have hc:=iR x k;have hp:=cast_pos k;have h1k:(1:Rat)<=((k+1:Nat):Rat):=by exact_mod_cast(show 1<=k+1 by omega)
  have aMJ:(0:Rat)<(W:Rat):=by exact_mod_cast hW
  generalize ((sq u W k*u/(W*(k+1)):Nat):Rat)=t' at *;generalize (sq u W k:Rat)=t at *;generalize ((k+1:Nat):Rat)=q at *;have d1':q*t'<=t*x:=dK aMJ (by grind);have d2':t*x<q*t'+q:=oJ aMJ (by grind);have hcW:q*tm x (k+1)*(W:Rat)=x*tm x k*(W:Rat):=by rw[hc]
  have e1:=aH h0 i1;have e2:=aH (show 0<=1/2-x by grind) i1;refine⟨dK hp ?_,dK hp ?_⟩ <;> grind
theorem aBT{u W:Nat}(hW:0<W){x:Rat}(hx:x*(W:Rat)=(u:Rat))(h0:0<=x)(h1:x<=1/2){n:Nat}(hn:1<=n)(Zc:n<=1048576)(hz:sq u W n=0) :
  ab (sum (fun k=>cc k*(sq u W k:Rat)) n-W*cs x)<=2*(n:Rat)+4:=by
 have hs:ab (sum (fun k=>cc k*(sq u W k:Rat)) n-W*qP x n)<=2*(n:Rat):=by
  unfold qP;rw[<-kX,<-xP];refine bQW (uY _ _) ?_;have:∀m,sum (fun k=>ab (cc k*(sq u W k:Rat)-W*(cc k*tm x k))) m<=2*(m:Rat):=by
   intro m
   induction m with
   |zero=>simp only[sum];grind
   |succ m ih =>
    rw[cY];obtain⟨a1,a2⟩:=Gb hW hx h0 h1 m;have:ab (cc m*(sq u W m:Rat)-W*(cc m*tm x m))<=2:=by
     rw[show cc m*(sq u W m:Rat)-W*(cc m*tm x m)=cc m*(sq u W m-tm x m*W) by grind,gQ];have b1:ab (sq u W m-tm x m*W)<=2:=by rw[dY];grind
     have:=cT (aT _) (aFU m) (aT _) b1;grind
    have hc:((m+1:Nat):Rat)=(m:Rat)+1:=by norm_cast
    rw[hc];grind
  exact this n
 have ht:=Fi (x:=x) (by rw[bS h0];grind) hn Zc;obtain⟨a1,a2⟩:=Gb hW hx h0 h1 n;rw[hz]at a2;rw[bS h0]at ht;have aMJ:(0:Rat)<(W:Rat):=by exact_mod_cast hW
 rw[dY]at *;have b1:=aH (bQY aMJ) (show 0<=2*tm x n-(cs x-qP x n) by grind);have b2:=aH (bQY aMJ) (show 0<=2*tm x n+(cs x-qP x n) by grind);have Yw:((0:Nat):Rat)=0:=by norm_cast
 rw[Yw]at a2;grind
theorem aBS{u W:Nat}(hW:0<W){x:Rat}(hx:x*(W:Rat)=(u:Rat))(h0:0<=x)(h1:x<=1/2){n:Nat}(hn:1<=n)(Zc:n<=1048576)(hz:sq u W n=0) :
  ab (sum (fun k=>ss k*(sq u W k:Rat)) n-W*sn x)<=2*(n:Rat)+4:=by
 have hs:ab (sum (fun k=>ss k*(sq u W k:Rat)) n-W*qI x n)<=2*(n:Rat):=by
  unfold qI;rw[<-kX,<-xP];refine bQW (uY _ _) ?_;have:∀m,sum (fun k=>ab (ss k*(sq u W k:Rat)-W*(ss k*tm x k))) m<=2*(m:Rat):=by
   intro m
   induction m with
   |zero=>simp only[sum];grind
   |succ m ih =>
    rw[cY];obtain⟨a1,a2⟩:=Gb hW hx h0 h1 m;have:ab (ss m*(sq u W m:Rat)-W*(ss m*tm x m))<=2:=by
     rw[show ss m*(sq u W m:Rat)-W*(ss m*tm x m)=ss m*(sq u W m-tm x m*W) by grind,gQ];have b1:ab (sq u W m-tm x m*W)<=2:=by rw[dY];grind
     have:=cT (aT _) (Vr m) (aT _) b1;grind
    have hc:((m+1:Nat):Rat)=(m:Rat)+1:=by norm_cast
    rw[hc];grind
  exact this n
 have ht:=Lz (x:=x) (by rw[bS h0];grind) hn Zc;obtain⟨a1,a2⟩:=Gb hW hx h0 h1 n;rw[hz]at a2;rw[bS h0]at ht;have aMJ:(0:Rat)<(W:Rat):=by exact_mod_cast hW
 rw[dY]at *;have b1:=aH (bQY aMJ) (show 0<=2*tm x n-(sn x-qI x n) by grind);have b2:=aH (bQY aMJ) (show 0<=2*tm x n+(sn x-qI x n) by grind);have Yw:((0:Nat):Rat)=0:=by norm_cast
 rw[Yw]at a2;grind
theorem aRI{W x e s c s' c':Rat}(hW:1<=W)(hx:ab x<=1)(hs:ab (s-W*sn x)<=e)(hc:ab (c-W*cs x)<=e)(he:8*(e*e)<=W)(aTE:(8*e+4*W)*uE<=1/4)
  (h1:ab (W*s'-2*(s*c))<=2*W) (h2:ab (W*c'-(W*W-2*(s*s)))<=2*W):ab (s'-W*sn (2*x))<=4*e+4/\ab (c'-W*cs (2*x))<=4*e+4:=by
 have aWG:ab x<=4:=by grind
 have d1:=Yj aWG;have d2:=Kx aWG;have bs:=aLE aWG;have bc:=aMN aWG;have aHO:0<=e:=bQW (aT _) hs;have aOR:=xW;generalize sn (2*x)=S2 at *;generalize cs (2*x)=C2 at *;generalize sn x=S at *;generalize cs x=C at *;obtain⟨a,ha⟩:∃a,a=s-W*S:=⟨_,rfl⟩;obtain⟨b,hb⟩:∃b,b=c-W*C:=⟨_,rfl⟩;rw[<-ha]at hs;rw[<-hb]at hc;have es:s=W*S+a:=by grind
 have ec:c=W*C+b:=by grind
 subst es;subst ec;have q1:=cT (aT S) bs (aT b) hc;have q2:=cT (aT C) bc (aT a) hs;have q3:=cT (aT a) hs (aT b) hc;have q4:=cT (aT S) bs (aT a) hs;have q5:=cT (aT a) hs (aT a) hs;rw[<-gQ]at q1 q2 q3 q4 q5;have aRD:0<=W:=by grind
 have w1:∀{t r:Rat},ab t<=r->-(W*r)<=W*t/\W*t<=W*r:=fun {t r} h=>by
  rw[dY]at h;have:=aH aRD (show 0<=r-t by grind);have:=aH aRD (show 0<=r+t by grind);constructor <;> grind
 have k1:=w1 q1;have k2:=w1 q2;have k4:=w1 q4;have k6:=w1 (r:=W*uE) (t:=W*(S2-2*S*C)) (by
  have:=w1 d1;rw[dY];grind)
 have k7:=w1 (r:=W*(2*uE)) (t:=W*(C2-(1-2*(S*S)))) (by
  have:=w1 d2;rw[dY];grind)
 have hq:0<W:=by grind
 have z1:=aH aRD (show 0<=1/4-(8*e+4*W)*uE by grind);rw[dY]at h1 h2 q3 q5;constructor
 ·rw[dY];constructor
  ·refine dK hq ?_;grind
  ·refine dK hq ?_;grind
 ·rw[dY];constructor
  ·refine dK hq ?_;grind
  ·refine dK hq ?_;grind
def sg(j:Nat):Rat:=if j%2=0 then 1 else -1
theorem aLF(j:Nat):ab (sg j)=1:=by unfold sg ab;split <;> split <;> grind
def fP(n w j:Nat):Nat:=2^w/n^(2*j+1)/(2*j+1)
def apart(n j:Nat):Rat:=1/((n^(2*j+1)*(2*j+1):Nat):Rat)
def Um(n:Nat):Rat:=sum (fun j=>sg j*apart n j) K
theorem tW{n:Nat}(hn:0<n)(j:Nat):0<apart n j/\apart n j*((n^(2*j+1)*(2*j+1):Nat):Rat)=1:=by
 unfold apart;have h:0<n^(2*j+1)*(2*j+1):=bSS (bOQ hn) (by omega);have h':(0:Rat)<((n^(2*j+1)*(2*j+1):Nat):Rat):=by exact_mod_cast h
 generalize ((n^(2*j+1)*(2*j+1):Nat):Rat)=q at *;have:q≠0:=by grind
 constructor
 ·have:=Rat.inv_pos.2 h';grind
 ·grind
theorem Lg{n:Nat}(hn:0<n)(w j:Nat):0<=((2^w:Nat):Rat)*apart n j-fP n w j/\((2^w:Nat):Rat)*apart n j-fP n w j<=1:=by
 obtain⟨h1,h2⟩:=tW hn j;have h:0<n^(2*j+1)*(2*j+1):=bSS (bOQ hn) (by omega);obtain⟨d1,d2⟩:=uN (2^w) h;unfold fP;rw[bRI];have h':(0:Rat)<((n^(2*j+1)*(2*j+1):Nat):Rat):=by exact_mod_cast h
 generalize ((n^(2*j+1)*(2*j+1):Nat):Rat)=q at *;generalize ((2^w/(n^(2*j+1)*(2*j+1)):Nat):Rat)=t at *;generalize ((2^w:Nat):Rat)=W at *;have e:q*(W*apart n j)=W:=by
  rw[show q*(W*apart n j)=W*(apart n j*q) by grind,h2];grind
 refine⟨?_,?_⟩
 ·have:t<=W*apart n j:=dK h' (by grind);grind
 ·have:W*apart n j<=t+1:=dK h' (by grind);grind
theorem Uq{n:Nat}(hn:2<=n)(j:Nat):apart n (j+1)<=apart n j/2:=by
 obtain⟨h1,h2⟩:=tW (show 0<n by omega) j;obtain⟨h3,h4⟩:=tW (show 0<n by omega) (j+1);have hle:2*(n^(2*j+1)*(2*j+1))<=n^(2*(j+1)+1)*(2*(j+1)+1):=by
  have e:n^(2*(j+1)+1)=n^(2*j+1)*(n*n):=by
   rw[show 2*(j+1)+1=(2*j+1)+2 by omega,bQS,Nat.pow_two]
  have bBJ:4<=n*n:=Nat.mul_le_mul hn hn;rw[e,bQU,bTO];refine bOF _ ?_;have:4*(2*(j+1)+1)<=n*n*(2*(j+1)+1):=Nat.mul_le_mul_right _ bBJ;omega
 have hle':(2:Rat)*((n^(2*j+1)*(2*j+1):Nat):Rat)<=((n^(2*(j+1)+1)*(2*(j+1)+1):Nat):Rat):=by exact_mod_cast hle
 generalize ((n^(2*j+1)*(2*j+1):Nat):Rat)=p at *;generalize ((n^(2*(j+1)+1)*(2*(j+1)+1):Nat):Rat)=q at *;have hp:0<p:=by
  refine Rat.not_le.1 fun hn=>?_
  have:=aH (bQY h1) (show 0<=-p by grind);grind
 have:=aH (bQY h3) (show 0<=q-2*p by grind);refine dK hp ?_;grind
theorem Up{n:Nat}(hn:2<=n)(a m:Nat):sum (fun i=>apart n (a+i)) m<=2*apart n a:=by
 have hh:∀i,apart n (a+i)<=apart n a*hf i:=by
  intro i
  induction i with
  |zero=>simp only[hf,bMS];grind
  |succ i ih =>
   have:=Uq hn (a+i);rw[<-bPH,hf];grind
 have h1:sum (fun i=>apart n (a+i)) m<=sum (fun i=>apart n a*hf i) m:=sR fun k _=>hh k
 rw[kX]at h1;have h2:=(tW (show 0<n by omega) a).1;have:=aH (bQY h2) (show 0<=2-sum hf m by have:=bBM m;grind);grind
theorem Ya{n:Nat}(hn:2<=n)(w:Nat){J:Nat}(hJ:J<=1048576)(hz:fP n w J=0):ab (sum (fun j=>sg j*(fP n w j:Rat)) J-((2^w:Nat):Rat)*Um n)<=(J:Rat)+2:=by
 obtain⟨m,hm⟩:=bMW (show J<=K by rw[aPZ];exact hJ);unfold Um;rw[hm,iZ];have h1:∀i,ab (sum (fun j=>sg j*(fP n w j:Rat)) i-((2^w:Nat):Rat)*sum (fun j=>sg j*apart n j) i)<=(i:Rat):=by
  intro i;rw[<-kX,<-xP];refine bQW (uY _ _) ?_
  induction i with
  |zero=>simp only[sum];grind
  |succ i ih =>
   rw[cY];obtain⟨a1,a2⟩:=Lg (show 0<n by omega) w i;have:ab (sg i*(fP n w i:Rat)-((2^w:Nat):Rat)*(sg i*apart n i))<=1:=by
    rw[show sg i*(fP n w i:Rat)-((2^w:Nat):Rat)*(sg i*apart n i)=sg i*(fP n w i-((2^w:Nat):Rat)*apart n i) by grind,gQ,aLF];have b1:ab (fP n w i-((2^w:Nat):Rat)*apart n i)<=1:=by rw[dY];grind
    grind
   have hc:((i+1:Nat):Rat)=(i:Rat)+1:=by norm_cast
   rw[hc];grind
 have h2:ab (sum (fun i=>sg (J+i)*apart n (J+i)) m)<=2*apart n J:=by
  refine bQW (uY _ _) (bQW (sR fun k _=>?_) (Up hn J m));rw[gQ,aLF,bS (bQY (tW (show 0<n by omega) _).1)];grind
 have h3:=(Lg (show 0<n by omega) w J).2;have h4:=h1 J;have h0:(0:Rat)<=((2^w:Nat):Rat):=by exact_mod_cast bRU _
 rw[hz]at h3;have Yw:((0:Nat):Rat)=0:=by norm_cast
 rw[Yw]at h3;rw[dY]at *;have b1:=aH h0 (show 0<=2*apart n J-sum (fun i=>sg (J+i)*apart n (J+i)) m by grind);have b2:=aH h0 (show 0<=2*apart n J+sum (fun i=>sg (J+i)*apart n (J+i)) m by grind);grind
end R
end Go.Proofs.YtplagoepbghhpaaGreatDoor
end
