/- Contracts of functions and laws, for the claim on TurnRatio. -/
import Derived.KernelRfl
import Derived.Laws.Externs
import Derived.Test.YtcnlagnipklcmaaGreatDoorProg
import Derived.Shelf.SlGeneric
import Derived.Ground.SlgnProg
import Derived.Shelf.SlicesE.Clone
import Derived.Test.YtcnlagnipklcmaaGreatDoorBTurnRatio1
set_option linter.unusedVariables false
set_option linter.unusedSimpArgs false
noncomputable section
open Go.IntKind(i8 i16 i32 i64 u8 u16 u32 u64)
open Go.Proofs.Tryz
open Int renaming toNat_natCast->bQX,eq_ofNat_of_zero_le->bSE,natAbs_mul->bSP,zero_mul->bSQ,natCast_ediv->bSS,natAbs_natCast->bSU,natCast_mul->bTA,mul_assoc->bTO,natCast_emod->bTS,natAbs_neg->bTV,tdiv_eq_ediv_of_nonneg->bUQ,tmod_eq_emod_of_nonneg->bUR,ediv_eq_zero_of_lt->bUU,toNat_zero->bUW,ediv_mul_cancel->bUZ,mul_ne_zero->bVA,natAbs_add_le->bVD
open List renaming replicate->bPE,mem_append->bOD,getD_eq_getElem?_getD->bSG,length_take->bPR,replicate_succ->bSK,length_cons->bQL,append_assoc->bOW,drop_eq_nil_of_le->bSR,cons_append->bOT,take->bSX,drop->bSY,append_nil->bTC,getLast?_cons_cons->bTG,take_succ_eq_append_getElem->bTH,getElem?_eq_none->bOX,drop_zero->bTJ,drop_eq_getElem_cons->bTK,replicate_zero->bTN,getElem?_map->bNF,take_length->bTW,range->bOL,singleton_append->bTX,mapM_cons->bOI,mem_cons_self->bNI,mem_cons_of_mem->bNU,getElem?_take_of_lt->bNG,mem_of_getElem?->bNK,nodup_cons->bRO,mem_cons->bOH,length_drop->bRA,getElem?_drop->bNN,mem_of_mem_take->bUG,mem_of_mem_drop->bUH,replicate_succ'->bUI,take_append_drop->bUJ,getElem?_eq_getElem->bNR,getLast?_append->bUK,take_of_length_le->bUM,mem_or_eq_of_mem_set->bUN,drop_set->bUO,set_append_right->bUS,set_cons_zero->bUT,nil_append->bRD
open Nat renaming mul_comm->bRZ,beq->bNC,pow_succ->bSA,le_refl->bNB,mul_add->bSB,pow_add->bSD,mul_assoc->bSF,pow_pos->bQA,mod_lt->bPJ,lt_or_ge->bNQ,eq_of_beq_eq_true->bNP,ble->bNE,le_of_ble_eq_true->bOZ,add_zero->bOC,div_add_mod->bSI,mul_le_mul_left->bPP,pow_le_pow_right->bQB,add_assoc->bQR,zero_add->bND,lt_of_lt_of_le->bOB,strongRecOn->bSN,le_trans->bNX,div_div_eq_div_mul->bST,exists_eq_add_of_le->bOG,div_lt_of_lt_mul->bSW,div_eq_of_lt->bSZ,blt->bNM,add_comm->bTD,beq_refl->bRH,zero_le->bTF,min_eq_left->bTI,add_mod->bTL,mul_mod->bTM,sub_self->bRF,lt_of_le_of_lt->bTQ,add_mul_div_left->bTR,pow_mul->bTT,pow_lt_pow_right->bTU,mul_zero->bTY,sub_le->bTZ,dvd_of_mod_eq_zero->bUA,mul_pos->bUC,add_right_comm->bUE,mul_left_comm->bUY
open Option renaming bind_some->bOS,isSome_or->bTE
open Rat renaming le_trans->bSH,le_of_lt->bSJ,mul_pos->bSV,le_refl->bTP,natCast_mul->bUB
open Bool renaming true_and->bQC,not_true->bPB,false_and->bSL,true_or->bSM,false_or->bPC,and_eq_true->bNH,and_false->bSO,or_true->bTB,or_eq_true->bOK,not_eq_true'->bOJ
namespace Go.Proofs.YtcnlagnipklcmaaGreatDoor
namespace AI
open Go Go.RowKit
theorem uZ{P:Program}{f:FuncId}{fn:Func}{c:Code}(hf:P.funcs[f]?=some fn)(hb:fn.body=some c)(hn:(fn.name== "runtime.NumGoroutine")=false):tD P f:=by
 intro vs w;have Zt:¬fn.name= "runtime.NumGoroutine":=by simpa using hn
 simp[callFunc,hf,hb,Zt]
theorem Kv{α β:Type}{P:Program}{w:World}{f:α->Sem β}{g:α->β}:∀{l:List α},(∀x∈l,(f x).run P w=.ok (g x) w)->(l.mapM f).run P w=.ok (l.map g) w
 | [],_=>rfl
 |x :: l,h=>by
  rw[bOI,Sem.run_bind,h x (bNI ..),Result.andThen_ok,Sem.run_bind,Kv fun y hy=>h y (bNU _ hy)];rfl
theorem aDS{α β:Type}{P:Program}{w:World}{f:α->Sem β}{g:α->β}{arr:Array α}(h:∀x∈arr.toList,(f x).run P w=.ok (g x) w) :
  (arr.mapM f).run P w=.ok (arr.toList.map g).toArray w:=by
 rw[Array.mapM_eq_mapM_toList,map_eq_pure_bind,Sem.run_bind,Kv h];rfl
section
variable {P:Program} {E:Env} {X:Nat->Prop} {w0:Old} {ρ:Nat->Nat} {al:Nat->Prop} {st:St} {a:Act} {w:World}
def ownOf(st:St):ResultVar->Option Nat
 | .tmp t=>match st.fr t with
  | .v (.one (.buf i _))=>some i
  | .v (.one (.view i _ _))=>some i
  |_=>none
 | .cell _ _=>none
def Ch(a:Act):ResultVar->Sem Value
 | .tmp t=>pure (a.tmps.getD t undef)
 | .cell d t=>do loadVar t (<-asAddr (a.tmps.getD d undef))
def Good(E:Env)(X:Nat->Prop)(base:Nat)(st:St)(ρ:Nat->Nat)(w:World)(r:ResultVar)(v:Value):D->Prop
 | .own e k ns=>∃i,ownOf st r=some i/\(∃b,st.hp i=some b)/\Lp base w (ρ i) e k ns v
 | .back i off n=>i∈E.io/\∀blk k ns,st.hp i=some blk->blk.cont=.ints k ns->Vh w (ρ i) ns.length off n v
 |d=>lL (XO X ρ st.hp) w d v
theorem Tn(hT:mJ P E.T)(h:gX E X w0 ρ al st.fr st.hp a w){r:ResultVar}{d:D}(hd:resD E st r=some d) :
  ∃v,(Ch a r).run P w=.ok v w/\Good E X w0.w.heap.size st ρ w r v d:=by
 cases r with
 |tmp t =>
  have hr:=h.fr t;refine⟨_,rfl,?_⟩;unfold resD at hd;simp only at hd;split at hd
  ·rename_i cs hf;cases hd;rw[hf]at hr;exact hr
  ·rename_i x hf;cases hd;rw[hf]at hr;exact hr
  ·rename_i i n hf;cases Cu:bNM i E.n0 with
   |true=>rw[Cu]at hd;cases hd
   |false =>
   rw[Cu]at hd;simp only[cond_false]at hd;have Cu:E.n0<=i:=by
    have:¬i<E.n0:=fun h=>by
     have h2:bNM i E.n0=true:=by rw[Nat.blt_eq];exact h
     rw[h2]at Cu;cases Cu
    omega
   split at hd
   ·rename_i e k ns hb;cases hd;rw[hf]at hr;obtain⟨cap,hv,hle,hc,_⟩:=hr;obtain⟨e1,e2,e3⟩:=hc _ k ns hb rfl;obtain⟨hw,arr,hg,Qw⟩:=h.blk i _ hb;have hs:cap<=arr.size:=by unfold jR at e3;rw[hg]at e3;exact e3
    refine⟨i,by simp[ownOf,hf],⟨_,hb⟩,arr,cap,by rw[<-e1];exact hv,hw.new Cu,hg,by omega,hs,e2,Qw.2⟩
   ·cases hd
  ·rename_i i off n hf;rw[hf]at hr;obtain⟨o',cap,hv,yO,hA,hA0,hc⟩:=hr;cases Hg:E.io.elem i with
   |true =>
    rw[Hg]at hd;simp only[cond_true]at hd;cases hd;exact⟨by simpa using Hg,fun blk k ns hb hk=>⟨o',cap,hv,yO,hA,hA0,hc blk k ns hb hk⟩⟩
   |false =>
   rw[Hg]at hd;simp only[cond_false]at hd;cases Cu:bNM i E.n0 with
   |true=>rw[Cu]at hd;cases hd
   |false =>
   rw[Cu]at hd;simp only[cond_false]at hd;have Cu:E.n0<=i:=by
    have:¬i<E.n0:=fun h=>by
     have h2:bNM i E.n0=true:=by rw[Nat.blt_eq];exact h
     rw[h2]at Cu;cases Cu
    omega
   split at hd
   ·rename_i e k ns hb;cases hd;obtain⟨e1,e2,e3⟩:=hc _ k ns hb rfl;obtain⟨hw,arr,hg,Qw⟩:=h.blk i _ hb;have hs:cap<=arr.size:=by unfold jR at e3;rw[hg]at e3;exact e3
    have hl:(ns.take n).length=n:=by rw[bPR];omega
    refine⟨i,by simp[ownOf,hf],⟨_,hb⟩,arr,cap,by rw[hl,<-hA0 rfl];exact hv,hw.new Cu,hg,by rw[hl];exact yO,hs,e2,fun j m hj=>Qw.2 j m ?_⟩;have Ui:j<n:=by have:=aR hj;omega
    rw[bNG Ui]at hj;exact hj
   ·cases hd
  ·cases hd
 |cell t ty =>
  have hr:=h.fr t;unfold resD at hd;simp only at hd;split at hd
  ·rename_i i off ti hf uM;rw[hf]at hr;have hr:a.tmps.getD t undef=.pointer (some ⟨ρ i,off,none⟩):=hr;split at hd
   ·rename_i e cs hb;obtain⟨_,arr,hg,Qw⟩:=h.blk i _ hb;have hl:∀x,partOf ti cs off=some x->∃v,(Ch a (.cell t ty)).run P w=.ok v w/\Bk ρ st.hp (XO X ρ st.hp) w x v/\refsV x=[]:=by
     intro x hx;obtain⟨v,h1,h2,h3⟩:=Mt (P:=P) (hT ty ti uM) (b:=ρ i) (off:=0) (cs:=cs) (fun j s hs=>by
      obtain⟨u,hu,hr⟩:=Qw.2 j s hs;exact⟨u,by rw[cell_of_row w (ρ i) _ arr e (0,0) hg];simpa using hu,hr⟩) hx (ρ:=ρ) (hp':=st.hp)
     rw[bND]at h1;refine⟨v,?_,h2,h3⟩;unfold Ch;rw[Sem.run_bind,hr];simpa [asAddr] using h1
    split at hd
    ·rename_i Hu hx;cases hd;obtain⟨v,h1,h2,_⟩:=hl _ hx;exact⟨v,h1,h2⟩
    ·rename_i x hx;cases hd;obtain⟨v,h1,h2,_⟩:=hl _ hx;exact⟨v,h1,h2⟩
    ·cases hd
   ·cases hd
  ·cases hd
theorem wW{α β:Type}{f:α->Option β}:∀{l:List α} {ys:List β},l.mapM f=some ys->ys.length=l.length/\∀(i:Nat) (x:α),l[i]?=some x->∃y,ys[i]?=some y/\f x=some y
 | [],ys,h=>by simp at h;subst h;simp
 |x :: l,ys,h=>by
  rw[bOI]at h;cases hx:f x with
  |none=>rw[hx]at h;cases h
  |some y =>
   cases hl:l.mapM f with
   |none=>rw[hx,hl]at h;cases h
   |some ys' =>
    rw[hx,hl]at h;cases h;obtain⟨h1,h2⟩:=wW hl;refine⟨by simp[h1],fun i x' hi=>?_⟩
    match i with
    |0=>simp at hi;subst hi;exact⟨y,rfl,hx⟩
    |i+1=>simp at hi;obtain⟨y',e1,e2⟩:=h2 i x' hi;exact⟨y',by simpa using e1,e2⟩
theorem Gt:∀{l:List ResultVar} {j:Nat} {r:ResultVar} {i:Nat},l[j]?=some r->ownOf st r=some i->i∈ownIds st l
 | [],j,r,i,h,_=>by simp at h
 |r0 :: l,0,r,i,h,ho=>by
  simp at h;subst h;cases r0 with
  |cell=>cases ho
  |tmp t =>
   simp only[ownOf]at ho;split at ho
   ·rename_i i' n hf;cases ho;simp[ownIds,hf]
   ·rename_i i' o' n hf;cases ho;simp[ownIds,hf]
   ·cases ho
 |r0 :: l,j+1,r,i,h,ho=>by
  have:=Gt (l:=l) (j:=j) (by simpa using h) ho;cases r0 with
  |cell=>exact this
  |tmp t=>simp only[ownIds];exact List.mem_append_right _ this
theorem yA:∀{xs ys:List Nat},nodup (xs ++ ys)=true->nodup ys=true/\∀x∈xs,x ∉ ys
 | [],ys,h=>⟨h,by simp⟩
 |x :: xs,ys,h=>by
  simp only[bOT,nodup,bNH]at h;obtain⟨h1,h2⟩:=yA h.2;refine⟨h1,fun y hy=>?_⟩;rcases List.mem_cons.1 hy with rfl |hy
  ·intro hm;have:(xs ++ ys).elem y=true:=by simp[hm]
   rw[this]at h;simp at h
  ·exact h2 y hy
theorem Gu:∀{l:List ResultVar} {j j':Nat} {r r':ResultVar} {i:Nat},nodup (ownIds st l)=true->l[j]?=some r->l[j']?=some r'->ownOf st r=some i->ownOf st r'=some i->j=j'
 | [],j,j',r,r',i,_,h,_,_,_=>by simp at h
 |r0 :: l,j,j',r,r',i,hn,h,h',ho,aBH=>by
  have vQ:nodup (ownIds st l)=true:=by
   cases r0 with
   |cell=>exact hn
   |tmp t=>simp only[ownIds]at hn;exact(yA hn).1
  have Xq:∀r1,ownOf st r0=some i->∀k:Nat,l[k]?=some r1->ownOf st r1=some i->False:=by
   intro r1 h0 k hk h1;have hm:=Gt hk h1;cases r0 with
   |cell=>cases h0
   |tmp t =>
    simp only[ownOf]at h0;split at h0
    ·rename_i i' n hf;cases h0;simp only[ownIds,hf]at hn;exact(yA hn).2 i (by simp) hm
    ·rename_i i' o' n hf;cases h0;simp only[ownIds,hf]at hn;exact(yA hn).2 i (by simp) hm
    ·cases h0
  match j,j' with
  |0,0=>rfl
  |0,j'+1=>simp at h h';subst h;exact(Xq r' ho j' h' aBH).elim
  |j+1,0=>simp at h h';subst h';exact(Xq r aBH j h ho).elim
  |j+1,j'+1=>simp at h h';exact congrArg (·+1) (Gu vQ h h' ho aBH)
theorem Ic:∀{ds:List D} {i t:Nat},(∃d,ds[t]?=some d/\argFrI i ds t=argAt (i+t) d)\/argFrI i ds t=.any
 | [],_,_=>.inr (by simp[argFrI])
 |d :: _,_,0=>.inl ⟨d,rfl,rfl⟩
 |_ :: ds,i,t+1=>by
  rcases Ic (ds:=ds) (i:=i+1) (t:=t)with ⟨d,h1,h2⟩ |h
  ·exact .inl ⟨d,by simpa using h1,by rw[show i+(t+1)=i+1+t by omega];exact h2⟩
  ·exact .inr h
theorem Ln:∀{ds:List D} {i j:Nat} {b:iM},argHp i ds j=some b->i<=j/\∃e k ns off n,ds[j-i]?=some (.io e k ns off n)/\b=⟨e,.ints k ns⟩
 | [],_,_,_,h=>by cases h
 |d :: ds,i,j,b,h=>by
  have tail:argHp (i+1) ds j=some b->i<=j/\∃e k ns off n,(d :: ds)[j-i]?=some (.io e k ns off n)/\b=⟨e,.ints k ns⟩:=by
   intro h;obtain⟨h1,e,k,ns,off,n,h2,h3⟩:=Ln h;exact⟨by omega,e,k,ns,off,n,by rw[show j-i=(j-(i+1))+1 by omega];simpa using h2,h3⟩
  cases d with
  |io e k ns off n =>
   simp only[argHp]at h;cases hb:bNC j i with
   |true =>
    rw[hb]at h;have:=bNP hb;subst this;cases h;exact⟨bNB _,e,k,ns,off,n,by simp,rfl⟩
   |false=>rw[hb]at h;exact tail h
  |s=>exact tail h
  |rows=>exact tail h
  |agg=>exact tail h
  |own=>exact tail h
  |back=>exact tail h
theorem Rv:∀{ds:List D} {i t:Nat} {e:TypeId} {k:IntKind} {ns:List Int} {off n:Nat},ds[t]?=some (.io e k ns off n)->argHp i ds (i+t)=some ⟨e,.ints k ns⟩
 | [],_,_,_,_,_,_,_,h=>by simp at h
 |d :: ds,i,0,e,k,ns,off,n,h=>by
  simp at h;subst h;simp[argHp]
 |d :: ds,i,t+1,e,k,ns,off,n,h=>by
  have ih:=Rv (i:=i+1) (ds:=ds) (t:=t) (by simpa using h);rw[show i+1+t=i+(t+1) by omega]at ih;cases d with
  |io e' k' lC aSV n' =>
   simp only[argHp];rw[show bNC (i+(t+1)) i=false from by
    cases hb:bNC (i+(t+1)) i with
    |false=>rfl
    |true=>have:=bNP hb;omega]
   exact ih
  |s=>exact ih
  |rows=>exact ih
  |agg=>exact ih
  |own=>exact ih
  |back=>exact ih
theorem Wu{Y:Nat->Prop}{w:World}{g:Nat->Nat}{i:Nat}{v:Value}{d:D}(hn:Ap d=false)(h:Yu Y w g i v d):lL Y w d v:=by
 cases d with
 |io=>cases hn
 |s x=>exact h
 |rows a b c=>exact h
 |agg cs=>exact h
 |own a b c=>exact h
 |back=>exact h
end
theorem oneOf(vs:List Value):(if h:vs.toArray.size=1 then vs.toArray[0]else Value.tuple vs.toArray)=resV vs:=by
 match vs with
 | []=>simp[resV]
 | [v]=>simp[resV]
 |_ :: _ :: _=>simp[resV]
theorem fn_core{P:Program}{E:Env}(hT:mJ P E.T)(hC:iW P E)(hm:P.follows .mixedOrders=true){f:FuncId}{fn:Func}{c:Code}(hf:P.funcs[f]?=some fn)(hb:fn.body=some c)(aUE:E.nt=fn.ntmps)
  {ds rs js:List D} (hle:ds.length<=fn.ntmps) (he:aF E fn c ds=some (rs ++ js)) (aEM:js.length=E.io.length) (iN:∀i,i∈E.io->i<E.n0)
  (Je:∀(i:Nat) (d:D),ds[i]?=some d->Ap d=true->i∈E.io) (xB:∀i,i∈E.io->∃e k ns off n,ds[i]?=some (.io e k ns off n))
  {Y:Nat->Prop} {w:World} {vs:List Value} {g0:Nat->Nat} (hY:∀b,Y b->b<w.heap.size) (hG:GlobOk E.glob Y w) (hlen:ds.length=vs.length)
  (hargs:∀(i:Nat) (d:D) (v:Value),ds[i]?=some d->vs[i]?=some v->Yu Y w g0 i v d) (aUW:∀i j,i∈E.io->j∈E.io->g0 i=g0 j->i=j) :
  Calls P f vs.toArray w fun e w'=>∃vL,e=.returned (resV vL)/\zM (zG E.io g0) w w'/\Oq Y w.heap.size w' E.io js g0 rs vL/\∀(j i:Nat) (d:D),E.io[j]?=some i->js[j]?=some d->Pd w' (g0 i) d:=by
 refine calls_of_wp hf hb ?_;have bCC:∀i e k ns off n,ds[i]?=some (.io e k ns off n)->Y (g0 i)/\∃v,vs[i]?=some v/\aQX w (g0 i) e k ns off n v:=by
  intro i e k ns off n hi;obtain⟨v,hv⟩:=aY (l:=vs) (i:=i) (by have:=aR hi;omega);have:=hargs i _ v hi hv;exact⟨this.1,v,hv,this.2⟩
 have bBZ:∀b,zG E.io g0 b->Y b:=by
  rintro b ⟨i,hi,rfl⟩;obtain⟨e,k,ns,off,n,h⟩:=xB i hi;exact(bCC i e k ns off n h).1
 obtain⟨w0,Zp⟩:∃w0:Old,w0=⟨w,zG E.io g0,g0,fun b hb=>hY b (bBZ b hb)⟩:=⟨_,rfl⟩;have Zo:w0.w=w:=by rw[Zp]
 have aED:w0.M=zG E.io g0:=by rw[Zp]
 have aTN:w0.g=g0:=by rw[Zp]
 have aUB:∀j b,argHp 0 ds j=some b->j∈E.io/\∃e k ns off n,ds[j]?=some (.io e k ns off n)/\b=⟨e,.ints k ns⟩:=by
  intro j b hj;obtain⟨_,e,k,ns,off,n,h1,h2⟩:=Ln hj;rw[Nat.sub_zero]at h1;exact⟨Je j _ h1 rfl,e,k,ns,off,n,h1,h2⟩
 have Ud:gX E (fun b=>Y b/\¬zG E.io g0 b) w0 g0 (fun i=>i<E.n0) (Rw ds) (argHp 0 ds) { tmps:=vs.toArray ++ Array.replicate (fn.ntmps-vs.toArray.size) undef,defers:=[] } w:=by
  have hx:∀b,XO (fun b=>Y b/\¬zG E.io g0 b) g0 (argHp 0 ds) b->Y b:=by
   rintro b (h |⟨i,bl,h,rfl⟩)
   ·exact h.1
   ·exact bBZ _ ⟨i,(aUB i bl h).1,rfl⟩
  have hl:gB Y w (XO (fun b=>Y b/\¬zG E.io g0 b) g0 (argHp 0 ds)) w:=⟨bNB _,fun b _ h=>⟨rfl,fun h'=>h (hx b h')⟩⟩;have rZ:∀t,(∃d,ds[t]?=some d/\Rw ds t=argAt t d)\/Rw ds t=.any:=by
   intro t;have:=Ic (ds:=ds) (i:=0) (t:=t);rw[bND]at this;exact this
  refine { fr:=?_,sz:=by simp[aUE];omega,nod:=rfl,blk:=?_,inj:=?_,alh:=?_,alr:=?_,below:=by rw[Zo];exact Kept.refl _ _,x0:=?_,glob:=?_,mg:=?_,al0:=fun _ h=>h,uS:=fun _ _=>by rw[aTN] }
  ·intro t;rcases rZ t with ⟨d,h1,h2⟩ |h
   ·rw[h2];have ht:=aR h1;obtain⟨v,hv⟩:=aY (l:=vs) (i:=t) (by omega);have e:(vs.toArray ++ Array.replicate (fn.ntmps-vs.toArray.size) undef).getD t undef=v:=by
     rw[Array.getD_eq_getD_getElem?,Array.getElem?_append_left (by simp;omega)];simp[hv]
    rw[e];cases hd:Ap d with
    |false =>
     have hr:=(Wu hd (hargs t d v h1 hv)).later hl;cases d with
     |io=>cases hd
     |own e k ns=>exact hr
     |s x=>exact hr
     |rows a b c=>exact hr
     |agg cs=>exact hr
     |back=>exact hr.elim
    |true =>
     cases d with
     |io e' k ns off n =>
      obtain⟨_,v',aML,⟨o',cap,h3,h4,h5,h6,h7⟩,_⟩:=bCC t _ _ _ _ _ h1;rw[hv]at aML;cases aML;refine⟨o',cap,h3,h4,h5,h6,fun blk k1 Sn vR Ep=>?_⟩;have:=Rv (i:=0) h1;rw[bND]at this;rw[this]at vR;cases vR;cases Ep;exact h7
     |own=>cases hd
     |s=>cases hd
     |rows=>cases hd
     |agg=>cases hd
     |back=>cases hd
   ·rw[h];trivial
  ·intro id b hb;obtain⟨h1,e,k,ns,off,n,h2,rfl⟩:=aUB id b hb;obtain⟨_,v,_,_,h3⟩:=bCC id _ _ _ _ _ h2;exact⟨.inr ⟨iN id h1,by rw[aED];exact⟨id,h1,rfl⟩⟩,h3⟩
  ·intro id So b b' h1 h2 h3;exact aUW id So (aUB id b h1).1 (aUB So b' h2).1 h3
  ·intro id b h1;exact iN id (aUB id b h1).1
  ·intro t i hi;rcases rZ t with ⟨d,h1,h2⟩ |h
   ·rw[h2]at hi;cases d with
    |io e' k ns off n =>
     simp[argAt,refs,refsV,refsL]at hi;subst hi;exact iN _ (Je _ _ h1 rfl)
    |own=>cases hi
    |s=>cases hi
    |rows=>cases hi
    |agg=>cases hi
    |back=>cases hi
   ·rw[h]at hi;cases hi
  ·rintro b ⟨h1,h2⟩ (hm |hm)
   ·rw[Zo]at hm;have:=hY b h1;omega
   ·rw[aED]at hm;exact h2 hm
  ·rw[Zo];intro g k ns hg;obtain⟨h1,h2,h3⟩:=hG g k ns hg;exact⟨h1,fun h=>h2 h.1,h3.later ⟨bNB _,fun b _ hb=>⟨rfl,fun h=>hb h.1⟩⟩⟩
  ·intro g q hg hm;rw[aED]at hm;obtain⟨k,ns⟩:=q;exact(hG g k ns hg).2.1 (bBZ _ hm)
 have bLG:∀b,Y b->(Y b/\¬zG E.io g0 b)\/zG E.io g0 b:=fun b hb=>by
  by_cases h:zG E.io g0 b
  ·exact .inr h
  ·exact .inl ⟨hb,h⟩
 unfold aF at he;refine Uu hT hC hm _ c _ _ _ g0 _ w Ud he ?_;intro ex st ρ a' w' hK hs;have bBC:(∃i,ex=.exit i)\/(nodup (ownIds st fn.results.toList)=true/\fn.results.toList.mapM (resD E st)=some rs/\E.io.mapM (aTF st)=some js):=by
  have vQ:(bif nodup (ownIds st fn.results.toList)then(match E.io with
  | []=>fn.results.toList.mapM (resD E st)
  |p :: ps=>match fn.results.toList.mapM (resD E st),(p :: ps).mapM (aTF st)with
   |some rs,some is=>some (rs ++ is)
   |_,_=>none)else none)=some (rs ++ js)->(nodup (ownIds st fn.results.toList)=true/\fn.results.toList.mapM (resD E st)=some rs/\E.io.mapM (aTF st)=some js):=by
   intro hK;cases hn:nodup (ownIds st fn.results.toList)with
   |false=>rw[hn]at hK;cases hK
   |true =>
    rw[hn]at hK;simp only[cond_true]at hK;refine⟨rfl,?_⟩
    match Hg:E.io,hK with
    | [],hK =>
     rw[Hg]at aEM;have:js=[]:=List.eq_nil_of_length_eq_zero aEM;subst this;rw[bTC]at hK;exact⟨hK,rfl⟩
    |p :: ps,hK =>
     simp only at hK;split at hK
     ·rename_i aJC js' h1 h2;have bAR:=(wW h2).1;rw[Hg]at aEM;have:=List.append_inj' (Option.some.inj hK) (by rw[bAR,aEM]);rw[h1,h2,this.1,this.2];exact⟨rfl,rfl⟩
     ·cases hK
  cases ex with
  |exit i=>exact .inl ⟨i,rfl⟩
  |normal=>exact .inr (vQ hK)
  |ret=>exact .inr (vQ hK)
 rcases bBC with ⟨i,rfl⟩ |⟨hn,aTX,bKC⟩
 ·cases hK
 have key:a'.defers=[]/\∃v,(results fn a'.tmps).run P w'=.ok v w'/\∃vL,Ending.returned v=.returned (resV vL)/\zM (zG E.io g0) w w'/\Oq Y w.heap.size w' E.io js g0 rs vL/\∀(j i:Nat) (d:D),E.io[j]?=some i->js[j]?=some d->Pd w' (g0 i) d:=by
  refine⟨hs.nod,?_⟩;obtain⟨aUR,aNB⟩:=wW aTX
  let X':Nat->Prop:=fun b=>Y b/\¬zG E.io g0 b
  let aPP (r:ResultVar) (d:D) (v:Value):Prop:=(Ch a' r).run P w'=.ok v w'/\Good E X' w.heap.size st ρ w' r v d
  have hex:∀r,∃v,∀d,resD E st r=some d->aPP r d v:=by
   intro r;cases hd:resD E st r with
   |none=>exact⟨undef,fun d h=>by cases h⟩
   |some d =>
    obtain⟨v,h1,h2⟩:=Tn hT hs hd;rw[Zo]at h2;exact⟨v,fun d' h=>by cases h;exact⟨h1,h2⟩⟩
  obtain⟨g,bKO⟩:=Classical.axiomOfChoice hex;have hg:∀r d,r∈fn.results.toList->resD E st r=some d->aPP r d (g r):=fun r d _ hd=>bKO r d hd
  have fH:(fn.results.mapM (Ch a')).run P w'=.ok (fn.results.toList.map g).toArray w' :=
   aDS fun r hr=>by
    obtain⟨i,hi⟩:=List.mem_iff_getElem?.1 hr;obtain⟨d,_,hd⟩:=aNB i r hi;exact(hg r d hr hd).1
  have Ue:(results fn a'.tmps).run P w'=.ok (resV (fn.results.toList.map g)) w':=by
   have e:results fn a'.tmps=(fn.results.mapM (Ch a') >>= fun vs=>pure (if h:vs.size=1 then vs[0]else Value.tuple vs)):=by
    unfold results;congr 1
   rw[e,Sem.run_bind,fH,Result.andThen_ok,Sem.run_pure];congr 1;exact oneOf _
  have Hf:=hs.below;rw[Zo]at Hf;have aTT:zM (zG E.io g0) w w':=⟨Hf.os,Hf.tape,Hf.output,Hf.size,fun b hb hM=>Hf.block b (fun hm=>by
   rcases hm with hm |hm
   ·rw[Zo]at hm;omega
   ·rw[aED]at hm;exact hM hm),fun b hM=>Hf.room b (by rw[aED];exact hM)⟩
  have aEN:∀(j i:Nat) (d:D),E.io[j]?=some i->js[j]?=some d->∃e k ns,d=.io e k ns 0 0/\st.hp i=some ⟨e,.ints k ns⟩/\ρ i=g0 i:=by
   intro j i d hj hd;obtain⟨_,h2⟩:=wW bKC;obtain⟨d',h3,h4⟩:=h2 j i hj;rw[hd]at h3;cases h3;unfold aTF at h4;split at h4
   ·rename_i e k ns hb;cases h4;refine⟨e,k,ns,rfl,hb,?_⟩;have:=hs.uS i (iN i (bNK hj));rw[aTN]at this;exact this
   ·cases h4
  have bLH:∀b,Y b->XO X' ρ st.hp b:=by
   intro b hb;rcases bLG b hb with h |⟨i,hi,rfl⟩
   ·exact .inl h
   ·obtain⟨j,hj⟩:=List.mem_iff_getElem?.1 hi;obtain⟨d,hd⟩:=aY (l:=js) (i:=j) (by have:=aR hj;omega);obtain⟨e,k,ns,_,h1,h2⟩:=aEN j i d hj hd;exact .inr ⟨i,_,h1,h2⟩
  refine⟨_,Ue,_,rfl,aTT,?_,?_⟩
  ·have bFV:∀(i:Nat) (d:D),rs[i]?=some d->∃r,fn.results.toList[i]?=some r/\resD E st r=some d/\aPP r d (g r):=by
    intro i d hi;obtain⟨r,hr⟩:=aY (l:=fn.results.toList) (i:=i) (by have:=aR hi;omega);obtain⟨d',h1,h2⟩:=aNB i r hr;rw[hi]at h1;cases h1;exact⟨r,hr,h2,hg r d (bNK hr) h2⟩
   let blk (i:Nat):Nat:=match fn.results.toList[i]? with
    |some r=>match ownOf st r with
     |some j=>ρ j
     |none=>0
    |none=>0
   have pZ:∀(i:Nat) (d:D),rs[i]?=some d->iY d=true->∃r j b,fn.results.toList[i]?=some r/\ownOf st r=some j/\st.hp j=some b/\blk i=ρ j:=by
    intro i d hi ho;obtain⟨r,h1,h2,h3⟩:=bFV i d hi;cases d with
    |own e k ns =>
     obtain⟨_,j,h4,⟨b,h5⟩,_⟩:=h3;exact⟨r,j,b,h1,h4,h5,by simp only[blk,h1,h4]⟩
    |_=>cases ho
   refine⟨blk,by simp[aUR],?_,?_⟩
   ·intro i j d d' hi hj ho aBH yP;obtain⟨r,k,b,h1,h2,h3,h4⟩:=pZ i d hi ho;obtain⟨r',k',b',aAB,aRR,bLY,bCI⟩:=pZ j d' hj aBH;rw[h4,bCI]at yP;have:=hs.inj k k' b b' h3 bLY yP;subst this;exact Gu hn h1 aAB h2 aRR
   ·intro i d v hi hv;obtain⟨r,h1,h2,h3⟩:=bFV i d hi;have e:v=g r:=by
     rw[bNF,h1]at hv;exact(Option.some.inj hv).symm
    subst e;have hl:gB (XO X' ρ st.hp) w' (fun b=>Y b\/∃(j:Nat) (d':D),rs[j]?=some d'/\iY d'=true/\blk j=b) w':=by
     refine⟨bNB _,fun b _ hx=>⟨rfl,fun hb=>hx ?_⟩⟩;rcases hb with hb |⟨j,d',hj,ho,rfl⟩
     ·exact bLH b hb
     ·obtain⟨r',k,b',_,_,h5,h6⟩:=pZ j d' hj ho;exact .inr ⟨k,b',h5,h6.symm⟩
    cases d with
    |own e k ns =>
     obtain⟨_,j,h4,_,h5⟩:=h3;have:blk i=ρ j:=by simp only[blk,h1,h4]
     show Lp _ _ (blk i) _ _ _ _;rw[this];exact h5
    |s x=>exact lL.later hl (d:=.s x) h3.2
    |rows sz n fr=>exact lL.later hl (d:=.rows sz n fr) h3.2
    |agg cs=>exact lL.later hl (d:=.agg cs) h3.2
    |io=>exact h3.2.elim
    |back p off n =>
     obtain⟨_,h4,h5⟩:=h3;obtain⟨j,hj⟩:=List.mem_iff_getElem?.1 h4;obtain⟨d,hd⟩:=aY (l:=js) (i:=j) (by have:=aR hj;omega);obtain⟨e,k,ns,rfl,h6,h7⟩:=aEN j p d hj hd;have:=h5 _ k ns h6 rfl;rw[h7]at this;exact⟨j,e,k,ns,hj,hd,this⟩
  ·intro j i d hj hd;obtain⟨e,k,ns,rfl,h1,h2⟩:=aEN j i d hj hd;have:=(hs.blk i _ h1).2;rw[h2]at this;exact this
 cases ex with
 |normal=>exact key
 |ret=>exact key
 |exit i=>cases hK
theorem zM.below{M:Nat->Prop}(hM:∀b,¬M b){w w':World}(h:zM M w w'):Below w.heap.size w w':=⟨h.os,h.tape,h.output,h.size,fun k hk=>h.block k hk (hM k)⟩
theorem fn_contract{P:Program}{E:Env}(hT:mJ P E.T)(hC:iW P E)(hm:P.follows .mixedOrders=true){f:FuncId}{fn:Func}{c:Code}(hf:P.funcs[f]?=some fn)(hb:fn.body=some c)(aUE:E.nt=fn.ntmps)(Hg:E.io=[])
  {ds rs:List D} (hle:ds.length<=fn.ntmps) (he:aF E fn c ds=some rs):Contract P E.glob f ds rs:=by
 intro Y w vs hY hG hlen hargs;have vY:∀(i:Nat) (d:D),ds[i]?=some d->Ap d=false:=by
  intro i d hi;obtain⟨v,hv⟩:=aY (l:=vs) (i:=i) (by have:=aR hi;omega);have:=hargs i d v hi hv;cases d with
  |io=>exact this.elim
  |s=>rfl
  |rows=>rfl
  |agg=>rfl
  |own=>rfl
  |back=>rfl
 have:=fn_core hT hC hm hf hb aUE (rs:=rs) (js:=[]) hle (by rw[bTC];exact he) (by rw[Hg];rfl) (by rw[Hg];intro i hi;cases hi) (fun i d hi hd=>by rw[vY i d hi]at hd;cases hd) (by rw[Hg];intro i hi;cases hi) (g0:=fun _=>0) hY hG hlen (fun i d v hi hv=>Ib (vY i d hi) (hargs i d v hi hv)) (by rw[Hg];intro i j hi;cases hi);refine this.mono ?_;rintro e w' ⟨vL,h1,h2,⟨g,h3,h4,h5⟩,_⟩;refine⟨vL,h1,h2.below (fun b=>by rintro ⟨i,hi,_⟩;rw[Hg]at hi;cases hi),g,h3,h4,fun i d v hi hv=>?_⟩;have:=h5 i d v hi hv;cases d with
 |own e k ns=>exact this
 |s x=>exact this
 |rows a b c=>exact this
 |agg cs=>exact this
 |io=>exact this
 |back p off n =>
  obtain⟨j,e,k,ns,h6,_⟩:=this;rw[Hg]at h6;simp at h6
theorem Jq{P:Program}{E:Env}(hT:mJ P E.T)(hC:iW P E)(hm:P.follows .mixedOrders=true){f:FuncId}{fn:Func}{c:Code}(hf:P.funcs[f]?=some fn)(hb:fn.body=some c)(aUE:E.nt=fn.ntmps)(iN:∀i,i∈E.io->i<E.n0)
  {ds rs js:List D} (hle:ds.length<=fn.ntmps) (he:aF E fn c ds=some (rs ++ js)) (aEM:js.length=E.io.length) (hL:aNG E.io ds js) (Je:∀(i:Nat) (d:D),ds[i]?=some d->Ap d=true->i∈E.io):mV P E.glob f E.io ds rs js:=by
 refine⟨aEM,hL,fun Y w vs g hY hG hlen hargs xA=>?_⟩;refine fn_core hT hC hm hf hb aUE hle he aEM iN Je (fun i hi=>?_) hY hG hlen hargs xA;obtain⟨j,hj⟩:=List.mem_iff_getElem?.1 hi;obtain⟨e,k,ns,off,n,_,_,_,h1,_⟩:=hL j i hj;exact⟨e,k,ns,off,n,h1⟩
def kindOf(P:Program):TypeDesc->Option TK
 | .bool=>some .bool
 | .int k=>some (.int k)
 | .float k=>some (.float k)
 | .slice e=>some (.slice e)
 | .string=>some .str
 | .struct fields=>(fields.toList.mapM fun(f:Field)=>match P.info? f.type,P.underlying f.type with
  |some fi,some fd=>some (f.offset,fi.size,pW fd)
  |_,_=>none).map .struct
 | .array len e=>match P.info? e,P.underlying e with
  |some ei,some ed=>some (.arr len ei.size (pW ed))
  |_,_=>none
 |_=>some .other
def tiOf(P:Program)(t:TypeId):Option TI:=match P.info? t,P.underlying t with
 |some i,some d=>match i.zero,kindOf P d with
  |some z,some k=>some ⟨i.size,i.bytes,z.cells.toList,k⟩
  |_,_=>none
 |_,_=>none
def aNQ(ti:TI):Bool:=bNC ti.zero.length ti.size&&ti.zero.all fun v=>v.oneCell'
theorem Zl{P:Program}{d:TypeDesc}{k:TK}(h:kindOf P d=some k):Is P k d:=by
 unfold kindOf at h;split at h
 ·cases h;rfl
 ·cases h;rfl
 ·cases h;rfl
 ·cases h;rfl
 ·cases h;rfl
 ·rename_i fields;cases hm:(fields.toList.mapM fun(f:Field)=>match P.info? f.type,P.underlying f.type with
   |some fi,some fd=>some (f.offset,fi.size,pW fd)
   |_,_=>none)with
  |none=>rw[hm]at h;cases h
  |some fs =>
   rw[hm]at h;cases h;obtain⟨h1,h2⟩:=wW hm;refine⟨fields,rfl,by simpa using h1,fun i f hf=>?_⟩;obtain⟨y,e1,e2⟩:=h2 i f (by simpa using hf);split at e2
   ·rename_i fi fd aXO bKQ;cases e2;exact⟨fi,fd,aXO,bKQ,e1⟩
   ·cases e2
 ·rename_i len e;split at h
  ·rename_i ei ed bKX aXP;cases h;exact⟨e,ei,ed,rfl,bKX,rfl,aXP,rfl⟩
  ·cases h
 ·rename_i h1 h2 h3 h4 h5 h6 h7;cases h;show pW d=false;cases d <;> first |rfl | (exfalso;exact h6 _ rfl) | (exfalso;exact h7 _ _ rfl)
def eqChk(P:Program)(t:TypeId)(ti:TI):Bool:=match uQ ti with
 |some ks=>(match P.underlying t with
  |some (.struct fields)=>!P.stoodInHeld t&&(eqChkF P 0 fields.toList ks&&!P.eqGuardType P.depth t)
  |_=>false)
 |none=>true
theorem aFO{P:Program}{t:TypeId}{ti:TI}(h:eqChk P t ti=true)(ks:List IntKind)(hk:uQ ti=some ks):aQZ P t ks:=by
 unfold eqChk at h;rw[hk]at h;simp only at h;split at h
 ·rename_i fields hf;simp only[bNH,bOJ]at h;exact⟨fields,hf,h.1,h.2.1,h.2.2⟩
 ·cases h
theorem aBT{P:Program}{t:TypeId}{ti:TI}(h:tiOf P t=some ti)(hk:aNQ ti=true)(hq:eqChk P t ti=true):xJ P t ti:=by
 have heq:=aFO hq;unfold tiOf at h;split at h
 ·rename_i i d hi hd;split at h
  ·rename_i z k hz bJZ;cases h;unfold aNQ at hk;simp only[bNH]at hk;exact { i:=⟨i,hi,rfl,rfl,z,hz,rfl⟩,zl:=bNP hk.1,zo:=fun v hv=>List.all_eq_true.1 hk.2 v hv,d:=⟨d,hd,Zl bJZ⟩,eq:=heq }
  ·cases h
 ·cases h
def tlook{α:Type}:List (Nat×α)->Nat->Option α
 | [],_=>none
 |p :: r,t=>bif bNC p.1 t then some p.2 else tlook r t
theorem tQ{α:Type}:∀{l:List (Nat×α)} {t:Nat} {x:α},tlook l t=some x->(t,x)∈l
 | [],t,x,h=>by cases h
 |p :: r,t,x,h=>by
  simp only[tlook]at h;cases hb:bNC p.1 t with
  |true =>
   rw[hb]at h;cases h;have:=bNP hb;subst this;exact bNI ..
  |false=>rw[hb]at h;exact bNU _ (tQ h)
theorem aIS{P:Program}(Ga:List (Nat×TI))(h:Ga.map (fun p=>tiOf P p.1)=Ga.map fun p=>some p.2)(hk:(Ga.all fun p=>aNQ p.2)=true)(hq:(Ga.all fun p=>eqChk P p.1 p.2)=true):mJ P (tlook Ga):=by
 intro t ti ht;have hm:=tQ ht;have h1:tiOf P t=some ti:=by
  have:=List.map_inj_left.1 h (t,ti) hm;exact this
 exact aBT h1 (List.all_eq_true.1 hk (t,ti) hm) (List.all_eq_true.1 hq (t,ti) hm)
end AI
namespace AI
open Go Go.RowKit
theorem oK{R:Type}(E:Env)(draw:Bool)(ops:Array Oper)(base:Nat):∀(rest:List Oper) (i:Nat) (mL:List Rec) (st:St) (K:St->Option R),
  opsK E draw ops base rest i mL st K=(opsK E draw ops base rest i mL st some).bind K
 | [],i,mL,st,K=>rfl
 |o :: rest,i,mL,st,K=>by
  unfold opsK;cases (hI E.nt o&&(!draw||vC i o))with
  |false=>rfl
  |true =>
   simp only[cond_true];split
   ·rw[mZ,mZ];cases oZ E (base+8*i) o (evA E st.fr) st.hp with
    |none=>rfl
    |some p =>
     simp only[bOS];cases (!draw||mL.all fun r=>indep ops r i o (qP o (evA E st.fr) p.2) (p.2.map (·.1)))with
     |false=>rfl
     |true=>exact oK E draw ops base rest (i+1) _ _ K
   ·split
    ·split
     ·rename_i want _ _ d _ _ b _;cases b with
      |true =>
       simp only[cond_true];cases (true==want)with
       |true =>
        simp only[cond_true];rw[mZ,mZ];cases oZ E (base+8*i) o (evA E (xU st.fr d (yN (.bool true)))) st.hp with
        |none=>rfl
        |some p =>
         simp only[bOS];cases (!draw||mL.all fun r=>indep ops r i o (qP o (evA E (xU st.fr d (yN (.bool true)))) p.2) (p.2.map (·.1)))with
         |false=>rfl
         |true=>exact oK E draw ops base rest (i+1) _ _ K
       |false =>
        simp only[cond_false];cases (!draw||mL.all fun r=>indep ops r i o [] [])with
        |false=>rfl
        |true=>exact oK E draw ops base rest (i+1) _ _ K
      |false =>
       simp only[cond_false];cases (false==want)with
       |true =>
        simp only[cond_true];rw[mZ,mZ];cases oZ E (base+8*i) o (evA E (xU st.fr d (yN (.bool false)))) st.hp with
        |none=>rfl
        |some p =>
         simp only[bOS];cases (!draw||mL.all fun r=>indep ops r i o (qP o (evA E (xU st.fr d (yN (.bool false)))) p.2) (p.2.map (·.1)))with
         |false=>rfl
         |true=>exact oK E draw ops base rest (i+1) _ _ K
       |false =>
        simp only[cond_false];cases (!draw||mL.all fun r=>indep ops r i o [] [])with
        |false=>rfl
        |true=>exact oK E draw ops base rest (i+1) _ _ K
     ·cases (!draw||mL.all fun r=>indep ops r i o [] [])with
      |false=>rfl
      |true=>exact oK E draw ops base rest (i+1) _ _ K
     ·rfl
    ·rfl
section
variable (n0:Nat) (keep:List Nat) (f:St->Option (Ex×St))
def runs:Nat->List KV->Option (Ex×St)
 |0,_=>none
 |n+1,l=>(f (mk n0 keep l)).bind fun p=>match p.1 with
  | .normal=>runs n (canon n0 keep p.2)
  | .exit i=>some (.exit i,p.2)
  | .ret=>some (.ret,p.2)
theorem Cg:∀(n k:Nat) (l:List KV) (p:Ex×St),runs n0 keep f n l=some p->runs n0 keep f (n+k) l=some p
 |0,_,_,_,h=>by cases h
 |n+1,k,l,p,h=>by
  rw[bUE];simp only[runs]at h ⊢;cases hf:f (mk n0 keep l)with
  |none=>rw[hf]at h;cases h
  |some q =>
   rw[hf]at h;simp only[bOS]at h ⊢;obtain⟨ex,st⟩:=q;cases ex with
   |normal=>exact Cg n k _ p h
   |exit i=>exact h
   |ret=>exact h
theorem Gi{n m:Nat}{l:List KV}{p q:Ex×St}(h:runs n0 keep f n l=some p)(h':runs n0 keep f m l=some q):p=q:=by
 have h1:=Cg n0 keep f n m l p h;have h2:=Cg n0 keep f m n l q h';rw[bTD m n,h1]at h2;exact Option.some.inj h2
open Classical in
def aBE (l:List KV):Option (Ex×St):=if h:∃p,∃n,runs n0 keep f n l=some p then some (Classical.choose h)else none
theorem Gy{n:Nat}{l:List KV}{p:Ex×St}(h:runs n0 keep f n l=some p):aBE n0 keep f l=some p:=by
 unfold aBE;have hex:∃p,∃n,runs n0 keep f n l=some p:=⟨p,n,h⟩;rw[dif_pos hex];obtain⟨m,hm⟩:=Classical.choose_spec hex;rw[Gi n0 keep f hm h]
theorem Mn{l:List KV}{p:Ex×St}(h:aBE n0 keep f l=some p):∃n,runs n0 keep f n l=some p:=by
 unfold aBE at h;split at h
 ·rename_i hex;cases h;exact Classical.choose_spec hex
 ·cases h
theorem aOI(l:List KV):aBE n0 keep f l=(f (mk n0 keep l)).bind fun p=>match p.1 with
  | .normal=>aBE n0 keep f (canon n0 keep p.2)
  | .exit i=>some (.exit i,p.2)
  | .ret=>some (.ret,p.2):=by
 cases hf:f (mk n0 keep l)with
 |none =>
  cases hl:aBE n0 keep f l with
  |none=>rfl
  |some p =>
   obtain⟨n,hn⟩:=Mn n0 keep f hl;cases n with
   |zero=>cases hn
   |succ n=>simp only[runs,hf]at hn;cases hn
 |some q =>
  obtain⟨ex,st⟩:=q;simp only[bOS];cases ex with
  |normal =>
   simp only;cases hl:aBE n0 keep f (canon n0 keep st)with
   |some p =>
    obtain⟨n,hn⟩:=Mn n0 keep f hl;exact Gy n0 keep f (n:=n+1) (by simp only[runs,hf,bOS];exact hn)
   |none =>
    cases aXK:aBE n0 keep f l with
    |none=>rfl
    |some p =>
     obtain⟨n,hn⟩:=Mn n0 keep f aXK;cases n with
     |zero=>cases hn
     |succ n =>
      simp only[runs,hf,bOS]at hn;rw[Gy n0 keep f hn]at hl;cases hl
  |exit i=>exact Gy n0 keep f (n:=1) (by simp only[runs,hf,bOS])
  |ret=>exact Gy n0 keep f (n:=1) (by simp only[runs,hf,bOS])
def aBM{R:Type}(K:Ex->St->Option R)(rec:List KV->Option R)(l:List KV):Option R :=
 (f (mk n0 keep l)).bind fun p=>match p.1 with
  | .normal=>rec (canon n0 keep p.2)
  | .exit i=>K (.exit i) p.2
  | .ret=>K .ret p.2
theorem rP{R:Type}(K:Ex->St->Option R):∀(n:Nat) (l:List KV),iter (aBM n0 keep f K) n l=(runs n0 keep f n l).bind fun p=>K p.1 p.2
 |0,_=>rfl
 |n+1,l=>by
  simp only[iter,aBM,runs];cases f (mk n0 keep l)with
  |none=>rfl
  |some q =>
   obtain⟨ex,st⟩:=q;simp only[bOS];cases ex with
   |normal=>exact rP K n _
   |exit i=>rfl
   |ret=>rfl
theorem Ni{R:Type}(K:Ex->St->Option R)(l:List KV):fix (aBM n0 keep f K) l=(aBE n0 keep f l).bind fun p=>K p.1 p.2:=by
 cases hl:aBE n0 keep f l with
 |none =>
  unfold fix;rw[dif_neg]
  ·rfl
  ·rintro ⟨r,n,h⟩;rw[rP]at h;cases hr:runs n0 keep f n l with
   |none=>rw[hr]at h;cases h
   |some p=>rw[Gy n0 keep f hr]at hl;cases hl
 |some p =>
  obtain⟨n,hn⟩:=Mn n0 keep f hl;simp only[bOS];cases hK:K p.1 p.2 with
  |some r =>
   unfold fix;have hex:∃r,∃n,iter (aBM n0 keep f K) n l=some r:=⟨r,n,by rw[rP,hn];exact hK⟩;rw[dif_pos hex];obtain⟨m,hm⟩:=Classical.choose_spec hex;rw[rP]at hm;cases hr:runs n0 keep f m l with
   |none=>rw[hr]at hm;cases hm
   |some q =>
    rw[hr,Gi n0 keep f hr hn]at hm;simp only[bOS]at hm;rw[hK]at hm;exact hm.symm
  |none =>
   unfold fix;rw[dif_neg];rintro ⟨r,m,h⟩;rw[rP]at h;cases hr:runs n0 keep f m l with
   |none=>rw[hr]at h;cases h
   |some q =>
    rw[hr,Gi n0 keep f hr hn]at h;simp only[bOS]at h;rw[hK]at h;cases h
theorem aKL{R:Type}(K:Ex->St->Option R)(l:List KV):fix (aBM n0 keep f K) l=aBM n0 keep f K (fix (aBM n0 keep f K)) l:=by
 rw[Ni,aOI];unfold aBM;cases f (mk n0 keep l)with
 |none=>rfl
 |some q =>
  obtain⟨ex,st⟩:=q;simp only[bOS];cases ex with
  |normal=>exact(Ni n0 keep f K _).symm
  |exit i=>rfl
  |ret=>rfl
end
def condSt(c:Operand)(st:St):Option (Bool×St):=match c with
 | .tmp s=>match st.fr s with
  | .v (.one (.s (.sc (.bool t))))=>some (t,⟨xU st.fr s (yN (.bool t)),st.hp,st.n⟩)
  |_=>none
 | .const (.bool t)=>some (t,st)
 |_=>none
theorem Rl{R:Type}(E:Env)(c:Operand)(a b:Code)(st:St)(K:Ex->St->Option R):evalCode E (.cond c a b) st K=(condSt c st).bind fun p=>bif p.1 then evalCode E a p.2 K else evalCode E b p.2 K:=by
 cases c with
 |tmp s =>
  simp only[evalCode,condSt];split
  ·rename_i t h;simp only[h,bOS];cases t <;> rfl
  ·rename_i h;split
   ·rename_i t h';exact(h t h').elim
   ·rfl
 |const v=>cases v <;> simp only[evalCode,condSt] <;> rfl
 |_=>simp only[evalCode,condSt];rfl
theorem evalCode_bind(E:Env)(c:Code):∃f:St->Option (Ex×St),∀(st:St) {R:Type} (K:Ex->St->Option R),evalCode E c st K=(f st).bind fun p=>K p.1 p.2:=by
 induction c with
 |skip=>exact⟨fun st=>some (.normal,st),fun st R K=>rfl⟩
 |label l=>exact⟨fun st=>some (.normal,st),fun st R K=>rfl⟩
 |exit id=>exact⟨fun st=>some (.exit id,st),fun st R K=>rfl⟩
 |ret=>exact⟨fun st=>some (.ret,st),fun st R K=>rfl⟩
 |region id ops draw =>
  refine⟨fun st=>(opsK E draw ops st.n ops.toList 0 [] st some).bind fun eN=>some (.normal,⟨eN.fr,eN.hp,st.n+8*ops.size⟩),fun st R K=>?_⟩;unfold evalCode;rw[oK];simp only[];cases opsK E draw ops st.n ops.toList 0 [] st some <;> rfl
 |seq a b wZ wY =>
  obtain⟨f,hf⟩:=wZ;obtain⟨g,hg⟩:=wY;refine⟨fun st=>(f st).bind fun p=>match p.1 with
   | .normal=>match E.cut (keyOf b)with
    |some keep=>g (mk E.n0 keep (canon E.n0 keep p.2))
    |none=>g p.2
   | .exit i=>some (.exit i,p.2)
   | .ret=>some (.ret,p.2),fun st R K=>?_⟩
  unfold evalCode;rw[hf];simp only[];cases f st with
  |none=>rfl
  |some q =>
   obtain⟨ex,eN⟩:=q;cases ex with
   |normal =>
    simp only[bOS];cases E.cut (keyOf b)with
    |none=>exact hg eN K
    |some keep=>exact hg _ K
   |exit i=>rfl
   |ret=>rfl
 |cond cd a b wZ wY =>
  obtain⟨f,hf⟩:=wZ;obtain⟨g,hg⟩:=wY;refine⟨fun st=>(condSt cd st).bind fun p=>bif p.1 then f p.2 else g p.2,fun st R K=>?_⟩;rw[Rl];simp only[];cases condSt cd st with
  |none=>rfl
  |some p =>
   obtain⟨t,eN⟩:=p;cases t with
   |true=>exact hf _ K
   |false=>exact hg _ K
 |block id c ih =>
  obtain⟨f,hf⟩:=ih;refine⟨fun st=>(f st).bind fun p=>match p.1 with
   | .normal=>some (.normal,p.2)
   | .exit i=>bif bNC i id then some (.normal,p.2)else some (.exit i,p.2)
   | .ret=>some (.ret,p.2),fun st R K=>?_⟩
  unfold evalCode;rw[hf];simp only[];cases f st with
  |none=>rfl
  |some q =>
   obtain⟨ex,eN⟩:=q;cases ex with
   |normal=>rfl
   |exit i =>
    simp only[bOS];cases bNC i id <;> rfl
   |ret=>rfl
 |loop c ih =>
  obtain⟨f,hf⟩:=ih;have hG:∀{R:Type} (keep:List Nat) (K:Ex->St->Option R),(fun(rec:List KV->Option R) l=>evalCode E c (mk E.n0 keep l) fun ex eN=>match ex with
    | .normal=>rec (canon E.n0 keep eN)
    | .exit i=>K (.exit i) eN
    | .ret=>K .ret eN)=aBM E.n0 keep f K:=by
   intro R keep K;funext rec l;rw[hf];unfold aBM;cases f (mk E.n0 keep l)with
   |none=>rfl
   |some q=>obtain⟨ex,eN⟩:=q;cases ex <;> rfl
  refine⟨fun st=>match E.roll (keyOf c)with
   |some n=>runs E.n0 (E.keep (keyOf c)) f n (canon E.n0 (E.keep (keyOf c)) st)
   |none=>aBE E.n0 (E.keep (keyOf c)) f (canon E.n0 (E.keep (keyOf c)) st),fun st R K=>?_⟩
  simp only[evalCode];cases E.roll (keyOf c)with
  |some n=>exact(congrArg (fun G=>iter G n (canon E.n0 (E.keep (keyOf c)) st)) (hG _ K)).trans (rP _ _ _ _ _ _)
  |none=>exact(congrArg (fun G=>fix G (canon E.n0 (E.keep (keyOf c)) st)) (hG _ K)).trans (Ni _ _ _ _ _)
 |rangeFunc f ps x y _ _=>exact⟨fun _=>none,fun st R K=>rfl⟩
 |scope c ih =>
  obtain⟨f,hf⟩:=ih;exact⟨f,fun st R K=>by unfold evalCode;exact hf st K⟩
 |goto l=>exact⟨fun _=>none,fun st R K=>rfl⟩
 |refuse bDR=>exact⟨fun _=>none,fun st R K=>rfl⟩
theorem aJS{R:Type}(E:Env)(keep:List Nat)(c:Code)(K:Ex->St->Option R)(l:List KV) :
  fix (roundOf (evalCode E) E.n0 keep c K) l=roundOf (evalCode E) E.n0 keep c K (fix (roundOf (evalCode E) E.n0 keep c K)) l:=by
 obtain⟨f,hf⟩:=evalCode_bind E c;have hG:roundOf (evalCode E) E.n0 keep c K=aBM E.n0 keep f K:=by
  funext rec l;unfold roundOf;rw[hf];unfold aBM;cases f (mk E.n0 keep l)with
  |none=>rfl
  |some q=>obtain⟨ex,eN⟩:=q;cases ex <;> rfl
 rw[hG];exact aKL E.n0 keep f K l
def Cr(E:Env)(fn:Func)(c:Code)(key:Nat)(l:List KV):Option (List D) :=
 match findLoop E key c (oP E fn)with
 |some (b,K)=>fix (roundOf (evalCode E) E.n0 (E.keep key) b K) l
 |none=>none
def Mi(E:Env)(fn:Func)(c:Code)(key:Nat)(l:List KV):Option (List D) :=
 match findLoop E key c (oP E fn)with
 |some (b,K)=>roundOf (evalCode E) E.n0 (E.keep key) b K (fix (roundOf (evalCode E) E.n0 (E.keep key) b K)) l
 |none=>none
theorem Zj(E:Env)(fn:Func)(c:Code)(key:Nat)(l:List KV):Cr E fn c key l=Mi E fn c key l:=by
 unfold Cr Mi;cases findLoop E key c (oP E fn)with
 |none=>rfl
 |some p=>exact aJS E _ p.1 p.2 l
def cutAt(E:Env)(fn:Func)(c:Code)(key:Nat)(l:List KV):Option (List D) :=
 match dZ E key c (oP E fn),E.cut key with
 |some (b,K),some keep=>yF key l fun l=>evalCode E b (mk E.n0 keep l) K
 |_,_=>none
def Nx(E:Env)(fn:Func)(c:Code)(key:Nat)(l:List KV):Option (List D) :=
 match dZ E key c (oP E fn),E.cut key with
 |some (b,K),some keep=>evalCode E b (mk E.n0 keep l) K
 |_,_=>none
theorem aGF(E:Env)(fn:Func)(c:Code)(key:Nat)(l:List KV):cutAt E fn c key l=Nx E fn c key l:=by
 unfold cutAt Nx yF;rfl
end AI
namespace AI
open Go Go.RowKit
theorem Contract.of{P:Program}{G:Nat->Option (IntKind×List Int)}{f:FuncId}{ds ds' rs:List D}(h:Contract P G f ds' rs)(hl:ds.length=ds'.length)
  (hd:∀(i:Nat) (d d':D),ds[i]?=some d->ds'[i]?=some d'->∀(Y:Nat->Prop) (w:World) (v:Value),lL Y w d v->lL Y w d' v):Contract P G f ds rs:=by
 intro Y w vs hY hG hlen hargs;refine h Y w vs hY hG (by omega) fun i d' v hi hv=>?_
 obtain⟨d,Ea⟩:=aY (l:=ds) (i:=i) (by have:=aR hi;omega);exact hd i d d' Ea hi Y w v (hargs i d v Ea hv)
def dI(k:IntKind):D->Option (List Int)
 | .s (.ints k' ns)=>if _h:k=k' then some ns else none
 | .s (.sc (.slice none 0 0))=>some []
 |_=>none
def dN(k:IntKind):D->Option Int
 | .s (.sc (.int k' n))=>if _h:k=k' then some n else none
 |_=>none
def dB:D->Option Bool
 | .s (.sc (.bool b))=>some b
 |_=>none
def zU(d d':D):Prop:=∀(Y:Nat->Prop) (w:World) (v:Value),lL Y w d v->lL Y w d' v
theorem zU.refl(d:D):zU d d:=fun _ _ _ h=>h
theorem aWB{k:IntKind}{d:D}{ns:List Int}(h:dI k d=some ns):zU d (.s (.ints k ns)):=by
 intro Y w v hr;unfold dI at h;split at h
 ·split at h
  ·rename_i hk;cases h;subst hk;exact hr
  ·cases h
 ·cases h;obtain⟨rfl,_⟩:=hr;exact⟨none,0,rfl,bNB _,fun i n hn=>by simp at hn⟩
 ·cases h
theorem aWA{k:IntKind}{d:D}{n:Int}(h:dN k d=some n):d=.s (.sc (.int k n)):=by
 unfold dN at h;split at h
 ·split at h
  ·rename_i hk;cases h;subst hk;rfl
  ·cases h
 ·cases h
theorem aVZ{k:IntKind}{d:D}{n:Int}(h:dN k d=some n):zU d (.s (.sc (.int k n))):=by rw[aWA h];exact zU.refl _
theorem aWE{d:D}{b:Bool}(h:dB d=some b):d=.s (.sc (.bool b)):=by
 unfold dB at h;split at h
 ·cases h;rfl
 ·cases h
theorem aWD{d:D}{b:Bool}(h:dB d=some b):zU d (.s (.sc (.bool b))):=by rw[aWE h];exact zU.refl _
theorem Contract.aYW{P:Program}{G:Nat->Option (IntKind×List Int)}{f:FuncId}{d d':D}{rs:List D}(h:Contract P G f [d'] rs)(hd:zU d d'):Contract P G f [d] rs :=
 h.of rfl fun i x x' hx wC=>by
  match i with
  |0=>simp at hx wC;subst hx;subst wC;exact hd
  |i+1=>simp at hx
theorem Contract.aYV{P:Program}{G:Nat->Option (IntKind×List Int)}{f:FuncId}{d d' e e':D}{rs:List D}(h:Contract P G f [d',e'] rs)(hd:zU d d')(he:zU e e'):Contract P G f [d,e] rs :=
 h.of rfl fun i x x' hx wC=>by
  match i with
  |0=>simp at hx wC;subst hx;subst wC;exact hd
  |1=>simp at hx wC;subst hx;subst wC;exact he
  |i+2=>simp at hx
theorem Contract.bEC{P:Program}{G:Nat->Option (IntKind×List Int)}{f:FuncId}{d d' e e' g g':D}{rs:List D}(h:Contract P G f [d',e',g'] rs)(hd:zU d d')(he:zU e e')(hg:zU g g'):Contract P G f [d,e,g] rs :=
 h.of rfl fun i x x' hx wC=>by
  match i with
  |0=>simp at hx wC;subst hx;subst wC;exact hd
  |1=>simp at hx wC;subst hx;subst wC;exact he
  |2=>simp at hx wC;subst hx;subst wC;exact hg
  |i+3=>simp at hx
theorem Contract.bHY{P:Program}{G:Nat->Option (IntKind×List Int)}{f:FuncId}{d d' e e' g g' k k':D}{rs:List D}(h:Contract P G f [d',e',g',k'] rs)(hd:zU d d')(he:zU e e')(hg:zU g g')(hk:zU k k'):Contract P G f [d,e,g,k] rs :=
 h.of rfl fun i x x' hx wC=>by
  match i with
  |0=>simp at hx wC;subst hx;subst wC;exact hd
  |1=>simp at hx wC;subst hx;subst wC;exact he
  |2=>simp at hx wC;subst hx;subst wC;exact hg
  |3=>simp at hx wC;subst hx;subst wC;exact hk
  |i+4=>simp at hx
abbrev dC:=List D->Option (Prop×List D)
def lA(P:Program)(G:Nat->Option (IntKind×List Int))(f:FuncId)(o:dC):Prop :=
 ∀ds g rs,o ds=some (g,rs)->g->Contract P G f ds rs/\tD P f
def callsOf(Ga:List (Nat×dC))(f:FuncId)(ds:List D):Option (Prop×List D):=match tlook Ga f with
 |some o=>o ds
 |none=>none
theorem kK{P:Program}{E:Env}(Ga:List (Nat×dC))(hC:E.C=callsOf Ga)(h:∀p∈Ga,lA P E.glob p.1 p.2)
  (hx:∀f vs g rs,E.ext f vs=some (g,rs)->g->(∀v∈rs,v.oneCell'=true)/\∀w,(callFunc f vs.toArray).run P w=.ok (.value (resV rs)) w) (hF:E.ioF=(fun _=>[]):=by rfl):iW P E:=by
 refine⟨fun f ds g rs _ he hg=>?_,fun f p ps ds g rs he=>(by rw[hF]at he;cases he),hx⟩;rw[hC]at he;unfold callsOf at he;split at he
 ·rename_i o ho;exact h _ (tQ ho) ds g rs he hg
 ·cases he
theorem aD{P:Program}{G:Nat->Option (IntKind×List Int)}:∀p∈([]:List (Nat×dC)),lA P G p.1 p.2:=fun _ h=>by cases h
theorem aA{P:Program}{G:Nat->Option (IntKind×List Int)}{f:Nat}{o:dC}{Ga:List (Nat×dC)}(h:lA P G f o)(ht:∀p∈Ga,lA P G p.1 p.2):∀p∈(f,o) :: Ga,lA P G p.1 p.2:=by
 intro p hp;rcases List.mem_cons.1 hp with rfl |hp
 ·exact h
 ·exact ht p hp
def oD(P:Program)(G:Nat->Option (IntKind×List Int))(f:FuncId)(o:dC):Prop :=
 ∀ds g rs,o ds=some (g,rs)->g->(∃Af js,rs=Af ++ js/\mV P G f [0] ds Af js)/\tD P f
def pA(aIV:List (Nat×dC))(r:FuncId->List D->Option (Prop×List D))(f:FuncId)(ds:List D):Option (Prop×List D):=match tlook aIV f with
 |some o=>o ds
 |none=>r f ds
def Jl(aIV:List (Nat×dC))(f:FuncId):List Nat:=match tlook aIV f with
 |some _=>[0]
 |none=>[]
theorem kM{P:Program}{E:Env}(aIV Ga:List (Nat×dC))(hC:E.C=pA aIV (callsOf Ga))(hF:E.ioF=Jl aIV)(hi:∀p∈aIV,oD P E.glob p.1 p.2)(h:∀p∈Ga,lA P E.glob p.1 p.2)
  (hx:∀f vs g rs,E.ext f vs=some (g,rs)->g->(∀v∈rs,v.oneCell'=true)/\∀w,(callFunc f vs.toArray).run P w=.ok (.value (resV rs)) w):iW P E:=by
 refine⟨fun f ds g rs h0 he hg=>?_,fun f p ps ds g rs h0 he hg=>?_,hx⟩
 ·rw[hF]at h0;rw[hC]at he;unfold Jl at h0;unfold pA at he;cases ht:tlook aIV f with
  |some o=>rw[ht]at h0;cases h0
  |none =>
   rw[ht]at he;simp only at he;unfold callsOf at he;split at he
   ·rename_i o ho;exact h _ (tQ ho) ds g rs he hg
   ·cases he
 ·rw[hF]at h0;rw[hC]at he;unfold Jl at h0;unfold pA at he;cases ht:tlook aIV f with
  |none=>rw[ht]at h0;cases h0
  |some o =>
   rw[ht]at h0 he;simp only at h0 he;cases h0;obtain⟨⟨Af,js,h1,h2⟩,h3⟩:=hi _ (tQ ht) ds g rs he hg;exact⟨Af,js,h1,h2,h3⟩
theorem uY{P:Program}{G:Nat->Option (IntKind×List Int)}:∀p∈([]:List (Nat×dC)),oD P G p.1 p.2:=fun _ h=>by cases h
theorem kU{P:Program}{G:Nat->Option (IntKind×List Int)}{f:Nat}{o:dC}{Ga:List (Nat×dC)}(h:oD P G f o)(ht:∀p∈Ga,oD P G p.1 p.2):∀p∈(f,o) :: Ga,oD P G p.1 p.2:=by
 intro p hp;rcases List.mem_cons.1 hp with rfl |hp
 ·exact h
 ·exact ht p hp
theorem mV.bHZ{P:Program}{G:Nat->Option (IntKind×List Int)}{f:FuncId}{d:D}{ds ds' rs js:List D}(h:mV P G f [0] (d :: ds') rs js)(hl:ds.length=ds'.length)
  (hd:∀(i:Nat) (x x':D),ds[i]?=some x->ds'[i]?=some x'->Ap x=false/\Ap x'=false/\zU x x'):mV P G f [0] (d :: ds) rs js:=by
 refine⟨h.len,fun j i hj=>?_,fun Y w vs g hY hG hlen hargs xA=>?_⟩
 ·obtain⟨e,k,ns,off,n,e',k',lC,h1,h2,h3⟩:=h.io j i hj;have hi:i=0:=by
   match j with
   |0=>simp at hj;exact hj.symm
   |j+1=>simp at hj
  subst hi;exact⟨e,k,ns,off,n,e',k',lC,by simpa using h1,h2,h3⟩
 ·refine h.run Y w vs g hY hG (by simp at hlen ⊢;omega) (fun i x' v hi hv=>?_) xA
  match i with
  |0=>exact hargs 0 x' v (by simpa using hi) hv
  |i+1 =>
   have hi:ds'[i]?=some x':=by simpa using hi
   obtain⟨x,hx⟩:=aY (l:=ds) (i:=i) (by have:=aR hi;omega);obtain⟨h1,h2,h3⟩:=hd i x x' hx hi;exact Ib h2 (h3 Y w v (Wu h1 (hargs (i+1) x v (by simpa using hx) hv)))
def Yt(P:Program)(ext:FuncId->List Value->Option (Prop×List Value)):Prop:=∀f vs g rs,ext f vs=some (g,rs)->g->(∀v∈rs,v.oneCell'=true)/\∀w,(callFunc f vs.toArray).run P w=.ok (.value (resV rs)) w
end AI
namespace AI
open Go Go.RowKit
section
variable {R:Type} (E:Env) (J L:Nat->List KV->Option R)
def evalJ:Code->St->(Ex->St->Option R)->Option R
 | .skip,st,K=>K .normal st
 | .label _,st,K=>K .normal st
 | .region _ ops draw,st,K=>opsK E draw ops st.n ops.toList 0 [] st fun eN=>K .normal ⟨eN.fr,eN.hp,st.n+8*ops.size⟩
 | .seq a b,st,K=>evalJ a st fun ex eN=>match ex with
  | .normal=>match E.cut (keyOf b)with
   |some keep=>J (keyOf b) (canon E.n0 keep eN)
   |none=>evalJ b eN K
  | .exit i=>K (.exit i) eN
  | .ret=>K .ret eN
 | .cond c a b,st,K=>match c with
  | .tmp s=>match st.fr s with
   | .v (.one (.s (.sc (.bool t))))=>aB t (evalJ a ⟨xU st.fr s (yN (.bool true)),st.hp,st.n⟩ K) (evalJ b ⟨xU st.fr s (yN (.bool false)),st.hp,st.n⟩ K)
   |_=>none
  | .const (.bool t)=>aB t (evalJ a st K) (evalJ b st K)
  |_=>none
 | .block id c,st,K=>evalJ c st fun ex eN=>match ex with
  | .normal=>K .normal eN
  | .exit i=>bif bNC i id then K .normal eN else K (.exit i) eN
  | .ret=>K .ret eN
 | .exit id,st,K=>K (.exit id) st
 | .ret,st,K=>K .ret st
 | .loop c,st,_=>L (keyOf c) (canon E.n0 (E.keep (keyOf c)) st)
 | .scope c,st,K=>evalJ c st K
 |_,_,_=>none
def Wp(b:Code)(K:Ex->St->Option R)(ex:Ex)(eN:St):Option R:=match ex with
 | .normal=>match E.cut (keyOf b)with
  |some keep=>J (keyOf b) (canon E.n0 keep eN)
  |none=>evalJ E J L b eN K
 | .exit i=>K (.exit i) eN
 | .ret=>K .ret eN
def Ms(c:Code)(K:Ex->St->Option R)(ex:Ex)(eN:St):Option R:=match ex with
 | .normal=>L (keyOf c) (canon E.n0 (E.keep (keyOf c)) eN)
 | .exit i=>K (.exit i) eN
 | .ret=>K .ret eN
def findLoopJ(key:Nat):Code->(Ex->St->Option R)->Option (Code×(Ex->St->Option R))
 | .seq a b,K=>(findLoopJ key a (Wp E J L b K)).or (findLoopJ key b K)
 | .cond _ a b,K=>(findLoopJ key a K).or (findLoopJ key b K)
 | .block id c,K=>findLoopJ key c (Hx id K)
 | .loop c,K=>bif bNC (keyOf c) key then some (c,K)else findLoopJ key c (Ms E L c K)
 | .scope c,K=>findLoopJ key c K
 |_,_=>none
def jM(key:Nat):Code->(Ex->St->Option R)->Option (Code×(Ex->St->Option R))
 | .seq a b,K=>bif bNC (keyOf b) key then some (b,K)else(jM key a (Wp E J L b K)).or (jM key b K)
 | .cond _ a b,K=>(jM key a K).or (jM key b K)
 | .block id c,K=>jM key c (Hx id K)
 | .loop c,K=>jM key c (Ms E L c K)
 | .scope c,K=>jM key c K
 |_,_=>none
end
def loopKeys:Code->List Nat
 | .seq a b=>loopKeys a ++ loopKeys b
 | .cond _ a b=>loopKeys a ++ loopKeys b
 | .block _ c=>loopKeys c
 | .loop c=>keyOf c :: loopKeys c
 | .scope c=>loopKeys c
 |_=>[]
def fA(E:Env):Code->List Nat
 | .seq a b=>(match E.cut (keyOf b)with |some _=>[keyOf b] |none=>[]) ++ (fA E a ++ fA E b)
 | .cond _ a b=>fA E a ++ fA E b
 | .block _ c=>fA E c
 | .loop c=>fA E c
 | .scope c=>fA E c
 |_=>[]
theorem nodup_iff:∀{xs:List Nat},nodup xs=true↔xs.Nodup
 | []=>by simp[nodup]
 |x :: xs=>by
  have ih:=nodup_iff (xs:=xs);simp only[nodup,bNH,bOJ,bRO,ih];constructor
  ·rintro ⟨h1,h2⟩;refine⟨fun hm=>?_,h2⟩;have:xs.elem x=true:=List.elem_eq_true_of_mem hm;rw[this]at h1;cases h1
  ·rintro ⟨h1,h2⟩;refine⟨?_,h2⟩;cases hb:xs.elem x with
   |false=>rfl
   |true=>exact(h1 (List.mem_of_elem_eq_true hb)).elim
section
variable {R:Type} (E:Env)
theorem oY(key:Nat):∀(c:Code) (K:Ex->St->Option R),(findLoop E key c K).isSome=true↔key∈loopKeys c:=by
 intro c
 induction c with
 |seq a b wZ wY =>
  intro K;simp only[findLoop,loopKeys,bOD,bTE,bOK,wZ,wY]
 |cond cd a b wZ wY =>
  intro K;simp only[findLoop,loopKeys,bOD,bTE,bOK,wZ,wY]
 |block id c ih=>intro K;simp only[findLoop,loopKeys,ih]
 |scope c ih=>intro K;simp only[findLoop,loopKeys,ih]
 |loop c ih =>
  intro K;simp only[findLoop,loopKeys,bOH];cases hb:bNC (keyOf c) key with
  |true=>simp[(bNP hb)]
  |false =>
   have:key≠keyOf c:=fun h=>by subst h;rw[bRH]at hb;cases hb
   simp only[cond_false,ih,this,false_or]
 |_=>intro K;simp[findLoop,loopKeys]
theorem rA{key:Nat}:∀{c:Code},key∈fA E c->(E.cut key).isSome=true:=by
 intro c
 induction c with
 |seq a b wZ wY =>
  intro h;simp only[fA,bOD]at h;rcases h with h |h |h
  ·split at h
   ·rename_i keep hk;simp at h;subst h;rw[hk];rfl
   ·cases h
  ·exact wZ h
  ·exact wY h
 |cond cd a b wZ wY =>
  intro h;simp only[fA,bOD]at h;exact h.elim wZ wY
 |block id c ih=>intro h;exact ih h
 |scope c ih=>intro h;exact ih h
 |loop c ih=>intro h;exact ih h
 |_=>intro h;simp[fA]at h
theorem qZ{key:Nat}(hk:(E.cut key).isSome=true):∀(c:Code) (K:Ex->St->Option R),(dZ E key c K).isSome=true↔key∈fA E c:=by
 intro c
 induction c with
 |seq a b wZ wY =>
  intro K;simp only[dZ,fA,bOD];cases hb:bNC (keyOf b) key with
  |true =>
   have:=bNP hb;subst this;cases hc:E.cut (keyOf b)with
   |none=>rw[hc]at hk;cases hk
   |some x=>simp
  |false =>
   have hn:key≠keyOf b:=fun h=>by subst h;rw[bRH]at hb;cases hb
   simp only[cond_false,bTE,bOK,wZ,wY];constructor
   ·intro h;exact .inr h
   ·rintro (h |h)
    ·split at h
     ·simp at h;exact(hn h).elim
     ·cases h
    ·exact h
 |cond cd a b wZ wY =>
  intro K;simp only[dZ,fA,bOD,bTE,bOK,wZ,wY]
 |block id c ih=>intro K;simp only[dZ,fA,ih]
 |scope c ih=>intro K;simp only[dZ,fA,ih]
 |loop c ih=>intro K;simp only[dZ,fA,ih]
 |_=>intro K;simp[dZ,fA]
theorem Fk{α:Type}{x y:Option α}(h:x.isSome=true):x.or y=x:=by cases x <;> simp_all
theorem Aj{α:Type}{x y:Option α}(h:¬x.isSome=true):x.or y=y:=by cases x <;> simp_all
structure Sub(c0:Code)(K0:Ex->St->Option R)(c:Code)(K:Ex->St->Option R):Prop where
 lp:∀key,key∈loopKeys c->findLoop E key c0 K0=findLoop E key c K
 ct:∀key,key∈fA E c->dZ E key c0 K0=dZ E key c K
 dl:(loopKeys c).Nodup
 dc:(fA E c).Nodup
variable {E} {c0:Code} {K0:Ex->St->Option R}
theorem Sub.seq1{a b:Code}{K:Ex->St->Option R}(h:Sub E c0 K0 (.seq a b) K):Sub E c0 K0 a (Tj E b K):=by
 have hl:=h.dl;have hc:=h.dc;simp only[loopKeys]at hl;simp only[fA]at hc;refine⟨fun key hk=>?_,fun key hk=>?_,(List.nodup_append.1 hl).1,(List.nodup_append.1 (List.nodup_append.1 hc).2.1).1⟩
 ·rw[h.lp key (by simp only[loopKeys,bOD];exact .inl hk),findLoop];exact Fk ((oY E key a _).2 hk)
 ·rw[h.ct key (by simp only[fA,bOD];exact .inr (.inl hk)),dZ];have hs:=rA E hk;cases hb:bNC (keyOf b) key with
  |true =>
   exfalso;have:=bNP hb;subst this;cases hx:E.cut (keyOf b)with
   |none=>rw[hx]at hs;cases hs
   |some x =>
    rw[hx]at hc;exact(List.nodup_append.1 hc).2.2 (keyOf b) (by simp) (keyOf b) (List.mem_append.2 (.inl hk)) rfl
  |false =>
   simp only[cond_false];exact Fk ((qZ E hs a _).2 hk)
theorem Sub.Tk{a b:Code}{K:Ex->St->Option R}(h:Sub E c0 K0 (.seq a b) K):Sub E c0 K0 b K:=by
 have hl:=h.dl;have hc:=h.dc;simp only[loopKeys]at hl;simp only[fA]at hc;refine⟨fun key hk=>?_,fun key hk=>?_,(List.nodup_append.1 hl).2.1,(List.nodup_append.1 (List.nodup_append.1 hc).2.1).2.1⟩
 ·rw[h.lp key (by simp only[loopKeys,bOD];exact .inr hk),findLoop];refine Aj fun hx=>?_
  exact(List.nodup_append.1 hl).2.2 key ((oY E key a _).1 hx) key hk rfl
 ·rw[h.ct key (by simp only[fA,bOD];exact .inr (.inr hk)),dZ];have hs:=rA E hk;cases hb:bNC (keyOf b) key with
  |true =>
   exfalso;have:=bNP hb;subst this;cases hx:E.cut (keyOf b)with
   |none=>rw[hx]at hs;cases hs
   |some x =>
    rw[hx]at hc;exact(List.nodup_append.1 hc).2.2 (keyOf b) (by simp) (keyOf b) (List.mem_append.2 (.inr hk)) rfl
  |false =>
   simp only[cond_false];refine Aj fun hx=>?_
   exact(List.nodup_append.1 (List.nodup_append.1 hc).2.1).2.2 key ((qZ E hs a _).1 hx) key hk rfl
theorem Sub.Rn{cd:Operand}{a b:Code}{K:Ex->St->Option R}(h:Sub E c0 K0 (.cond cd a b) K):Sub E c0 K0 a K:=by
 have hl:=h.dl;have hc:=h.dc;simp only[loopKeys]at hl;simp only[fA]at hc;refine⟨fun key hk=>?_,fun key hk=>?_,(List.nodup_append.1 hl).1,(List.nodup_append.1 hc).1⟩
 ·rw[h.lp key (by simp only[loopKeys,bOD];exact .inl hk),findLoop];exact Fk ((oY E key a _).2 hk)
 ·rw[h.ct key (by simp only[fA,bOD];exact .inl hk),dZ];exact Fk ((qZ E (rA E hk) a _).2 hk)
theorem Sub.Rm{cd:Operand}{a b:Code}{K:Ex->St->Option R}(h:Sub E c0 K0 (.cond cd a b) K):Sub E c0 K0 b K:=by
 have hl:=h.dl;have hc:=h.dc;simp only[loopKeys]at hl;simp only[fA]at hc;refine⟨fun key hk=>?_,fun key hk=>?_,(List.nodup_append.1 hl).2.1,(List.nodup_append.1 hc).2.1⟩
 ·rw[h.lp key (by simp only[loopKeys,bOD];exact .inr hk),findLoop];refine Aj fun hx=>?_
  exact(List.nodup_append.1 hl).2.2 key ((oY E key a _).1 hx) key hk rfl
 ·rw[h.ct key (by simp only[fA,bOD];exact .inr hk),dZ];refine Aj fun hx=>?_
  exact(List.nodup_append.1 hc).2.2 key ((qZ E (rA E hk) a _).1 hx) key hk rfl
theorem Sub.block{id:Nat}{c:Code}{K:Ex->St->Option R}(h:Sub E c0 K0 (.block id c) K):Sub E c0 K0 c (Hx id K) :=
 ⟨fun key hk=>h.lp key hk,fun key hk=>h.ct key hk,h.dl,h.dc⟩
theorem Sub.scope{c:Code}{K:Ex->St->Option R}(h:Sub E c0 K0 (.scope c) K):Sub E c0 K0 c K :=
 ⟨fun key hk=>h.lp key hk,fun key hk=>h.ct key hk,h.dl,h.dc⟩
theorem Sub.loop{c:Code}{K:Ex->St->Option R}(h:Sub E c0 K0 (.loop c) K):Sub E c0 K0 c (Ku E c K):=by
 have hl:=h.dl;simp only[loopKeys,bRO]at hl;refine⟨fun key hk=>?_,fun key hk=>h.ct key hk,hl.2,h.dc⟩;rw[h.lp key (by simp only[loopKeys,bOH];exact .inr hk),findLoop];cases hb:bNC (keyOf c) key with
 |true=>have:=bNP hb;subst this;exact(hl.1 hk).elim
 |false=>rfl
def Gx(E:Env)(c0:Code)(K0:Ex->St->Option R)(key:Nat)(l:List KV):Option R :=
 match findLoop E key c0 K0 with
 |some (b,K)=>fix (roundOf (evalCode E) E.n0 (E.keep key) b K) l
 |none=>none
def Jy(E:Env)(c0:Code)(K0:Ex->St->Option R)(key:Nat)(l:List KV):Option R :=
 match dZ E key c0 K0,E.cut key with
 |some (b,K),some keep=>yF key l fun l=>evalCode E b (mk E.n0 keep l) K
 |_,_=>none
theorem Sub.aDU{c:Code}{K:Ex->St->Option R}(h:Sub E c0 K0 (.loop c) K)(l:List KV):Gx E c0 K0 (keyOf c) l=fix (roundOf (evalCode E) E.n0 (E.keep (keyOf c)) c K) l:=by
 unfold Gx;rw[h.lp (keyOf c) (by simp[loopKeys]),findLoop,bRH];rfl
theorem Sub.aGG{a b:Code}{K:Ex->St->Option R}(h:Sub E c0 K0 (.seq a b) K){keep:List Nat}(hk:E.cut (keyOf b)=some keep)(l:List KV):Jy E c0 K0 (keyOf b) l=evalCode E b (AI.mk E.n0 keep l) K:=by
 unfold Jy;rw[h.ct (keyOf b) (by simp[fA,hk]),dZ,bRH,hk];rfl
theorem Av(hr:∀k,E.roll k=none):∀(c:Code) (K:Ex->St->Option R),Sub E c0 K0 c K->∀st,evalJ E (Jy E c0 K0) (Gx E c0 K0) c st K=evalCode E c st K:=by
 intro c
 induction c with
 |seq a b wZ wY =>
  intro K h st;simp only[evalJ];have e:(fun(ex:Ex) (eN:St)=>match ex with
   | .normal=>match E.cut (keyOf b)with
    |some keep=>Jy E c0 K0 (keyOf b) (canon E.n0 keep eN)
    |none=>evalJ E (Jy E c0 K0) (Gx E c0 K0) b eN K
   | .exit i=>K (.exit i) eN
   | .ret=>K .ret eN)=Tj E b K:=by
   funext ex eN;unfold Tj;cases ex with
   |normal =>
    cases hk:E.cut (keyOf b)with
    |some keep=>simp only[];rw[h.aGG hk];rfl
    |none=>simp only[];exact wY K h.Tk eN
   |exit i=>rfl
   |ret=>rfl
  rw[e,wZ _ h.seq1 st];rfl
 |cond cd a b wZ wY =>
  intro K h st;simp only[evalJ,evalCode];have ha:=wZ K h.Rn;have hb:=wY K h.Rm;simp only[ha,hb];rfl
 |block id c ih =>
  intro K h st;exact ih _ h.block st
 |loop c ih =>
  intro K h st;simp only[evalJ,evalCode,hr];rw[h.aDU]
 |region id ops draw=>intro K h st;rfl
 |skip=>intro K h st;rfl
 |label l=>intro K h st;rfl
 |exit i=>intro K h st;rfl
 |ret=>intro K h st;rfl
 |rangeFunc f ps x y _ _=>intro K h st;rfl
 |scope c ih=>intro K h st;exact ih _ h.scope st
 |goto l=>intro K h st;rfl
 |refuse bDR=>intro K h st;rfl
theorem Pt(hr:∀k,E.roll k=none){a b:Code}{K:Ex->St->Option R}(h:Sub E c0 K0 (.seq a b) K):Wp E (Jy E c0 K0) (Gx E c0 K0) b K=Tj E b K:=by
 funext ex eN;unfold Wp Tj;cases ex with
 |normal =>
  cases hk:E.cut (keyOf b)with
  |some keep=>simp only[];rw[h.aGG hk];rfl
  |none=>simp only[];exact Av hr b K h.Tk eN
 |exit i=>rfl
 |ret=>rfl
theorem Cp{c:Code}{K:Ex->St->Option R}(h:Sub E c0 K0 (.loop c) K):Ms E (Gx E c0 K0) c K=Ku E c K:=by
 funext ex eN;unfold Ms Ku;cases ex with
 |normal=>exact h.aDU _
 |exit i=>rfl
 |ret=>rfl
theorem Nj(hr:∀k,E.roll k=none)(key:Nat):∀(c:Code) (K:Ex->St->Option R),Sub E c0 K0 c K->findLoopJ E (Jy E c0 K0) (Gx E c0 K0) key c K=findLoop E key c K:=by
 intro c
 induction c with
 |seq a b wZ wY =>
  intro K h;rw[findLoopJ,findLoop,Pt hr h,wZ _ h.seq1,wY _ h.Tk]
 |cond cd a b wZ wY =>
  intro K h;rw[findLoopJ,findLoop,wZ _ h.Rn,wY _ h.Rm]
 |block id c ih=>intro K h;rw[findLoopJ,findLoop,ih _ h.block]
 |scope c ih=>intro K h;rw[findLoopJ,findLoop,ih _ h.scope]
 |loop c ih=>intro K h;rw[findLoopJ,findLoop,Cp h,ih _ h.loop]
 |_=>intro K h;rfl
theorem Rb(hr:∀k,E.roll k=none)(key:Nat):∀(c:Code) (K:Ex->St->Option R),Sub E c0 K0 c K->jM E (Jy E c0 K0) (Gx E c0 K0) key c K=dZ E key c K:=by
 intro c
 induction c with
 |seq a b wZ wY =>
  intro K h;rw[jM,dZ,Pt hr h,wZ _ h.seq1,wY _ h.Tk]
 |cond cd a b wZ wY =>
  intro K h;rw[jM,dZ,wZ _ h.Rn,wY _ h.Rm]
 |block id c ih=>intro K h;rw[jM,dZ,ih _ h.block]
 |scope c ih=>intro K h;rw[jM,dZ,ih _ h.scope]
 |loop c ih=>intro K h;rw[jM,dZ,Cp h,ih _ h.loop]
 |_=>intro K h;rfl
theorem Sub.aQG:∀(c:Code) (K:Ex->St->Option R),Sub E c0 K0 c K->∀{key:Nat} {b:Code} {K':Ex->St->Option R},findLoop E key c K=some (b,K')->key=keyOf b/\Sub E c0 K0 (.loop b) K':=by
 intro c
 induction c with
 |seq a b wZ wY =>
  intro K h key b' K' hf;rw[findLoop]at hf;rcases Option.or_eq_some_iff.1 hf with hf |⟨_,hf⟩
  ·exact wZ _ h.seq1 hf
  ·exact wY _ h.Tk hf
 |cond cd a b wZ wY =>
  intro K h key b' K' hf;rw[findLoop]at hf;rcases Option.or_eq_some_iff.1 hf with hf |⟨_,hf⟩
  ·exact wZ _ h.Rn hf
  ·exact wY _ h.Rm hf
 |block id c ih=>intro K h key b' K' hf;exact ih _ h.block hf
 |scope c ih=>intro K h key b' K' hf;exact ih _ h.scope hf
 |loop c ih =>
  intro K h key b' K' hf;rw[findLoop]at hf;cases hb:bNC (keyOf c) key with
  |true =>
   rw[hb]at hf;cases hf;exact⟨(bNP hb).symm,h⟩
  |false=>rw[hb]at hf;exact ih _ h.loop hf
 |_=>intro K h key b' K' hf;simp[findLoop]at hf
theorem Sub.aWI:∀(c:Code) (K:Ex->St->Option R),Sub E c0 K0 c K->∀{key:Nat} {b:Code} {K':Ex->St->Option R},dZ E key c K=some (b,K')->Sub E c0 K0 b K':=by
 intro c
 induction c with
 |seq a b wZ wY =>
  intro K h key b' K' hf;rw[dZ]at hf;cases hb:bNC (keyOf b) key with
  |true=>rw[hb]at hf;cases hf;exact h.Tk
  |false =>
   rw[hb]at hf;rcases Option.or_eq_some_iff.1 hf with hf |⟨_,hf⟩
   ·exact wZ _ h.seq1 hf
   ·exact wY _ h.Tk hf
 |cond cd a b wZ wY =>
  intro K h key b' K' hf;rw[dZ]at hf;rcases Option.or_eq_some_iff.1 hf with hf |⟨_,hf⟩
  ·exact wZ _ h.Rn hf
  ·exact wY _ h.Rm hf
 |block id c ih=>intro K h key b' K' hf;exact ih _ h.block hf
 |scope c ih=>intro K h key b' K' hf;exact ih _ h.scope hf
 |loop c ih=>intro K h key b' K' hf;exact ih _ h.loop hf
 |_=>intro K h key b' K' hf;simp[dZ]at hf
end
def uW(E:Env)(c:Code):Bool:=nodup (loopKeys c)&&nodup (fA E c)
theorem sub_self{E:Env}{c:Code}{K:Ex->St->Option (List D)}(h:uW E c=true):Sub E c K c K:=by
 unfold uW at h;rw[bNH,nodup_iff,nodup_iff]at h;exact⟨fun _ _=>rfl,fun _ _=>rfl,h.1,h.2⟩
section
variable (E:Env) (fn:Func) (c:Code)
def aCL(J L:Nat->List KV->Option (List D))(ds:List D):Option (List D) :=
 evalJ E J L c ⟨Rw ds,argHp 0 ds,E.n0⟩ (oP E fn)
def Tm(J L:Nat->List KV->Option (List D))(key:Nat)(l:List KV):Option (List D) :=
 match findLoopJ E J L key c (oP E fn)with
 |some (b,K)=>evalJ E J L b (mk E.n0 (E.keep key) l) fun ex eN=>match ex with
  | .normal=>L key (canon E.n0 (E.keep key) eN)
  | .exit i=>K (.exit i) eN
  | .ret=>K .ret eN
 |none=>none
def aPW(J L:Nat->List KV->Option (List D))(key:Nat)(l:List KV):Option (List D) :=
 match jM E J L key c (oP E fn),E.cut key with
 |some (b,K),some keep=>evalJ E J L b (mk E.n0 keep l) K
 |_,_=>none
end
variable {E:Env} {fn:Func} {c:Code}
theorem Hs:cutAt E fn c=Jy E c (oP E fn):=by
 funext key l;unfold cutAt Jy;cases dZ E key c (oP E fn) <;> cases E.cut key <;> rfl
theorem Cq:Cr E fn c=Gx E c (oP E fn):=by
 funext key l;unfold Cr Gx;cases findLoop E key c (oP E fn) <;> rfl
theorem aGH(E:Env)(fn:Func)(c:Code):∃f:Nat->List KV->Option (List D),f=cutAt E fn c:=⟨_,rfl⟩
def lD(E:Env)(fn:Func)(c:Code):Nat->List KV->Option (List D):=Classical.choose (aGH E fn c)
theorem Us:lD E fn c=cutAt E fn c:=Classical.choose_spec (aGH E fn c)
theorem aDV(E:Env)(fn:Func)(c:Code):∃f:Nat->List KV->Option (List D),f=Cr E fn c:=⟨_,rfl⟩
def nU(E:Env)(fn:Func)(c:Code):Nat->List KV->Option (List D):=Classical.choose (aDV E fn c)
theorem Tz:nU E fn c=Cr E fn c:=Classical.choose_spec (aDV E fn c)
theorem aFM(hr:E.roll=fun _=>none)(h:uW E c=true)(ds:List D):aF E fn c ds=aCL E fn c (lD E fn c) (nU E fn c) ds:=by
 rw[Us,Tz,Hs,Cq];exact(Av (c0:=c) (K0:=oP E fn) (fun k=>by rw[hr]) c (oP E fn) (sub_self h) _).symm
theorem aDW(hr:E.roll=fun _=>none)(h:uW E c=true)(key:Nat)(l:List KV):nU E fn c key l=Tm E fn c (lD E fn c) (nU E fn c) key l:=by
 rw[Us,Tz,Zj,Hs,Cq];unfold Mi Tm;have hs:=sub_self (K:=oP E fn) h;have e:=Nj (c0:=c) (K0:=oP E fn) (fun k=>by rw[hr]) key c (oP E fn) hs;rw[e];cases hf:findLoop E key c (oP E fn)with
 |none=>rfl
 |some p =>
  obtain⟨b,K⟩:=p;simp only[];obtain⟨rfl,hb⟩:=Sub.aQG c (oP E fn) hs hf;have e2:(fun(ex:Ex) (eN:St)=>match ex with
   | .normal=>Gx E c (oP E fn) (keyOf b) (canon E.n0 (E.keep (keyOf b)) eN)
   | .exit i=>K (.exit i) eN
   | .ret=>K .ret eN)=Ku E b K:=Cp hb
  rw[e2];exact(Av (c0:=c) (K0:=oP E fn) (fun k=>by rw[hr]) b _ hb.loop _).symm
theorem aKU(hr:E.roll=fun _=>none)(h:uW E c=true)(key:Nat)(l:List KV):lD E fn c key l=aPW E fn c (lD E fn c) (nU E fn c) key l:=by
 rw[Us,Tz,aGF,Hs,Cq];unfold Nx aPW;have hs:=sub_self (K:=oP E fn) h;have e:=Rb (c0:=c) (K0:=oP E fn) (fun k=>by rw[hr]) key c (oP E fn) hs;rw[e];cases hf:dZ E key c (oP E fn)with
 |none=>rfl
 |some p =>
  obtain⟨b,K⟩:=p;cases hc:E.cut key with
  |none=>rfl
  |some keep=>exact(Av (c0:=c) (K0:=oP E fn) (fun k=>by rw[hr]) b _ (Sub.aWI c _ hs hf) _).symm
def Nk(E:Env)(c:Code):Prop:=(E.roll=fun _=>none)/\uW E c=true
theorem nk{E:Env}{c:Code}(h:uW E c=true:=by kernel_rfl)(hr:E.roll=fun _=>none:=by rfl):Nk E c:=⟨hr,h⟩
section
variable {E:Env} {fn:Func} {c:Code} {key:Nat} {l:List KV} {ds:List D} {r:Option (List D)} (h:Nk E c)
include h
theorem eJ(e:aCL E fn c (lD E fn c) (nU E fn c) ds=r:=by kernel_rfl):aF E fn c ds=r:=(aFM h.1 h.2 ds).trans e
theorem lJ(e:Tm E fn c (lD E fn c) (nU E fn c) key l=r:=by kernel_rfl):nU E fn c key l=r:=(aDW h.1 h.2 key l).trans e
theorem cJ(e:aPW E fn c (lD E fn c) (nU E fn c) key l=r:=by kernel_rfl):lD E fn c key l=r:=(aKU h.1 h.2 key l).trans e
end
end AI
namespace AI
open Go Go.RowKit
structure kR(α:Type) where
 put:α->D
 get:D->Option α
 le:∀{d x},get d=some x->zU d (put x)
def pI(k:IntKind):kR (List Int):=⟨fun a=>.s (.ints k a),dI k,aWB⟩
def pN(k:IntKind):kR Int:=⟨fun n=>.s (.sc (.int k n)),dN k,aVZ⟩
def dIO(e:TypeId)(k:IntKind):D->Option (List Int×Nat×Nat)
 | .io e' k' ns off n=>if _h:e=e'/\k=k' then some (ns,off,n)else none
 |_=>none
theorem Nw{e:TypeId}{k:IntKind}{d:D}{x:List Int×Nat×Nat}(h:dIO e k d=some x):d=.io e k x.1 x.2.1 x.2.2:=by
 unfold dIO at h;split at h
 ·split at h
  ·rename_i hk;obtain⟨rfl,rfl⟩:=hk;cases h;rfl
  ·cases h
 ·cases h
def Ai(e:TypeId)(k:IntKind):kR (List Int×Nat×Nat):=⟨fun x=>.io e k x.1 x.2.1 x.2.2,dIO e k,fun h=>by rw[Nw h];exact zU.refl _⟩
def pB:kR Bool:=⟨fun b=>.s (.sc (.bool b)),dB,aWD⟩
def dF(k:FloatKind):D->Option Nat
 | .s (.sc (.float k' b))=>if _h:k=k' then some b else none
 |_=>none
theorem aWC{k:FloatKind}{d:D}{n:Nat}(h:dF k d=some n):zU d (.s (.sc (.float k n))):=by
 unfold dF at h;split at h
 ·split at h
  ·rename_i hk;cases h;subst hk;exact zU.refl _
  ·cases h
 ·cases h
def pF(k:FloatKind):kR Nat:=⟨fun b=>.s (.sc (.float k b)),dF k,aWC⟩
class aAX{α:Type}(p:kR α):Prop where
 no:∀{d x},p.get d=some x->Ap d=false/\Ap (p.put x)=false
instance {k:IntKind}:aAX (pI k):=⟨fun {d x} h=>⟨by cases d <;> first |rfl | (simp[pI,dI]at h),rfl⟩⟩
instance {k:IntKind}:aAX (pN k):=⟨fun {d x} h=>⟨by cases d <;> first |rfl | (simp[pN,dN]at h),rfl⟩⟩
instance:aAX pB:=⟨fun {d x} h=>⟨by cases d <;> first |rfl | (simp[pB,dB]at h),rfl⟩⟩
structure SPar(α:Type) where
 n:Nat
 put:α->List S
 get:List S->Option α
 le:∀{d x},get d=some x->d.length=n/\(put x).length=n/\∀(i:Nat) (s s':S),d[i]?=some s->(put x)[i]?=some s'->∀X w v,nC X w s v->nC X w s' v
def aYK{α:Type}(p:kR α)(put:α->S)(h:∀x,p.put x=.s (put x)):SPar α where
 n:=1
 put x:=[put x]
 get
  | [s]=>p.get (.s s)
  |_=>none
 le:=by
  intro d x hd
  match d,hd with
  | [s],hd =>
   refine⟨rfl,rfl,fun i s1 s2 h1 h2=>?_⟩
   match i with
   |0 =>
    simp at h1 h2;subst h1;subst h2;intro X w v hr;have:=p.le hd X w v hr;rw[h]at this;exact this
   |i+1=>simp at h1
def sI(k:IntKind):SPar (List Int):=aYK (pI k) (fun a=>.ints k a) fun _=>rfl
def sN(k:IntKind):SPar Int:=aYK (pN k) (fun n=>.sc (.int k n)) fun _=>rfl
def sB:SPar Bool:=aYK pB (fun b=>.sc (.bool b)) fun _=>rfl
def SPar.pair{α β:Type}(p:SPar α)(q:SPar β):SPar (α×β) where
 n:=p.n+q.n
 put x:=p.put x.1 ++ q.put x.2
 get d:=match p.get (d.take p.n),q.get (d.drop p.n)with
  |some a,some b=>some (a,b)
  |_,_=>none
 le:=by
  intro d x h;split at h
  ·rename_i a b ha hb;cases h;obtain⟨a1,a2,a3⟩:=p.le ha;obtain⟨b1,b2,b3⟩:=q.le hb;simp only[bPR,bRA]at a1 b1;have bDB:(p.put (a,b).fst).length=p.n:=a2;refine⟨by omega,by simp[a2,b2],fun i s s' h1 h2=>?_⟩
   by_cases hi:i<p.n
   ·rw[List.getElem?_append_left (by rw[bDB];exact hi)]at h2;exact a3 i s s' (by rw[bNG hi];exact h1) h2
   ·rw[List.getElem?_append_right (by rw[bDB];omega),bDB]at h2;exact b3 (i-p.n) s s' (by rw[bNN,show p.n+(i-p.n)=i from by omega];exact h1) h2
  ·cases h
def pG{α:Type}(p:SPar α):kR α where
 put x:=.agg (p.put x)
 get
  | .agg cs=>p.get cs
  |_=>none
 le:=by
  intro d x h
  match d,h with
  | .agg cs,h =>
   obtain⟨h1,h2,h3⟩:=p.le h;rintro Y w v ⟨arr,rfl,hl,hr⟩;refine⟨arr,rfl,by omega,fun i s u hs hu=>?_⟩;obtain⟨s0,Jd⟩:=aY (l:=cs) (i:=i) (by have:=aR hs;omega);exact h3 i s0 s Jd hs Y w u (hr i s0 u Jd hu)
def vZ(d d':D):Prop:=(d'=d)\/(iY d'=false/\((∃e k ns,d=.own e k ns/\d'=.s (.ints k ns))\/(iY d=false/\zU d d')))
theorem vZ.refl(d:D):vZ d d:=.inl rfl
theorem vZ.own(e:TypeId)(k:IntKind)(ns:List Int):vZ (.own e k ns) (.s (.ints k ns)):=.inr ⟨rfl,.inl ⟨e,k,ns,rfl,rfl⟩⟩
theorem vZ.nil(k:IntKind):vZ (.s (.sc (.slice none 0 0))) (.s (.ints k [])) :=
 .inr ⟨rfl,.inr ⟨rfl,fun Y w v h=>by obtain⟨rfl,_⟩:=h;exact⟨none,0,rfl,bNB _,fun i n hn=>by simp at hn⟩⟩⟩
def yQ(s s':S):Prop:=∀X w v,nC X w s v->nC X w s' v
theorem yQ.refl(s:S):yQ s s:=fun _ _ _ h=>h
theorem yQ.nil(k:IntKind):yQ (.sc (.slice none 0 0)) (.ints k []):=fun X w v h=>by
 obtain⟨rfl,_⟩:=h;exact⟨none,0,rfl,bNB _,fun i n hn=>by simp at hn⟩
inductive uK:List S->List S->Prop where
 |nil:uK [] []
 |cons {s s':S} {l l':List S}:yQ s s'->uK l l'->uK (s :: l) (s' :: l')
theorem uK.refl:∀l,uK l l
 | []=>.nil
 |s :: l=>.cons (yQ.refl s) (uK.refl l)
theorem uK.len{l l':List S}(h:uK l l'):l.length=l'.length:=by induction h with |nil=>rfl |cons _ _ ih=>simp[ih]
theorem uK.at{l l':List S}(h:uK l l'):∀{i:Nat} {s s':S},l[i]?=some s->l'[i]?=some s'->yQ s s':=by
 induction h with
 |nil=>intro i s s' h;simp at h
 |cons hs _ ih =>
  intro i s s' h1 h2;cases i with
  |zero=>simp at h1 h2;subst h1;subst h2;exact hs
  |succ i=>simp at h1 h2;exact ih h1 h2
theorem vZ.agg{l l':List S}(h:uK l l'):vZ (.agg l) (.agg l') :=
 .inr ⟨rfl,.inr ⟨rfl,fun Y w v hv=>by
  obtain⟨arr,rfl,hl,hr⟩:=hv;refine⟨arr,rfl,by rw[<-h.len];exact hl,fun i s u hs hu=>?_⟩;obtain⟨s0,Jd⟩:=aY (l:=l) (i:=i) (by have:=aR hs;rw[h.len];exact this);exact h.at Jd hs Y w u (hr i s0 u Jd hu)⟩⟩
inductive fX:List D->List D->Prop where
 |nil:fX [] []
 |cons {s s':D} {l l':List D}:vZ s s'->fX l l'->fX (s :: l) (s' :: l')
theorem fX.refl:∀l,fX l l
 | []=>.nil
 |s :: l=>.cons (vZ.refl s) (fX.refl l)
theorem fX.len{l l':List D}(h:fX l l'):l.length=l'.length:=by induction h with |nil=>rfl |cons _ _ ih=>simp[ih]
theorem fX.at{l l':List D}(h:fX l l'):∀{i:Nat} {s s':D},l[i]?=some s->l'[i]?=some s'->vZ s s':=by
 induction h with
 |nil=>intro i s s' h;simp at h
 |cons hs _ ih =>
  intro i s s' h1 h2;cases i with
  |zero=>simp at h1 h2;subst h1;subst h2;exact hs
  |succ i=>simp at h1 h2;exact ih h1 h2
theorem Contract.less{P:Program}{G:Nat->Option (IntKind×List Int)}{f:FuncId}{ds rs aJC:List D}(h:Contract P G f ds rs)(hr:fX rs aJC):Contract P G f ds aJC:=by
 intro Y w vs hY hG hlen hargs;refine(h Y w vs hY hG hlen hargs).mono ?_;rintro e w' ⟨vL,he,hb,g,hl,xA,Ue⟩;have pZ:∀{i:Nat} {d d':D},rs[i]?=some d->aJC[i]?=some d'->iY d'=true->d'=d:=by
  intro i d d' h1 h2 ho;rcases hr.at h1 h2 with h3 |⟨h3,_⟩
  ·exact h3
  ·rw[h3]at ho;cases ho
 have rZ:∀{i:Nat} {d':D},aJC[i]?=some d'->∃d,rs[i]?=some d:=fun {i d'} h=>aY (l:=rs) (i:=i) (by have:=aR h;rw[hr.len];exact this)
 have aOO:∀b,(Y b\/∃(j:Nat) (d':D),aJC[j]?=some d'/\iY d'=true/\g j=b)->(Y b\/∃(j:Nat) (d':D),rs[j]?=some d'/\iY d'=true/\g j=b):=by
  rintro b (hb |⟨j,d',h1,h2,h3⟩)
  ·exact .inl hb
  ·obtain⟨d,hd⟩:=rZ h1;have:=pZ hd h1 h2;subst this;exact .inr ⟨j,d',hd,h2,h3⟩
 refine⟨vL,he,hb,g,by rw[<-hr.len];exact hl,?_,?_⟩
 ·intro i j d d' h1 h2 h3 h4 h5;obtain⟨e1,Zw⟩:=rZ h1;obtain⟨e2,aMS⟩:=rZ h2;have q1:=pZ Zw h1 h3;have q2:=pZ aMS h2 h4;subst q1;subst q2;exact xA i j _ _ Zw aMS h3 h4 h5
 ·intro i d' v h1 hv;obtain⟨d,hd⟩:=rZ h1;have aXQ:=Ue i d v hd hv;have aOX:∀(X:Nat->Prop),(∀b,X b->(Y b\/∃(j:Nat) (d':D),rs[j]?=some d'/\iY d'=true/\g j=b))->gB (fun b=>Y b\/∃(j:Nat) (d':D),rs[j]?=some d'/\iY d'=true/\g j=b) w' X w' :=
   fun X hX=>⟨bNB _,fun b _ hn=>⟨rfl,fun hx=>hn (hX b hx)⟩⟩
  have bFA:∀{x:D},iY x=false->lL (fun b=>Y b\/∃(j:Nat) (d':D),rs[j]?=some d'/\iY d'=true/\g j=b) w' x v->lL (fun b=>Y b\/∃(j:Nat) (d':D),aJC[j]?=some d'/\iY d'=true/\g j=b) w' x v :=
   fun _ hx=>hx.later (aOX _ aOO)
  have aUG:∀{x:D},iY x=false->(match x with
   | .own e k ns=>Lp w.heap.size w' (g i) e k ns v
   |d=>lL (fun b=>Y b\/∃(j:Nat) (d':D),rs[j]?=some d'/\iY d'=true/\g j=b) w' d v)->lL (fun b=>Y b\/∃(j:Nat) (d':D),rs[j]?=some d'/\iY d'=true/\g j=b) w' x v:=by
   intro x hx hm;cases x with
   |own e k ns=>cases hx
   |s x=>exact hm
   |rows a b c=>exact hm
   |agg cs=>exact hm
   |io=>exact hm
   |back=>exact hm
  have Xu:∀{x:D},iY x=false->lL (fun b=>Y b\/∃(j:Nat) (d':D),aJC[j]?=some d'/\iY d'=true/\g j=b) w' x v->(match x with
   | .own e k ns=>Lp w.heap.size w' (g i) e k ns v
   |d=>lL (fun b=>Y b\/∃(j:Nat) (d':D),aJC[j]?=some d'/\iY d'=true/\g j=b) w' d v):=by
   intro x hx hm;cases x with
   |own e k ns=>cases hx
   |s x=>exact hm
   |rows a b c=>exact hm
   |agg cs=>exact hm
   |io=>exact hm
   |back=>exact hm
  rcases hr.at hd h1 with rfl |⟨h3,⟨e0,k,ns,rfl,rfl⟩ |⟨h4,h5⟩⟩
  ·cases aMO:iY d' with
   |true =>
    cases d' with
    |own e k ns=>exact aXQ
    |s x=>cases aMO
    |io=>cases aMO
    |back=>cases aMO
    |rows a b c=>cases aMO
    |agg cs=>cases aMO
   |false=>exact Xu aMO (bFA aMO (aUG aMO aXQ))
  ·obtain⟨arr,cap,Zq,hbg,hh,aBI,hn1b,aUK,Qw⟩:=aXQ;refine⟨_,_,Zq,aBI,fun j n hj=>⟨g i,0,rfl,?_,?_,?_⟩⟩
   ·exact(Array.getElem?_eq_some_iff.1 hh).1
   ·rintro (hy |⟨j',d',q1,q2,q3⟩)
    ·have:=hY _ hy;omega
    ·obtain⟨d2,aRN⟩:=rZ q1;have:=pZ aRN q1 q2;subst this;have:=xA j' i _ _ aRN hd q2 rfl q3;subst this;rw[h1]at q1;cases q1;cases q2
   ·rw[cell_of_row w' (g i) _ arr e0 (0,0) hh];simpa using Qw j n hj
  ·exact Xu h3 (h5 _ _ _ (bFA h4 (aUG h4 aXQ)))
def orc0(r:Prop×List D):dC
 | []=>some r
 |_=>none
def orc1{α:Type}(p:kR α)(f:α->Prop×List D):dC
 | [a]=>match p.get a with
  |some x=>some (f x)
  |none=>none
 |_=>none
def orc2{α β:Type}(p:kR α)(q:kR β)(f:α->β->Prop×List D):dC
 | [a,b]=>match p.get a,q.get b with
  |some x,some y=>some (f x y)
  |_,_=>none
 |_=>none
def orc3{α β γ:Type}(p:kR α)(q:kR β)(r:kR γ)(f:α->β->γ->Prop×List D):dC
 | [a,b,c]=>match p.get a,q.get b,r.get c with
  |some x,some y,some z=>some (f x y z)
  |_,_,_=>none
 |_=>none
def orc4{α β γ δ:Type}(p:kR α)(q:kR β)(r:kR γ)(s:kR δ)(f:α->β->γ->δ->Prop×List D):dC
 | [a,b,c,d]=>match p.get a,q.get b,r.get c,s.get d with
  |some x,some y,some z,some u=>some (f x y z u)
  |_,_,_,_=>none
 |_=>none
structure qI(P:Program)(E:Env)(f:FuncId)(fn:Func)(c:Code):Prop where
 ty:mJ P E.T
 calls:iW P E
 mix:P.follows .mixedOrders=true
 fnc:P.funcs[f]?=some fn
 body:fn.body=some c
 nt:E.nt=fn.ntmps
 has:tD P f
 io:E.io=[]
theorem aAE{P:Program}{E:Env}{f:FuncId}{fn:Func}{c:Code}(ty:mJ P E.T)(mix:P.follows .mixedOrders=true)(calls:iW P E)(hf:P.funcs[f]?=some fn)(hb:fn.body=some c)(nt:E.nt=fn.ntmps)(hn:(fn.name== "runtime.NumGoroutine")=false)(io:E.io=[]:=by rfl):qI P E f fn c :=
 ⟨ty,calls,mix,hf,hb,nt,uZ hf hb hn,io⟩
structure kO(P:Program)(E:Env)(f:FuncId)(fn:Func)(c:Code):Prop where
 ty:mJ P E.T
 calls:iW P E
 mix:P.follows .mixedOrders=true
 fnc:P.funcs[f]?=some fn
 body:fn.body=some c
 nt:E.nt=fn.ntmps
 has:tD P f
 io:E.io=[0]
 n0:E.n0=1
theorem tJ{P:Program}{E:Env}{f:FuncId}{fn:Func}{c:Code}(ty:mJ P E.T)(mix:P.follows .mixedOrders=true)(calls:iW P E)(hf:P.funcs[f]?=some fn)(hb:fn.body=some c)(nt:E.nt=fn.ntmps)(hn:(fn.name== "runtime.NumGoroutine")=false)(io:E.io=[0])(n0:E.n0=1):kO P E f fn c :=
 ⟨ty,calls,mix,hf,hb,nt,uZ hf hb hn,io,n0⟩
variable {P:Program} {E:Env} {f:FuncId} {fn:Func} {c:Code}
theorem qI.aRD(h:qI P E f fn c){r:Prop×List D}(hs:r.1->aF E fn c []=some r.2):lA P E.glob f (orc0 r):=by
 intro ds g rs hd hg;unfold orc0 at hd;split at hd
 ·cases hd;exact⟨fn_contract h.ty h.calls h.mix h.fnc h.body h.nt h.io (bTF _) (hs hg),h.has⟩
 ·cases hd
theorem qI.nD{α:Type}(h:qI P E f fn c){p:kR α}{g:α->Prop×List D}(hn:bNE 1 fn.ntmps=true)(hs:∀x,(g x).1->aF E fn c [p.put x]=some (g x).2):lA P E.glob f (orc1 p g):=by
 intro ds q rs hd hg;unfold orc1 at hd;split at hd
 ·split at hd
  ·rename_i x hx;have hd:=Option.some.inj hd;have e1:q=(g x).1:=by rw[hd]
   have e2:rs=(g x).2:=by rw[hd]
   subst e1;subst e2;exact⟨(fn_contract (ds:=[p.put x]) h.ty h.calls h.mix h.fnc h.body h.nt h.io (bOZ hn) (hs x hg)).aYW (p.le hx),h.has⟩
  ·cases hd
 ·cases hd
theorem qI.lP{α β:Type}(h:qI P E f fn c){p:kR α}{p':kR β}{g:α->β->Prop×List D}(hn:bNE 2 fn.ntmps=true)(hs:∀x y,(g x y).1->aF E fn c [p.put x,p'.put y]=some (g x y).2):lA P E.glob f (orc2 p p' g):=by
 intro ds q rs hd hg;unfold orc2 at hd;split at hd
 ·split at hd
  ·rename_i x y hx hy;have hd:=Option.some.inj hd;have e1:q=(g x y).1:=by rw[hd]
   have e2:rs=(g x y).2:=by rw[hd]
   subst e1;subst e2;exact⟨(fn_contract (ds:=[p.put x,p'.put y]) h.ty h.calls h.mix h.fnc h.body h.nt h.io (bOZ hn) (hs x y hg)).aYV (p.le hx) (p'.le hy),h.has⟩
  ·cases hd
 ·cases hd
theorem qI.Bp{α β γ:Type}(h:qI P E f fn c){p:kR α}{p':kR β}{Ml:kR γ}{g:α->β->γ->Prop×List D}(hn:bNE 3 fn.ntmps=true)(hs:∀x y z,(g x y z).1->aF E fn c [p.put x,p'.put y,Ml.put z]=some (g x y z).2):lA P E.glob f (orc3 p p' Ml g):=by
 intro ds q rs hd hg;unfold orc3 at hd;split at hd
 ·split at hd
  ·rename_i x y z hx hy hz;have hd:=Option.some.inj hd;have e1:q=(g x y z).1:=by rw[hd]
   have e2:rs=(g x y z).2:=by rw[hd]
   subst e1;subst e2;exact⟨(fn_contract (ds:=[p.put x,p'.put y,Ml.put z]) h.ty h.calls h.mix h.fnc h.body h.nt h.io (bOZ hn) (hs x y z hg)).bEC (p.le hx) (p'.le hy) (Ml.le hz),h.has⟩
  ·cases hd
 ·cases hd
theorem qI.aSU{α β γ δ:Type}(h:qI P E f fn c){p:kR α}{p':kR β}{Ml:kR γ}{p3:kR δ}{g:α->β->γ->δ->Prop×List D}(hn:bNE 4 fn.ntmps=true)(hs:∀x y z u,(g x y z u).1->aF E fn c [p.put x,p'.put y,Ml.put z,p3.put u]=some (g x y z u).2):lA P E.glob f (orc4 p p' Ml p3 g):=by
 intro ds q rs hd hg;unfold orc4 at hd;split at hd
 ·split at hd
  ·rename_i x y z u hx hy hz hu;have hd:=Option.some.inj hd;have e1:q=(g x y z u).1:=by rw[hd]
   have e2:rs=(g x y z u).2:=by rw[hd]
   subst e1;subst e2;exact⟨(fn_contract (ds:=[p.put x,p'.put y,Ml.put z,p3.put u]) h.ty h.calls h.mix h.fnc h.body h.nt h.io (bOZ hn) (hs x y z u hg)).bHY (p.le hx) (p'.le hy) (Ml.le hz) (p3.le hu),h.has⟩
  ·cases hd
 ·cases hd
theorem kO.aYS(h:kO P E f fn c){e:TypeId}{k:IntKind}{x:List Int×Nat×Nat}{ds ds' rs:List D}{lC:List Int}(hn:1+ds'.length<=fn.ntmps)
  (hs:aF E fn c ((Ai e k).put x :: ds')=some (rs ++ [.io e k lC 0 0])) (hl:lC.length=x.1.length) (aMT:ds.length=ds'.length)
  (hd:∀(i:Nat) (y y':D),ds[i]?=some y->ds'[i]?=some y'->Ap y=false/\Ap y'=false/\zU y y'):mV P E.glob f [0] ((Ai e k).put x :: ds) rs [.io e k lC 0 0]:=by
 have vY:∀(i:Nat) (d:D),ds'[i]?=some d->Ap d=false:=fun i d hi=>by
  obtain⟨y,hy⟩:=aY (l:=ds) (i:=i) (by have:=aR hi;omega);exact(hd i y d hy hi).2.1
 have:=Jq h.ty h.calls h.mix h.fnc h.body h.nt (fun i hi=>by rw[h.io]at hi;rw[h.n0];simp at hi;omega) (ds:=(Ai e k).put x :: ds') (by simp;omega) hs (by rw[h.io];rfl)
  (by
   rw[h.io];intro j i hj
   match j with
   |0 =>
    simp at hj;subst hj;exact⟨e,k,x.1,x.2.1,x.2.2,e,k,lC,rfl,rfl,hl⟩
   |j+1=>simp at hj)
  (by
   rw[h.io];intro i d hi Hg
   match i with
   |0=>simp
   |i+1=>rw[vY i d (by simpa using hi)]at Hg;cases Hg)
 rw[h.io]at this;exact this.bHZ aMT hd
theorem kO.nD(h:kO P E f fn c){e:TypeId}{k:IntKind}{g:List Int×Nat×Nat->Prop×List D}(hn:bNE 1 fn.ntmps=true)(hs:∀x,(g x).1->aF E fn c [(Ai e k).put x]=some (g x).2/\∃rs lC,(g x).2=rs ++ [.io e k lC 0 0]/\lC.length=x.1.length):oD P E.glob f (orc1 (Ai e k) g):=by
 intro ds q rs hd hg;unfold orc1 at hd;split at hd
 ·rename_i d1;split at hd
  ·rename_i x hx;have hd:=Option.some.inj hd;have e1:q=(g x).1:=by rw[hd]
   have e2:rs=(g x).2:=by rw[hd]
   subst e1;subst e2;obtain⟨h1,Af,lC,h2,h3⟩:=hs x hg;rw[h2]at h1 ⊢;refine⟨⟨Af,_,rfl,?_⟩,h.has⟩;have e3:=Nw (show dIO e k d1=some x from hx);rw[e3];exact h.aYS (x:=x) (ds':=[]) (by have:=bOZ hn;simp;omega) h1 h3 rfl fun i a b ha hb=>by simp at ha
  ·cases hd
 ·cases hd
theorem kO.lP{α:Type}(h:kO P E f fn c){e:TypeId}{k:IntKind}{p:kR α}[hp:aAX p]{g:List Int×Nat×Nat->α->Prop×List D}(hn:bNE 2 fn.ntmps=true)(hs:∀x y,(g x y).1->aF E fn c [(Ai e k).put x,p.put y]=some (g x y).2/\∃rs lC,(g x y).2=rs ++ [.io e k lC 0 0]/\lC.length=x.1.length):oD P E.glob f (orc2 (Ai e k) p g):=by
 intro ds q rs hd hg;unfold orc2 at hd;split at hd
 ·rename_i d1 d2;split at hd
  ·rename_i x y hx hy;have hd:=Option.some.inj hd;have e1:q=(g x y).1:=by rw[hd]
   have e2:rs=(g x y).2:=by rw[hd]
   subst e1;subst e2;obtain⟨h1,Af,lC,h2,h3⟩:=hs x y hg;rw[h2]at h1 ⊢;refine⟨⟨Af,_,rfl,?_⟩,h.has⟩;have e3:=Nw (show dIO e k d1=some x from hx);rw[e3];refine h.aYS (x:=x) (ds':=[p.put y]) (by have:=bOZ hn;simp;omega) h1 h3 rfl fun i a b ha hb=>?_
   match i with
   |0=>simp at ha hb;subst ha;subst hb;exact⟨(hp.no hy).1,(hp.no hy).2,p.le hy⟩
   |i+1=>simp at ha
  ·cases hd
 ·cases hd
theorem kO.Bp{α β:Type}(h:kO P E f fn c){e:TypeId}{k:IntKind}{p:kR α}[hp:aAX p]{p':kR β}[hp':aAX p']{g:List Int×Nat×Nat->α->β->Prop×List D}(hn:bNE 3 fn.ntmps=true)(hs:∀x y z,(g x y z).1->aF E fn c [(Ai e k).put x,p.put y,p'.put z]=some (g x y z).2/\∃rs lC,(g x y z).2=rs ++ [.io e k lC 0 0]/\lC.length=x.1.length):oD P E.glob f (orc3 (Ai e k) p p' g):=by
 intro ds q rs hd hg;unfold orc3 at hd;split at hd
 ·rename_i d1 d2 d3;split at hd
  ·rename_i x y z hx hy hz;have hd:=Option.some.inj hd;have e1:q=(g x y z).1:=by rw[hd]
   have e2:rs=(g x y z).2:=by rw[hd]
   subst e1;subst e2;obtain⟨h1,Af,lC,h2,h3⟩:=hs x y z hg;rw[h2]at h1 ⊢;refine⟨⟨Af,_,rfl,?_⟩,h.has⟩;have e3:=Nw (show dIO e k d1=some x from hx);rw[e3];refine h.aYS (x:=x) (ds':=[p.put y,p'.put z]) (by have:=bOZ hn;simp;omega) h1 h3 rfl fun i a b ha hb=>?_
   match i with
   |0=>simp at ha hb;subst ha;subst hb;exact⟨(hp.no hy).1,(hp.no hy).2,p.le hy⟩
   |1=>simp at ha hb;subst ha;subst hb;exact⟨(hp'.no hz).1,(hp'.no hz).2,p'.le hz⟩
   |i+2=>simp at ha
  ·cases hd
 ·cases hd
theorem qI.aSD{α:Type}(h:qI P E f fn c){p:kR α}{g:α->Prop×List D}(hn:bNE 1 fn.ntmps=true)(hs:∀x,(g x).1->∃rs,aF E fn c [p.put x]=some rs/\fX rs (g x).2):lA P E.glob f (orc1 p g):=by
 intro ds q rs hd hg;unfold orc1 at hd;split at hd
 ·split at hd
  ·rename_i x hx;have hd:=Option.some.inj hd;have e1:q=(g x).1:=by rw[hd]
   have e2:rs=(g x).2:=by rw[hd]
   subst e1;subst e2;obtain⟨Mh,he,hle⟩:=hs x hg;exact⟨((fn_contract (ds:=[p.put x]) h.ty h.calls h.mix h.fnc h.body h.nt h.io (bOZ hn) he).aYW (p.le hx)).less hle,h.has⟩
  ·cases hd
 ·cases hd
theorem qI.aBB{α β:Type}(h:qI P E f fn c){p:kR α}{p':kR β}{g:α->β->Prop×List D}(hn:bNE 2 fn.ntmps=true)(hs:∀x y,(g x y).1->∃rs,aF E fn c [p.put x,p'.put y]=some rs/\fX rs (g x y).2):lA P E.glob f (orc2 p p' g):=by
 intro ds q rs hd hg;unfold orc2 at hd;split at hd
 ·split at hd
  ·rename_i x y hx hy;have hd:=Option.some.inj hd;have e1:q=(g x y).1:=by rw[hd]
   have e2:rs=(g x y).2:=by rw[hd]
   subst e1;subst e2;obtain⟨Mh,he,hle⟩:=hs x y hg;exact⟨((fn_contract (ds:=[p.put x,p'.put y]) h.ty h.calls h.mix h.fnc h.body h.nt h.io (bOZ hn) he).aYV (p.le hx) (p'.le hy)).less hle,h.has⟩
  ·cases hd
 ·cases hd
theorem qI.bDQ{α β γ:Type}(h:qI P E f fn c){p:kR α}{p':kR β}{Ml:kR γ}{g:α->β->γ->Prop×List D}(hn:bNE 3 fn.ntmps=true)(hs:∀x y z,(g x y z).1->∃rs,aF E fn c [p.put x,p'.put y,Ml.put z]=some rs/\fX rs (g x y z).2):lA P E.glob f (orc3 p p' Ml g):=by
 intro ds q rs hd hg;unfold orc3 at hd;split at hd
 ·split at hd
  ·rename_i x y z hx hy hz;have hd:=Option.some.inj hd;have e1:q=(g x y z).1:=by rw[hd]
   have e2:rs=(g x y z).2:=by rw[hd]
   subst e1;subst e2;obtain⟨Mh,he,hle⟩:=hs x y z hg;exact⟨((fn_contract (ds:=[p.put x,p'.put y,Ml.put z]) h.ty h.calls h.mix h.fnc h.body h.nt h.io (bOZ hn) he).bEC (p.le hx) (p'.le hy) (Ml.le hz)).less hle,h.has⟩
  ·cases hd
 ·cases hd
def Ya(f:FuncId)(g:List Value->Option (Prop×List Value))(r:FuncId->List Value->Option (Prop×List Value)):FuncId->List Value->Option (Prop×List Value):=fun f' vs=>bif bNC f' f then g vs else r f' vs
def Xz:FuncId->List Value->Option (Prop×List Value):=fun _ _=>none
theorem Uo:Yt P Xz:=fun _ _ _ _ h=>by cases h
structure aNH(P:Program)(f:FuncId)(e:Array Value->Sem Value):Prop where
 run:∀(args:Array Value) (w:World),(callFunc f args).run P w=((e args).run P w).andThen fun v w'=>.ok (.value v) w'
theorem Rd{f:FuncId}{g:List Value->Option (Prop×List Value)}{r:FuncId->List Value->Option (Prop×List Value)}{e:Array Value->Sem Value}(hf:aNH P f e)
  (hg:∀vs q rs,g vs=some (q,rs)->q->(∀v∈rs,v.oneCell'=true)/\∀w,(e vs.toArray).run P w=.ok (resV rs) w) (hr:Yt P r):Yt P (Ya f g r):=by
 intro f' vs q rs h hq;unfold Ya at h;cases hb:bNC f' f with
 |true =>
  rw[hb]at h;have:=bNP hb;subst this;obtain⟨h1,h2⟩:=hg vs q rs h hq;exact⟨h1,fun w=>by rw[hf.run,h2];rfl⟩
 |false=>rw[hb]at h;exact hr f' vs q rs h hq
def gAdd:List Value->Option (Prop×List Value)
 | [.int .u64 x,.int .u64 y,.int .u64 c]=>some ((0<=x/\0<=y/\0<=c/\c<=1),[.int .u64 ((x+y+c)%18446744073709551616),.int .u64 ((x+y+c)/18446744073709551616)])
 |_=>none
theorem aKJ(vs:List Value)(q:Prop)(rs:List Value)(h:gAdd vs=some (q,rs))(hq:q):(∀v∈rs,v.oneCell'=true)/\∀w,(add64Entry vs.toArray).run P w=.ok (resV rs) w:=by
 unfold gAdd at h;split at h
 ·cases h;obtain⟨h1,h2,h3,h4⟩:=hq;exact⟨by simp[Value.oneCell'],fun w=>run_add64 _ _ _ h1 h2 h3 h4 w⟩
 ·cases h
def uN:Array Value->Sem Value:=fun args=>do
 let (x,y,b) <-Extern.MathBitsCarry.three "Sub64" args
 pure (Extern.MathBitsCarry.pair ((x+Extern.MathBitsCarry.m64-y-b)%Extern.MathBitsCarry.m64) (if x<y+b then 1 else 0))
theorem Zb(x y c:Int)(hx:0<=x)(hy:0<=y)(aZL:y<18446744073709551616)(aXS:0<=c)(hc:c<=1)(w:World) :
  (uN #[.int .u64 x,.int .u64 y,.int .u64 c]).run P w =
   .ok (.tuple #[.int .u64 ((x-y-c)%18446744073709551616),.int .u64 (if x<y+c then 1 else 0)]) w:=by
 have key:∀k:Nat,k<=1->(uN #[.int .u64 x,.int .u64 y,.int .u64 (k:Int)]).run P w =
   .ok (Extern.MathBitsCarry.pair ((x.toNat+Extern.MathBitsCarry.m64-y.toNat-k)%Extern.MathBitsCarry.m64) (if x.toNat<y.toNat+k then 1 else 0)) w:=by
  intro k hk;have:k=0\/k=1:=by omega
  rcases this with rfl |rfl <;> rfl
 obtain⟨k,rfl⟩:=bSE aXS;rw[key k (by omega)];obtain⟨X,rfl⟩:=bSE hx;obtain⟨Y,rfl⟩:=bSE hy;simp only[Extern.MathBitsCarry.pair,Extern.MathBitsCarry.m64,bQX];have e1:Int.ofNat ((X+2^64-Y-k)%2^64)=((X:Int)-Y-k)%18446744073709551616:=by
  show((((X+2^64-Y-k)%2^64:Nat)):Int)=_;omega
 have e2:Int.ofNat (if X<Y+k then 1 else 0)=if(X:Int)<Y+k then 1 else 0:=by
  show(((if X<Y+k then 1 else 0:Nat)):Int)=_;split <;> split <;> omega
 rw[e1,e2]
def aPQ:List Value->Option (Prop×List Value)
 | [.int .u64 x,.int .u64 y,.int .u64 c]=>some ((0<=x/\0<=y/\y<18446744073709551616/\0<=c/\c<=1),[.int .u64 ((x-y-c)%18446744073709551616),.int .u64 (if x<y+c then 1 else 0)])
 |_=>none
theorem aKI(vs:List Value)(q:Prop)(rs:List Value)(h:aPQ vs=some (q,rs))(hq:q):(∀v∈rs,v.oneCell'=true)/\∀w,(uN vs.toArray).run P w=.ok (resV rs) w:=by
 unfold aPQ at h;split at h
 ·cases h;obtain⟨h1,h2,h3,h4,h5⟩:=hq;exact⟨by simp[Value.oneCell'],fun w=>Zb _ _ _ h1 h2 h3 h4 h5 w⟩
 ·cases h
theorem Re{f:FuncId}{fn:Func}{e:Array Value->Sem Value}(hf:P.funcs[f]?=some fn)(aUJ:(fn.name== "runtime.NumGoroutine")=false)
  (hb:fn.body.isNone=true) (hn:Extern.findNext fn=none) (he:Extern.find fn=some e):aNH P f e:=⟨fun args w=>run_callFunc_extern hf aUJ hb hn he args w⟩
end AI
namespace M
open Go
def val:List Int->Nat
 | []=>0
 |d :: r=>d.toNat+4294967296*val r
def dg(n:Nat):List Int:=if h:n=0 then []else((n%4294967296:Nat):Int) :: dg (n/4294967296)
termination_by n
decreasing_by omega
def cB(a:List Int):Prop:=∀d∈a,0<=d/\d<4294967296
def cD(a:List Int):Prop:=a=dg (val a)
theorem bN:dg 0=[]:=by rw[dg];rfl
theorem mU{n:Nat}(h:n≠0):dg n=((n%4294967296:Nat):Int) :: dg (n/4294967296):=by rw[dg,dif_neg h]
theorem bJ(n:Nat):val (dg n)=n:=by
 induction n using bSN with
 |_ n ih =>
  by_cases h:n=0
  ·subst h;rw[bN];rfl
  ·rw[mU h,val,ih _ (by omega)];have:=bSI n 4294967296;omega
theorem lW:cB []:=fun _ h=>by cases h
theorem jO{d:Int}{r:List Int}:cB (d :: r)↔(0<=d/\d<4294967296)/\cB r:=by
 unfold cB;simp
theorem oQ{a b:List Int}:cB (a ++ b)↔cB a/\cB b:=by
 unfold cB;simp only[bOD];exact⟨fun h=>⟨fun d hd=>h d (.inl hd),fun d hd=>h d (.inr hd)⟩,fun h d hd=>hd.elim (h.1 d) (h.2 d)⟩
theorem cB.take{a:List Int}(h:cB a)(n:Nat):cB (a.take n):=fun d hd=>h d (bUG hd)
theorem cB.drop{a:List Int}(h:cB a)(n:Nat):cB (a.drop n):=fun d hd=>h d (bUH hd)
theorem iJ(n:Nat):cB (bPE n 0):=fun d hd=>by rw[(List.mem_replicate.1 hd).2];omega
theorem iP(n:Nat):cB (dg n):=by
 induction n using bSN with
 |_ n ih =>
  by_cases h:n=0
  ·subst h;rw[bN];exact lW
  ·rw[mU h];exact jO.2 ⟨by omega,ih _ (by omega)⟩
theorem aW(n:Nat):cD (dg n):=by unfold cD;rw[bJ]
theorem cD.iX{a:List Int}(h:cD a):cB a:=by rw[h];exact iP _
theorem iB:∀(a b:List Int),val (a ++ b)=val a+4294967296^a.length*val b
 | [],b=>by simp[val]
 |d :: a,b=>by
  simp only[bOT,val,iB a b,bQL,bSA];rw[bSB,<-bSF,bRZ 4294967296 (4294967296^a.length)];omega
theorem cK:∀{a:List Int},cB a->val a<4294967296^a.length
 | [],_=>by simp[val]
 |d :: a,h=>by
  obtain⟨h1,h2⟩:=jO.1 h;have:=cK h2;simp only[val,bQL,bSA];have:d.toNat<4294967296:=by omega
  have:4294967296*val a+4294967296<=4294967296^a.length*4294967296:=by
   rw[bRZ (4294967296^a.length)];have:4294967296*(val a+1)<=4294967296*4294967296^a.length:=bPP _ (by omega);omega
  omega
theorem iH:∀n,val (bPE n 0)=0
 |0=>rfl
 |n+1=>by simp[bSK,val,iH n]
theorem Cx:∀{a:List Int},cB a->∃k,a=dg (val a) ++ bPE k 0
 | [],_=>⟨0,by simp[val,bN]⟩
 |d :: a,h=>by
  obtain⟨h1,h2⟩:=jO.1 h;obtain⟨k,hk⟩:=Cx h2
  by_cases hz:d.toNat+4294967296*val a=0
  ·have hd:d=0:=by omega
   have hv:val a=0:=by omega
   rw[hv,bN]at hk;refine⟨k+1,?_⟩;simp only[val];rw[hz,bN,hd,hk];simp[bSK]
  ·refine⟨k,?_⟩;simp only[val];rw[mU hz];have e1:(d.toNat+4294967296*val a)%4294967296=d.toNat:=by omega
   have e2:(d.toNat+4294967296*val a)/4294967296=val a:=by omega
   rw[e1,e2,bOT,<-hk];congr 1;omega
theorem Ak:cD []:=by unfold cD;simp[val,bN]
theorem wS{a:List Int}(h:cB a)(ht:∀d,a.getLast?=some d->d≠0):cD a:=by
 obtain⟨k,hk⟩:=Cx h;cases k with
 |zero=>unfold cD;simpa using hk
 |succ k =>
  exfalso;refine ht 0 ?_ rfl;rw[hk,bUI,<-bOW];simp
theorem cD.top{a:List Int}(h:cD a){d:Int}(hd:a.getLast?=some d):d≠0:=by
 have key:∀n,∀d,(dg n).getLast?=some d->d≠0:=by
  intro n
  induction n using bSN with
  |_ n ih =>
   intro d hd
   by_cases hn:n=0
   ·subst hn;rw[bN]at hd;cases hd
   ·rw[mU hn]at hd
    by_cases hq:n/4294967296=0
    ·rw[hq,bN]at hd;simp at hd;omega
    ·refine ih (n/4294967296) (by omega) d ?_;rw[mU hq]at hd ⊢;rwa [bTG]at hd
 rw[h]at hd;exact key _ d hd
theorem Qd{d:Int}{a:List Int}(h:cD (d :: a)):cD a:=by
 have hd:=h.iX;refine wS (jO.1 hd).2 fun e he=>h.top ?_
 cases a with
 |nil=>cases he
 |cons x r=>rwa [bTG]
theorem cR {n k : Nat} (h : n < 4294967296 ^ k) : (dg n).length ≤ k := by
  induction k generalizing n with
  | zero => have : n = 0 := by simpa using h
            subst this; rw [bN]; exact bNB _
  | succ k ih =>
    by_cases hn : n = 0
    · subst hn; rw [bN]; simp
    · rw [mU hn, bQL]
      have := ih (n := n / 4294967296) (by rw [bSA] at h; exact bSW (by rw [bRZ]; exact h))
      omega
theorem tT{n:Nat}:n<4294967296^(dg n).length:=by
 have:=cK (iP n);rwa [bJ]at this
theorem sW{n m:Nat}(h:n<=m):(dg n).length<=(dg m).length:=cR (bTQ h tT)
theorem oX{a:List Int}(h:cB a):(dg (val a)).length<=a.length:=cR (cK h)
theorem yC{n k:Nat}(h:k<(dg n).length):4294967296^k<=n:=by
 rcases bNQ n (4294967296^k)with h1 |h1
 ·have:=cR h1;omega
 ·exact h1
theorem jQ{a:List Int}{n:Nat}(h:n<a.length):val (a.take (n+1))=val (a.take n)+4294967296^n*(a.getD n 0).toNat:=by
 rw[bTH h,iB,bPR,bTI (by omega)];simp[val,bSG,h]
theorem gE(a:List Int){n:Nat}(h:n<=a.length):val a=val (a.take n)+4294967296^n*val (a.drop n):=by
 have e:=iB (a.take n) (a.drop n);rw[bUJ,bPR,bTI h]at e;exact e
theorem Hm{a:List Int}{n:Nat}(h:n<a.length):a.getD n 0∈a:=by
 rw[bSG,bNR h];simp
theorem cB.get{a:List Int}(h:cB a)(n:Nat):0<=a.getD n 0/\a.getD n 0<4294967296:=by
 rcases bNQ n a.length with hn |hn
 ·exact h _ (Hm hn)
 ·rw[bSG,bOX hn];simp
theorem getLast_take{a:List Int}{n:Nat}(h:n<a.length):(a.take (n+1)).getLast?=some (a.getD n 0):=by
 rw[bTH h,bUK];simp[bSG,h]
theorem aGO{xs:List Int}{n:Nat}(h:n<=xs.length):bSX n (bSY 0 (bSX n xs)) ++ bSY (min (bSY 0 (bSX n xs)).length n) (bPE n 0)=xs.take n:=by
 have e:(bSY 0 (bSX n xs)).length=n:=by simp;omega
 rw[e,Nat.min_self,bTJ,List.take_take,Nat.min_self];simp
theorem oS{w:Int}(h:0<=w)(h':w<18446744073709551616):AI.eY .and .u64 w 4294967295=w%4294967296:=by
 obtain⟨n,rfl⟩:=bSE h;rw[AI.sF];unfold AI.bitsI0;simp only;have e:(BitVec.ofInt u64.bits (n:Int) &&& BitVec.ofInt u64.bits 4294967295).toNat=n%4294967296:=by
  show(BitVec.ofInt 64 (n:Int) &&& BitVec.ofInt 64 4294967295).toNat=_;rw[BitVec.toNat_and];have e1:(BitVec.ofInt 64 (n:Int)).toNat=n:=by simp;omega
  have e2:(BitVec.ofInt 64 4294967295).toNat=2^32-1:=by decide
  rw[e1,e2,Nat.and_two_pow_sub_one_eq_mod]
 rw[e,wrap_u64];omega
section
variable {R:Type} {x y:Option R}
theorem aO{p:Prop}[Decidable p](h:p:=by omega):AI.aB (decide p) x y=x:=by simp only[AI.aB,decide_eq_true h,cond_true]
theorem aI{p:Prop}[Decidable p](h:¬p:=by omega):AI.aB (decide p) x y=y:=by simp only[AI.aB,decide_eq_false h,cond_false]
theorem cF{a b:Int}(h:a=b:=by omega):AI.aB (a==b) x y=x:=by subst h;simp[AI.aB]
theorem bS{a b:Int}(h:a≠b:=by omega):AI.aB (a==b) x y=y:=by rw[beq_eq_false_iff_ne.2 h];rfl
theorem qF{a b:Int}(h:a≠b:=by omega):AI.aB (a !=b) x y=x:=by rw[bne_iff_ne.2 h];rfl
theorem gT{a b:Int}(h:a=b:=by omega):AI.aB (a !=b) x y=y:=by subst h;simp[AI.aB]
theorem bT:AI.aB true x y=x:=rfl
theorem bF:AI.aB false x y=y:=rfl
theorem aGX{b:Bool}(h:b=true):AI.aB b x y=x:=by rw[h];rfl
theorem Hz{b:Bool}(h:b=false):AI.aB b x y=y:=by rw[h];rfl
theorem gP{g:Prop}(h:g:=by omega):AI.aQ g x=x:=AI.Xw h
end
def nB(a b:Nat):Int:=if a<b then -1 else if b<a then 1 else 0
theorem getD_none{a:List Int}{n:Nat}(h:a.length<=n):a.getD n 0=0:=by
 rw[bSG,bOX h];rfl
theorem cE{a:List Int}{n:Nat}(h:a.length<=n):val (a.take n)=val a:=by rw[bUM h]
theorem cA{a:List Int}(n:Nat):val (a.take (n+1))=val (a.take n)+4294967296^n*(a.getD n 0).toNat:=by
 rcases bNQ n a.length with h |h
 ·exact jQ h
 ·rw[cE (by omega),cE h,getD_none h];simp
theorem gQ{a:List Int}(h:cB a)(n:Nat):val (a.take n)<4294967296^n:=by
 have:=cK (h.take n);exact bOB this (bQB (by omega) (by rw[bPR];omega))
theorem lE{a:List Int}{d:Int}:val (a ++ [d])=val a+4294967296^a.length*d.toNat:=by
 rw[iB];simp[val]
theorem lF{a:List Int}{d:Int}(h:cB a)(hd:0<=d/\d<4294967296):cB (a ++ [d]):=by
 rw[oQ,jO];exact⟨h,hd,lW⟩
theorem Fl{a:List Int}(h:cD a):dg (val a)=a:=h.symm
theorem rW{a b:List Int}(ha:cB a)(hb:cD b)(h:a.length<b.length):val a<val b:=by
 have h1:=cK ha;have h2:4294967296^a.length<=val b:=yC (by rw[<-hb];exact h);omega
theorem cS{a:List Int}(ha:cD a):a.length=0↔val a=0:=by
 constructor
 ·intro h;have:a=[]:=List.length_eq_zero_iff.1 h;subst this;rfl
 ·intro h;rw[ha,h,bN];rfl
theorem fZ{n:Nat}:(dg n).length=0↔n=0:=by rw[cS (aW n),bJ]
theorem lV{a:List Int}(h:cB a){n:Nat}{d:Int}(hd:0<=d/\d<4294967296):cB (a.set n d):=by
 intro x hx;rcases bUN hx with h1 |h1
 ·exact h x h1
 ·subst h1;exact hd
theorem qO{a:List Int}{n:Nat}(h:n<a.length)(d:Int):val ((a.set n d).drop n)=d.toNat+4294967296*val (a.drop (n+1)):=by
 have e:(a.set n d).drop n=d :: a.drop (n+1):=by
  rw[bTK (by simpa using h)];simp[bUO]
 rw[e];rfl
theorem gF{a:List Int}(n:Nat):val (a.drop n)=(a.getD n 0).toNat+4294967296*val (a.drop (n+1)):=by
 rcases bNQ n a.length with h |h
 ·rw[bTK h];simp[val,bSG,h]
 ·rw[bSR h,bSR (by omega),getD_none h];rfl
theorem aGC{l B n d r w:Nat}(hw:0<w):((l*B+d)*n+r)/w=(((l*B+d)%w)*n+r)/w+n*((l*B+d)/w):=by
 have h:=bSI (l*B+d) w;have e:(l*B+d)*n+r=((l*B+d)%w*n+r)+w*(n*((l*B+d)/w)):=by
  generalize l*B+d=t at *;generalize t/w=q at *;generalize t%w=m at *;subst h;rw[Nat.add_mul];have:w*q*n=w*(n*q):=by rw[bSF,bRZ q n]
  omega
 rw[e,bTR _ _ hw]
theorem aDP{l B n d r w:Nat}:((l*B+d)*n+r)%w=(((l*B+d)%w)*n+r)%w:=by
 conv=>rhs;rw[bTL,bTM,Nat.mod_mod,<-bTM,<-bTL]
theorem aGQ(u v k:Nat):nB (u+k) (v+k)=nB u v:=by
 unfold nB;simp only[Nat.add_lt_add_iff_right]
theorem Pn{a b:Int}(ha:0<=a)(hb:0<=b):(a/b).toNat=a.toNat/b.toNat:=by
 obtain⟨x,rfl⟩:=bSE ha;obtain⟨y,rfl⟩:=bSE hb;rw[<-bSS,bQX,bQX,bQX]
theorem Pm{a b:Int}(ha:0<=a)(hb:0<=b):(a%b).toNat=a.toNat%b.toNat:=by
 obtain⟨x,rfl⟩:=bSE ha;obtain⟨y,rfl⟩:=bSE hb;rw[<-bTS,bQX,bQX,bQX]
end M
namespace M
open Go
def bl(n:Nat):Nat:=if n=0 then 0 else n.log2+1
theorem yH:bl 0=0:=rfl
theorem vP(n:Nat):n<2^bl n:=by
 unfold bl;split
 ·omega
 ·exact Nat.lt_log2_self
theorem Yp{n:Nat}(h:n≠0):2^(bl n-1)<=n:=by
 unfold bl;rw[if_neg h];exact Nat.log2_self_le h
theorem dV{n k:Nat}:bl n<=k↔n<2^k:=by
 constructor
 ·intro h;exact bOB (vP n) (bQB (by omega) h)
 ·intro h
  by_cases hn:n=0
  ·subst hn;exact bTF _
  ·rcases bNQ k (bl n)with h1 |h1
   ·exfalso;have h2:=Yp hn;have h3:2^k<=2^(bl n-1):=fY;omega
   ·exact h1
theorem rN{n k:Nat}:k<bl n↔2^k<=n:=by
 have:=@dV n k;omega
theorem sE{n:Nat}(h:n≠0):0<bl n:=by rw[rN];simp;omega
theorem aWH{n k:Nat}(h:2^k<=n)(h':n<2^(k+1)):bl n=k+1:=by
 have:=dV.2 h';have:=rN.2 h;omega
theorem Va{r k t:Nat}(hr:r<2^k)(ht:t≠0):bl (r+2^k*t)=k+bl t:=by
 have hp:=sE ht;have e:k+bl t=(k+(bl t-1))+1:=by omega
 rw[e];apply aWH
 ·rw[bSD];have:=bPP (2^k) (Yp ht);omega
 ·have h1:=vP t;have h2:2^k*(t+1)<=2^k*2^bl t:=bPP _ h1;rw[<-bSD]at h2;rw[bSB]at h2;have e2:k+(bl t-1)+1=k+bl t:=by omega
  rw[e2];omega
theorem Dc{k t:Nat}(ht:t≠0):bl (2^k*t)=k+bl t:=by
 have:=Va (r:=0) (k:=k) (t:=t) (cI) ht;rwa [bND]at this
theorem gU{a b:Nat}(h:a<=b):bl a<=bl b:=dV.2 (bTQ h (vP b))
theorem Kp(k:Nat):4294967296^k=2^(32*k):=by rw[bTT]
theorem Qh{n k:Nat}(h:n<2^k):(dg n).length<=k/32+1:=by
 apply cR;rw[Kp];exact bOB h (fY)
theorem aCW{k:Int}(h:0<=k)(h':k<32):u32.wrap (1*((2^(min k.toNat 32):Nat):Int))=((2^k.toNat:Nat):Int):=by
 have e:min k.toNat 32=k.toNat:=by omega
 rw[e,Int.one_mul,wrap_u32];have:2^k.toNat<2^32:=bTU (by omega) (by omega);generalize 2^k.toNat=p at *;omega
theorem aNR{n:Int}(h:0<=n):n.tdiv 32=n/32:=bUQ h
theorem aNP{n:Int}(h:0<=n):n.tmod 32=n%32:=bUR h
theorem Ck(n:Nat):2^n=4294967296^(n/32)*2^(n%32):=by
 rw[Kp,<-bSD];congr 1;omega
theorem aAO(v n:Nat):v/4294967296^(n/32)/2^(n%32)=v/2^n:=by
 rw[bST,<-Ck]
theorem jH{a:List Int}(h:cB a)(n:Nat):val (a.drop n)=val a/4294967296^n:=by
 rcases Nat.le_or_ge n a.length with hn |hn
 ·rw[gE a hn,bTR _ _ (cI),bSZ (gQ h n),bND]
 ·rw[bSR hn,bSZ]
  ·rfl
  ·exact bOB (cK h) (bQB (by omega) hn)
end M
namespace M6
open Go
def val:List Int->Nat
 | []=>0
 |d :: r=>d.toNat+18446744073709551616*val r
def dg(n:Nat):List Int:=if h:n=0 then []else((n%18446744073709551616:Nat):Int) :: dg (n/18446744073709551616)
termination_by n
decreasing_by omega
def cB(a:List Int):Prop:=∀d∈a,0<=d/\d<18446744073709551616
def cD(a:List Int):Prop:=a=dg (val a)
theorem bN:dg 0=[]:=by rw[dg];rfl
theorem mU{n:Nat}(h:n≠0):dg n=((n%18446744073709551616:Nat):Int) :: dg (n/18446744073709551616):=by rw[dg,dif_neg h]
theorem bJ(n:Nat):val (dg n)=n:=by
 induction n using bSN with
 |_ n ih =>
  by_cases h:n=0
  ·subst h;rw[bN];rfl
  ·rw[mU h,val,ih _ (by omega)];have:=bSI n 18446744073709551616;omega
theorem lW:cB []:=fun _ h=>by cases h
theorem jO{d:Int}{r:List Int}:cB (d :: r)↔(0<=d/\d<18446744073709551616)/\cB r:=by
 unfold cB;simp
theorem oQ{a b:List Int}:cB (a ++ b)↔cB a/\cB b:=by
 unfold cB;simp only[bOD];exact⟨fun h=>⟨fun d hd=>h d (.inl hd),fun d hd=>h d (.inr hd)⟩,fun h d hd=>hd.elim (h.1 d) (h.2 d)⟩
theorem cB.take{a:List Int}(h:cB a)(n:Nat):cB (a.take n):=fun d hd=>h d (bUG hd)
theorem cB.drop{a:List Int}(h:cB a)(n:Nat):cB (a.drop n):=fun d hd=>h d (bUH hd)
theorem iJ(n:Nat):cB (bPE n 0):=fun d hd=>by rw[(List.mem_replicate.1 hd).2];omega
theorem iP(n:Nat):cB (dg n):=by
 induction n using bSN with
 |_ n ih =>
  by_cases h:n=0
  ·subst h;rw[bN];exact lW
  ·rw[mU h];exact jO.2 ⟨by omega,ih _ (by omega)⟩
theorem aW(n:Nat):cD (dg n):=by unfold cD;rw[bJ]
theorem cD.iX{a:List Int}(h:cD a):cB a:=by rw[h];exact iP _
theorem iB:∀(a b:List Int),val (a ++ b)=val a+18446744073709551616^a.length*val b
 | [],b=>by simp[val]
 |d :: a,b=>by
  simp only[bOT,val,iB a b,bQL,bSA];rw[bSB,<-bSF,bRZ 18446744073709551616 (18446744073709551616^a.length)];omega
theorem cK:∀{a:List Int},cB a->val a<18446744073709551616^a.length
 | [],_=>by simp[val]
 |d :: a,h=>by
  obtain⟨h1,h2⟩:=jO.1 h;have:=cK h2;simp only[val,bQL,bSA];have:d.toNat<18446744073709551616:=by omega
  have:18446744073709551616*val a+18446744073709551616<=18446744073709551616^a.length*18446744073709551616:=by
   rw[bRZ (18446744073709551616^a.length)];have:18446744073709551616*(val a+1)<=18446744073709551616*18446744073709551616^a.length:=bPP _ (by omega);omega
  omega
theorem iH:∀n,val (bPE n 0)=0
 |0=>rfl
 |n+1=>by simp[bSK,val,iH n]
theorem Cx:∀{a:List Int},cB a->∃k,a=dg (val a) ++ bPE k 0
 | [],_=>⟨0,by simp[val,bN]⟩
 |d :: a,h=>by
  obtain⟨h1,h2⟩:=jO.1 h;obtain⟨k,hk⟩:=Cx h2
  by_cases hz:d.toNat+18446744073709551616*val a=0
  ·have hd:d=0:=by omega
   have hv:val a=0:=by omega
   rw[hv,bN]at hk;refine⟨k+1,?_⟩;simp only[val];rw[hz,bN,hd,hk];simp[bSK]
  ·refine⟨k,?_⟩;simp only[val];rw[mU hz];have e1:(d.toNat+18446744073709551616*val a)%18446744073709551616=d.toNat:=by omega
   have e2:(d.toNat+18446744073709551616*val a)/18446744073709551616=val a:=by omega
   rw[e1,e2,bOT,<-hk];congr 1;omega
theorem Ak:cD []:=by unfold cD;simp[val,bN]
theorem wS{a:List Int}(h:cB a)(ht:∀d,a.getLast?=some d->d≠0):cD a:=by
 obtain⟨k,hk⟩:=Cx h;cases k with
 |zero=>unfold cD;simpa using hk
 |succ k =>
  exfalso;refine ht 0 ?_ rfl;rw[hk,bUI,<-bOW];simp
theorem cD.top{a:List Int}(h:cD a){d:Int}(hd:a.getLast?=some d):d≠0:=by
 have key:∀n,∀d,(dg n).getLast?=some d->d≠0:=by
  intro n
  induction n using bSN with
  |_ n ih =>
   intro d hd
   by_cases hn:n=0
   ·subst hn;rw[bN]at hd;cases hd
   ·rw[mU hn]at hd
    by_cases hq:n/18446744073709551616=0
    ·rw[hq,bN]at hd;simp at hd;omega
    ·refine ih (n/18446744073709551616) (by omega) d ?_;rw[mU hq]at hd ⊢;rwa [bTG]at hd
 rw[h]at hd;exact key _ d hd
theorem Qd{d:Int}{a:List Int}(h:cD (d :: a)):cD a:=by
 have hd:=h.iX;refine wS (jO.1 hd).2 fun e he=>h.top ?_
 cases a with
 |nil=>cases he
 |cons x r=>rwa [bTG]
theorem cR {n k : Nat} (h : n < 18446744073709551616 ^ k) : (dg n).length ≤ k := by
  induction k generalizing n with
  | zero => have : n = 0 := by simpa using h
            subst this; rw [bN]; exact bNB _
  | succ k ih =>
    by_cases hn : n = 0
    · subst hn; rw [bN]; simp
    · rw [mU hn, bQL]
      have := ih (n := n / 18446744073709551616) (by rw [bSA] at h; exact bSW (by rw [bRZ]; exact h))
      omega
theorem tT{n:Nat}:n<18446744073709551616^(dg n).length:=by
 have:=cK (iP n);rwa [bJ]at this
theorem sW{n m:Nat}(h:n<=m):(dg n).length<=(dg m).length:=cR (bTQ h tT)
theorem oX{a:List Int}(h:cB a):(dg (val a)).length<=a.length:=cR (cK h)
theorem yC{n k:Nat}(h:k<(dg n).length):18446744073709551616^k<=n:=by
 rcases bNQ n (18446744073709551616^k)with h1 |h1
 ·have:=cR h1;omega
 ·exact h1
theorem jQ{a:List Int}{n:Nat}(h:n<a.length):val (a.take (n+1))=val (a.take n)+18446744073709551616^n*(a.getD n 0).toNat:=by
 rw[bTH h,iB,bPR,bTI (by omega)];simp[val,bSG,h]
theorem gE(a:List Int){n:Nat}(h:n<=a.length):val a=val (a.take n)+18446744073709551616^n*val (a.drop n):=by
 have e:=iB (a.take n) (a.drop n);rw[bUJ,bPR,bTI h]at e;exact e
theorem Hm{a:List Int}{n:Nat}(h:n<a.length):a.getD n 0∈a:=by
 rw[bSG,bNR h];simp
theorem cB.get{a:List Int}(h:cB a)(n:Nat):0<=a.getD n 0/\a.getD n 0<18446744073709551616:=by
 rcases bNQ n a.length with hn |hn
 ·exact h _ (Hm hn)
 ·rw[bSG,bOX hn];simp
theorem getLast_take{a:List Int}{n:Nat}(h:n<a.length):(a.take (n+1)).getLast?=some (a.getD n 0):=by
 rw[bTH h,bUK];simp[bSG,h]
theorem getD_none{a:List Int}{n:Nat}(h:a.length<=n):a.getD n 0=0:=by
 rw[bSG,bOX h];rfl
theorem cE{a:List Int}{n:Nat}(h:a.length<=n):val (a.take n)=val a:=by rw[bUM h]
theorem cA{a:List Int}(n:Nat):val (a.take (n+1))=val (a.take n)+18446744073709551616^n*(a.getD n 0).toNat:=by
 rcases bNQ n a.length with h |h
 ·exact jQ h
 ·rw[cE (by omega),cE h,getD_none h];simp
theorem gQ{a:List Int}(h:cB a)(n:Nat):val (a.take n)<18446744073709551616^n:=by
 have:=cK (h.take n);exact bOB this (bQB (by omega) (by rw[bPR];omega))
theorem lE{a:List Int}{d:Int}:val (a ++ [d])=val a+18446744073709551616^a.length*d.toNat:=by
 rw[iB];simp[val]
theorem lF{a:List Int}{d:Int}(h:cB a)(hd:0<=d/\d<18446744073709551616):cB (a ++ [d]):=by
 rw[oQ,jO];exact⟨h,hd,lW⟩
theorem Fl{a:List Int}(h:cD a):dg (val a)=a:=h.symm
theorem rW{a b:List Int}(ha:cB a)(hb:cD b)(h:a.length<b.length):val a<val b:=by
 have h1:=cK ha;have h2:18446744073709551616^a.length<=val b:=yC (by rw[<-hb];exact h);omega
theorem cS{a:List Int}(ha:cD a):a.length=0↔val a=0:=by
 constructor
 ·intro h;have:a=[]:=List.length_eq_zero_iff.1 h;subst this;rfl
 ·intro h;rw[ha,h,bN];rfl
theorem fZ{n:Nat}:(dg n).length=0↔n=0:=by rw[cS (aW n),bJ]
theorem lV{a:List Int}(h:cB a){n:Nat}{d:Int}(hd:0<=d/\d<18446744073709551616):cB (a.set n d):=by
 intro x hx;rcases bUN hx with h1 |h1
 ·exact h x h1
 ·subst h1;exact hd
theorem qO{a:List Int}{n:Nat}(h:n<a.length)(d:Int):val ((a.set n d).drop n)=d.toNat+18446744073709551616*val (a.drop (n+1)):=by
 have e:(a.set n d).drop n=d :: a.drop (n+1):=by
  rw[bTK (by simpa using h)];simp[bUO]
 rw[e];rfl
theorem gF{a:List Int}(n:Nat):val (a.drop n)=(a.getD n 0).toNat+18446744073709551616*val (a.drop (n+1)):=by
 rcases bNQ n a.length with h |h
 ·rw[bTK h];simp[val,bSG,h]
 ·rw[bSR h,bSR (by omega),getD_none h];rfl
end M6
namespace M
open Go AI
def zs(b:Bool)(n:Nat):Int:=bif b then -(n:Int)else n
def zv(x:Bool×List Int):Int:=zs x.1 (val x.2)
def aHB(x:Bool×List Int):Prop:=cD x.2/\(x.1=true->val x.2≠0)/\x.2.length<=549755813888
def isNeg(z:Int):Bool:=match z with
 | .negSucc _=>true
 | .ofNat _=>false
def zD(z:Int):D:=.agg [.sc (.bool (isNeg z)),.ints .u32 (dg z.natAbs)]
theorem lS{z:Int}:isNeg z=true↔z<0:=by cases z <;> simp[isNeg] <;> omega
theorem jL{z:Int}:isNeg z=false↔0<=z:=by cases z <;> simp[isNeg] <;> omega
theorem aLP(z:Int):zv (isNeg z,dg z.natAbs)=z:=by
 unfold zv zs;simp only[bJ];cases h:isNeg z with
 |true=>have:=lS.1 h;simp only[cond_true];omega
 |false=>have:=jL.1 h;simp only[cond_false];omega
theorem aBO{z:Int}(h:(dg z.natAbs).length<=549755813888):aHB (isNeg z,dg z.natAbs):=by
 refine⟨aW _,fun hn=>?_,h⟩;rw[bJ];have:=lS.1 hn;omega
theorem Fv(b:Bool)(n:Nat):isNeg (zs b n)=(b&&decide (n≠0)):=by
 unfold zs;cases b with
 |false=>simp only[cond_false,bSL];exact jL.2 (by omega)
 |true =>
  simp only[cond_true,bQC]
  by_cases h:n=0
  ·subst h;rfl
  ·rw[decide_eq_true h];exact lS.2 (by omega)
theorem kD(b:Bool)(n:Nat):(zs b n).natAbs=n:=by
 unfold zs;cases b <;> simp
theorem aSA(b:Bool)(n:Nat):zD (zs b n)=.agg [.sc (.bool (b&&decide (n≠0))),.ints .u32 (dg n)]:=by
 unfold zD;rw[Fv,kD]
theorem aHB.cells{x:Bool×List Int}(h:aHB x):isNeg (zv x)=x.1/\dg (zv x).natAbs=x.2:=by
 obtain⟨h1,h2,h3⟩:=h;unfold zv;rw[Fv,kD,<-h1];refine⟨?_,rfl⟩;cases hx:x.1 with
 |false=>rfl
 |true=>rw[decide_eq_true (h2 hx)];rfl
theorem aHB.len{x:Bool×List Int}(h:aHB x):x.2.length<=549755813888:=h.2.2
theorem aNI(x:Bool×List Int):(zv x).natAbs=val x.2:=kD _ _
def lG(a b:Int):Int:=if a<b then -1 else if b<a then 1 else 0
theorem Yl{a b:Nat}:0<=nB a b↔b<=a:=by unfold nB;split <;> (try split) <;> omega
theorem Ua(a b:Nat):(dg (a/b)).length<=(dg a).length:=sW (Nat.div_le_self _ _)
theorem aGV{a:List Int}(h:cB a){n:Nat}(hn:a.length<=n):bl (val a)<=32*n:=by
 rw[dV,<-Kp];exact bOB (cK h) (bQB (by omega) hn)
theorem yI(a b:Nat):bl (a+b)<=max (bl a) (bl b)+1:=by
 rw[dV,bSA];have h1:=vP a;have h2:=vP b;have h3:2^bl a<=2^max (bl a) (bl b):=fY;have h4:2^bl b<=2^max (bl a) (bl b):=fY;omega
theorem Ll(a b:Nat):bl (a*b)<=bl a+bl b:=by
 rw[dV,bSD];exact Nat.mul_lt_mul'' (vP a) (vP b)
theorem Cs{n k:Nat}(h:bl n<=k):(dg n).length<=k/32+1:=Qh (dV.1 h)
theorem aJM{x:List Int}(h:cD x):(dg (val x)).length=x.length:=by rw[<-h]
abbrev K6:=Int×Int×Int×Int×Int×Int
def kP(k:K6):Nat:=k.2.1.toNat
def kH(k:K6):Nat:=2^(kP k-1)
end M
namespace M
open Go
theorem Rz{a b:Int}(ha:0<=a)(aXU:a<18446744073709551616)(hb:0<=b)(vT:b<18446744073709551616):AI.eY .and .u64 a b=((a.toNat &&& b.toNat:Nat):Int):=by
 obtain⟨n,rfl⟩:=bSE ha;obtain⟨m,rfl⟩:=bSE hb;rw[AI.sF];unfold AI.bitsI0;simp only;have e:(BitVec.ofInt u64.bits (n:Int) &&& BitVec.ofInt u64.bits (m:Int)).toNat=n &&& m:=by
  show(BitVec.ofInt 64 (n:Int) &&& BitVec.ofInt 64 (m:Int)).toNat=_;rw[BitVec.toNat_and];have e1:(BitVec.ofInt 64 (n:Int)).toNat=n:=by simp;omega
  have e2:(BitVec.ofInt 64 (m:Int)).toNat=m:=by simp;omega
  rw[e1,e2]
 have hle:n &&& m<=n:=Nat.and_le_left;rw[e,wrap_u64];rfl
theorem Zg{a b:Int}(ha:0<=a)(aXU:a<18446744073709551616)(hb:0<=b)(vT:b<18446744073709551616):AI.eY .or .u64 a b=((a.toNat |||b.toNat:Nat):Int):=by
 obtain⟨n,rfl⟩:=bSE ha;obtain⟨m,rfl⟩:=bSE hb;rw[AI.sF];unfold AI.bitsI0;simp only;have e:(BitVec.ofInt u64.bits (n:Int) |||BitVec.ofInt u64.bits (m:Int)).toNat=n |||m:=by
  show(BitVec.ofInt 64 (n:Int) |||BitVec.ofInt 64 (m:Int)).toNat=_;rw[BitVec.toNat_or];have e1:(BitVec.ofInt 64 (n:Int)).toNat=n:=by simp;omega
  have e2:(BitVec.ofInt 64 (m:Int)).toNat=m:=by simp;omega
  rw[e1,e2]
 have iN:n |||m<2^64:=Nat.or_lt_two_pow (by omega) (by omega);rw[e,wrap_u64];rfl
def tz:Nat->Nat
 |0=>0
 |n+1=>if(n+1)%2=1 then 0 else tz ((n+1)/2)+1
termination_by n=>n
decreasing_by omega
theorem yZ{n:Nat}(h:n%2=1):tz n=0:=by
 cases n with
 |zero=>omega
 |succ n=>rw[tz,if_pos h]
theorem zW{n:Nat}(h0:n≠0)(h:n%2=0):tz n=tz (n/2)+1:=by
 cases n with
 |zero=>omega
 |succ n=>rw[tz,aX]
theorem oW:∀n,n≠0->n%2^tz n=0/\(n/2^tz n)%2=1:=by
 intro n
 induction n using bSN with
 |_ n ih =>
  intro h0
  by_cases h:n%2=1
  ·rw[yZ h];simp[Nat.mod_one];exact h
  ·rw[zW h0 (by omega)];obtain⟨h1,h2⟩:=ih (n/2) (by omega) (by omega);have e:2^(tz (n/2)+1)=2*2^tz (n/2):=by rw[bSA];omega
   rw[e];refine⟨?_,by rw[<-bST];exact h2⟩;have h3:=bSI (n/2) (2^tz (n/2));rw[h1]at h3;generalize tz (n/2)=t at *;have h4:n=2*2^t*(n/2/2^t):=by rw[bSF];omega
   generalize n/2/2^t=q at *;rw[h4];exact Nat.mul_mod_right _ _
theorem Fx{n:Nat}(h:n≠0):2^tz n<=n:=by
 obtain⟨h1,h2⟩:=oW n h;have h3:=bSI n (2^tz n);rw[h1]at h3;generalize 2^tz n=p at *;generalize n/p=q at *;have:p*1<=p*q:=bPP _ (by omega);omega
theorem Lx{n:Nat}(h:n≠0):∀k,tz (2^k*n)=k+tz n
 |0=>by simp
 |k+1=>by
  have hp:0<2^k:=cI;have h0:2^k*n≠0:=Nat.mul_ne_zero (by omega) h;have e:2^(k+1)*n=2*(2^k*n):=by rw[bSA,bRZ (2^k) 2,bSF]
  rw[e,zW (by omega) (by omega),Nat.mul_div_cancel_left _ (by omega),Lx h k];omega
theorem aNL{r k n:Nat}(hr:r<2^k)(h:r≠0):tz (r+2^k*n)=tz r:=by
 induction k generalizing r n with
 |zero=>simp at hr;omega
 |succ k ih =>
  have e:2^(k+1)*n=2*(2^k*n):=by rw[bSA,bRZ (2^k) 2,bSF]
  rw[e];rw[bSA]at hr
  by_cases ho:r%2=1
  ·rw[yZ ho,yZ (by omega)]
  ·rw[zW (by omega) (by omega),zW h (by omega),show(r+2*(2^k*n))/2=r/2+2^k*n from by omega,ih (by omega) (by omega)]
theorem Qj(a b:Nat):a &&& b=2*(a/2 &&& b/2)+(if a%2=1/\b%2=1 then 1 else 0):=by
 have h1:(a &&& b)/2=a/2 &&& b/2:=Nat.and_div_two;have h2:(a &&& b)%2=1↔a%2=1/\b%2=1:=Nat.and_mod_two_eq_one;rw[<-h1];split
 ·rename_i h;have:=h2.2 h;omega
 ·rename_i h;have:¬(a &&& b)%2=1:=fun hh=>h (h2.1 hh)
  omega
theorem Ha:∀(p m:Nat),m<2^p->m &&& (2^p-1-m)=0
 |0,m,h=>by simp at h;subst h;rfl
 |p+1,m,h=>by
  rw[bSA]at h ⊢;rw[Qj,show(2^p*2-1-m)/2=2^p-1-m/2 from by omega,Ha p (m/2) (by omega),aX]
theorem Qi:∀(p a b:Nat),a+b=2^p->a≠0->b≠0->a &&& b=2^tz a
 |0,a,b,h,ha,hb=>by simp at h;omega
 |p+1,a,b,h,ha,hb=>by
  rw[bSA]at h;rw[Qj]
  by_cases ho:a%2=1
  ·rw[yZ ho,show b/2=2^p-1-a/2 from by omega,Ha p (a/2) (by omega),aT]
  ·rw[zW ha (by omega),Qi p (a/2) (b/2) (by omega) (by omega) (by omega),aX,bSA,bRZ,bOC]
theorem wP{pre:List Int}{i k:Nat}(h:pre.length=i)(v:Int):(pre ++ bPE (k+1) 0).set i v=(pre ++ [v]) ++ bPE k 0:=by
 subst h;rw[bUS _ _ (bNB _),bRF,bSK,bUT,bOW];rfl
theorem Cv{pre:List Int}{i:Nat}(h:pre.length=i)(v:Int)(r:List Int):(pre ++ v :: r).getD i 0=v:=by
 subst h;simp[bSG]
theorem Ce{pre:List Int}{i:Nat}(h:pre.length=i)(v u:Int)(r:List Int):(pre ++ v :: r).set i u=pre ++ u :: r:=by
 subst h;rw[bUS _ _ (bNB _),bRF,bUT]
theorem Cm{c n k:Nat}(h:c<2^k):c |||2^k*n=c+2^k*n:=by
 rw[Nat.or_comm,<-Nat.two_pow_add_eq_or_of_lt h,bTD]
theorem Ko(k:Nat):18446744073709551616^k=2^(64*k):=by rw[bTT]
theorem eZ{n k:Nat}(h:bl n<=64*k):(M6.dg n).length<=k:=by
 apply M6.cR;rw[Ko,<-dV];exact h
theorem yJ{a:List Int}(h:M6.cB a){n:Nat}(hn:a.length<=n):bl (M6.val a)<=64*n:=by
 rw[dV,<-Ko];exact bOB (M6.cK h) (bQB (by omega) hn)
theorem aDM{x:List Int}(h:M6.cD x):(M6.dg (M6.val x)).length=x.length:=by rw[<-h]
theorem aCD{n:Int}(h:0<=n):n.tdiv 64=n/64:=bUQ h
theorem aBY{n:Int}(h:0<=n):n.tmod 64=n%64:=bUR h
theorem Gm(n:Nat):2^n=18446744073709551616^(n/64)*2^(n%64):=by
 rw[Ko,<-bSD];congr 1;omega
theorem Cb(x k:Nat)(h:k<64):x*2^k=18446744073709551616*(x/2^(64-k))+x*2^k%18446744073709551616:=by
 have e:(18446744073709551616:Nat)=2^(64-k)*2^k:=by rw[<-bSD,show 64-k+k=64 from by omega]
 have h1:x*2^k/18446744073709551616=x/2^(64-k):=by
  rw[e,Nat.mul_div_mul_right _ _ (cI)]
 have:=bSI (x*2^k) 18446744073709551616;rw[h1]at this;omega
theorem Fc(x k:Nat)(h:k<64):x*2^k%18446744073709551616=2^k*(x%2^(64-k)):=by
 have e:(18446744073709551616:Nat)=2^(64-k)*2^k:=by rw[<-bSD,show 64-k+k=64 from by omega]
 rw[e,Nat.mul_mod_mul_right,bRZ]
end M
namespace W
open Go AI
abbrev Ly(k:IntKind)(b:Nat):TI:={size:=1,bytes:=b,zero:=[.int k 0],kind:=.int k}
abbrev aWW(e:Nat):TI:={size:=1,bytes:=24,zero:=[.slice none 0 0],kind:=.slice e}
abbrev Ds(n b:Nat)(z:List Value)(f:List (Nat×Nat×Bool)):TI:={size:=n,bytes:=b,zero:=z,kind:=.struct f}
abbrev nA(k:IntKind):Value:=.int k 0
def Ga:List (Nat×TI):=[
 (2,Ly .i64 8),
 (3,Ly .i64 8),
 (4,{ size:=1,bytes:=1,zero:=[.bool false],kind:=TK.bool }),
 (5,Ly .u8 1),
 (6,Ly .u8 1),
 (7,Ds 4 24 [nA .i64,nA .i64,.bool false,nA .u8] [(0,1,false),(1,1,false),(2,1,false),(3,1,false)]),
 (8,Ds 4 24 [nA .i64,nA .i64,.bool false,nA .u8] [(0,1,false),(1,1,false),(2,1,false),(3,1,false)]),
 (9,{ size:=1,bytes:=16,zero:=[Value.string ByteArray.empty],kind:=TK.str }),
 (10,{ size:=1,bytes:=16,zero:=[Value.string ByteArray.empty],kind:=TK.str }),
 (11,{ size:=1,bytes:=16,zero:=[Value.string ByteArray.empty],kind:=TK.str }),
 (12,Ly .u64 8),
 (18,Ds 1 8 [.pointer none] [(0,1,false)]),
 (19,Ds 1 8 [.pointer none] [(0,1,false)]),
 (21,Ly .i32 4),
 (22,Ly .u64 8),
 (25,aWW 22),
 (26,Ds 2 32 [.bool false,.slice none 0 0] [(0,1,false),(1,1,false)]),
 (27,Ds 2 32 [.bool false,.slice none 0 0] [(0,1,false),(1,1,false)]),
 (28,Ds 3 40 [.bool false,.slice none 0 0,nA .i64] [(0,2,true),(2,1,false)]),
 (29,Ds 3 40 [.bool false,.slice none 0 0,nA .i64] [(0,2,true),(2,1,false)]),
 (30,Ds 6 80 [.bool false,.slice none 0 0,nA .i64,.bool false,.slice none 0 0,nA .i64] [(0,3,true),(3,3,true)]),
 (31,Ds 6 80 [.bool false,.slice none 0 0,nA .i64,.bool false,.slice none 0 0,nA .i64] [(0,3,true),(3,3,true)]),
 (32,Ly .i64 8),
 (35,Ly .i64 8),
 (47,Ly .i64 8),
 (65,aWW 29),
 (77,Ds 2 16 [nA .i64,.bool false] [(0,1,false),(1,1,false)]),
 (78,Ds 2 16 [nA .i64,.bool false] [(0,1,false),(1,1,false)]),
 (89,Ds 4 32 [nA .i64,nA .i64,nA .i64,nA .u64] [(0,1,false),(1,1,false),(2,1,false),(3,1,false)]),
 (90,Ds 4 32 [nA .i64,nA .i64,nA .i64,nA .u64] [(0,1,false),(1,1,false),(2,1,false),(3,1,false)]),
 (100,Ds 3 24 [nA .i64,nA .i64,nA .i64] [(0,1,false),(1,1,false),(2,1,false)]),
 (101,Ds 3 24 [nA .i64,nA .i64,nA .i64] [(0,1,false),(1,1,false),(2,1,false)]),
 (113,aWW 156),
 (116,Ds 2 32 [.bool false,.slice none 0 0] [(0,1,false),(1,1,false)]),
 (117,Ds 2 32 [.bool false,.slice none 0 0] [(0,1,false),(1,1,false)]),
 (121,Ly .i64 8),
 (131,aWW 31),
 (137,Ly .i64 8),
 (156,Ly .u32 4),
 (157,Ly .u64 8),
 (160,Ds 5 72 [.bool false,.slice none 0 0,.bool false,.slice none 0 0,nA .i64] [(0,2,true),(2,2,true),(4,1,false)]),
 (161,Ds 5 72 [.bool false,.slice none 0 0,.bool false,.slice none 0 0,nA .i64] [(0,2,true),(2,2,true),(4,1,false)]),
 (188,Ly .i64 8),
 (211,{ size:=64,bytes:=64,zero:=(bPE 64 (nA .u8)),kind:=TK.arr 64 1 false }),
 (236,Ds 6 48 [nA .u64,nA .i64,nA .i64,nA .i64,nA .u64,nA .u64] [(0,1,false),(1,1,false),(2,1,false),(3,1,false),(4,1,false),(5,1,false)]),
 (237,Ds 6 48 [nA .u64,nA .i64,nA .i64,nA .i64,nA .u64,nA .u64] [(0,1,false),(1,1,false),(2,1,false),(3,1,false),(4,1,false),(5,1,false)]),
 (250,{ size:=4,bytes:=96,zero:=[.slice none 0 0,.slice none 0 0,.slice none 0 0,.slice none 0 0],kind:=TK.arr 4 1 false }),
 (273,{ size:=0,bytes:=0,zero:=[],kind:=TK.arr 0 1 false }),
 (274,Ds 0 0 [] [(0,0,true)]),
 (275,Ds 0 0 [] [(0,0,true)]),
 (277,Ly .u8 1),
 (278,Ly .u8 1),
 (281,Ly .i32 4),
 (282,Ly .i32 4),
 (283,Ds 11 48 [nA .u64,nA .u64,nA .u32,nA .u8,nA .u8,nA .u8,nA .u8,Value.nilFunc,.pointer none,nA .i32,nA .i32] [(0,1,false),(1,1,false),(2,1,false),(3,1,false),(4,1,false),(5,1,false),(6,1,false),(7,1,false),(8,1,false),(9,1,false),(10,1,false)]),
 (284,Ds 11 48 [nA .u64,nA .u64,nA .u32,nA .u8,nA .u8,nA .u8,nA .u8,Value.nilFunc,.pointer none,nA .i32,nA .i32] [(0,1,false),(1,1,false),(2,1,false),(3,1,false),(4,1,false),(5,1,false),(6,1,false),(7,1,false),(8,1,false),(9,1,false),(10,1,false)])]
theorem pE:mJ prog (tlook Ga):=aIS Ga (by kernel_rfl) (by kernel_rfl) (by kernel_rfl)
def ext:FuncId->List Value->Option (Prop×List Value):=(Ya 175 aPQ (Ya 173 gAdd Xz))
theorem mI:Yt prog ext:=(Rd (Re (P:=prog) (f:=175) (fn:=f175) (e:=uN) func175 rfl rfl (by kernel_rfl) (by kernel_rfl)) aKI (Rd (Re (P:=prog) (f:=173) (fn:=f173) (e:=add64Entry) func173 rfl rfl (by kernel_rfl) (by kernel_rfl)) aKJ Uo))
def globs(g:Nat):Option (IntKind×List Int):=bif bNC g 0 then some (.u8,[0,1,56,2,57,49,28,3,61,58,42,50,38,29,17,4,62,47,59,36,45,43,51,22,53,39,33,30,24,18,12,5,63,55,48,27,60,41,37,16,46,35,44,21,52,32,23,11,54,26,40,15,34,20,31,10,25,14,19,9,13,8,7,6])else(none)
def base:Env:={ T:=tlook Ga,C:=fun _ _=>none,ext:=ext,glob:=globs,nt:=0,own:=[],keep:=fun _=>[],roll:=fun _=>none,cut:=fun _=>none }
theorem mixed:prog.follows .mixedOrders=true:=by kernel_rfl
abbrev OK(n:Nat)(o:dC):Prop:=lA prog base.glob n o
theorem eI(E:Env)(c:Code){n:FuncId}{f:Func}{t:List (Nat×dC)}(h:∀p∈t,lA prog base.glob p.1 p.2)(hf:prog.funcs[n]?=some f)(hb:f.body=some c:=by exact rfl)(hn:(f.name== "runtime.NumGoroutine")=false:=by exact rfl)(hE:E={ base with C:=callsOf t,nt:=f.ntmps,own:=E.own,keep:=E.keep,cut:=E.cut,wide:=E.wide }:=by exact rfl):qI prog E n f c:=by
 have hg:E.glob=base.glob:=by rw[hE]
 exact aAE (by rw[hE];exact pE) mixed (kK t (by rw[hE]) (by rw[hg];exact h) (by rw[hE];exact mI) (by rw[hE];rfl)) hf hb (by rw[hE]) hn (by rw[hE];rfl)
abbrev Ji:TypeId:=156
abbrev fC:TypeId:=22
end W
namespace AI
open Go Go.RowKit
theorem Contract.bHX{P:Program}{G:Nat->Option (IntKind×List Int)}{f:FuncId}{d d' e e' g g' k k' l l':D}{rs:List D}(h:Contract P G f [d',e',g',k',l'] rs)(hd:zU d d')(he:zU e e')(hg:zU g g')(hk:zU k k')(hl:zU l l'):Contract P G f [d,e,g,k,l] rs :=
 h.of rfl fun i x x' hx wC=>by
  match i with
  |0=>simp at hx wC;subst hx;subst wC;exact hd
  |1=>simp at hx wC;subst hx;subst wC;exact he
  |2=>simp at hx wC;subst hx;subst wC;exact hg
  |3=>simp at hx wC;subst hx;subst wC;exact hk
  |4=>simp at hx wC;subst hx;subst wC;exact hl
  |i+5=>simp at hx
def orc5{α β γ δ ε:Type}(p:kR α)(q:kR β)(r:kR γ)(s:kR δ)(t:kR ε)(f:α->β->γ->δ->ε->Prop×List D):dC
 | [a,b,c,d,e]=>match p.get a,q.get b,r.get c,s.get d,t.get e with
  |some x,some y,some z,some u,some v=>some (f x y z u v)
  |_,_,_,_,_=>none
 |_=>none
variable {P:Program} {E:Env} {f:FuncId} {fn:Func} {c:Code}
theorem qI.aYU{α β γ δ ε:Type}(h:qI P E f fn c){p:kR α}{p':kR β}{Ml:kR γ}{p3:kR δ}{p4:kR ε}{g:α->β->γ->δ->ε->Prop×List D}(hn:bNE 5 fn.ntmps=true)(hs:∀x y z u v,(g x y z u v).1->aF E fn c [p.put x,p'.put y,Ml.put z,p3.put u,p4.put v]=some (g x y z u v).2):lA P E.glob f (orc5 p p' Ml p3 p4 g):=by
 intro ds q rs hd hg;unfold orc5 at hd;split at hd
 ·split at hd
  ·rename_i x y z u v hx hy hz hu hv;have hd:=Option.some.inj hd;have e1:q=(g x y z u v).1:=by rw[hd]
   have e2:rs=(g x y z u v).2:=by rw[hd]
   subst e1;subst e2;exact⟨(fn_contract (ds:=[p.put x,p'.put y,Ml.put z,p3.put u,p4.put v]) h.ty h.calls h.mix h.fnc h.body h.nt h.io (bOZ hn) (hs x y z u v hg)).bHX (p.le hx) (p'.le hy) (Ml.le hz) (p3.le hu) (p4.le hv),h.has⟩
  ·cases hd
 ·cases hd
end AI
namespace M
open Go AI
def wv(x:Bool×List Int):Int:=zs x.1 (M6.val x.2)
def kA(x:Bool×List Int):Prop:=M6.cD x.2/\(x.1=true->M6.val x.2≠0)/\x.2.length<=8192
def wD(z:Int):D:=.agg [.sc (.bool (isNeg z)),.ints .u64 (M6.dg z.natAbs)]
def fit(n:Nat):Bool:=decide (bl n<=524288)
theorem iZ(x:Bool×List Int):(wv x).natAbs=M6.val x.2:=kD _ _
theorem Lu{x:Bool×List Int}(h:x.1=true):wv x=-(M6.val x.2:Int):=by unfold wv zs;rw[h];rfl
theorem Bt{x:Bool×List Int}(h:x.1=false):wv x=(M6.val x.2:Int):=by unfold wv zs;rw[h];rfl
theorem kA.cells{x:Bool×List Int}(h:kA x):isNeg (wv x)=x.1/\M6.dg (wv x).natAbs=x.2:=by
 obtain⟨h1,h2,h3⟩:=h;unfold wv;rw[Fv,kD,<-h1];refine⟨?_,rfl⟩;cases hx:x.1 with
 |false=>rfl
 |true=>rw[decide_eq_true (h2 hx)];rfl
theorem kA.len{x:Bool×List Int}(h:kA x):x.2.length<=8192:=h.2.2
theorem aLS(b:Bool)(n:Nat):wD (zs b n)=.agg [.sc (.bool (b&&decide (n≠0))),.ints .u64 (M6.dg n)]:=by
 unfold wD;rw[Fv,kD]
theorem rT(z:Int):wv (isNeg z,M6.dg z.natAbs)=z:=by
 unfold wv zs;simp only[M6.bJ];cases h:isNeg z with
 |true=>have:=lS.1 h;simp only[cond_true];omega
 |false=>have:=jL.1 h;simp only[cond_false];omega
theorem mR{z:Int}(h:bl z.natAbs<=524288):kA (isNeg z,M6.dg z.natAbs):=by
 refine⟨M6.aW _,fun hn=>?_,eZ (k:=8192) (by omega)⟩;rw[M6.bJ];have:=lS.1 hn;omega
theorem Uz{n:Nat}(h:(M6.dg n).length<=8192):bl n<=524288:=by
 have:=yJ (M6.iP n) h;rw[M6.bJ]at this;omega
theorem kA.bl{x:Bool×List Int}(h:kA x):bl (M6.val x.2)<=524288:=by
 have:=yJ h.1.iX h.len;omega
def wE(ok:Bool)(z:Int):List D:=[wD (bif ok then z else 0),.s (.sc (.int .i64 (bif ok then 0 else 5)))]
theorem Ez(neg ok:Bool)(n:Nat):[D.agg [.sc (.bool (isNeg (bif (bif ok then(0:Int)else 5)==0 then zs neg (M6.val (bif ok then M6.dg n else []))else 0))),.ints .u64 (M6.dg (bif (bif ok then(0:Int)else 5)==0 then zs neg (M6.val (bif ok then M6.dg n else []))else 0).natAbs)],D.s (.sc (.int .i64 (bif ok then 0 else 5)))]=wE ok (zs neg n):=by
 cases ok with
 |true=>rw[cond_true,cond_true,show((0:Int)==0)=true from rfl,cond_true,M6.bJ];rfl
 |false=>rfl
theorem Fm{ok:Bool}{n:Nat}(h:ok=true->bl n<=524288):M6.cD (bif ok then M6.dg n else [])/\(bif ok then M6.dg n else []).length<=1099511627776:=by
 cases ok with
 |true=>have:=eZ (n:=n) (k:=8192) (by have:=h rfl;omega);exact⟨M6.aW _,by rw[cond_true];omega⟩
 |false=>exact⟨M6.Ak,by simp⟩
theorem yB{n:Nat}:decide ((M6.dg n).length<=8192)=fit n:=by
 unfold fit
 by_cases h:bl n<=524288
 ·rw[decide_eq_true h,decide_eq_true (eZ (k:=8192) (by omega))]
 ·rw[decide_eq_false h,decide_eq_false (fun hl=>h (Uz hl))]
theorem xD{n:Nat}(h:fit n=true):bl n<=524288:=of_decide_eq_true h
end M
namespace M
open Go AI
abbrev dU:=Bool×List Int×Int
def aJ(x:dU):Prop:=kA (x.1,x.2.1)/\(-1048576<=x.2.2/\x.2.2<=1048576)/\(M6.val x.2.1=0->x.2.2=0)/\(M6.val x.2.1≠0->M6.val x.2.1%2=1)
def dv(x:dU):Int×Int:=(wv (x.1,x.2.1),x.2.2)
def dD(p:Int×Int):D:=.agg [.sc (.bool (isNeg p.1)),.ints .u64 (M6.dg p.1.natAbs),.sc (.int .i64 p.2)]
def dE(ok:Bool)(p:Int×Int):List D:=[dD (bif ok then p else(0,0)),.s (.sc (.int .i64 (bif ok then 0 else 5)))]
def aK(z e:Int):Int×Int:=if z=0 then(0,0)else(z/((2^tz z.natAbs:Nat):Int),e+(tz z.natAbs:Nat))
def fN(z e:Int):Bool:=decide (z=0)||(decide (-1048576<=e+(tz z.natAbs:Nat))&&decide (e+(tz z.natAbs:Nat)<=1048576))
theorem aJ.Dr{x:dU}(h:aJ x):kA (x.1,x.2.1):=h.1
theorem aJ.len{x:dU}(h:aJ x):x.2.1.length<=8192:=h.1.len
theorem aJ.Iz{x:dU}(h:aJ x):M6.cD x.2.1:=h.1.1
theorem aJ.dD{x:dU}(h:aJ x):M.dD (dv x)=.agg [.sc (.bool x.1),.ints .u64 x.2.1,.sc (.int .i64 x.2.2)]:=by
 have:=h.Dr.cells;unfold M.dD dv;dsimp only at *;rw[this.1,this.2]
theorem aIN{b:Bool}{n:Nat}:zs b n=0↔n=0:=by
 have:=kD b n;omega
theorem aBN{b:Bool}{n q:Nat}(hq:0<q)(h:n%q=0):zs b n/(q:Int)=zs b (n/q):=by
 have hd:=bSI n q;have e:n=q*(n/q):=by omega
 cases b with
 |false =>
  show((n:Nat):Int)/(q:Int)=((n/q:Nat):Int);rw[bSS]
 |true =>
  show -(n:Int)/(q:Int)=-((n/q:Nat):Int);have e1:-(n:Int)=(q:Int)*(-((n/q:Nat):Int)):=by rw[Int.mul_neg,<-bTA,<-e]
  rw[e1,Int.mul_ediv_cancel_left _ (by omega)]
theorem zX{n:Nat}(h:n≠0):tz n<bl n:=by
 have h1:=Fx h;exact rN.2 h1
def jG(p:Int×Int):Prop:=bl p.1.natAbs<=524288/\(-1048576<=p.2/\p.2<=1048576)/\(p.1=0->p.2=0)/\(p.1≠0->p.1%2=1)
theorem dK(p:Int×Int):dv (isNeg p.1,M6.dg p.1.natAbs,p.2)=p:=by
 unfold dv;dsimp only;rw[rT]
theorem cQ{p:Int×Int}(h:jG p):aJ (isNeg p.1,M6.dg p.1.natAbs,p.2):=by
 obtain⟨h1,h2,h3,h4⟩:=h;refine⟨mR h1,h2,fun hz=>h3 ?_,fun hz=>?_⟩
 ·dsimp only at hz;rw[M6.bJ]at hz;omega
 ·dsimp only at hz ⊢;rw[M6.bJ]at hz ⊢;have:=h4 (by omega);omega
theorem aJ.uS{x:dU}(h:aJ x):jG (dv x):=by
 obtain⟨h1,h2,h3,h4⟩:=h;have ha:=iZ (x.1,x.2.1);dsimp only at ha;refine⟨?_,h2,fun hz=>h3 ?_,fun hz=>?_⟩
 ·show bl (wv _).natAbs<=_;rw[ha];exact h1.bl
 ·have hz:wv (x.1,x.2.1)=0:=hz;omega
 ·have hz:wv (x.1,x.2.1)≠0:=hz;have:=h4 (by omega);show wv (x.1,x.2.1)%2=1;omega
theorem jG.neg{p:Int×Int}(h:jG p):jG (-p.1,p.2):=by
 obtain⟨h1,h2,h3,h4⟩:=h;refine⟨by dsimp only;rwa [bTV],h2,fun hz=>h3 (by dsimp only at hz;omega),fun hz=>?_⟩;have:=h4 (by dsimp only at hz;omega);dsimp only;omega
theorem bMG{z:Int}{m n:Nat}(hm:bl z.natAbs<=m)(hn:bl z.natAbs<=n):z/((2^m:Nat):Int)=z/((2^n:Nat):Int):=by
 have one:∀k,bl z.natAbs<=k->z/((2^k:Nat):Int)=if z<0 then -1 else 0:=by
  intro k hk;have h:=dV.1 hk;have hp:0<2^k:=bQA (by decide);generalize 2^k=q at *
  by_cases hz:z<0
  ·rw[if_pos hz];have e:z=(q+z)+(q:Int)*(-1):=by omega
   rw[e,Int.add_mul_ediv_left _ _ (by omega),bUU (by omega) (by omega)];rfl
  ·rw[if_neg hz,bUU (by omega) (by omega)]
 rw[one m hm,one n hn]
theorem Aw{z:Int}{q:Nat}(hq:0<q):(z/(q:Int)).natAbs<=z.natAbs:=by
 have h:=Int.mul_ediv_add_emod z (q:Int);have h1:=Int.emod_nonneg z (show(q:Int)≠0 by omega);have h2:=Int.emod_lt_of_pos z (show 0<(q:Int) by omega)
 by_cases hz:0<=z
 ·have h3:0<=z/(q:Int):=Int.ediv_nonneg hz (by omega);have h4:z/(q:Int)<=z:=Int.ediv_le_self _ hz;omega
 ·have h3:z/(q:Int)<0:=Int.ediv_neg_of_neg_of_pos (by omega) (by omega);have h4:(q:Int)*(z/(q:Int)+1)<=1*(z/(q:Int)+1):=Int.mul_le_mul_of_nonpos_right (by omega) (by omega);rw[Int.mul_add]at h4;omega
end M
open Go.Value(int bool slice)
open AI.S(sc ints)
namespace W
open Go AI M
def mE(t:List (Nat×dC))(n:Nat)(o:List Nat)(k:List (Nat×List Nat))(c:List Nat):Env:={({base with C:=callsOf t})with nt:=n,own:=o,keep:=fun j=>(tlook k j).getD [],cut:=fun j=>bif c.elem j then tlook k j else none}
noncomputable def bd(f:Func):Code:=f.body.getD .skip
def vA(s:S):KV:=(A.v (V.one (L.s s)),none)
def gD(l:List Int):KV:=vA (S.ints .u64 l)
def wG(l:List Int):KV:=vA (S.ints .u32 l)
def bR(n:Int):KV:=vA (S.sc (.int .i64 n))
def cY(n:Int):KV:=vA (S.sc (.int .u64 n))
def Lv(b:Bool):KV:=vA (S.sc (.bool b))
def dG(i e:Nat)(c:List S):KV:=(A.v (V.one (L.ptr i 0)),some ⟨e,.cells c⟩)
def cP(n:Int):S:=S.sc (.int .i64 n)
def aIR(n:Int):S:=S.sc (.int .u64 n)
def cG(b:Bool):S:=S.sc (.bool b)
def eM(l:List Int):S:=S.ints .u64 l
def aSG(l:List Int):S:=S.ints .u32 l
def yL(i n e:Nat)(l:List Int):KV:=(A.v (V.one (L.buf i n)),some ⟨e,.ints .u64 l⟩)
abbrev gO{α:Type}(E:Env)(f:Func)(c:Code)(p:kR α)(g:α→Prop×List D):Prop:=∀x,(g x).1→aF E f c [p.put x]=some (g x).2
abbrev fO{α β:Type}(E:Env)(f:Func)(c:Code)(p:kR α)(q:kR β)(g:α→β→Prop×List D):Prop:=∀x y,(g x y).1→aF E f c [p.put x,q.put y]=some (g x y).2
abbrev tL{α β γ:Type}(E:Env)(f:Func)(c:Code)(p:kR α)(q:kR β)(r:kR γ)(g:α→β→γ→Prop×List D):Prop:=∀x y z,(g x y z).1→aF E f c [p.put x,q.put y,r.put z]=some (g x y z).2
abbrev aHE{α β γ δ:Type}(E:Env)(f:Func)(c:Code)(p:kR α)(q:kR β)(r:kR γ)(t:kR δ)(g:α→β→γ→δ→Prop×List D):Prop:=∀x y z u,(g x y z u).1→aF E f c [p.put x,q.put y,r.put z,t.put u]=some (g x y z u).2
abbrev aHD{α:Type}(E:Env)(f:Func)(c:Code)(p:kR α)(g:α→Prop×List D):Prop:=∀x,(g x).1→∃rs,aF E f c [p.put x]=some rs∧fX rs (g x).2
abbrev Eu{α β:Type}(E:Env)(f:Func)(c:Code)(p:kR α)(q:kR β)(g:α→β→Prop×List D):Prop:=∀x y,(g x y).1→∃rs,aF E f c [p.put x,q.put y]=some rs∧fX rs (g x y).2
abbrev aWM{α β γ:Type}(E:Env)(f:Func)(c:Code)(p:kR α)(q:kR β)(r:kR γ)(g:α→β→γ→Prop×List D):Prop:=∀x y z,(g x y z).1→∃rs,aF E f c [p.put x,q.put y,r.put z]=some rs∧fX rs (g x y z).2
abbrev sT:=pG (.pair sB (.pair (sI .u64) (.pair (sN .i64) (.pair sB (.pair (sI .u64) (sN .i64))))))
abbrev hZ:=pG (.pair sB (.pair (sI .u64) (sN .i64)))
abbrev aWY:=pG (.pair sB (sI .u32))
abbrev wB:=pG (.pair sB (sI .u64))
namespace fI
def E:=mE [] 20 [] [] []
def aE:=bd f167
theorem aU:Nk E aE:=nk
theorem start a:aF E f167 aE [D.s (ints u64 a)]=letI A:=(a.length:Int);letI B:=A-(1:Int);aB (decide (A<=(8192:Int))) (aB (A==(0:Int)) (some [D.s (sc (bool true))]) (if 0<=i64.wrap B/\i64.wrap B<A then some [D.s (sc (bool (a.getD (i64.wrap B).toNat 0 !=(0:Int))))]else none)) (some [D.s (sc (bool false))]):=eJ aU
def mY(a:List Int):Bool:=decide (a.length<=8192)&&(a.length==0||a.getD (a.length-1) 0 !=0)
theorem lU{a:List Int}(h:M6.cD a)(hl:a.length<=8192):mY a=true:=by
 unfold mY;rw[decide_eq_true hl,bQC]
 by_cases hz:a.length=0
 ·simp[hz]
 ·have:=M6.getLast_take (a:=a) (n:=a.length-1) (by omega);rw[show a.length-1+1=a.length from by omega,bTW]at this;have:=h.top this;have e1:(a.getD (a.length-1) 0 !=0)=true:=by simpa using this
  rw[e1,bTB]
def sp(a:List Int):Prop×List D:=(a.length<=1099511627776,[.s (.sc (.bool (mY a)))])
theorem spec:gO E f167 aE (pI .u64) sp:=by
 intro a h;have hl:a.length<=1099511627776:=h;refine(start a).trans ?_;show _=some [D.s (.sc (.bool (mY a)))];unfold mY
 by_cases h1:a.length<=8192
 ·rw[aO,decide_eq_true h1,bQC]
  by_cases hz:a.length=0
  ·rw[cF];simp[hz]
  ·have e:((a.length:Int)-1).toNat=a.length-1:=by omega
   rw[bS,wrap_i64 (n:=(a.length:Int)-1),aT,e];simp[hz]
 ·rw[aI,decide_eq_false h1];rfl
def aH:dC:=orc1 (pI .u64) sp
theorem ok:OK 167 aH:=(eI E aE aD func167).nD rfl spec
end fI
namespace gJ
def E:=mE [(167,fI.aH)] 17 [] [] []
def aE:=bd f112
theorem aU:Nk E aE:=nk
theorem start a b:aF E f112 aE [D.agg [sc (bool a),ints u64 b]]=aQ (b.length<=1099511627776) (aB (fI.mY b) (aB a (some [D.s (sc (bool !(b.length:Int)==(0:Int)))]) (some [D.s (sc (bool true))])) (some [D.s (sc (bool false))])):=eJ aU
def qL(x:Bool×List Int):Bool:=fI.mY x.2&&!(x.1&&((x.2.length:Int)==0))
theorem nL{x:Bool×List Int}(h:kA x):qL x=true:=by
 unfold qL;rw[fI.lU h.1 h.len,bQC];cases hx:x.1 with
 |false=>rfl
 |true =>
  have:=h.2.1 hx;have hz:x.2.length≠0:=fun hl=>this ((M6.cS h.1).1 hl)
  rw[bQC,beq_eq_false_iff_ne.2 (by omega)];rfl
def sp(x:Bool×List Int):Prop×List D:=(x.2.length<=1099511627776,[.s (.sc (.bool (qL x)))])
theorem spec:gO E f112 aE wB sp:=by
 intro x h;have hl:x.2.length<=1099511627776:=h;refine(start x.1 x.2).trans ?_;show _=some [D.s (.sc (.bool (qL x)))];unfold qL;rw[gP hl];cases fI.mY x.2 with
 |false=>rfl
 |true=>cases x.1 <;> rfl
def aH:dC:=orc1 wB sp
theorem ok:OK 112 aH:=(eI E aE (aA fI.ok aD) func112).nD rfl spec
end gJ
namespace kQ
def E:=mE [] 8 [] [] []
def aE:=bd f68
theorem aU:Nk E aE:=nk
theorem start a b c:aF E f68 aE [D.agg [sc (bool a),ints u64 b,sc (int i64 c)]]=some [D.s (sc (bool ((b.length:Int)==(0:Int))))]:=eJ aU
def sp(x:dU):Prop×List D:=(True,[.s (.sc (.bool ((x.2.1.length:Int)==0)))])
theorem spec:gO E f68 aE hZ sp:=fun x h=>start x.1 x.2.1 x.2.2
def aH:dC:=orc1 hZ sp
theorem ok:OK 68 aH:=(eI E aE aD func68).nD rfl spec
end kQ
namespace lB
def E:=mE [(112,gJ.aH),(68,kQ.aH)] 29 [] [(3,[1])] [3]
def aE:=bd f61
theorem aU:Nk E aE:=nk
def J3 a b c:=lD E f61 aE 3 [dG 0 29 [cG a,eM b,cP c]]
theorem start a b c:aF E f61 aE [D.agg [sc (bool a),ints u64 b,sc (int i64 c)]]=letI A:=some [D.s (sc (bool false))];aQ (b.length<=1099511627776) (aB (!gJ.qL (a,b)) A (aB (decide (c<(-1048576:Int))) A (aB (decide (1048576<c)) A (lB.J3 a b c)))):=eJ aU
theorem gL a b c:J3 a b c=aQ True (aB ((b.length:Int)==(0:Int)) (some [D.s (sc (bool (c==0)))]) (if(0:Int)<=(0:Int)/\0<(b.length:Int)then some [D.s (sc (bool (eY BinOp.and u64 (b.getD 0 0) 1==(1:Int))))]else none)):=cJ aU
def sp(x:dU):Prop×List D:=(aJ x,[.s (.sc (.bool true))])
theorem aJL{a:List Int}(h:M6.cD a)(hv:M6.val a%2=1):eY .and .u64 (a.getD 0 0) 1=1:=by
 have g:=h.iX.get 0;rw[Rz g.1 g.2 (by omega) (by omega)];have e:M6.val a=(a.getD 0 0).toNat+18446744073709551616*M6.val (a.drop 1):=by
  have:=M6.gF (a:=a) 0;rwa [bTJ]at this
 have e1:(a.getD 0 0).toNat &&& (1:Int).toNat=(a.getD 0 0).toNat%2:=Nat.and_one_is_mod _;rw[e1];omega
theorem spec:gO E f61 aE hZ sp:=by
 intro x h;have h:aJ x:=h;have hl:=h.len;have hf:=gJ.nL h.Dr;have hn:=h.Iz;obtain⟨b,a,e⟩:=x;obtain⟨hw,he,h0,h1⟩:=h;refine(start b a e).trans ?_
 try dsimp only at *
 unfold sp
 try dsimp only
 rw[gP,hf,bPB,bF,aI,aI,gL,gP trivial]
 try dsimp only
 by_cases hz:a.length=0
 ·rw[cF,h0 ((M6.cS hn).1 hz)];rfl
 ·rw[bS,if_pos ⟨by omega,by omega⟩,aJL hn (h1 (fun hv=>hz ((M6.cS hn).2 hv)))];rfl
def aH:dC:=orc1 hZ sp
theorem ok:OK 61 aH:=(eI E aE (aA gJ.ok (aA kQ.ok aD)) func61).nD rfl spec
end lB
namespace Clone
def Jk:Go.Shelf.Ren:=⟨fun |41=>121 |n=>n,fun |22=>25 |23=>22 |4=>4 |n=>n,fun |n=>n⟩
theorem Ct:Go.Proofs.SlLaysE0.n41 prog Jk:={
 mixed:=by kernel_rfl
 f41:=⟨f121.name,by decide,func121.trans (congrArg some (by kernel_rfl))⟩
 t4:=Tryz.underlying4
 a4:=Tryz.isAgg4
 z4:=Tryz.sizeOf4
 v4:=Tryz.zeroValue4
 t22:=Tryz.underlying25
 a22:=Tryz.isAgg25
 z22:=Tryz.sizeOf25
 v22:=Tryz.zeroValue25 }
def sp(a:List Int):Prop×List D:=(a.length<=1099511627776,[.s (.ints .u64 a)])
section
open Go.Shelf Go.RowKit Go.Lib
set_option maxHeartbeats 2000000
set_option maxRecDepth 100000
theorem zero{P:Program}{ρ:Ren}(L:SlLaysE0.n41 P ρ)(i0:TypeInfo)(z:Value)(bytes:Nat)(hi:P.info? (ρ.t 23)=some i0)(Zn:i0.zero=some z)(aMJ:i0.size=1)(aJV:i0.bytes=bytes)(Xl:z.cells.size=1)
  (z23:∀w,(Go.sizeOf (ρ.t 23)).run P w=.ok 1 w) (a:Addr) (c:Nat) (w:World) :
  Calls P (ρ.f 41) #[.slice (some a) 0 c] w fun e w'=>∃v',e=.returned v'/\w'.ownsRow w.heap.size (ρ.t 23) 1 v' 0 []/\Below w.heap.size w w':=by
 have mixed:=L.mixed;have t4:=L.t4;have a4:=L.a4;have z4:=L.z4;have v4:=L.v4;have t22:=L.t22;have a22:=L.a22;have z22:=L.z22;have v22:=L.v22;have q22:∀(w:World) (a:Option Addr) (n c n' c':Nat),(binOp .eql (ρ.t 22) (.slice a n c) (.slice none n' c')).run P w=.ok (.bool a.isNone) w:=fun w a n c n' c'=>Lib.run_eql_slice_nil w _ _ a n c n' c' L.t22
 have u22:∀w,Sem.run P (underlying (ρ.t 22)) w=.ok (TypeDesc.slice (ρ.t 23)) w:=run_underlying t22;obtain⟨_,_,FG⟩:=L.f41
 go_enter FG,SlBodyN.n41_ntmps ρ
 go_wp2_with (at_builtin;refine wpList_append_own _ rfl _ _ (ρ.t 22) rfl w.heap.size (ρ.t 23) i0 z 1 bytes t22 hi Zn aMJ aJV Xl (by decide) _ _ _ rfl (World.ownsRow_made w #[] 0 (bNB _) (bTF _) (by simp)) a 0 c [] rfl rfl (by intro j u hj;simp at hj) (by intro u hu;cases hu) (by unfold maxLen;omega) (by omega) (by simp) ?_)
 intro v' w1 pZ aVC aUI
 go_wp2
 go_ret
 exact⟨v',rfl,by simpa using pZ,((Below.refl _ w).alloc (bNB _) _).grown aVC (by simp) (by intro k hk;simp[Value.ownBlock]at hk;omega)⟩
end
theorem aDJ{X:Nat->Prop}{w:World}{base:Nat}{e:TypeId}{v:Value}{a:List Int}(hX:∀b,X b->b<base)(h:w.ownsRow base e 1 v a.length (a.map (Value.int .u64))):nC X w (.ints .u64 a) v:=by
 obtain⟨_,⟨rfl,h0⟩ |⟨g,cap,cur,rfl,hg,hb,hn,hm,hs,ht⟩⟩:=h
 ·have:a=[]:=List.length_eq_zero_iff.1 h0;subst this;exact⟨none,0,rfl,bNB _,fun i n hn=>by simp at hn⟩
 ·refine⟨some ⟨g,0,none⟩,cap,rfl,hn,fun i n hi=>⟨g,0,rfl,?_,fun hx=>?_,?_⟩⟩
  ·exact(Array.getElem?_eq_some_iff.1 hb).1
  ·have:=hX g hx;omega
  ·have iN:i<a.length:=(List.getElem?_eq_some_iff.1 hi).1;have e1:(cur.toList.take (a.length*1))[i]?=some (Value.int .u64 n):=by
    rw[ht,bNF,hi];rfl
   rw[List.getElem?_take,aT]at e1;simp only[World.cell?,hb,bND];simpa using e1
theorem aJK{Y:Nat->Prop}{base:Nat}{w:World}{d:D}{v:Value}(hd:iY d=false)(h:lL Y w d v):Vl Y base w [d] [v]:=by
 refine⟨fun _=>0,rfl,fun i j d1 d2 h1 h2 o1 _ _=>?_,fun i d1 v1 h1 h2=>?_⟩
 ·have:d1=d:=by
   match i with
   |0=>simpa using h1.symm
   |i+1=>simp at h1
  rw[this,hd]at o1;cases o1
 ·have h3:d1=d/\v1=v:=by
   match i with
   |0=>exact⟨by simpa using h1.symm,by simpa using h2.symm⟩
   |i+1=>simp at h1
  obtain⟨rfl,rfl⟩:=h3;have e:(fun b=>Y b\/∃(j:Nat) (d':D),[d1][j]?=some d'/\iY d'=true/\(fun _:Nat=>0) j=b)=Y:=by
   funext b;refine propext ⟨fun hh=>?_,.inl⟩;rcases hh with hh |⟨j,d',h4,h5,_⟩
   ·exact hh
   ·match j with
    |0 =>
     have:d'=d1:=by simpa using h4.symm
     rw[this,hd]at h5;cases h5
    |j+1=>simp at h4
  rw[e];cases d1 with
  |own=>cases hd
  |_=>exact h
theorem aGP(a:List Int)(hl:a.length<=1099511627776):Contract prog base.glob 121 [(pI .u64).put a] [.s (.ints .u64 a)]:=by
 intro Y w vs hY hG hlen hargs;obtain⟨v,rfl⟩:∃v,vs=[v]:=by
  match vs,hlen with
  | [v],_=>exact⟨v,rfl⟩
 obtain⟨A,c,rfl,hc,iF⟩:nC Y w (.ints .u64 a) v:=hargs 0 _ _ rfl rfl;have t1:=pE fC _ rfl;obtain⟨i0,hi,hs,aVK,z,hz,Jn⟩:=t1.i;have z23:=fun w=>t1.run_sizeOf (w:=w)
 have fin:∀(e:Ending) (w':World),(∃v',e=.returned v'/\w'.ownsRow w.heap.size fC 1 v' a.length (a.map (Value.int .u64))/\RowKit.Below w.heap.size w w')->∃vL,e=.returned (resV vL)/\RowKit.Below w.heap.size w w'/\Vl Y w.heap.size w' [.s (.ints .u64 a)] vL:=by
  rintro e w' ⟨v',rfl,ho,hb⟩;exact⟨[v'],rfl,hb,aJK rfl (aDJ hY ho)⟩
 have Xl:z.cells.size=1:=by
  have:=congrArg List.length Jn;simpa using this
 cases A with
 |none =>
  have ha:a=[]:=by
   cases a with
   |nil=>rfl
   |cons x r=>obtain⟨b,off,h1,_⟩:=iF 0 x rfl;cases h1
  subst ha;refine(AnyE.slices_Clone_nil Ct 0 c w).mono ?_;rintro e w' ⟨rfl,rfl⟩;exact fin _ _ ⟨_,rfl,⟨rfl,.inl ⟨rfl,rfl⟩⟩,RowKit.Below.refl _ _⟩
 |some ad =>
  cases a with
  |nil =>
   refine(zero Ct i0 z _ hi hz hs aVK Xl z23 ad c w).mono ?_;rintro e w' ⟨v',rfl,ho,hb⟩;exact fin _ _ ⟨v',rfl,ho,hb⟩
  |cons x r =>
   obtain⟨b,off,h1,_⟩:=iF 0 x rfl;cases h1;refine(AnyE.slices_Clone Ct i0 z 1 _ hi hz hs aVK Xl (by decide) z23 b off (x :: r).length c ((x :: r).map (Value.int .u64)) w (by simp) (by unfold maxLen;omega) (by show(x :: r).length*8<=_;omega) ?_ ?_).mono ?_
   ·intro j u hj;rw[bNF]at hj;obtain⟨n,hn,rfl⟩:=Option.map_eq_some_iff.1 hj;obtain⟨b',aSV,h2,_,_,h3⟩:=iF j n hn;cases h2;exact h3
   ·intro u hu;obtain⟨n,_,rfl⟩:=List.mem_map.1 hu;rfl
   ·rintro e w' ⟨v',rfl,ho,_,hb⟩;exact fin _ _ ⟨v',rfl,ho,hb⟩
theorem bBS:tD prog 121:=uZ func121 rfl rfl
def aH:dC:=orc1 (pI .u64) sp
theorem ok:lA prog base.glob 121 aH:=by
 intro ds g rs hd hg;unfold aH orc1 at hd;split at hd
 ·split at hd
  ·rename_i x hx;have hd:=Option.some.inj hd;have e1:g=(sp x).1:=by rw[hd]
   have e2:rs=(sp x).2:=by rw[hd]
   subst e1;subst e2;exact⟨(aGP x hg).aYW ((pI .u64).le hx),bBS⟩
  ·cases hd
 ·cases hd
end Clone
namespace Bn
def E:=mE [(121,Clone.aH)] 10 [] [] []
def aE:=bd f69
theorem aU:Nk E aE:=nk
theorem start a b c:aF E f69 aE [D.agg [sc (bool a),ints u64 b,sc (int i64 c)]]=aQ (b.length<=1099511627776) (some [D.agg [sc (bool a),ints u64 b,sc (int i64 c)]]):=eJ aU
def sp(x:dU):Prop×List D:=(x.2.1.length<=1099511627776,[.agg [.sc (.bool x.1),.ints .u64 x.2.1,.sc (.int .i64 x.2.2)]])
theorem spec:gO E f69 aE hZ sp:=fun x h=>(start x.1 x.2.1 x.2.2).trans (gP h)
def aH:dC:=orc1 hZ sp
theorem ok:OK 69 aH:=(eI E aE (aA Clone.ok aD) func69).nD rfl spec
end Bn
namespace xN
def E:=mE [] 21 [] [(2,[0,3])] []
def aE:=bd f174
theorem aU:Nk E aE:=nk
def L2 a b:=nU E f174 aE 2 [gD a,bR b]
theorem start a:aF E f174 aE [D.s (ints u64 a)]=xN.L2 a (a.length:Int):=eJ aU
theorem kC a b:L2 a b=letI B:=(a.length:Int);letI A:=ints u64 (bSY 0 (bSX b.toNat a));aB (decide (0<b)) (if 0<=i64.wrap (b-1)/\i64.wrap (b-1)<B then aB (a.getD (i64.wrap (b-1)).toNat 0==(0:Int)) (xN.L2 a (i64.wrap (b-1))) (if(0:Int)<=(0:Int)/\0<=b/\b<=B then some [D.s A]else none)else none) (if(0:Int)<=(0:Int)/\0<=b/\b<=B then some [D.s A]else none):=lJ aU
def sp(a:List Int):Prop×List D:=(M6.cB a/\a.length<=1099511627776,[.s (.ints .u64 (M6.dg (M6.val a)))])
theorem L{xs:List Int}(hd:M6.cB xs)(hl:xs.length<=4398046511104):∀n:Nat,n<=xs.length->L2 xs n=some [D.s (.ints .u64 (M6.dg (M6.val (xs.take n))))]
 |0,h=>by
  rw[kC,aI,aT];simp[M6.val,M6.bN]
 |n+1,h=>by
  rw[kC];have e:i64.wrap (((n+1:Nat):Int)-1)=(n:Int):=by rw[wrap_i64];omega
  rw[e,aO,aT,bQX]
  by_cases hz:xs.getD n 0=0
  ·rw[cF hz,L hd hl n (by omega),M6.jQ (by omega),hz];simp
  ·rw[bS hz,aT,bQX,bTJ];have:M6.cD (xs.take (n+1)):=M6.wS (hd.take _) fun d hg=>by
    rw[M6.getLast_take (by omega)]at hg;cases hg;exact hz
   rw[<-this]
theorem spec:gO E f174 aE (pI .u64) sp:=by
 rintro a ⟨hd,hl⟩;refine(start a).trans ?_;rw[L hd (by omega) a.length (bNB _),bTW];rfl
def aH:dC:=orc1 (pI .u64) sp
theorem ok:OK 174 aH:=(eI E aE aD func174).nD rfl spec
end xN
namespace bZ
def E:=mE [(174,xN.aH)] 10 [5] [] []
def aE:=bd f171
theorem aU:Nk E aE:=nk
theorem start a:aF E f171 aE [D.s (ints u64 a)]=aQ (M6.cB a/\a.length<=1099511627776) (aB (decide (8192<(↑(M6.dg (M6.val a)).length:Int))) (some [D.s (sc (slice none 0 0)),D.s (sc (int i64 5))]) (some [D.s (ints u64 (M6.dg (M6.val a))),D.s (sc (int i64 0))])):=eJ aU
def kX(n:Nat):Bool:=decide ((M6.dg n).length<=8192)
def sp(a:List Int):Prop×List D:=(M6.cB a/\a.length<=1099511627776,[.s (.ints .u64 (bif kX (M6.val a)then M6.dg (M6.val a)else [])),.s (.sc (.int .i64 (bif kX (M6.val a)then 0 else 5)))])
theorem spec:aHD E f171 aE (pI .u64) sp:=by
 intro a h;have hl:=M6.oX h.1;have h2:=h.2;have e:=(start a).trans (gP h);unfold sp kX;simp only
 by_cases hc:(M6.dg (M6.val a)).length<=8192
 ·rw[aI]at e;rw[decide_eq_true hc];exact⟨_,e,fX.refl _⟩
 ·rw[aO]at e;rw[decide_eq_false hc];exact⟨_,e,.cons (vZ.nil _) (fX.refl _)⟩
def aH:dC:=orc1 (pI .u64) sp
theorem ok:OK 171 aH:=(eI E aE (aA xN.ok aD) func171).aSD rfl spec
end bZ
namespace xQ
def aLU:ByteArray:=⟨((bOL 256).map fun n=>UInt8.ofNat (bl n)).toArray⟩
def E:=mE [] 25 [] [(4,[0,2]),(7,[0,2])] [4,7]
def aE:=bd f176
theorem aU:Nk E aE:=nk
def J4 a b:=lD E f176 aE 4 [cY a,bR b]
def J7 a b:=lD E f176 aE 7 [cY a,bR b]
theorem start a:aF E f176 aE [D.s (sc (int u64 a))]=aB (decide (4294967296<=a)) (xQ.J4 (a/4294967296) 32) (xQ.J4 a 0):=eJ aU
theorem Sk a b:J4 a b=aB (decide (65536<=a)) (xQ.J7 (a/65536) (i64.wrap (b+16))) (xQ.J7 a b):=cJ aU
theorem Sj a b:J7 a b=aB (decide (256<=a)) (if 0<=u8.wrap (a/256)/\u8.wrap (a/256)<256 then some [D.s (sc (int i64 (i64.wrap (i64.wrap (b+8)+i64.wrap (Du aLU (u8.wrap (a/256)))))))]else none) (if 0<=u8.wrap a/\u8.wrap a<256 then some [D.s (sc (int i64 (i64.wrap (b+i64.wrap (Du aLU (u8.wrap a))))))]else none):=cJ aU
theorem Mc:(bOL 256).all (fun n=>Du aLU (n:Nat)==(bl n:Nat))=true:=by kernel_rfl
theorem Mb{x:Int}(h:0<=x)(h':x<256):Du aLU x=(bl x.toNat:Nat):=by
 have:=List.all_eq_true.1 Mc x.toNat (List.mem_range.2 (by omega));rw[show((x.toNat:Nat):Int)=x from by omega]at this;exact eq_of_beq this
theorem wrap_u8{x:Int}(h:0<=x)(h':x<256):u8.wrap x=x:=by
 show(if(false&&decide (x%256>=128))=true then x%256-256 else x%256)=x;rw[Int.emod_eq_of_lt h h'];simp
theorem sA{x:Int}{k:Nat}(h:(2:Int)^k<=x):bl x.toNat=k+bl (x/2^k).toNat:=by
 have hp:(0:Int)<2^k:=Int.pow_pos (by omega);have bJL:((2^k:Nat):Int)=2^k:=by rw[Int.natCast_pow];rfl
 obtain⟨n,rfl⟩:=bSE (show 0<=x by omega);rw[<-bJL]at h ⊢;rw[<-bSS,bQX,bQX];have h1:=bSI n (2^k);have h2:=bPJ n (bQA (n:=k) (show 0<2 by omega));have h3:n/2^k≠0:=by
  intro h0;have:=(Nat.div_eq_zero_iff_lt (bQA (n:=k) (show 0<2 by omega))).1 h0;omega
 have:=Va h2 h3;rw[show n%2^k+2^k*(n/2^k)=n from by omega]at this;exact this
theorem bGX{x n:Int}(h:0<=x)(h':x<65536)(hn:0<=n)(Zt:n<=1000):J7 x n=some [D.s (.sc (.int .i64 (n+(bl x.toNat:Nat))))]:=by
 rw[Sj]
 by_cases hc:256<=x
 ·have hb:bl (x/256).toNat<=8:=dV.2 (by omega);have hs:=sA (x:=x) (k:=8) (by omega);rw[show((2:Int)^8)=256 from rfl]at hs;rw[aO hc,wrap_u8 (by omega) (by omega),if_pos ⟨by omega,by omega⟩,Mb (by omega) (by omega),wrap_i64 (n:=n+8),wrap_i64 (n:=((bl (x/256).toNat:Nat):Int)) (by omega) (by omega),wrap_i64,hs];congr 5;omega
 ·have hb:bl x.toNat<=8:=dV.2 (by omega);rw[aI hc,wrap_u8 (by omega) (by omega),if_pos ⟨by omega,by omega⟩,Mb (by omega) (by omega),wrap_i64 (n:=(bl x.toNat:Int)),wrap_i64]
theorem bGZ{x n:Int}(h:0<=x)(h':x<4294967296)(hn:0<=n)(Zt:n<=500):J4 x n=some [D.s (.sc (.int .i64 (n+(bl x.toNat:Nat))))]:=by
 rw[Sk]
 by_cases hc:65536<=x
 ·have hs:=sA (x:=x) (k:=16) (by omega);rw[show((2:Int)^16)=65536 from rfl]at hs;rw[aO hc,wrap_i64 (n:=n+16),bGX (by omega) (by omega) (by omega) (by omega),hs];congr 5;omega
 ·rw[aI hc,bGX (by omega) (by omega) (by omega) (by omega)]
def sp(a:Int):Prop×List D:=(0<=a/\a<18446744073709551616,[.s (.sc (.int .i64 (bl a.toNat:Nat)))])
theorem spec:gO E f176 aE (pN .u64) sp:=by
 rintro a ⟨h1,h2⟩;refine(start a).trans ?_;show _=some [D.s (.sc (.int .i64 (bl a.toNat:Nat)))]
 by_cases hc:4294967296<=a
 ·have hs:=sA (x:=a) (k:=32) (by omega);rw[show((2:Int)^32)=4294967296 from rfl]at hs;rw[aO hc,bGZ (by omega) (by omega) (by omega) (by omega),hs];congr 5
 ·rw[aI hc,bGZ (by omega) (by omega) (by omega) (by omega)];congr 5;omega
def aH:dC:=orc1 (pN .u64) sp
theorem ok:OK 176 aH:=(eI E aE aD func176).nD rfl spec
end xQ
namespace uG
def E:=mE [(174,xN.aH),(176,xQ.aH)] 21 [] [] []
def aE:=bd f127
theorem aU:Nk E aE:=nk
theorem start a:aF E f127 aE [D.s (ints u64 a)]=letI B:=M6.dg (M6.val a);letI A:=(B.length:Int);letI C:=A-(1:Int);letI F:=i64.wrap C;aQ (M6.cB a/\a.length<=1099511627776) (aB (A==(0:Int)) (some [D.s (sc (int i64 0))]) (if 0<=i64.wrap C/\i64.wrap C<A then aQ (0<=B.getD F.toNat 0/\B.getD F.toNat 0<(18446744073709551616:Int)) (some [D.s (sc (int i64 (i64.wrap (i64.wrap ((64:Int)*i64.wrap C)+(↑(bl (B.getD F.toNat 0).toNat):Int)))))])else none)):=eJ aU
def sp(a:List Int):Prop×List D:=(M6.cB a/\a.length<=1099511627776,[.s (.sc (.int .i64 (bl (M6.val a):Nat)))])
theorem Ko(k:Nat):18446744073709551616^k=2^(64*k):=by rw[bTT]
theorem spec:gO E f127 aE (pI .u64) sp:=by
 intro a h;refine(start a).trans ((gP h).trans ?_);show _=some [D.s (.sc (.int .i64 (bl (M6.val a):Nat)))];have hl:=M6.oX h.1;have h2:=h.2;have hn:=M6.aW (M6.val a);have hv:=M6.bJ (M6.val a);generalize M6.dg (M6.val a)=d at *;rw[<-hv]
 by_cases hz:d.length=0
 ·rw[cF,(M6.cS hn).1 hz];rfl
 ·have hd:=hn.iX.get (d.length-1);have hv:=M6.cA (a:=d) (d.length-1);rw[show d.length-1+1=d.length from by omega,M6.cE (bNB _)]at hv;have ht:d.getD (d.length-1) 0≠0:=by
   have:=M6.getLast_take (a:=d) (n:=d.length-1) (by omega);rw[show d.length-1+1=d.length from by omega,bTW]at this;exact hn.top this
  have hb:bl (d.getD (d.length-1) 0).toNat<=64:=dV.2 (by omega);have e:((d.length:Int)-1).toNat=d.length-1:=by omega
  rw[bS,wrap_i64 (n:=(d.length:Int)-1),aT,e,gP hd,wrap_i64 (n:=64*((d.length:Int)-1)),wrap_i64,
   hv,Ko,Va (by rw[<-Ko];exact M6.gQ hn.iX _) (by omega)]
  congr 5;omega
def aH:dC:=orc1 (pI .u64) sp
theorem ok:OK 127 aH:=(eI E aE (aA xN.ok (aA xQ.ok aD)) func127).nD rfl spec
end uG
namespace jA
def E:=mE [(167,fI.aH),(171,bZ.aH),(127,uG.aH)] 71 [68] [(12,[0,6,7,8,34,35])] []
def aE:=bd f122
theorem aU:Nk E aE:=nk
def aRY a b c (d:Nat) (e:List Int) f g:=nU E f122 aE 12 [gD a,bR b,bR c,yL 3 d 22 e,bR f,bR g]
theorem start a b:aF E f122 aE [D.s (ints u64 a),D.s (sc (int i64 b))]=letI C:=(a.length:Int);letI B:=sc (slice none 0 0);letI A:=i64.wrap (i64.wrap (b.tdiv 64)+C)+1;aB (decide (b<0)) (some [D.s B,D.s (sc (int i64 1))]) (aQ (a.length<=1099511627776) (aB (!fI.mY a) (some [D.s B,D.s (sc (int i64 2))]) (aB (C==(0:Int)) (some [D.s B,D.s (sc (int i64 0))]) (aQ (M6.cB a/\a.length<=1099511627776) (aB (decide (i64.wrap ((524288:Int)-(↑(bl (M6.val a)):Int))<b)) (some [D.s B,D.s (sc (int i64 5))]) (if 0<=i64.wrap A/\i64.wrap A<=i64.wrap A/\i64.wrap A<=8796093022208 then jA.aRY a (i64.wrap (b.tdiv 64)) (b.tmod 64) (i64.wrap A).toNat (bPE (i64.wrap A).toNat (0:Int)) C 0 else none)))))):=eJ aU
theorem aHR a b c d e f g:aRY a b c d e f g=letI A:=i64.wrap (b+g)+1;aB (decide (g<f)) (if 0<=i64.wrap (b+g)/\i64.wrap (b+g)<(d:Int)then if 0<=g/\g<(a.length:Int)then if c<0 then none else if 0<=i64.wrap (b+g)/\i64.wrap (b+g)<(d:Int)then if 0<=g/\g<(a.length:Int)then if i64.wrap ((63:Int)-c)<0 then none else if 0<=i64.wrap A/\i64.wrap A<(d:Int)then jA.aRY a b c d ((e.set (i64.wrap (b+g)).toNat (eY BinOp.or u64 (e.getD (i64.wrap (b+g)).toNat 0) (u64.wrap (a.getD g.toNat 0*(↑((2:Nat)^min c.toNat 64):Int))))).set (i64.wrap A).toNat (a.getD g.toNat 0/(2:Int)/(↑((2:Nat)^min (i64.wrap ((63:Int)-c)).toNat 64):Int))) f (i64.wrap (g+1))else none else none else none else none else none) (aQ (M6.cB e/\e.length<=1099511627776) (some [D.s (ints u64 (bif bZ.kX (M6.val e)then M6.dg (M6.val e)else [])),D.s (sc (int i64 (bif bZ.kX (M6.val e)then(0:Int)else(5:Int))))])):=lJ aU
theorem step{a P:List Int}{c:Int}{q k i r:Nat}(ha:M6.cB a)(hP:P.length=q+i)(hi:i<a.length)(hl:a.length<=8192)(hq:q<=8192)(hk:k<64)(h0:0<=c)(h1:c<((2^k:Nat):Int))(hr:i+(r+1)=a.length) :
  aRY a q k (q+a.length+1) (P ++ c :: bPE (r+1) 0) a.length i =
   aRY a q k (q+a.length+1) ((P ++ [c+(((a.getD i 0).toNat*2^k%18446744073709551616:Nat):Int)]) ++ (((a.getD i 0).toNat/2^(64-k):Nat):Int) :: bPE r 0) a.length ((i+1:Nat):Int):=by
 have g:=ha.get i;have w1:i64.wrap ((q:Int)+i)=((q+i:Nat):Int):=by rw[wrap_i64];omega
 have w2:i64.wrap (((q+i:Nat):Int)+1)=((q+i+1:Nat):Int):=by rw[wrap_i64];omega
 have w3:i64.wrap (63-(k:Int))=((63-k:Nat):Int):=by rw[wrap_i64];omega
 have m1:min k 64=k:=by omega
 have m2:min (63-k) 64=63-k:=by omega
 have aTZ:2^k<2^64:=bTU (by omega) hk;obtain⟨x,hx⟩:=bSE g.1;rw[aHR,aO,w1,if_pos ⟨by omega,by omega⟩,if_pos ⟨by omega,by omega⟩,aX,if_pos ⟨by omega,by omega⟩,if_pos ⟨by omega,by omega⟩,w3,aX,w2,if_pos ⟨by omega,by omega⟩,
  bQX,bQX,bQX,bQX,bQX,m1,m2,Cv hP,Ce hP,wrap_i64 (n:=(i:Int)+1),hx,bQX]
 have Uh:u64.wrap ((x:Int)*((2^k:Nat):Int))=((x*2^k%18446744073709551616:Nat):Int):=by
  rw[eG,<-bTA,bTS];rfl
 have iN:x*2^k%18446744073709551616<18446744073709551616:=bPJ _ (by omega);have aUD:eY .or .u64 c ((x*2^k%18446744073709551616:Nat):Int)=c+((x*2^k%18446744073709551616:Nat):Int):=by
  rw[Zg h0 (by generalize 2^k=p at *;omega) (by omega) (by omega),bQX,Fc x k hk,Cm (by omega)];omega
 have Sv:(x:Int)/2/((2^(63-k):Nat):Int)=((x/2^(64-k):Nat):Int):=by
  have e:2^(64-k)=2*2^(63-k):=by rw[show 64-k=(63-k)+1 from by omega,bSA,bRZ]
  rw[e,<-bST,bSS,bSS];rfl
 rw[Uh,aUD,Sv];have hs:=Ce (pre:=P ++ [c+((x*2^k%18446744073709551616:Nat):Int)]) (i:=q+i+1) (by simp[hP]) 0 ((x/2^(64-k):Nat):Int) (bPE r 0);rw[bOW,bTX,<-bSK]at hs;rw[hs];rfl
theorem L{a:List Int}{q k:Nat}(ha:M6.cD a)(hl:a.length<=8192)(hq:q<=8192)(hk:k<64)(Qn:bZ.kX (M6.val a*2^k*18446744073709551616^q)=true):∀(r i:Nat) (P:List Int) (c:Int),i+r=a.length->P.length=q+i->M6.cB P->0<=c->c<((2^k:Nat):Int) ->
  M6.val P+18446744073709551616^(q+i)*c.toNat=18446744073709551616^q*(M6.val (a.take i)*2^k) ->
  aRY a q k (q+a.length+1) (P ++ c :: bPE r 0) a.length i=some [D.s (.ints .u64 (M6.dg (M6.val a*2^k*18446744073709551616^q))),D.s (.sc (.int .i64 0))]:=by
 intro r;have aTZ:2^k<2^64:=bTU (by omega) hk
 induction r with
 |zero =>
  intro i P c hi hP hd h0 h1 hv;have Zq:M6.val (P ++ c :: bPE 0 0)=M6.val a*2^k*18446744073709551616^q:=by
   rw[bTN,M6.lE,hP,hv,M6.cE (by omega),bRZ]
  have aMU:M6.cB (P ++ c :: bPE 0 0):=by
   rw[bTN];exact M6.lF hd ⟨h0,by generalize 2^k=p at *;omega⟩
  rw[aHR,aI,gP ⟨aMU,by simp;omega⟩,Zq,Qn];rfl
 |succ r ih =>
  intro i P c hi hP hd h0 h1 hv;have g:=ha.iX.get i;rw[step ha.iX hP (by omega) hl hq hk h0 h1 (by omega)];have iN:(a.getD i 0).toNat*2^k%18446744073709551616<18446744073709551616:=bPJ _ (by omega);have Ug:=Fc (a.getD i 0).toNat k hk;have aOQ:=Cb (a.getD i 0).toNat k hk;have Sv:(a.getD i 0).toNat/2^(64-k)<2^k:=by
   apply bSW;rw[<-bSD,show 64-k+k=64 from by omega];omega
  have aJW:c.toNat+(a.getD i 0).toNat*2^k%18446744073709551616<18446744073709551616:=by
   rw[Ug];have hm:(a.getD i 0).toNat%2^(64-k)<2^(64-k):=bPJ _ (cI);have e:(18446744073709551616:Nat)=2^k*2^(64-k):=by rw[<-bSD,show k+(64-k)=64 from by omega]
   have h3:2^k*((a.getD i 0).toNat%2^(64-k)+1)<=2^k*2^(64-k):=bPP _ hm;rw[<-e,bSB]at h3;omega
  refine ih (i+1) _ _ (by omega) (by simp[hP];omega) (M6.lF hd ⟨by omega,by omega⟩) (by omega) (by omega) ?_;rw[M6.lE,hP,M6.cA,bQX,show q+(i+1)=(q+i)+1 from by omega,bSA,bSF];have e1:(c+(((a.getD i 0).toNat*2^k%18446744073709551616:Nat):Int)).toNat=c.toNat+(a.getD i 0).toNat*2^k%18446744073709551616:=by omega
  rw[e1];have e2:18446744073709551616^(q+i)*(c.toNat+(a.getD i 0).toNat*2^k%18446744073709551616)+18446744073709551616^(q+i)*(18446744073709551616*((a.getD i 0).toNat/2^(64-k)))=18446744073709551616^(q+i)*c.toNat+18446744073709551616^(q+i)*((a.getD i 0).toNat*2^k):=by
   rw[<-bSB,<-bSB];congr 1;omega
  have e3:18446744073709551616^q*((M6.val (a.take i)+18446744073709551616^i*(a.getD i 0).toNat)*2^k)=18446744073709551616^q*(M6.val (a.take i)*2^k)+18446744073709551616^(q+i)*((a.getD i 0).toNat*2^k):=by
   rw[Nat.add_mul,bSB,bSD,bSF,bSF]
  rw[e3];omega
def iC(n k:Nat):Bool:=decide (n=0)||decide (bl n+k<=524288)
def sp(a:List Int)(n:Int):Prop×List D:=(M6.cD a/\a.length<=8192/\0<=n/\n<4611686018427387904,[.s (.ints .u64 (bif iC (M6.val a) n.toNat then M6.dg (M6.val a*2^n.toNat)else [])),.s (.sc (.int .i64 (bif iC (M6.val a) n.toNat then 0 else 5)))])
theorem spec:Eu E f122 aE (pI .u64) (pN .i64) sp:=by
 rintro a n ⟨ha,hl,h0,h1⟩;have e:=start a n;have hb:=yJ ha.iX hl;rw[aI,gP,fI.lU ha hl,bPB,bF]at e;unfold sp iC;simp only
 by_cases hz:a.length=0
 ·have hv:=(M6.cS ha).1 hz;rw[cF]at e;rw[hv,Nat.zero_mul,M6.bN,decide_eq_true rfl,bSM];exact⟨_,e,.cons (vZ.nil _) (fX.refl _)⟩
 ·have hv:M6.val a≠0:=fun h=>hz ((M6.cS ha).2 h)
  rw[bS,gP ⟨ha.iX,by omega⟩,wrap_i64 (n:=524288-(bl (M6.val a):Int))]at e;rw[decide_eq_false hv,bPC]
  by_cases hc:bl (M6.val a)+n.toNat<=524288
  ·have bFU:=sE hv;have eq:n/64=((n.toNat/64:Nat):Int):=by omega
   have ek:n%64=((n.toNat%64:Nat):Int):=by omega
   rw[aI,aCD h0,aBY h0,wrap_i64 (n:=n/64),wrap_i64 (n:=n/64+a.length),wrap_i64,if_pos ⟨by omega,by omega,by omega⟩,eq,ek,
    show(((n.toNat/64:Nat):Int)+(a.length:Int)+1).toNat=n.toNat/64+a.length+1 from by omega]at e
   have hval:M6.val a*2^n.toNat=M6.val a*2^(n.toNat%64)*18446744073709551616^(n.toNat/64):=by
    rw[Gm,bSF,bRZ (2^(n.toNat%64))]
   have Qn:bZ.kX (M6.val a*2^(n.toNat%64)*18446744073709551616^(n.toNat/64))=true:=by
    rw[<-hval];exact decide_eq_true (eZ (k:=8192) (by rw[bRZ,Dc hv];omega))
   have:=L (q:=n.toNat/64) (k:=n.toNat%64) ha hl (by omega) (by omega) Qn a.length 0 (bPE (n.toNat/64) 0) 0 (by omega) (by simp) (M6.iJ _) (by omega) (by have:=bQA (n:=n.toNat%64) (show 0<2 by omega);omega) (by rw[M6.iH];simp[M6.val]);rw[show(bPE (n.toNat/64) (0:Int) ++ 0 :: bPE a.length 0)=bPE (n.toNat/64+a.length+1) 0 from by rw[<-bSK,List.replicate_append_replicate,bQR]]at this;rw[decide_eq_true hc,hval];exact⟨_,e.trans this,fX.refl _⟩
  ·rw[aO]at e;rw[decide_eq_false hc];exact⟨_,e,.cons (vZ.nil _) (fX.refl _)⟩
def aH:dC:=orc2 (pI .u64) (pN .i64) sp
theorem ok:OK 122 aH:=(eI E aE (aA fI.ok (aA bZ.ok (aA uG.ok aD))) func122).aBB rfl spec
end jA
namespace Ip
def E:=mE [] 13 [] [] []
def aE:=bd f116
theorem aU:Nk E aE:=nk
theorem start a b:aF E f116 aE [D.s (sc (bool a)),D.s (ints u64 b)]=aB a (some [D.agg [sc (bool (decide (0<(b.length:Int)))),ints u64 b]]) (some [D.agg [sc (bool false),ints u64 b]]):=eJ aU
def sp(a:Bool)(b:List Int):Prop×List D:=(M6.cD b/\b.length<=1099511627776,[wD (zs a (M6.val b))])
theorem spec:fO E f116 aE pB (pI .u64) sp:=by
 rintro a b ⟨hb,hl⟩;refine(start a b).trans ?_;show _=some [wD (zs a (M6.val b))];rw[aLS,<-hb];cases a with
 |false=>rfl
 |true =>
  rw[bT,bQC];have:=M6.cS hb
  by_cases hz:b.length=0
  ·rw[decide_eq_false (show ¬(0<(b.length:Int)) by omega),decide_eq_false (show ¬(M6.val b≠0)from fun h=>h (this.1 hz))]
  ·rw[decide_eq_true (show(0<(b.length:Int)) by omega),decide_eq_true (show(M6.val b≠0)from fun h=>hz (this.2 h))]
def aH:dC:=orc2 pB (pI .u64) sp
theorem ok:OK 116 aH:=(eI E aE aD func116).lP rfl spec
end Ip
namespace xP
def E:=mE [(116,Ip.aH)] 15 [] [] []
def aE:=bd f123
theorem aU:Nk E aE:=nk
theorem start a b c:aF E f123 aE [D.s (sc (bool a)),D.s (ints u64 b),D.s (sc (int i64 c))]=aB (c !=0) (some [D.agg [sc (bool false),sc (slice none 0 0)],D.s (sc (int i64 c))]) (aQ (M6.cD b/\b.length<=1099511627776) (some [D.agg [sc (bool (isNeg (zs a (M6.val b)))),ints u64 (M6.dg (zs a (M6.val b)).natAbs)],D.s (sc (int i64 0))])):=eJ aU
def sp(a:Bool)(b:List Int)(c:Int):Prop×List D:=(M6.cD b/\b.length<=1099511627776,[wD (bif c==0 then zs a (M6.val b)else 0),.s (.sc (.int .i64 c))])
theorem spec:aWM E f123 aE pB (pI .u64) (pN .i64) sp:=by
 intro a b c h;have e:=start a b c;have hg:M6.cD b/\b.length<=1099511627776:=h;unfold sp;simp only
 by_cases hc:c=0
 ·subst hc;rw[gT rfl,gP hg]at e;exact⟨_,e,fX.refl _⟩
 ·rw[qF hc]at e;rw[beq_eq_false_iff_ne.2 hc,cond_false];refine⟨_,e,.cons ?_ (fX.refl _)⟩;unfold wD;rw[show(0:Int).natAbs=0 from rfl,M6.bN];exact vZ.agg (.cons (yQ.refl _) (.cons (yQ.nil _) .nil))
def aH:dC:=orc3 pB (pI .u64) (pN .i64) sp
theorem ok:OK 123 aH:=(eI E aE (aA Ip.ok aD) func123).bDQ rfl spec
end xP
namespace Ow
def E:=mE [(112,gJ.aH),(122,jA.aH),(123,xP.aH)] 29 [26] [] []
def aE:=bd f70
theorem aU:Nk E aE:=nk
theorem start a c b:aF E f70 aE [D.agg [sc (bool a),ints u64 c],D.s (sc (int i64 b))]=letI B:=bif jA.iC (M6.val c) b.toNat then(0:Int)else(5:Int);letI A:=bif jA.iC (M6.val c) b.toNat then M6.dg (M6.val c*(2:Nat)^b.toNat)else [];letI C:=bif B==0 then zs a (M6.val A)else(0:Int);aB (decide (b<0)) (some [D.agg [sc (bool false),sc (slice none 0 0)],D.s (sc (int i64 1))]) (aQ (c.length<=1099511627776) (aB (!gJ.qL (a,c)) (some [D.agg [sc (bool false),sc (slice none 0 0)],D.s (sc (int i64 2))]) (aQ (M6.cD c/\c.length<=8192/\0<=b/\b<4611686018427387904) (aQ (M6.cD A/\A.length<=1099511627776) (some [D.agg [sc (bool (isNeg C)),ints u64 (M6.dg C.natAbs)],D.s (sc (int i64 B))]))))):=eJ aU
theorem Fe(n k:Nat):jA.iC n k=fit (n*2^k):=by
 unfold jA.iC fit
 by_cases h:n=0
 ·subst h;rw[Nat.zero_mul];rfl
 ·rw[decide_eq_false h,bPC,bRZ,Dc h,bTD]
def sp(x:Bool×List Int)(n:Int):Prop×List D:=(kA x/\0<=n/\n<4611686018427387904,wE (fit (M6.val x.2*2^n.toNat)) (wv x*((2^n.toNat:Nat):Int)))
theorem spec:fO E f70 aE wB (pN .i64) sp:=by
 rintro x n ⟨hx,h0,h1⟩;refine(start x.1 x.2 n).trans ?_;have l1:=hx.len;have f1:=gJ.nL hx;obtain⟨p,a⟩:=x;have n1:M6.cD a:=hx.1
 try dsimp only at *
 unfold sp
 try dsimp only
 have hs:wv (p,a)*((2^n.toNat:Nat):Int)=zs p (M6.val a*2^n.toNat):=by
  unfold wv zs;cases p with
  |true=>simp[Int.neg_mul]
  |false=>simp
 rw[aI,gP,f1,bPB,bF,gP ⟨n1,l1,h0,h1⟩,gP (Fm (fun h=>by rw[Fe]at h;exact xD h)),Ez,Fe,hs]
def aH:dC:=orc2 wB (pN .i64) sp
theorem ok:OK 70 aH:=(eI E aE (aA gJ.ok (aA jA.ok (aA xP.ok aD))) func70).lP rfl spec
end Ow
namespace rE
def E:=mE [(167,fI.aH),(171,bZ.aH)] 65 [62] [(8,[0,1,6,7,30,31]),(3,[0,1]),(5,[0,1]),(13,[0,1,6,7,8,9,30,31])] [3,5,13]
def aE:=bd f124
theorem aU:Nk E aE:=nk
def J3 a b:=lD E f124 aE 3 [gD a,gD b]
def J5 a b:=lD E f124 aE 5 [gD a,gD b]
def L8 a b (c:Nat) (d:List Int) e f g:=nU E f124 aE 8 [gD a,gD b,yL 2 c 22 d,cY e,bR f,bR g]
def Sl a b (c:Nat) (d:List Int) e f g x7 h:=lD E f124 aE 13 [gD a,gD b,yL 2 c 22 d,cY e,bR f,cY g,bR x7,bR h]
theorem start a b:aF E f124 aE [D.s (ints u64 a),D.s (ints u64 b)]=letI A:=some [D.s (sc (slice none 0 0)),D.s (sc (int i64 2))];aQ (a.length<=1099511627776) (aB (!fI.mY a) A (aQ (b.length<=1099511627776) (aB (!fI.mY b) A (rE.J3 a b)))):=eJ aU
theorem gL a b:J3 a b=aB (decide ((a.length:Int)<(b.length:Int))) (rE.J5 b a) (rE.J5 a b):=cJ aU
theorem It a b:J5 a b=letI A:=(a.length:Int);letI B:=A+(1:Int);if 0<=i64.wrap B/\i64.wrap B<=i64.wrap B/\i64.wrap B<=8796093022208 then rE.L8 a b (i64.wrap B).toNat (bPE (i64.wrap B).toNat (0:Int)) 0 A 0 else none:=cJ aU
theorem Ei a b c d e f g:L8 a b c d e f g=letI B:=(a.length:Int);letI A:=d.set B.toNat e;aB (decide (g<f)) (aB (decide (g<(b.length:Int))) (if 0<=g/\g<(b.length:Int)then rE.Sl a b c d e g (b.getD g.toNat 0) f g else none) (rE.Sl a b c d e g 0 f g)) (if 0<=B/\B<(c:Int)then aQ (M6.cB A/\A.length<=1099511627776) (some [D.s (ints u64 (bif bZ.kX (M6.val A)then M6.dg (M6.val A)else [])),D.s (sc (int i64 (bif bZ.kX (M6.val A)then(0:Int)else(5:Int))))])else none):=lJ aU
theorem zQ a b c d e f g h i:Sl a b c d e f g h i=letI A:=a.getD f.toNat 0+g+e;if 0<=f/\f<(a.length:Int)then aQ (0<=a.getD f.toNat 0/\0<=g/\0<=e/\e<=1) (if 0<=f/\f<(c:Int)then rE.L8 a b c (d.set f.toNat (A%18446744073709551616)) (A/18446744073709551616) h (i64.wrap (i+1))else none)else none:=cJ aU
theorem step{a b pre:List Int}{c:Int}{i k:Nat}(ha:M6.cB a)(hb:M6.cB b)(hp:pre.length=i)(hi:i<a.length)(hl:a.length<=8192)(h0:0<=c)(h1:c<=1) :
  L8 a b (i+(k+1)) (pre ++ bPE (k+1) 0) c a.length i=L8 a b ((i+1)+k) ((pre ++ [(a.getD i 0+b.getD i 0+c)%18446744073709551616]) ++ bPE k 0) ((a.getD i 0+b.getD i 0+c)/18446744073709551616) a.length ((i+1:Nat):Int):=by
 have g1:=ha.get i;have g2:=hb.get i;have hJ:∀y:Int,0<=y->Sl a b (i+(k+1)) (pre ++ bPE (k+1) 0) c i y a.length i=L8 a b ((i+1)+k) ((pre ++ [(a.getD i 0+y+c)%18446744073709551616]) ++ bPE k 0) ((a.getD i 0+y+c)/18446744073709551616) a.length ((i+1:Nat):Int):=by
  intro y hy;rw[zQ,aT,bQX,gP ⟨g1.1,hy,h0,h1⟩,aT,wP hp,wrap_i64,show i+(k+1)=(i+1)+k from by omega];rfl
 rw[Ei,aO]
 by_cases h:i<b.length
 ·rw[aO,aT,bQX,hJ _ g2.1]
 ·rw[aI,hJ 0 (by omega),M6.getD_none (a:=b) (by omega)]
theorem L{a b:List Int}(ha:M6.cB a)(hb:M6.cB b)(hl:a.length<=8192)(aMZ:b.length<=a.length):∀(k i:Nat) (pre:List Int) (c:Int),i+k=a.length->pre.length=i->M6.cB pre->0<=c->c<=1 ->
  M6.val pre+18446744073709551616^i*c.toNat=M6.val (a.take i)+M6.val (b.take i) ->
  L8 a b (i+(k+1)) (pre ++ bPE (k+1) 0) c a.length i=some [D.s (.ints .u64 (bif bZ.kX (M6.val a+M6.val b)then M6.dg (M6.val a+M6.val b)else [])),D.s (.sc (.int .i64 (bif bZ.kX (M6.val a+M6.val b)then 0 else 5)))]:=by
 intro k
 induction k with
 |zero =>
  intro i pre c hi hp hd h0 h1 hv;have bAW:i=a.length:=by omega
  subst bAW;have hs:(pre ++ bPE (0+1) 0).set a.length c=pre ++ [c]:=by rw[wP hp];simp
  have Zq:M6.val (pre ++ [c])=M6.val a+M6.val b:=by
   rw[M6.lE,hp,hv,M6.cE (bNB _),M6.cE (by omega)]
  rw[Ei,aI,aT,bQX,hs,Zq,gP ⟨M6.lF hd (by omega),by simp;omega⟩]
 |succ k ih =>
  intro i pre c hi hp hd h0 h1 hv;have g1:=ha.get i;have g2:=hb.get i;rw[step ha hb hp (by omega) hl h0 h1];refine ih (i+1) _ _ (by omega) (by simp[hp]) (M6.lF hd (by omega)) (by omega) (by omega) ?_;rw[M6.lE,M6.cA,M6.cA,hp,bSA,bSF];generalize a.getD i 0=x at *;generalize b.getD i 0=y at *;generalize 18446744073709551616^i=B at *;have e:18446744073709551616*((x+y+c)/18446744073709551616).toNat+((x+y+c)%18446744073709551616).toNat=c.toNat+x.toNat+y.toNat:=by omega
  have e2:B*(18446744073709551616*((x+y+c)/18446744073709551616).toNat)+B*((x+y+c)%18446744073709551616).toNat=B*c.toNat+B*x.toNat+B*y.toNat:=by
   rw[<-bSB,e,bSB,bSB]
  omega
theorem bGY{a b:List Int}(ha:M6.cB a)(hb:M6.cB b)(hl:a.length<=8192)(aMZ:b.length<=a.length):J5 a b=some [D.s (.ints .u64 (bif bZ.kX (M6.val a+M6.val b)then M6.dg (M6.val a+M6.val b)else [])),D.s (.sc (.int .i64 (bif bZ.kX (M6.val a+M6.val b)then 0 else 5)))]:=by
 rw[It,wrap_i64,if_pos ⟨by omega,by omega,by omega⟩,show((a.length:Int)+1).toNat=0+(a.length+1)from by omega];have:=L ha hb hl aMZ a.length 0 [] 0 (by omega) rfl M6.lW (by omega) (by omega) (by simp[M6.val]);rw[bRD]at this;rw[show 0+(a.length+1)=a.length+1 from by omega]at this ⊢;exact this
def sp(a b:List Int):Prop×List D:=(M6.cD a/\M6.cD b/\a.length<=8192/\b.length<=8192,[.s (.ints .u64 (bif bZ.kX (M6.val a+M6.val b)then M6.dg (M6.val a+M6.val b)else [])),.s (.sc (.int .i64 (bif bZ.kX (M6.val a+M6.val b)then 0 else 5)))])
theorem spec:fO E f124 aE (pI .u64) (pI .u64) sp:=by
 rintro a b ⟨ha,hb,h1,h2⟩;refine(start a b).trans ?_;rw[gP,gP,fI.lU ha h1,fI.lU hb h2,bPB,bF,bF,gL]
 by_cases hl:a.length<b.length
 ·rw[aO,bGY hb.iX ha.iX h2 (by omega),bTD];rfl
 ·rw[aI,bGY ha.iX hb.iX h1 (by omega)];rfl
def aH:dC:=orc2 (pI .u64) (pI .u64) sp
theorem ok:OK 124 aH:=(eI E aE (aA fI.ok (aA bZ.ok aD)) func124).lP rfl spec
end rE
namespace Dn
def E:=mE [(174,xN.aH)] 47 [] [(7,[5,6,7])] []
def aE:=bd f125
theorem aU:Nk E aE:=nk
def L7 a b c:=nU E f125 aE 7 [gD a,gD b,bR c]
theorem start a b:aF E f125 aE [D.s (ints u64 a),D.s (ints u64 b)]=letI B:=M6.dg (M6.val b);letI A:=(↑(M6.dg (M6.val a)).length:Int);aQ (M6.cB a/\a.length<=1099511627776) (aQ (M6.cB b/\b.length<=1099511627776) (aB (A !=(B.length:Int)) (aB (decide (A<(B.length:Int))) (some [D.s (sc (int i64 (-1:Int)))]) (some [D.s (sc (int i64 1))])) (Dn.L7 (M6.dg (M6.val a)) B (i64.wrap (A-(1:Int)))))):=eJ aU
theorem uI a b c:L7 a b c=aB (decide (0<=c)) (if 0<=c/\c<(a.length:Int)then if 0<=c/\c<(b.length:Int)then aB (a.getD c.toNat 0 !=b.getD c.toNat 0) (if 0<=c/\c<(a.length:Int)then if 0<=c/\c<(b.length:Int)then aB (decide (a.getD c.toNat 0<b.getD c.toNat 0)) (some [D.s (sc (int i64 (-1:Int)))]) (some [D.s (sc (int i64 1))])else none else none) (Dn.L7 a b (i64.wrap (c-1)))else none else none) (some [D.s (sc (int i64 0))]):=lJ aU
def sp(a b:List Int):Prop×List D:=(M6.cB a/\M6.cB b/\a.length<=1099511627776/\b.length<=1099511627776,[.s (.sc (.int .i64 (nB (M6.val a) (M6.val b))))])
theorem L{a b:List Int}(ha:M6.cB a)(hb:M6.cB b)(hl:a.length=b.length)(hm:a.length<=4398046511104):∀n:Nat,n<=a.length->L7 a b ((n:Int)-1)=some [D.s (.sc (.int .i64 (nB (M6.val (a.take n)) (M6.val (b.take n)))))]
 |0,_=>by
  rw[uI,aI];simp[nB,M6.val]
 |n+1,h=>by
  have e:(((n+1:Nat):Int)-1)=(n:Int):=by omega
  rw[e,uI,aO,aT,aT,aT,aT,bQX,wrap_i64,L ha hb hl hm n (by omega)];have h1:=ha.get n;have h2:=hb.get n;have l1:=M6.gQ ha n;have l2:=M6.gQ hb n;rw[M6.cA,M6.cA];generalize a.getD n 0=x at *;generalize b.getD n 0=y at *;generalize M6.val (a.take n)=u at *;generalize M6.val (b.take n)=v at *;generalize 18446744073709551616^n=B at *
  by_cases aTJ:x<y
  ·rw[qF,aO aTJ];have:B*x.toNat+B<=B*y.toNat:=by
    have:B*(x.toNat+1)<=B*y.toNat:=bPP _ (by omega);rw[bSB]at this;omega
   unfold nB;rw[aT]
  ·by_cases hyx:y<x
   ·rw[qF,aI aTJ];have:B*y.toNat+B<=B*x.toNat:=by
     have:B*(y.toNat+1)<=B*x.toNat:=bPP _ (by omega);rw[bSB]at this;omega
    unfold nB;rw[aX,aT]
   ·have:x=y:=by omega
    subst this;rw[gT rfl,aGQ]
theorem spec:fO E f125 aE (pI .u64) (pI .u64) sp:=by
 rintro a b ⟨ha,hb,h1,h2⟩;refine(start a b).trans ?_;have la:=M6.oX ha;have lb:=M6.oX hb;rw[gP ⟨ha,h1⟩,gP ⟨hb,h2⟩];show _=some [D.s (.sc (.int .i64 (nB (M6.val a) (M6.val b))))];have na:=M6.aW (M6.val a);have nb:=M6.aW (M6.val b);have va:=M6.bJ (M6.val a);have vb:=M6.bJ (M6.val b);rw[<-va,<-vb];generalize M6.dg (M6.val a)=x at *;generalize M6.dg (M6.val b)=y at *;have e1:=M6.Fl na;have e2:=M6.Fl nb;rw[e1,e2]
 by_cases hl:x.length=y.length
 ·rw[gT,wrap_i64,L na.iX nb.iX hl (by omega) x.length (bNB _),M6.cE (bNB _),M6.cE (by omega)]
 ·rw[qF]
  by_cases iN:x.length<y.length
  ·have:=M6.rW na.iX nb iN;rw[aO];unfold nB;rw[if_pos this]
  ·have:=M6.rW nb.iX na (by omega);rw[aI];unfold nB;rw[aX,if_pos this]
def aH:dC:=orc2 (pI .u64) (pI .u64) sp
theorem ok:OK 125 aH:=(eI E aE (aA xN.ok aD) func125).lP rfl spec
end Dn
namespace sR
def E:=mE [(167,fI.aH),(171,bZ.aH),(125,Dn.aH)] 56 [53] [(8,[0,1,6,7,26,27]),(3,[0,1]),(13,[0,1,6,7,8,9,26,27])] [3,13]
def aE:=bd f126
theorem aU:Nk E aE:=nk
def J3 a b:=lD E f126 aE 3 [gD a,gD b]
def L8 a b (c:Nat) (d:List Int) e f g:=nU E f126 aE 8 [gD a,gD b,yL 2 c 22 d,cY e,bR f,bR g]
def Sl a b (c:Nat) (d:List Int) e f g x7 h:=lD E f126 aE 13 [gD a,gD b,yL 2 c 22 d,cY e,bR f,cY g,bR x7,bR h]
theorem start a b:aF E f126 aE [D.s (ints u64 a),D.s (ints u64 b)]=letI A:=some [D.s (sc (slice none 0 0)),D.s (sc (int i64 2))];aQ (a.length<=1099511627776) (aB (!fI.mY a) A (aQ (b.length<=1099511627776) (aB (!fI.mY b) A (sR.J3 a b)))):=eJ aU
theorem gL a b:J3 a b=letI A:=(a.length:Int);aQ (M6.cB a/\M6.cB b/\a.length<=1099511627776/\b.length<=1099511627776) (aB (decide (nB (M6.val a) (M6.val b)<0)) (some [D.s (sc (slice none 0 0)),D.s (sc (int i64 3))]) (if 0<=A/\A<=A/\A<=(8796093022208:Int)then sR.L8 a b A.toNat (bPE A.toNat (0:Int)) 0 A 0 else none)):=cJ aU
theorem Ei a b c d e f g:L8 a b c d e f g=aB (decide (g<f)) (aB (decide (g<(b.length:Int))) (if 0<=g/\g<(b.length:Int)then sR.Sl a b c d e g (b.getD g.toNat 0) f g else none) (sR.Sl a b c d e g 0 f g)) (aQ (M6.cB d/\d.length<=1099511627776) (some [D.s (ints u64 (bif bZ.kX (M6.val d)then M6.dg (M6.val d)else [])),D.s (sc (int i64 (bif bZ.kX (M6.val d)then(0:Int)else(5:Int))))])):=lJ aU
theorem zQ a b c d e f g h i:Sl a b c d e f g h i=if 0<=f/\f<(a.length:Int)then aQ (0<=a.getD f.toNat 0/\0<=g/\g<18446744073709551616/\0<=e/\e<=1) (if 0<=f/\f<(c:Int)then sR.L8 a b c (d.set f.toNat ((a.getD f.toNat 0-g-e)%18446744073709551616)) (if a.getD f.toNat 0<g+e then(1:Int)else(0:Int)) h (i64.wrap (i+1))else none)else none:=cJ aU
theorem step{a b pre:List Int}{o:Int}{i k:Nat}(ha:M6.cB a)(hb:M6.cB b)(hp:pre.length=i)(hi:i<a.length)(hl:a.length<=8192)(h0:0<=o)(h1:o<=1) :
  L8 a b (i+(k+1)) (pre ++ bPE (k+1) 0) o a.length i=L8 a b ((i+1)+k) ((pre ++ [(a.getD i 0-b.getD i 0-o)%18446744073709551616]) ++ bPE k 0) (if a.getD i 0<b.getD i 0+o then 1 else 0) a.length ((i+1:Nat):Int):=by
 have g1:=ha.get i;have g2:=hb.get i;have hJ:∀y:Int,0<=y->y<18446744073709551616->Sl a b (i+(k+1)) (pre ++ bPE (k+1) 0) o i y a.length i=L8 a b ((i+1)+k) ((pre ++ [(a.getD i 0-y-o)%18446744073709551616]) ++ bPE k 0) (if a.getD i 0<y+o then 1 else 0) a.length ((i+1:Nat):Int):=by
  intro y hy aZL;rw[zQ,aT,bQX,gP ⟨g1.1,hy,aZL,h0,h1⟩,aT,wP hp,wrap_i64,show i+(k+1)=(i+1)+k from by omega];rfl
 rw[Ei,aO]
 by_cases h:i<b.length
 ·rw[aO,aT,bQX,hJ _ g2.1 g2.2]
 ·rw[aI,hJ 0 (by omega) (by omega),M6.getD_none (a:=b) (by omega)]
theorem L{a b:List Int}(ha:M6.cB a)(hb:M6.cB b)(hl:a.length<=8192)(aMY:b.length<=a.length)(aMZ:M6.val b<=M6.val a):∀(k i:Nat) (pre:List Int) (o:Int),i+k=a.length->pre.length=i->M6.cB pre->0<=o->o<=1 ->
  M6.val pre+M6.val (b.take i)=M6.val (a.take i)+18446744073709551616^i*o.toNat ->
  L8 a b (i+k) (pre ++ bPE k 0) o a.length i=some [D.s (.ints .u64 (M6.dg (M6.val a-M6.val b))),D.s (.sc (.int .i64 0))]:=by
 intro k
 induction k with
 |zero =>
  intro i pre o hi hp hd h0 h1 hv;have bIN:=M6.cK hd;rw[hp]at bIN;rw[M6.cE (by omega),M6.cE (by omega)]at hv;have:o=0:=by
   by_cases ho:o=0
   ·exact ho
   ·exfalso;have:o=1:=by omega
    subst this;rw[show(1:Int).toNat=1 from rfl,Nat.mul_one]at hv;omega
  subst this;simp only[bUW,bTY,bOC]at hv;have hlen:=M6.oX hd;have Qn:bZ.kX (M6.val pre)=true:=decide_eq_true (by omega);rw[Ei,aI,bTN,bTC,gP ⟨hd,by omega⟩,Qn,cond_true,cond_true,show M6.val pre=M6.val a-M6.val b from by omega]
 |succ k ih =>
  intro i pre o hi hp hd h0 h1 hv;have g1:=ha.get i;have g2:=hb.get i;rw[step ha hb hp (by omega) hl h0 h1];refine ih (i+1) _ _ (by omega) (by simp[hp]) (M6.lF hd (by omega)) (by split <;> omega) (by split <;> omega) ?_;rw[M6.lE,M6.cA,M6.cA,hp,bSA,bSF];generalize a.getD i 0=x at *;generalize b.getD i 0=y at *;have e:((x-y-o)%18446744073709551616).toNat+y.toNat+o.toNat=x.toNat+18446744073709551616*(if x<y+o then 1 else 0:Int).toNat:=by split <;> omega
  generalize 18446744073709551616^i=B at *;have e2:=congrArg (B*·) e;simp only[bSB]at e2;omega
def sp(a b:List Int):Prop×List D:=(M6.cD a/\M6.cD b/\a.length<=8192/\b.length<=8192,[.s (.ints .u64 (M6.dg (M6.val a-M6.val b))),.s (.sc (.int .i64 (if M6.val a<M6.val b then 3 else 0)))])
theorem spec:Eu E f126 aE (pI .u64) (pI .u64) sp:=by
 rintro a b ⟨ha,hb,h1,h2⟩;have e:=start a b;rw[gP,gP,fI.lU ha h1,fI.lU hb h2,bPB,bF,bF,gL,gP ⟨ha.iX,hb.iX,by omega,by omega⟩]at e;unfold sp;simp only
 by_cases hc:M6.val a<M6.val b
 ·rw[aO (by unfold nB;rw[if_pos hc];omega)]at e;rw[if_pos hc,show M6.val a-M6.val b=0 from by omega,M6.bN];exact⟨_,e,.cons (vZ.nil _) (fX.refl _)⟩
 ·have aMY:b.length<=a.length:=by
   rcases bNQ a.length b.length with h |h
   ·have:=M6.rW ha.iX hb h;omega
   ·exact h
  have:=L ha.iX hb.iX h1 aMY (by omega) a.length 0 [] 0 (by omega) rfl M6.lW (by omega) (by omega) (by simp[M6.val]);rw[aI (by unfold nB;rw[if_neg hc];split <;> omega),if_pos ⟨by omega,by omega,by omega⟩,bQX]at e;rw[bRD,show 0+a.length=a.length from by omega]at this;rw[if_neg hc];exact⟨_,e.trans this,fX.refl _⟩
def aH:dC:=orc2 (pI .u64) (pI .u64) sp
theorem ok:OK 126 aH:=(eI E aE (aA fI.ok (aA bZ.ok (aA Dn.ok aD))) func126).aBB rfl spec
end sR
namespace aAZ
def E:=mE [(112,gJ.aH),(124,rE.aH),(125,Dn.aH),(126,sR.aH),(123,xP.aH)] 62 [36,59] [(3,[2,3,4]),(8,[2,3,4])] [3,8]
def aE:=bd f71
theorem aU:Nk E aE:=nk
def J3 a b c d e:=lD E f71 aE 3 [dG 0 27 [cG a,eM b],dG 1 27 [cG c,eM d],dG 2 27 [cG e,sc (slice none 0 0)]]
def J8 a b c d e:=lD E f71 aE 8 [dG 0 27 [cG a,eM b],dG 1 27 [cG c,eM d],dG 2 27 [cG e,sc (slice none 0 0)]]
theorem start a b c d:aF E f71 aE [D.agg [sc (bool a),ints u64 b],D.agg [sc (bool c),ints u64 d]]=letI A:=some [D.agg [sc (bool false),sc (slice none 0 0)],D.s (sc (int i64 2))];aQ (b.length<=1099511627776) (aB (!gJ.qL (a,b)) A (aQ (d.length<=1099511627776) (aB (!gJ.qL (c,d)) A (aAZ.J3 a b c d false)))):=eJ aU
theorem gL a b c d e:J3 a b c d e=letI F:=M6.val b+M6.val d;letI B:=bif bZ.kX F then(0:Int)else(5:Int);letI A:=bif bZ.kX F then M6.dg F else [];letI C:=bif B==0 then zs a (M6.val A)else(0:Int);aB (a==c) (aQ (M6.cD b/\M6.cD d/\b.length<=8192/\d.length<=8192) (aQ (M6.cD A/\A.length<=1099511627776) (some [D.agg [sc (bool (isNeg C)),ints u64 (M6.dg C.natAbs)],D.s (sc (int i64 B))]))) (aQ (M6.cB b/\M6.cB d/\b.length<=1099511627776/\d.length<=1099511627776) (aB (decide (nB (M6.val b) (M6.val d)<0)) (aAZ.J8 c d a b e) (aAZ.J8 a b c d e))):=cJ aU
theorem vW a b c d e:J8 a b c d e=letI B:=M6.dg (M6.val b-M6.val d);letI A:=bif (if M6.val b<M6.val d then(3:Int)else(0:Int))==0 then zs a (M6.val B)else(0:Int);aQ (M6.cD b/\M6.cD d/\b.length<=8192/\d.length<=8192) (aQ (M6.cD B/\B.length<=1099511627776) (some [D.agg [sc (bool (isNeg A)),ints u64 (M6.dg A.natAbs)],D.s (sc (int i64 (if M6.val b<M6.val d then(3:Int)else(0:Int))))])):=cJ aU
theorem Xh(n:Nat):bZ.kX n=fit n:=yB
def sp(x y:Bool×List Int):Prop×List D:=(kA x/\kA y,wE (fit (wv x+wv y).natAbs) (wv x+wv y))
theorem spec:fO E f71 aE wB wB sp:=by
 rintro x y ⟨hx,hy⟩;refine(start x.1 x.2 y.1 y.2).trans ?_;have l1:=hx.len;have l2:=hy.len;have f1:=gJ.nL hx;have f2:=gJ.nL hy;have b1:=hx.bl;have b2:=hy.bl;obtain⟨p,a⟩:=x;obtain⟨q,b⟩:=y;have n1:M6.cD a:=hx.1;have n2:M6.cD b:=hy.1
 try dsimp only at *
 unfold sp
 try dsimp only
 rw[gP,f1,bPB,bF,gP,f2,bPB,bF,gL];have one:∀(s:Bool) (m n:Nat),n<=m->bl m<=524288->some [D.agg [S.sc (.bool (isNeg (bif (if m<n then(3:Int)else 0)==0 then zs s (M6.val (M6.dg (m-n)))else 0))),S.ints .u64 (M6.dg (bif (if m<n then(3:Int)else 0)==0 then zs s (M6.val (M6.dg (m-n)))else 0).natAbs)],D.s (S.sc (.int .i64 (if m<n then 3 else 0)))]=some (wE (fit (zs s (m-n)).natAbs) (zs s (m-n))):=by
  intro s m n h hb;have:fit (zs s (m-n)).natAbs=true:=by
   rw[kD];exact decide_eq_true (bNX (gU (bTZ _ _)) hb)
  rw[aX,this,show((0:Int)==0)=true from rfl,cond_true,M6.bJ];rfl
 by_cases he:p=q
 ·subst he;have hs:wv (p,a)+wv (p,b)=zs p (M6.val a+M6.val b):=by
   unfold wv zs;cases p <;> simp <;> omega
  rw[aGX (by simp),gP ⟨n1,n2,l1,l2⟩,gP (Fm (fun h=>by rw[Xh]at h;exact xD h)),Ez,Xh,hs,kD]
 ·rw[Hz (by simpa using he),gP ⟨n1.iX,n2.iX,by omega,by omega⟩]
  by_cases hc:M6.val b<=M6.val a
  ·have hs:wv (p,a)+wv (q,b)=zs p (M6.val a-M6.val b):=by
    unfold wv zs;cases p <;> cases q <;> simp_all <;> omega
   have l3:=eZ (n:=M6.val a-M6.val b) (k:=8192) (bNX (gU (bTZ _ _)) b1);rw[aI (by have:=Yl.2 hc;omega),vW,gP ⟨n1,n2,l1,l2⟩,gP ⟨M6.aW _,by omega⟩,hs,one _ _ _ hc b1]
  ·have hs:wv (p,a)+wv (q,b)=zs q (M6.val b-M6.val a):=by
    unfold wv zs;cases p <;> cases q <;> simp_all <;> omega
   have l3:=eZ (n:=M6.val b-M6.val a) (k:=8192) (bNX (gU (bTZ _ _)) b2);rw[aO (by have:=(not_congr Yl).2 hc;omega),vW,gP ⟨n2,n1,l2,l1⟩,gP ⟨M6.aW _,by omega⟩,hs,one _ _ _ (by omega) b2]
def aH:dC:=orc2 wB wB sp
theorem ok:OK 71 aH:=(eI E aE (aA gJ.ok (aA rE.ok (aA Dn.ok (aA sR.ok (aA xP.ok aD))))) func71).lP rfl spec
end aAZ
namespace aHC
def E:=mE [] 14 [] [] []
def aE:=bd f170
theorem aU:Nk E aE:=nk
theorem start a:aF E f170 aE [D.s (sc (int u64 a))]=letI A:=eY BinOp.and u64 a (u64.wrap ((0:Int)-a))*285870213051353865;aB (a==0) (some [D.s (sc (int i64 64))]) (if 0<=u64.wrap A/288230376151711744/\u64.wrap A/288230376151711744<(64:Int)then some [D.s (sc (int i64 (i64.wrap ([(0:Int),(1:Int),(56:Int),(2:Int),(57:Int),(49:Int),(28:Int),(3:Int),(61:Int),(58:Int),(42:Int),(50:Int),(38:Int),(29:Int),(17:Int),(4:Int),(62:Int),(47:Int),(59:Int),(36:Int),(45:Int),(43:Int),(51:Int),(22:Int),(53:Int),(39:Int),(33:Int),(30:Int),(24:Int),(18:Int),(12:Int),(5:Int),(63:Int),(55:Int),(48:Int),(27:Int),(60:Int),(41:Int),(37:Int),(16:Int),(46:Int),(35:Int),(44:Int),(21:Int),(52:Int),(32:Int),(23:Int),(11:Int),(54:Int),(26:Int),(40:Int),(15:Int),(34:Int),(20:Int),(31:Int),(10:Int),(25:Int),(14:Int),(19:Int),(9:Int),(13:Int),(8:Int),(7:Int),(6:Int)].getD (u64.wrap A/288230376151711744).toNat 0))))]else none):=eJ aU
def aLU:List Int:=[0,1,56,2,57,49,28,3,61,58,42,50,38,29,17,4,62,47,59,36,45,43,51,22,53,39,33,30,24,18,12,5,63,55,48,27,60,41,37,16,46,35,44,21,52,32,23,11,54,26,40,15,34,20,31,10,25,14,19,9,13,8,7,6]
theorem Mc:(bOL 64).all (fun k=>aLU.getD (((2^k*285870213051353865%18446744073709551616:Nat):Int)/288230376151711744).toNat 0==(k:Int))=true:=by kernel_rfl
theorem Mb{k:Nat}(h:k<64):aLU.getD (((2^k*285870213051353865%18446744073709551616:Nat):Int)/288230376151711744).toNat 0=(k:Int):=eq_of_beq (List.all_eq_true.1 Mc k (List.mem_range.2 h))
def sp(a:Int):Prop×List D:=(0<=a/\a<18446744073709551616,[.s (.sc (.int .i64 (if a=0 then 64 else(tz a.toNat:Int))))])
theorem spec:gO E f170 aE (pN .u64) sp:=by
 rintro a ⟨h1,h2⟩;refine(start a).trans ?_;show _=some [D.s (.sc (.int .i64 (if a=0 then 64 else(tz a.toNat:Int))))]
 by_cases hz:a=0
 ·rw[cF hz,if_pos hz]
 ·have iN:tz a.toNat<64:=by
   have:=Fx (n:=a.toNat) (by omega);rcases bNQ (tz a.toNat) 64 with h |h
   ·exact h
   ·have h3:2^64<=2^tz a.toNat:=bQB (by omega) h;omega
  have ew:u64.wrap (0-a)=18446744073709551616-a:=by rw[eG];omega
  have el:eY .and .u64 a (u64.wrap (0-a))=((2^tz a.toNat:Nat):Int):=by
   rw[ew,Rz h1 h2 (by omega) (by omega),Qi 64 a.toNat (18446744073709551616-a).toNat (by omega) (by omega) (by omega)]
  have em:u64.wrap (((2^tz a.toNat:Nat):Int)*285870213051353865)=((2^tz a.toNat*285870213051353865%18446744073709551616:Nat):Int):=by
   rw[eG];generalize 2^tz a.toNat=p;omega
  have ht:=Mb iN;have hm:2^tz a.toNat*285870213051353865%18446744073709551616<18446744073709551616:=bPJ _ (by omega);rw[bS hz,if_neg hz,el,em];generalize 2^tz a.toNat*285870213051353865%18446744073709551616=q at *;rw[if_pos ⟨by omega,by omega⟩];have e3:([0,1,56,2,57,49,28,3,61,58,42,50,38,29,17,4,62,47,59,36,45,43,51,22,53,39,33,30,24,18,12,5,63,55,48,27,60,41,37,16,46,35,44,21,52,32,23,11,54,26,40,15,34,20,31,10,25,14,19,9,13,8,7,6]:List Int)=aLU:=rfl;rw[e3,ht,wrap_i64]
def aH:dC:=orc1 (pN .u64) sp
theorem ok:OK 170 aH:=(eI E aE aD func170).nD rfl spec
end aHC
namespace zO
def E:=mE [(170,aHC.aH)] 23 [] [(2,[0,5,6])] []
def aE:=bd f114
theorem aU:Nk E aE:=nk
def L2 a b c:=nU E f114 aE 2 [gD a,bR b,bR c]
theorem start a:aF E f114 aE [D.s (ints u64 a)]=zO.L2 a (a.length:Int) 0:=eJ aU
theorem kC a b c:L2 a b c=aB (decide (c<b)) (if 0<=c/\c<(a.length:Int)then aB (a.getD c.toNat 0 !=(0:Int)) (if 0<=c/\c<(a.length:Int)then aQ (0<=a.getD c.toNat 0/\a.getD c.toNat 0<(18446744073709551616:Int)) (some [D.s (sc (int i64 (i64.wrap (i64.wrap ((64:Int)*c)+if a.getD c.toNat 0=(0:Int)then(64:Int)else(↑(tz (a.getD c.toNat 0).toNat):Int)))))])else none) (zO.L2 a b (i64.wrap (c+1)))else none) (some [D.s (sc (int i64 0))]):=lJ aU
def sp(a:List Int):Prop×List D:=(M6.cB a/\a.length<=1099511627776,[.s (.sc (.int .i64 (tz (M6.val a):Nat)))])
theorem L{a:List Int}(ha:M6.cB a)(hl:a.length<=1099511627776):∀(d i:Nat),i+d=a.length->L2 a a.length i=some [D.s (.sc (.int .i64 (if M6.val (a.drop i)=0 then 0 else(((64*i+tz (M6.val (a.drop i)):Nat)):Int))))]:=by
 intro d
 induction d with
 |zero =>
  intro i hi;rw[kC,aI,bSR (by omega)];rfl
 |succ d ih =>
  intro i hi;have g:=ha.get i;have hv:=M6.gF (a:=a) i;have bKJ:=ih (i+1) (by omega);rw[kC,aO,aT,bQX,aT,gP g,wrap_i64 (n:=(i:Int)+1),wrap_i64 (n:=64*(i:Int)),show(i:Int)+1=((i+1:Nat):Int)from by omega,bKJ];generalize a.getD i 0=x at *;rw[hv]
  by_cases hz:x=0
  ·subst hz;rw[gT rfl];simp only[bUW,bND]
   by_cases aJV:M6.val (a.drop (i+1))=0
   ·rw[if_pos aJV,aT]
   ·have:=Lx aJV 64;rw[show(2:Nat)^64=18446744073709551616 from rfl]at this;rw[if_neg aJV,aX,this];congr 5;omega
  ·have ht:=Fx (n:=x.toNat) (by omega);have aXG:tz x.toNat<64:=by
    rcases bNQ (tz x.toNat) 64 with h |h
    ·exact h
    ·have h3:2^64<=2^tz x.toNat:=bQB (by omega) h;omega
   have:=aNL (r:=x.toNat) (k:=64) (n:=M6.val (a.drop (i+1))) (by omega) (by omega);rw[show(2:Nat)^64=18446744073709551616 from rfl]at this;rw[qF hz,if_neg hz,aX,this,wrap_i64];congr 5
theorem spec:gO E f114 aE (pI .u64) sp:=by
 rintro a ⟨ha,hl⟩;refine(start a).trans ?_;have:=L ha hl a.length 0 (by omega);rw[show(0:Int)=((0:Nat):Int)from rfl,this,bTJ];show _=some [D.s (.sc (.int .i64 (tz (M6.val a):Nat)))]
 by_cases hz:M6.val a=0
 ·rw[if_pos hz,hz];simp[tz]
 ·rw[if_neg hz];congr 5;omega
def aH:dC:=orc1 (pI .u64) sp
theorem ok:OK 114 aH:=(eI E aE (aA aHC.ok aD) func114).nD rfl spec
end zO
namespace Bm
def E:=mE [(167,fI.aH),(171,bZ.aH)] 73 [70] [(10,[0,6,7,8,29,30])] []
def aE:=bd f115
theorem aU:Nk E aE:=nk
def Ir a b c (d:Nat) (e:List Int) f g:=nU E f115 aE 10 [gD a,bR b,bR c,yL 3 d 22 e,bR f,bR g]
theorem start a b:aF E f115 aE [D.s (ints u64 a),D.s (sc (int i64 b))]=letI G:=b.tdiv 64;letI C:=sc (slice none 0 0);letI A:=(a.length:Int);letI B:=A-i64.wrap G;letI F:=i64.wrap B;aB (decide (b<0)) (some [D.s C,D.s (sc (int i64 1))]) (aQ (a.length<=1099511627776) (aB (!fI.mY a) (some [D.s C,D.s (sc (int i64 2))]) (aB (decide (A<=i64.wrap G)) (some [D.s C,D.s (sc (int i64 0))]) (if 0<=i64.wrap B/\i64.wrap B<=i64.wrap B/\i64.wrap B<=8796093022208 then Bm.Ir a (i64.wrap G) (b.tmod 64) F.toNat (bPE F.toNat (0:Int)) (F.toNat:Int) 0 else none)))):=eJ aU
theorem sL a b c d e f g:Ir a b c d e f g=letI C:=(a.length:Int);letI B:=i64.wrap (b+g)+1;letI A:=e.set g.toNat (a.getD (i64.wrap (b+g)).toNat 0/(↑((2:Nat)^min c.toNat 64):Int));aB (decide (g<f)) (if 0<=i64.wrap (b+g)/\i64.wrap (b+g)<C then if c<0 then none else if 0<=g/\g<(d:Int)then aB (decide (i64.wrap B<C)) (if 0<=g/\g<(d:Int)then if 0<=i64.wrap B/\i64.wrap B<C then if i64.wrap ((63:Int)-c)<0 then none else if 0<=g/\g<(d:Int)then Bm.Ir a b c d (A.set g.toNat (eY BinOp.or u64 (A.getD g.toNat 0) (u64.wrap (u64.wrap (a.getD (i64.wrap B).toNat 0*(2:Int))*(↑((2:Nat)^min (i64.wrap ((63:Int)-c)).toNat 64):Int))))) f (i64.wrap (g+1))else none else none else none) (Bm.Ir a b c d A f (i64.wrap (g+1)))else none else none) (aQ (M6.cB e/\e.length<=1099511627776) (some [D.s (ints u64 (bif bZ.kX (M6.val e)then M6.dg (M6.val e)else [])),D.s (sc (int i64 (bif bZ.kX (M6.val e)then(0:Int)else(5:Int))))])):=lJ aU
theorem Un(a:List Int)(q i:Nat):(a.drop q).getD i 0=a.getD (q+i) 0:=by
 simp[bSG,bNN]
theorem high{x k:Nat}(h:k<64):x*2^(64-k)%18446744073709551616=2^(64-k)*(x%2^k):=by
 rw[show(18446744073709551616:Nat)=2^(64-k)*2^k from by rw[<-bSD,show 64-k+k=64 from by omega],bRZ x,Nat.mul_mod_mul_left]
theorem step{a P:List Int}{q k i r:Nat}(ha:M6.cB a)(hP:P.length=i)(hk:k<64)(hl:a.length<=8192)(hr:q+i+(r+1)=a.length) :
  Ir a q k (a.length-q) (P ++ bPE (r+1) 0) ((a.length-q:Nat):Int) i =
   Ir a q k (a.length-q) ((P ++ [(((a.getD (q+i) 0).toNat/2^k+2^(64-k)*((a.getD (q+i+1) 0).toNat%2^k):Nat):Int)]) ++ bPE r 0) ((a.length-q:Nat):Int) ((i+1:Nat):Int):=by
 have g:=ha.get (q+i);have g1:=ha.get (q+i+1);have w1:i64.wrap ((q:Int)+i)=((q+i:Nat):Int):=by rw[wrap_i64];omega
 have w2:i64.wrap (((q+i:Nat):Int)+1)=((q+i+1:Nat):Int):=by rw[wrap_i64];omega
 have w3:i64.wrap (63-(k:Int))=((63-k:Nat):Int):=by rw[wrap_i64];omega
 have m1:min k 64=k:=by omega
 have m2:min (63-k) 64=63-k:=by omega
 have aON:(a.getD (q+i) 0)/((2^k:Nat):Int)=(((a.getD (q+i) 0).toNat/2^k:Nat):Int):=by
  obtain⟨x,hx⟩:=bSE g.1;rw[hx,bQX,bSS]
 have Ug:(a.getD (q+i) 0).toNat/2^k<2^(64-k):=by
  apply bSW;rw[<-bSD,show k+(64-k)=64 from by omega];omega
 rw[sL,aO,w1,if_pos ⟨by omega,by omega⟩,aX,if_pos ⟨by omega,by omega⟩,w2,w3,wrap_i64 (n:=(i:Int)+1),
  bQX,bQX,bQX,bQX,bQX,m1,m2,bSK,Ce hP,Cv hP,aON]
 by_cases hn:q+i+1<a.length
 ·rw[aO,if_pos ⟨by omega,by omega⟩,if_pos ⟨by omega,by omega⟩,aX,if_pos ⟨by omega,by omega⟩,Ce hP];have hw:u64.wrap (u64.wrap (a.getD (q+i+1) 0*2)*((2^(63-k):Nat):Int))=((2^(64-k)*((a.getD (q+i+1) 0).toNat%2^k):Nat):Int):=by
   obtain⟨x,hx⟩:=bSE g1.1;have aBG:u64.wrap ((x:Int)*2)=((x*2%18446744073709551616:Nat):Int):=by rw[eG];omega
   have bIR:∀p:Nat,u64.wrap (((x*2%18446744073709551616:Nat):Int)*(p:Int))=((x*2*p%18446744073709551616:Nat):Int):=by
    intro p;rw[eG,<-bTA,show(18446744073709551616:Int)=((18446744073709551616:Nat):Int)from rfl,<-bTS,bTM,Nat.mod_mod,<-bTM]
   rw[hx,aBG,bIR,bQX,<-high hk,show 64-k=(63-k)+1 from by omega,bSA,bSF,bRZ 2]
  have hh:2^(64-k)*((a.getD (q+i+1) 0).toNat%2^k)<18446744073709551616:=by rw[<-high hk];exact bPJ _ (by omega)
  have bGD:2^(64-k)<=2^64:=fY;have aUD:eY .or .u64 (((a.getD (q+i) 0).toNat/2^k:Nat):Int) ((2^(64-k)*((a.getD (q+i+1) 0).toNat%2^k):Nat):Int)=(((a.getD (q+i) 0).toNat/2^k+2^(64-k)*((a.getD (q+i+1) 0).toNat%2^k):Nat):Int):=by
   have:=Cm (n:=(a.getD (q+i+1) 0).toNat%2^k) Ug;rw[<-this];generalize 2^(64-k)*((a.getD (q+i+1) 0).toNat%2^k)=Y at *;generalize (a.getD (q+i) 0).toNat/2^k=X at *;generalize 2^(64-k)=p at *;rw[Zg (by omega) (by omega) (by omega) (by omega),bQX,bQX]
  rw[hw,aUD,bOW,bTX];rfl
 ·rw[aI,M6.getD_none (a:=a) (n:=q+i+1) (by omega),show((0:Int).toNat%2^k)=0 from Nat.zero_mod _,bTY,bOC,bOW,bTX];rfl
theorem L{a:List Int}{q k:Nat}(ha:M6.cD a)(hl:a.length<=8192)(hq:q<a.length)(hk:k<64):∀(r i:Nat) (P:List Int),q+i+r=a.length->P.length=i->M6.cB P ->
  2^k*M6.val P+(a.getD q 0).toNat%2^k=M6.val ((a.drop q).take i)+18446744073709551616^i*((a.getD (q+i) 0).toNat%2^k) ->
  Ir a q k (a.length-q) (P ++ bPE r 0) ((a.length-q:Nat):Int) i=some [D.s (.ints .u64 (M6.dg (M6.val (a.drop q)/2^k))),D.s (.sc (.int .i64 0))]:=by
 intro r;have aTZ:0<2^k:=cI
 induction r with
 |zero =>
  intro i P hi hP hd hv;rw[M6.getD_none (a:=a) (n:=q+i) (by omega),show((0:Int).toNat%2^k)=0 from Nat.zero_mod _,bTY,bOC,M6.cE (by rw[bRA];omega)]at hv;have bEQ:M6.val P=M6.val (a.drop q)/2^k:=by
   rw[<-hv,Nat.mul_add_div aTZ,bSZ (bPJ _ aTZ),bOC]
  have Qn:bZ.kX (M6.val (a.drop q)/2^k)=true:=by
   refine decide_eq_true ?_;rw[<-bEQ];have:=M6.oX hd;omega
  rw[bTN,bTC,sL,aI,gP ⟨hd,by omega⟩,bEQ,Qn];rfl
 |succ r ih =>
  intro i P hi hP hd hv;have g:=ha.iX.get (q+i);have Ug:(a.getD (q+i) 0).toNat/2^k<2^(64-k):=by
   apply bSW;rw[<-bSD,show k+(64-k)=64 from by omega];omega
  have aGA:2^(64-k)*2^k=18446744073709551616:=by rw[<-bSD,show 64-k+k=64 from by omega]
  have hs:(a.getD (q+i) 0).toNat/2^k+2^(64-k)*((a.getD (q+i+1) 0).toNat%2^k)<18446744073709551616:=by
   have hm:(a.getD (q+i+1) 0).toNat%2^k<2^k:=bPJ _ aTZ;have h3:2^(64-k)*((a.getD (q+i+1) 0).toNat%2^k+1)<=2^(64-k)*2^k:=bPP _ hm;rw[aGA,bSB]at h3;omega
  rw[step ha.iX hP hk hl (by omega)];refine ih (i+1) _ (by omega) (by simp[hP]) (M6.lF hd ⟨Int.natCast_nonneg _,by have:=Int.ofNat_lt.2 hs;exact this⟩) ?_;rw[M6.lE,hP,M6.cA,Un,bQX,<-bQR q i 1,bSB,bUE,hv];have hx:=bSI (a.getD (q+i) 0).toNat (2^k);generalize (a.getD (q+i) 0).toNat=x at *;generalize (a.getD (q+i+1) 0).toNat%2^k=y at *;generalize M6.val ((a.drop q).take i)=v at *;have e1:2^k*(18446744073709551616^i*(x/2^k+2^(64-k)*y))=18446744073709551616^i*(2^k*(x/2^k))+18446744073709551616^(i+1)*y:=by
   rw[bSA];generalize (18446744073709551616^i)=B;rw[bUY,bSB,<-bSF (2^k) (2^(64-k)),bRZ (2^k) (2^(64-k)),aGA,bSB,bSF B]
  rw[e1];have e2:18446744073709551616^i*x=18446744073709551616^i*(2^k*(x/2^k))+18446744073709551616^i*(x%2^k):=by rw[<-bSB,hx]
  rw[e2];omega
def sp(a:List Int)(n:Int):Prop×List D:=(M6.cD a/\a.length<=8192/\0<=n/\n<4611686018427387904,[.s (.ints .u64 (M6.dg (M6.val a/2^n.toNat))),.s (.sc (.int .i64 0))])
theorem spec:Eu E f115 aE (pI .u64) (pN .i64) sp:=by
 rintro a n ⟨ha,hl,h0,h1⟩;have e:=start a n;have eq:n/64=((n.toNat/64:Nat):Int):=by omega
 have ek:n%64=((n.toNat%64:Nat):Int):=by omega
 rw[aI,gP,fI.lU ha hl,bPB,bF,aCD h0,aBY h0,wrap_i64 (n:=n/64),eq,ek]at e;unfold sp;simp only;rw[Gm,<-bST];generalize hqq:n.toNat/64=q at *;have hk:n.toNat%64<64:=bPJ _ (by omega);generalize n.toNat%64=k at *
 by_cases hz:a.length<=q
 ·have hv:M6.val a/18446744073709551616^q=0:=bSZ (bOB (M6.cK ha.iX) (bQB (by omega) hz));rw[aO]at e;rw[hv,Nat.zero_div,M6.bN];exact⟨_,e,.cons (vZ.nil _) (fX.refl _)⟩
 ·have hval:M6.val a/18446744073709551616^q=M6.val (a.drop q):=by
   rw[M6.gE a (n:=q) (by omega),bTR _ _ (cI),bSZ (M6.gQ ha.iX _),bND]
  have w:i64.wrap ((a.length:Int)-(q:Int))=((a.length-q:Nat):Int):=by rw[wrap_i64];omega
  rw[aI,w,if_pos ⟨by omega,by omega,by omega⟩,bQX]at e;have:=L (q:=q) (k:=k) ha hl (by omega) hk (a.length-q) 0 [] (by omega) rfl M6.lW (by simp[M6.val]);rw[hval];exact⟨_,e.trans this,fX.refl _⟩
def aH:dC:=orc2 (pI .u64) (pN .i64) sp
theorem ok:OK 115 aH:=(eI E aE (aA fI.ok (aA bZ.ok aD)) func115).aBB rfl spec
end Bm
namespace iK
def E:=mE [(112,gJ.aH),(114,zO.aH),(115,Bm.aH)] 55 [] [(8,[1,2,4,6])] [8]
def aE:=bd f63
theorem aU:Nk E aE:=nk
def J8 a b c d e f:=lD E f63 aE 8 [bR a,dG 1 27 [cG b,eM c],dG 2 29 [cG d,sc (slice none 0 0),cP e],bR f]
theorem start a c b:aF E f63 aE [D.agg [sc (bool a),ints u64 c],D.s (sc (int i64 b))]=letI G:=bool false;letI F:=int i64 0;letI C:=slice none 0 0;letI B:=(↑(tz (M6.val c)):Int);letI A:=some [D.agg [sc G,sc C,sc F],D.s (sc (int i64 5))];aQ (c.length<=1099511627776) (aB (!gJ.qL (a,c)) (some [D.agg [sc G,sc C,sc F],D.s (sc (int i64 2))]) (aB ((c.length:Int)==(0:Int)) (some [D.agg [sc G,sc C,sc F],D.s (sc F)]) (aQ (M6.cB c/\c.length<=1099511627776) (aB (decide (1048576<b)) A (aB (decide (b<(-1572864:Int))) A (aB (decide (i64.wrap (b+B)<(-1048576:Int))) A (aB (decide (1048576<i64.wrap (b+B))) A (iK.J8 b a c false 0 B)))))))):=eJ aU
theorem vW a b c d e f:J8 a b c d e f=aQ (M6.cD c/\c.length<=8192/\0<=f/\f<4611686018427387904) (some [D.agg [sc (bool b),ints u64 (M6.dg (M6.val c/(2:Nat)^f.toNat)),sc (int i64 (i64.wrap (a+f)))],D.s (sc (int i64 0))]):=cJ aU
def sp(x:Bool×List Int)(e:Int):Prop×List D:=(kA x/\-9223372036854775808<=e/\e<9223372036854775808,dE (fN (wv x) e) (aK (wv x) e))
theorem kF(p:Int×Int):fX [D.agg [.sc (.bool false),.sc (.slice none 0 0),.sc (.int .i64 0)],.s (.sc (.int .i64 5))] (dE false p):=by
 refine .cons ?_ (fX.refl _);show vZ _ (M.dD (0,0));unfold dD;rw[show((0,0):Int×Int).1.natAbs=0 from rfl,M6.bN];exact vZ.agg (.cons (yQ.refl _) (.cons (yQ.nil _) (uK.refl _)))
theorem spec:Eu E f63 aE wB (pN .i64) sp:=by
 rintro x e ⟨hw,h1,h2⟩;have s:=start x.1 x.2 e;have hl:=hw.len;have hf:=gJ.nL hw;have hb:=hw.bl;obtain⟨b,a⟩:=x;have hn:M6.cD a:=hw.1
 try dsimp only at *
 unfold sp
 try dsimp only
 rw[gP,hf,bPB,bF]at s;have aEY:=iZ (b,a)
 try dsimp only at aEY
 by_cases hz:a.length=0
 ·have hv:=(M6.cS hn).1 hz;have Zp:wv (b,a)=0:=by omega
  rw[cF]at s;refine⟨_,s,?_⟩;rw[Zp];refine .cons ?_ (fX.refl _);show vZ _ (M.dD (0,0));unfold dD;rw[show((0,0):Int×Int).1.natAbs=0 from rfl,M6.bN];exact vZ.agg (.cons (yQ.refl _) (.cons (yQ.nil _) (uK.refl _)))
 ·have hv:M6.val a≠0:=fun h=>hz ((M6.cS hn).2 h)
  have Zp:wv (b,a)≠0:=by omega
  have ht:=zX hv;have hs:=oW _ hv;have vY:∀p:Bool,(p=(decide (-1048576<=e+(tz (M6.val a):Nat))&&decide (e+(tz (M6.val a):Nat)<=1048576)))->fN (wv (b,a)) e=p:=by
   intro p hp;unfold fN;rw[aEY,decide_eq_false Zp,bPC,hp]
  rw[bS,gP ⟨hn.iX,by omega⟩]at s
  by_cases c1:1048576<e
  ·rw[aO c1]at s;rw[vY false (by rw[decide_eq_false (show ¬(e+(tz (M6.val a):Nat)<=1048576) by omega),bSO])];exact⟨_,s,kF _⟩
  ·rw[aI c1]at s
   by_cases c2:e < -1572864
   ·rw[aO c2]at s;rw[vY false (by rw[decide_eq_false (show ¬(-1048576<=e+(tz (M6.val a):Nat)) by omega),bSL])];exact⟨_,s,kF _⟩
   ·have w:i64.wrap (e+(tz (M6.val a):Int))=e+(tz (M6.val a):Int):=wrap_i64;rw[aI c2,w]at s
    by_cases c3:e+(tz (M6.val a):Int) < -1048576
    ·rw[aO c3]at s;rw[vY false (by rw[decide_eq_false (show ¬(-1048576<=e+(tz (M6.val a):Nat)) by omega),bSL])];exact⟨_,s,kF _⟩
    ·rw[aI c3]at s
     by_cases c4:1048576<e+(tz (M6.val a):Int)
     ·rw[aO c4]at s;rw[vY false (by rw[decide_eq_false (show ¬(e+(tz (M6.val a):Nat)<=1048576) by omega),bSO])];exact⟨_,s,kF _⟩
     ·rw[aI c4,vW,gP ⟨hn,hl,by omega,by omega⟩,w,bQX]at s;rw[vY true (by rw[decide_eq_true (show(e+(tz (M6.val a):Nat)<=1048576) by omega),decide_eq_true (show(-1048576<=e+(tz (M6.val a):Nat)) by omega)];rfl)];refine⟨_,s,?_⟩;have:aK (wv (b,a)) e=(zs b (M6.val a/2^tz (M6.val a)),e+(tz (M6.val a):Nat)):=by
       unfold aK;rw[if_neg Zp,aEY];have:=aBN (b:=b) (bQA (n:=tz (M6.val a)) (show 0<2 by decide)) hs.1;rw[<-this];rfl
      rw[this];have hq:M6.val a/2^tz (M6.val a)≠0:=by omega
      show fX _ [M.dD (zs b (M6.val a/2^tz (M6.val a)),e+(tz (M6.val a):Nat)),_];unfold dD
      try dsimp only
      rw[Fv,kD,decide_eq_true hq,Bool.and_true];exact fX.refl _
def aH:dC:=orc2 wB (pN .i64) sp
theorem ok:OK 63 aH:=(eI E aE (aA gJ.ok (aA zO.ok (aA Bm.ok aD))) func63).aBB rfl spec
end iK
namespace bM
def E:=mE [(61,lB.aH),(68,kQ.aH),(69,Bn.aH),(70,Ow.aH),(71,aAZ.aH),(63,iK.aH)] 79 [44,67,76] [(7,[2,3,4]),(12,[4,6,7,9])] [7,12]
def aE:=bd f26
theorem aU:Nk E aE:=nk
def J7 a b c d e f g h:=lD E f26 aE 7 [dG 0 29 [cG a,eM b,cP c],dG 1 29 [cG d,eM e,cP f],dG 2 29 [cG g,sc (slice none 0 0),cP h]]
def aWU a b c d e f g:=lD E f26 aE 12 [dG 0 29 [cG a,sc (slice none 0 0),cP b],bR c,dG 2 27 [cG d,eM e],dG 3 27 [cG f,eM g]]
theorem start a b c d e f:aF E f26 aE [D.agg [sc (bool a),ints u64 b,sc (int i64 c)],D.agg [sc (bool d),ints u64 e,sc (int i64 f)]]=aQ (aJ (a,b,c)) (aQ (aJ (d,e,f)) (aQ True (aB ((b.length:Int)==(0:Int)) (aQ (e.length<=1099511627776) (some [D.agg [sc (bool d),ints u64 e,sc (int i64 f)],D.s (sc (int i64 0))])) (aQ True (aB ((e.length:Int)==(0:Int)) (aQ (b.length<=1099511627776) (some [D.agg [sc (bool a),ints u64 b,sc (int i64 c)],D.s (sc (int i64 0))])) (bM.J7 a b c d e f false 0)))))):=eJ aU
theorem Sj a b c d e f g h:J7 a b c d e f g h=letI G:=i64.wrap (c-if f<c then f else c);letI I:=M6.val b*(2:Nat)^G.toNat;letI F:=i64.wrap (f-if f<c then f else c);letI H:=M6.val e*(2:Nat)^F.toNat;letI C:=some [D.agg [sc (bool false),sc (slice none 0 0),sc (int i64 0)],D.s (sc (int i64 5))];letI B:=bif fit H then wv (d,e)*(↑((2:Nat)^F.toNat):Int)else(0:Int);letI A:=bif fit I then wv (a,b)*(↑((2:Nat)^G.toNat):Int)else(0:Int);aQ (kA (a,b)/\0<=i64.wrap (c-if f<c then f else c)/\i64.wrap (c-if f<c then f else c)<4611686018427387904) (aQ (kA (d,e)/\0<=i64.wrap (f-if f<c then f else c)/\i64.wrap (f-if f<c then f else c)<4611686018427387904) (aB ((bif fit I then(0:Int)else(5:Int)) !=0) C (aB ((bif fit H then(0:Int)else(5:Int)) !=0) C (bM.aWU g h (if f<c then f else c) (isNeg A) (M6.dg A.natAbs) (isNeg B) (M6.dg B.natAbs))))):=cJ aU
theorem Vq a b c d e f g:aWU a b c d e f g=letI G:=wv (d,e)+wv (f,g);letI F:=bif fit G.natAbs then(0:Int)else(5:Int);letI C:=bif fit G.natAbs then wv (d,e)+wv (f,g)else(0:Int);letI A:=(isNeg C,M6.dg C.natAbs);letI B:=bif fN (wv A) c then aK (wv A) c else((0:Int),(0:Int));aQ (kA (d,e)/\kA (f,g)) (aB (F !=0) (some [D.agg [sc (bool false),sc (slice none 0 0),sc (int i64 0)],D.s (sc (int i64 F))]) (aQ (kA A/\(-9223372036854775808:Int)<=c/\c<9223372036854775808) (some [D.agg [sc (bool (isNeg B.fst)),ints u64 (M6.dg B.fst.natAbs),sc (int i64 B.snd)],D.s (sc (int i64 (bif fN (wv A) c then(0:Int)else(5:Int))))]))):=cJ aU
def fK(p q:Int×Int):Int:=if q.2<p.2 then q.2 else p.2
def lK(p q:Int×Int):Int:=p.1*((2^(p.2-fK p q).toNat:Nat):Int)
def lI(p q:Int×Int):Int:=q.1*((2^(q.2-fK p q).toNat:Nat):Int)
def oT(p q:Int×Int):Int×Int:=if p.1=0 then q else if q.1=0 then p else aK (lK p q+lI p q) (fK p q)
def jZ(p q:Int×Int):Bool:=decide (p.1=0)||(decide (q.1=0)||(fit (lK p q).natAbs&&(fit (lI p q).natAbs&&(fit (lK p q+lI p q).natAbs&&fN (lK p q+lI p q) (fK p q)))))
def sp(x y:dU):Prop×List D:=(aJ x/\aJ y,dE (jZ (dv x) (dv y)) (oT (dv x) (dv y)))
theorem spec:Eu E f26 aE hZ hZ sp:=by
 rintro x y ⟨hx,hy⟩;have s:=start x.1 x.2.1 x.2.2 y.1 y.2.1 y.2.2;have dx:=hx.dD;have dy:=hy.dD;have lx:=hx.len;have ly:=hy.len;have rx:=hx.2.1;have ry:=hy.2.1;have zx:=M6.cS hx.Iz;have zy:=M6.cS hy.Iz;have wx:=hx.Dr;have wy:=hy.Dr;obtain⟨b,a,e⟩:=x;obtain⟨c,d,f⟩:=y
 try dsimp only at *
 unfold sp
 try dsimp only
 have ax:=iZ (b,a);have ay:=iZ (c,d)
 try dsimp only at ax ay
 rw[gP hx,gP hy,gP trivial]at s
 by_cases h0:a.length=0
 ·have hw:(dv (b,a,e)).1=0:=by have:=zx.1 h0;show wv (b,a)=0;omega
  rw[cF,gP]at s;refine⟨_,s,?_⟩;unfold jZ oT;rw[decide_eq_true hw,bSM,if_pos hw];show fX _ [M.dD (dv (c,d,f)),_];rw[dy];exact fX.refl _
 ·have hw:(dv (b,a,e)).1≠0:=by have:M6.val a≠0:=fun h=>h0 (zx.2 h);show wv (b,a)≠0;omega
  rw[bS,gP trivial]at s
  by_cases g0:d.length=0
  ·have hv:(dv (c,d,f)).1=0:=by have:=zy.1 g0;show wv (c,d)=0;omega
   rw[cF,gP]at s;refine⟨_,s,?_⟩;unfold jZ oT;rw[decide_eq_false hw,bPC,decide_eq_true hv,bSM,if_neg hw,if_pos hv];show fX _ [M.dD (dv (b,a,e)),_];rw[dx];exact fX.refl _
  ·have hv:(dv (c,d,f)).1≠0:=by have:M6.val d≠0:=fun h=>g0 (zy.2 h);show wv (c,d)≠0;omega
   have i1:fK (dv (b,a,e)) (dv (c,d,f))<=e/\fK (dv (b,a,e)) (dv (c,d,f))<=f/\-1048576<=fK (dv (b,a,e)) (dv (c,d,f)):=by
    unfold fK dv
    try dsimp only
    split <;> omega
   have u1:i64.wrap (e-fK (dv (b,a,e)) (dv (c,d,f)))=e-fK (dv (b,a,e)) (dv (c,d,f)):=wrap_i64;have u2:i64.wrap (f-fK (dv (b,a,e)) (dv (c,d,f)))=f-fK (dv (b,a,e)) (dv (c,d,f)):=wrap_i64;have e1:(if f<e then f else e)=fK (dv (b,a,e)) (dv (c,d,f)):=rfl;have f1:M6.val a*2^(e-fK (dv (b,a,e)) (dv (c,d,f))).toNat=(lK (dv (b,a,e)) (dv (c,d,f))).natAbs:=by
    show _=(wv (b,a)*_).natAbs;rw[bSP,ax,bSU];rfl
   have f2:M6.val d*2^(f-fK (dv (b,a,e)) (dv (c,d,f))).toNat=(lI (dv (b,a,e)) (dv (c,d,f))).natAbs:=by
    show _=(wv (c,d)*_).natAbs;rw[bSP,ay,bSU];rfl
   have f3:wv (b,a)*((2^(e-fK (dv (b,a,e)) (dv (c,d,f))).toNat:Nat):Int)=lK (dv (b,a,e)) (dv (c,d,f)):=rfl;have f4:wv (c,d)*((2^(f-fK (dv (b,a,e)) (dv (c,d,f))).toNat:Nat):Int)=lI (dv (b,a,e)) (dv (c,d,f)):=rfl;rw[bS,Sj,e1,u1,u2]at s
   try dsimp only at s
   rw[f1,f2,f3,f4,gP ⟨wx,by omega,by omega⟩,gP ⟨wy,by omega,by omega⟩]at s;have ao:jZ (dv (b,a,e)) (dv (c,d,f))=(fit (lK (dv (b,a,e)) (dv (c,d,f))).natAbs&&(fit (lI (dv (b,a,e)) (dv (c,d,f))).natAbs&&(fit (lK (dv (b,a,e)) (dv (c,d,f))+lI (dv (b,a,e)) (dv (c,d,f))).natAbs&&fN (lK (dv (b,a,e)) (dv (c,d,f))+lI (dv (b,a,e)) (dv (c,d,f))) (fK (dv (b,a,e)) (dv (c,d,f)))))):=by
    unfold jZ;rw[decide_eq_false hw,bPC,decide_eq_false hv,bPC]
   have ad:oT (dv (b,a,e)) (dv (c,d,f))=aK (lK (dv (b,a,e)) (dv (c,d,f))+lI (dv (b,a,e)) (dv (c,d,f))) (fK (dv (b,a,e)) (dv (c,d,f))):=by
    unfold oT;rw[if_neg hw,if_neg hv]
   rw[ao,ad];generalize lK (dv (b,a,e)) (dv (c,d,f))=X at *;generalize lI (dv (b,a,e)) (dv (c,d,f))=Y at *;generalize fK (dv (b,a,e)) (dv (c,d,f))=k at *;cases c1:fit X.natAbs with
   |false =>
    rw[c1,cond_false,qF]at s;rw[bSL];exact⟨_,s,iK.kF _⟩
   |true =>
    rw[c1,cond_true,gT rfl]at s;cases c2:fit Y.natAbs with
    |false =>
     rw[c2,cond_false,qF]at s;rw[bSL,bSO];exact⟨_,s,iK.kF _⟩
    |true =>
     rw[c2,cond_true,gT rfl,Vq,gP ⟨mR (xD c1),mR (xD c2)⟩]at s
     try dsimp only[cond_true]at s
     rw[rT,rT]at s;cases c3:fit (X+Y).natAbs with
     |false =>
      rw[c3]at s
      try dsimp only[cond_false]at s
      rw[qF]at s;rw[bSL,bSO,bSO];exact⟨_,s,iK.kF _⟩
     |true =>
      rw[c3]at s
      try dsimp only[cond_true]at s
      rw[gT rfl,gP ⟨mR (xD c3),by omega,by omega⟩,rT]at s;rw[bQC,bQC,bQC];exact⟨_,s,fX.refl _⟩
def aH:dC:=orc2 hZ hZ sp
theorem ok:OK 26 aH:=(eI E aE (aA lB.ok (aA kQ.ok (aA Bn.ok (aA Ow.ok (aA aAZ.ok (aA iK.ok aD)))))) func26).aBB rfl spec
end bM
namespace mK
def E:=mE [(61,lB.aH),(68,kQ.aH),(69,Bn.aH)] 45 [] [(7,[1,2,4])] [7]
def aE:=bd f46
theorem aU:Nk E aE:=nk
def J7 a b c d e f:=lD E f46 aE 7 [bR a,dG 1 29 [cG b,eM c,cP d],dG 2 29 [cG e,sc (slice none 0 0),cP f]]
theorem start a c d b:aF E f46 aE [D.agg [sc (bool a),ints u64 c,sc (int i64 d)],D.s (sc (int i64 b))]=letI B:=int i64 0;letI A:=some [D.agg [sc (bool false),sc (slice none 0 0),sc B],D.s (sc (int i64 5))];aQ (aJ (a,c,d)) (aQ True (aB ((c.length:Int)==(0:Int)) (some [D.agg [sc (bool false),sc (slice none 0 0),sc B],D.s (sc B)]) (aB (decide (2097152<b)) A (aB (decide (b<(-2097152:Int))) A (aB (decide (1048576<i64.wrap (d+b))) A (aB (decide (i64.wrap (d+b)<(-1048576:Int))) A (mK.J7 b a c d false 0))))))):=eJ aU
theorem Sj a b c d e f:J7 a b c d e f=aQ (c.length<=1099511627776) (some [D.agg [sc (bool b),ints u64 c,sc (int i64 (i64.wrap (d+a)))],D.s (sc (int i64 0))]):=cJ aU
def aJA(p:Int×Int)(n:Int):Int×Int:=if p.1=0 then(0,0)else(p.1,p.2+n)
def Jj(p:Int×Int)(n:Int):Bool:=decide (p.1=0)||(decide (-1048576<=p.2+n)&&decide (p.2+n<=1048576))
def sp(x:dU)(n:Int):Prop×List D:=(aJ x/\-9223372036854775808<=n/\n<9223372036854775808,dE (Jj (dv x) n) (aJA (dv x) n))
theorem spec:Eu E f46 aE hZ (pN .i64) sp:=by
 rintro x n ⟨h,h1,h2⟩;have hl:=h.len;have hd:=h.dD;have hr:=h.2.1;have s:=start x.1 x.2.1 x.2.2 n;obtain⟨b,a,e⟩:=x
 try dsimp only at *
 unfold sp
 try dsimp only
 have hz:=M6.cS h.Iz;have ha:=iZ (b,a)
 try dsimp only at ha hz
 rw[gP h,gP trivial]at s
 by_cases h0:a.length=0
 ·have hw:(dv (b,a,e)).1=0:=by have:=hz.1 h0;show wv (b,a)=0;omega
  rw[cF]at s;refine⟨_,s,?_⟩;unfold Jj aJA;rw[decide_eq_true hw,bSM,if_pos hw];refine .cons ?_ (fX.refl _);show vZ _ (M.dD (0,0));unfold M.dD;rw[show((0,0):Int×Int).1.natAbs=0 from rfl,M6.bN];exact vZ.agg (.cons (yQ.refl _) (.cons (yQ.nil _) (uK.refl _)))
 ·have hw:(dv (b,a,e)).1≠0:=by have:M6.val a≠0:=fun h=>h0 (hz.2 h);show wv (b,a)≠0;omega
  have vY:∀p:Bool,(p=(decide (-1048576<=e+n)&&decide (e+n<=1048576)))->Jj (dv (b,a,e)) n=p:=by
   intro p hp;unfold Jj;rw[decide_eq_false hw,bPC,hp];rfl
  rw[bS]at s
  by_cases c1:2097152<n
  ·rw[aO c1]at s;rw[vY false (by rw[decide_eq_false (show ¬(e+n<=1048576) by omega),bSO])];exact⟨_,s,iK.kF _⟩
  ·rw[aI c1]at s
   by_cases c2:n < -2097152
   ·rw[aO c2]at s;rw[vY false (by rw[decide_eq_false (show ¬(-1048576<=e+n) by omega),bSL])];exact⟨_,s,iK.kF _⟩
   ·have w:i64.wrap (e+n)=e+n:=wrap_i64;rw[aI c2,w]at s
    by_cases c3:1048576<e+n
    ·rw[aO c3]at s;rw[vY false (by rw[decide_eq_false (show ¬(e+n<=1048576) by omega),bSO])];exact⟨_,s,iK.kF _⟩
    ·rw[aI c3]at s
     by_cases c4:e+n < -1048576
     ·rw[aO c4]at s;rw[vY false (by rw[decide_eq_false (show ¬(-1048576<=e+n) by omega),bSL])];exact⟨_,s,iK.kF _⟩
     ·rw[aI c4,Sj]at s
      try dsimp only at s
      rw[gP,w]at s;rw[vY true (by rw[decide_eq_true (show(e+n<=1048576) by omega),decide_eq_true (show(-1048576<=e+n) by omega)];rfl)];refine⟨_,s,?_⟩;unfold aJA;rw[if_neg hw];have hc:=h.Dr.cells;show fX _ [M.dD (wv (b,a),e+n),_];unfold M.dD
      try dsimp only
      rw[hc.1,hc.2];exact fX.refl _
def aH:dC:=orc2 hZ (pN .i64) sp
theorem ok:OK 46 aH:=(eI E aE (aA lB.ok (aA kQ.ok (aA Bn.ok aD))) func46).aBB rfl spec
end mK
namespace aHL
def E:=mE [(127,uG.aH)] 11 [] [] []
def aE:=bd f168
theorem aU:Nk E aE:=nk
theorem start a b:aF E f168 aE [D.agg [sc (bool a),ints u64 b]]=aQ (M6.cB b/\b.length<=1099511627776) (aB ((↑(bl (M6.val b)):Int)==(0:Int)) (some [D.s (sc (int i64 0))]) (aB a (some [D.s (sc (int i64 (-1:Int)))]) (some [D.s (sc (int i64 1))]))):=eJ aU
def sp(x:Bool×List Int):Prop×List D:=(kA x,[.s (.sc (.int .i64 (lG (wv x) 0)))])
theorem spec:gO E f168 aE wB sp:=by
 intro x h;refine(start x.1 x.2).trans ?_;have h:kA x:=h;have hl:=h.len;obtain⟨h1,h2,h3⟩:=h;unfold sp;simp only;rw[gP ⟨h1.iX,by omega⟩]
 by_cases hz:M6.val x.2=0
 ·rw[hz,yH,cF (a:=((0:Nat):Int)) (b:=0) rfl];cases hx:x.1 with
  |true=>exact(h2 hx hz).elim
  |false=>rw[Bt hx,hz];rfl
 ·have:=sE hz;rw[bS];cases hx:x.1 with
  |true=>rw[bT,Lu hx];unfold lG;rw[aT]
  |false=>rw[bF,Bt hx];unfold lG;rw[aX,aT]
def aH:dC:=orc1 wB sp
theorem ok:OK 168 aH:=(eI E aE (aA uG.ok aD) func168).nD rfl spec
end aHL
namespace aHV
def E:=mE [(127,uG.aH)] 11 [] [] []
def aE:=bd f197
theorem aU:Nk E aE:=nk
theorem start a b c:aF E f197 aE [D.agg [sc (bool a),ints u64 b,sc (int i64 c)]]=aQ (M6.cB b/\b.length<=1099511627776) (some [D.s (sc (int i64 (i64.wrap (i64.wrap (c+(↑(bl (M6.val b)):Int))-1))))]):=eJ aU
def sp(x:dU):Prop×List D:=(aJ x,[.s (.sc (.int .i64 (x.2.2+(bl (M6.val x.2.1):Nat)-1)))])
theorem spec:gO E f197 aE hZ sp:=by
 intro x h;have h:aJ x:=h;have hl:=h.len;have hb:=h.Dr.bl;refine(start x.1 x.2.1 x.2.2).trans ?_;have he:=h.2.1
 try dsimp only at hb
 rw[gP ⟨h.Iz.iX,by omega⟩,wrap_i64 (n:=x.2.2+_),wrap_i64];rfl
def aH:dC:=orc1 hZ sp
theorem ok:OK 197 aH:=(eI E aE (aA uG.ok aD) func197).nD rfl spec
end aHV
namespace aHW
def E:=mE [(197,aHV.aH),(122,jA.aH),(125,Dn.aH)] 54 [53] [] []
def aE:=bd f169
theorem aU:Nk E aE:=nk
theorem start a b c d e f:aF E f169 aE [D.agg [sc (bool a),ints u64 b,sc (int i64 c)],D.agg [sc (bool d),ints u64 e,sc (int i64 f)]]=letI H:=(↑(bl (M6.val e)):Int);letI G:=(↑(bl (M6.val b)):Int);letI F:=i64.wrap (c-if f<c then f else c);letI C:=i64.wrap (f-if f<c then f else c);letI B:=bif jA.iC (M6.val e) C.toNat then M6.dg (M6.val e*(2:Nat)^C.toNat)else [];letI A:=bif jA.iC (M6.val b) F.toNat then M6.dg (M6.val b*(2:Nat)^F.toNat)else [];aQ (aJ (a,b,c)) (aQ (aJ (d,e,f)) (aB (decide (c+G-(1:Int)<f+H-(1:Int))) (some [D.s (sc (int i64 (-1:Int)))]) (aB (decide (f+H-(1:Int)<c+G-(1:Int))) (some [D.s (sc (int i64 1))]) (aQ (M6.cD b/\b.length<=8192/\0<=i64.wrap (c-if f<c then f else c)/\i64.wrap (c-if f<c then f else c)<4611686018427387904) (aQ (M6.cD e/\e.length<=8192/\0<=i64.wrap (f-if f<c then f else c)/\i64.wrap (f-if f<c then f else c)<4611686018427387904) (aQ (M6.cB A/\M6.cB B/\A.length<=1099511627776/\B.length<=1099511627776) (some [D.s (sc (int i64 (nB (M6.val A) (M6.val B))))]))))))):=eJ aU
def sp(x y:dU):Prop×List D:=((aJ x/\aJ y)/\x.2.1.length≠0/\y.2.1.length≠0,[.s (.sc (.int .i64 (nB (bM.lK (dv x) (dv y)).natAbs (bM.lI (dv x) (dv y)).natAbs)))])
theorem spec:fO E f169 aE hZ hZ sp:=by
 rintro x y ⟨⟨hx,hy⟩,h0,g0⟩;refine(start x.1 x.2.1 x.2.2 y.1 y.2.1 y.2.2).trans ?_;have lx:=hx.len;have ly:=hy.len;have nx:=hx.Iz;have ny:=hy.Iz;have bx:=hx.Dr.bl;have bMT:=hy.Dr.bl
 have rx:=hx.2.1;have ry:=hy.2.1;obtain⟨b,a,e⟩:=x;obtain⟨c,d,f⟩:=y
 try dsimp only at *
 unfold sp
 try dsimp only
 have ax:=iZ (b,a);have ay:=iZ (c,d)
 try dsimp only at ax ay
 have vx:M6.val a≠0:=fun h=>h0 ((M6.cS nx).2 h)
 have vy:M6.val d≠0:=fun h=>g0 ((M6.cS ny).2 h)
 rw[gP hx,gP hy];have i1:bM.fK (dv (b,a,e)) (dv (c,d,f))<=e/\bM.fK (dv (b,a,e)) (dv (c,d,f))<=f/\-1048576<=bM.fK (dv (b,a,e)) (dv (c,d,f))/\(bM.fK (dv (b,a,e)) (dv (c,d,f))=e\/bM.fK (dv (b,a,e)) (dv (c,d,f))=f):=by
  unfold bM.fK dv
  try dsimp only
  split <;> omega
 have u1:i64.wrap (e-bM.fK (dv (b,a,e)) (dv (c,d,f)))=e-bM.fK (dv (b,a,e)) (dv (c,d,f)):=wrap_i64;have u2:i64.wrap (f-bM.fK (dv (b,a,e)) (dv (c,d,f)))=f-bM.fK (dv (b,a,e)) (dv (c,d,f)):=wrap_i64;have e1:(if f<e then f else e)=bM.fK (dv (b,a,e)) (dv (c,d,f)):=rfl;have f1:(bM.lK (dv (b,a,e)) (dv (c,d,f))).natAbs=M6.val a*2^(e-bM.fK (dv (b,a,e)) (dv (c,d,f))).toNat:=by
  show(wv (b,a)*_).natAbs=_;rw[bSP,ax,bSU];rfl
 have f2:(bM.lI (dv (b,a,e)) (dv (c,d,f))).natAbs=M6.val d*2^(f-bM.fK (dv (b,a,e)) (dv (c,d,f))).toNat:=by
  show(wv (c,d)*_).natAbs=_;rw[bSP,ay,bSU];rfl
 rw[f1,f2,e1,u1,u2];generalize bM.fK (dv (b,a,e)) (dv (c,d,f))=k at *;have m1:bl (M6.val a*2^(e-k).toNat)=(e-k).toNat+bl (M6.val a):=by rw[bRZ,Dc vx]
 have m2:bl (M6.val d*2^(f-k).toNat)=(f-k).toNat+bl (M6.val d):=by rw[bRZ,Dc vy]
 have lt:∀m n:Nat,bl m<bl n->m<n:=fun m n h=>Nat.lt_of_not_le fun hc=>by have:=gU hc;omega
 by_cases c1:e+(bl (M6.val a):Int)-1<f+(bl (M6.val d):Int)-1
 ·have:=lt (M6.val a*2^(e-k).toNat) (M6.val d*2^(f-k).toNat) (by rw[m1,m2];omega);rw[aO c1];unfold nB;rw[if_pos this]
 ·rw[aI c1]
  by_cases c2:f+(bl (M6.val d):Int)-1<e+(bl (M6.val a):Int)-1
  ·have:=lt (M6.val d*2^(f-k).toNat) (M6.val a*2^(e-k).toNat) (by rw[m1,m2];omega);rw[aO c2];unfold nB;rw[aX,if_pos this]
  ·have o1:jA.iC (M6.val a) (e-k).toNat=true:=by
    unfold jA.iC;rw[decide_eq_true (show bl (M6.val a)+(e-k).toNat<=524288 by omega),bTB]
   have o2:jA.iC (M6.val d) (f-k).toNat=true:=by
    unfold jA.iC;rw[decide_eq_true (show bl (M6.val d)+(f-k).toNat<=524288 by omega),bTB]
   have k1:=eZ (n:=M6.val a*2^(e-k).toNat) (k:=8192) (by rw[m1];omega);have k2:=eZ (n:=M6.val d*2^(f-k).toNat) (k:=8192) (by rw[m2];omega);rw[aI c2,gP ⟨nx,lx,by omega,by omega⟩,gP ⟨ny,ly,by omega,by omega⟩,o1,o2,cond_true,cond_true,gP ⟨M6.iP _,M6.iP _,by omega,by omega⟩,M6.bJ,M6.bJ]
def aH:dC:=orc2 hZ hZ sp
theorem ok:OK 169 aH:=(eI E aE (aA aHV.ok (aA jA.ok (aA Dn.ok aD))) func169).lP rfl spec
end aHW
namespace Kg
def E:=mE [(61,lB.aH),(168,aHL.aH),(169,aHW.aH)] 38 [] [(3,[2,3])] [3]
def aE:=bd f113
theorem aU:Nk E aE:=nk
def J3 a b c d e f:=lD E f113 aE 3 [dG 0 29 [cG a,eM b,cP c],dG 1 29 [cG d,eM e,cP f]]
theorem start a b c d e f:aF E f113 aE [D.agg [sc (bool a),ints u64 b,sc (int i64 c)],D.agg [sc (bool d),ints u64 e,sc (int i64 f)]]=aQ (aJ (a,b,c)) (aQ (aJ (d,e,f)) (Kg.J3 a b c d e f)):=eJ aU
theorem gL a b c d e f:J3 a b c d e f=letI B:=wv (a,b);letI A:=sc (int i64 0);aQ (kA (a,b)) (aQ (kA (d,e)) (aB (decide (lG B 0<lG (wv (d,e)) 0)) (some [D.s (sc (int i64 (-1:Int))),D.s A]) (aB (decide (lG (wv (d,e)) 0<lG B 0)) (some [D.s (sc (int i64 1)),D.s A]) (aB (lG B 0==(0:Int)) (some [D.s A,D.s A]) (aQ ((aJ (a,b,c)/\aJ (d,e,f))/\b.length≠0/\e.length≠0) (some [D.s (sc (int i64 (i64.wrap (lG B 0*nB (bM.lK (dv (a,b,c)) (dv (d,e,f))).natAbs (bM.lI (dv (a,b,c)) (dv (d,e,f))).natAbs)))),D.s A])))))):=cJ aU
def sp(x y:dU):Prop×List D:=(aJ x/\aJ y,[.s (.sc (.int .i64 (lG (bM.lK (dv x) (dv y)) (bM.lI (dv x) (dv y))))),.s (.sc (.int .i64 0))])
theorem bDV(z:Int)(P:Nat)(h:0<P):(0<z->0<z*(P:Int))/\(z<0->z*(P:Int)<0)/\(z=0->z*(P:Int)=0) :=
 ⟨fun hz=>Int.mul_pos hz (by omega),fun hz=>Int.mul_neg_of_neg_of_pos hz (by omega),fun hz=>by rw[hz,bSQ]⟩
theorem cz(z:Int):(0<z/\lG z 0=1)\/(z<0/\lG z 0=-1)\/(z=0/\lG z 0=0):=by
 unfold lG
 by_cases h:z<0
 ·rw[if_pos h];omega
 ·rw[if_neg h]
  by_cases h':0<z
  ·rw[if_pos h'];omega
  ·rw[if_neg h'];omega
theorem spec:fO E f113 aE hZ hZ sp:=by
 rintro x y ⟨hx,hy⟩;refine(start x.1 x.2.1 x.2.2 y.1 y.2.1 y.2.2).trans ?_;have wx:=hx.Dr;have wy:=hy.Dr;have nx:=hx.Iz;have ny:=hy.Iz;obtain⟨b,a,e⟩:=x;obtain⟨c,d,f⟩:=y
 try dsimp only at *
 unfold sp
 try dsimp only
 have ax:=iZ (b,a);have ay:=iZ (c,d)
 try dsimp only at ax ay
 have zx:=M6.cS nx;have zy:=M6.cS ny;have sX:(0<wv (b,a)->0<bM.lK (dv (b,a,e)) (dv (c,d,f)))/\(wv (b,a)<0->bM.lK (dv (b,a,e)) (dv (c,d,f))<0)/\(wv (b,a)=0->bM.lK (dv (b,a,e)) (dv (c,d,f))=0):=bDV _ _ (bQA (by decide));have sY:(0<wv (c,d)->0<bM.lI (dv (b,a,e)) (dv (c,d,f)))/\(wv (c,d)<0->bM.lI (dv (b,a,e)) (dv (c,d,f))<0)/\(wv (c,d)=0->bM.lI (dv (b,a,e)) (dv (c,d,f))=0):=bDV _ _ (bQA (by decide));rw[gP hx,gP hy,gL,gP wx,gP wy];have guard:wv (b,a)≠0->wv (c,d)≠0->(aJ (b,a,e)/\aJ (c,d,f))/\a.length≠0/\d.length≠0:=fun h1 h2=>⟨⟨hx,hy⟩,fun h=>h1 (by have:=zx.1 h;omega),fun h=>h2 (by have:=zy.1 h;omega)⟩
 generalize bM.lK (dv (b,a,e)) (dv (c,d,f))=X at *;generalize bM.lI (dv (b,a,e)) (dv (c,d,f))=Y at *;have aQE:∀n:Int,lG X Y=n->some [D.s (.sc (.int .i64 n)),D.s (.sc (.int .i64 0))]=some [D.s (.sc (.int .i64 (lG X Y))),D.s (.sc (.int .i64 0))]:=fun n h=>by rw[h]
 rcases cz (wv (b,a))with ⟨h1,c1⟩ |⟨h1,c1⟩ |⟨h1,c1⟩ <;> rcases cz (wv (c,d))with ⟨h2,c2⟩ |⟨h2,c2⟩ |⟨h2,c2⟩ <;> rw[c1,c2]
 ·rw[aI,aI,bS,gP (guard (by omega) (by omega))];have:=sX.1 h1;have:=sY.1 h2;refine(congrArg (fun n=>some [D.s (.sc (.int .i64 n)),D.s (.sc (.int .i64 0))]) ?_);unfold nB lG;split <;> split <;> (try split) <;> (try split) <;> first |rfl |omega
 ·rw[aI,aO];refine aQE _ ?_;have:=sX.1 h1;have:=sY.2.1 h2;unfold lG;rw[aX,aT]
 ·rw[aI,aO];refine aQE _ ?_;have:=sX.1 h1;have:=sY.2.2 h2;unfold lG;rw[aX,aT]
 ·rw[aO];refine aQE _ ?_;have:=sX.2.1 h1;have:=sY.1 h2;unfold lG;rw[aT]
 ·rw[aI,aI,bS,gP (guard (by omega) (by omega))];have:=sX.2.1 h1;have:=sY.2.1 h2;refine(congrArg (fun n=>some [D.s (.sc (.int .i64 n)),D.s (.sc (.int .i64 0))]) ?_);unfold nB lG;split <;> split <;> (try split) <;> (try split) <;> first |rfl |omega
 ·rw[aO];refine aQE _ ?_;have:=sX.2.1 h1;have:=sY.2.2 h2;unfold lG;rw[aT]
 ·rw[aO];refine aQE _ ?_;have:=sX.2.2 h1;have:=sY.1 h2;unfold lG;rw[aT]
 ·rw[aI,aO];refine aQE _ ?_;have:=sX.2.2 h1;have:=sY.2.1 h2;unfold lG;rw[aX,aT]
 ·rw[aI,aI,cF rfl];refine aQE _ ?_;have:=sX.2.2 h1;have:=sY.2.2 h2;unfold lG;rw[aX,aX]
def aH:dC:=orc2 hZ hZ sp
theorem ok:OK 113 aH:=(eI E aE (aA lB.ok (aA aHL.ok (aA aHW.ok aD))) func113).lP rfl spec
end Kg
end W
namespace M
open Go AI W
def p2(n:Int):Int:=((2^n.toNat:Nat):Int)
theorem Gr(n:Int):0<p2 n:=by unfold p2;have:=bQA (n:=n.toNat) (show 0<2 by decide);omega
theorem pV{m n:Int}(hm:0<=m)(hn:0<=n):p2 (m+n)=p2 m*p2 n:=by
 unfold p2;rw[Int.toNat_add hm hn,bSD,bTA]
theorem Gs(k:Nat):p2 (k:Int)=((2^k:Nat):Int):=by unfold p2;rw[bQX]
theorem Xd:p2 0=1:=rfl
theorem aDI:p2 1=2:=rfl
theorem dO(e:Int):aK 0 e=(0,0):=by unfold aK;rw[if_pos rfl]
theorem dT{z e:Int}:(aK z e).1=0↔z=0:=by
 constructor
 ·intro h;unfold aK at h
  by_cases hz:z=0
  ·exact hz
  ·rw[if_neg hz]at h;dsimp only at h;have hs:=(oW z.natAbs (by omega)).1;have hd:((2^tz z.natAbs:Nat):Int)∣z:=Int.ofNat_dvd_left.2 (bUA hs);have:=bUZ hd;rw[h,bSQ]at this;omega
 ·rintro rfl;rw[dO]
theorem jK{z e:Int}(hz:z≠0):z=(aK z e).1*p2 (tz z.natAbs:Nat)/\(aK z e).2=e+(tz z.natAbs:Nat):=by
 unfold aK;rw[if_neg hz];dsimp only;have hs:=(oW z.natAbs (by omega)).1;have hd:((2^tz z.natAbs:Nat):Int)∣z:=Int.ofNat_dvd_left.2 (bUA hs);rw[Gs,bUZ hd];exact⟨rfl,rfl⟩
theorem uU(z e:Int){k:Int}(hk:0<=k):aK (z*p2 k) e=aK z (e+k):=by
 obtain⟨n,rfl⟩:=bSE hk;rw[Gs]
 by_cases hz:z=0
 ·subst hz;rw[bSQ,dO,dO]
 ·have hp:0<2^n:=bQA (by decide);have hn:z*((2^n:Nat):Int)≠0:=bVA hz (by omega);have ht:tz (z*((2^n:Nat):Int)).natAbs=n+tz z.natAbs:=by
   rw[bSP,bSU,bRZ,Lx (by omega)]
  unfold aK;rw[if_neg hz,if_neg hn,ht,bSD,bTA,Int.mul_comm z,Int.mul_ediv_mul_of_pos _ _ (by omega)];congr 1;omega
theorem oL{p:Int×Int}(h0:p.1=0->p.2=0)(h1:p.1≠0->p.1%2=1):aK p.1 p.2=p:=by
 unfold aK
 by_cases hz:p.1=0
 ·rw[if_pos hz];exact Prod.ext hz.symm (h0 hz).symm
 ·rw[if_neg hz,yZ (by have:=h1 hz;omega)];refine Prod.ext ?_ ?_
  ·show p.1/((2^0:Nat):Int)=p.1;rw[Nat.pow_zero];omega
  ·show p.2+((0:Nat):Int)=p.2;omega
theorem jG.same{p:Int×Int}(h:jG p):aK p.1 p.2=p:=oL h.2.2.1 h.2.2.2
theorem Al{z e:Int}(h:(aK z e).1≠0):(aK z e).1%2=1:=by
 have hz:z≠0:=fun hz=>h (dT.2 hz)
 have hs:=(oW z.natAbs (by omega));have hv:=(jK (e:=e) hz).1;have ha:z.natAbs=(aK z e).1.natAbs*2^tz z.natAbs:=by
  rw[Gs]at hv;have:=congrArg Int.natAbs hv;rwa [bSP,bSU]at this
 have:z.natAbs/2^tz z.natAbs=(aK z e).1.natAbs:=by
  have hp:0<2^tz z.natAbs:=bQA (by decide);generalize tz z.natAbs=t at *;rw[ha,Nat.mul_div_cancel _ hp]
 rw[this]at hs;omega
theorem uT{z e:Int}(h:(aK z e).1=0):(aK z e).2=0:=by rw[dT.1 h,dO]
theorem rL{z e G:Int}(hz:z≠0)(h:G<=e):(aK z e).1*p2 ((aK z e).2-G)=z*p2 (e-G):=by
 obtain⟨h1,h2⟩:=jK (e:=e) hz;rw[h2];have:e+(tz z.natAbs:Int)-G=(tz z.natAbs:Int)+(e-G):=by omega
 rw[this,pV (by omega) (by omega),<-bTO,<-h1]
theorem Tu{z e G:Int}(h:G<=e):(aK z e).1*p2 ((aK z e).2-G)=z*p2 (e-G):=by
 by_cases hz:z=0
 ·subst hz;rw[dO,bSQ,bSQ]
 ·exact rL hz h
theorem nJ{z e:Int}(hz:z≠0):e<=(aK z e).2:=by have:=(jK (e:=e) hz).2;omega
theorem Qf(z e:Int):aK (-z) e=(-(aK z e).1,(aK z e).2):=by
 by_cases hz:z=0
 ·subst hz;rw[Int.neg_zero,dO];rfl
 ·have h:=jK (e:=e) hz;unfold aK;rw[if_neg hz,aX,bTV];have hs:=(oW z.natAbs (by omega)).1;have hd:((2^tz z.natAbs:Nat):Int)∣z:=Int.ofNat_dvd_left.2 (bUA hs);rw[Int.neg_ediv_of_dvd hd]
theorem Wq(z e n:Int):mK.aJA (aK z e) n=aK z (e+n):=by
 unfold mK.aJA
 by_cases hz:z=0
 ·subst hz;rw[dO,dO];rfl
 ·rw[if_neg (fun h=>hz (dT.1 h))];unfold aK;rw[if_neg hz,if_neg hz];dsimp only;congr 1;omega
theorem Mp{p q:Int×Int}:bM.fK p q<=p.2/\bM.fK p q<=q.2:=by unfold bM.fK;split <;> omega
theorem Bd{a E b F G:Int}(h1:G<=E)(h2:G<=F):bM.oT (aK a E) (aK b F)=aK (a*p2 (E-G)+b*p2 (F-G)) G:=by
 unfold bM.oT
 by_cases ha:a=0
 ·subst ha;rw[if_pos (by rw[dO]),bSQ,Int.zero_add,uU _ _ (by omega),show G+(F-G)=F by omega]
 ·rw[if_neg (fun h=>ha (dT.1 h))]
  by_cases hb:b=0
  ·subst hb;rw[if_pos (by rw[dO]),bSQ,Int.add_zero,uU _ _ (by omega),show G+(E-G)=E by omega]
  ·rw[if_neg (fun h=>hb (dT.1 h))];have ga:=rL (e:=E) ha h1;have gb:=rL (e:=F) hb h2;have la:=nJ (e:=E) ha;have lb:=nJ (e:=F) hb;have hm:=Mp (p:=aK a E) (q:=aK b F);have hg:G<=bM.fK (aK a E) (aK b F):=by unfold bM.fK;split <;> omega
   rw[<-ga,<-gb];unfold bM.lK bM.lI;generalize bM.fK (aK a E) (aK b F)=m at *;generalize aK a E=p at *;generalize aK b F=q at *;have e1:p2 (p.2-G)=p2 (p.2-m)*p2 (m-G):=by rw[<-pV (by omega) (by omega)];congr 1;omega
   have e2:p2 (q.2-G)=p2 (q.2-m)*p2 (m-G):=by rw[<-pV (by omega) (by omega)];congr 1;omega
   rw[e1,e2,<-bTO,<-bTO,<-Int.add_mul,uU _ _ (by omega),show G+(m-G)=m by omega];rfl
theorem fP{z e:Int}(h1:-1048576<=e)(h2:e+(bl z.natAbs:Int)<=1048577):fN z e=true:=by
 unfold fN
 by_cases hz:z=0
 ·rw[decide_eq_true hz,bSM]
 ·have:=zX (n:=z.natAbs) (by omega);rw[decide_eq_true (show -1048576<=e+(tz z.natAbs:Int) by omega),decide_eq_true (show e+(tz z.natAbs:Int)<=1048576 by omega),bQC,bTB]
theorem Am(z e:Int):(aK z e).1.natAbs<=z.natAbs:=by
 unfold aK;split
 ·simp
 ·exact Aw (bQA (by decide))
theorem fM{z e:Int}(hi:fN z e=true)(hf:bl z.natAbs<=524288):jG (aK z e):=by
 refine⟨bNX (gU (Am z e)) hf,?_,uT,Al⟩
 by_cases hz:z=0
 ·subst hz;rw[dO];exact⟨by show(-1048576:Int)<=0;omega,by show(0:Int)<=1048576;omega⟩
 ·rw[(jK hz).2];unfold fN at hi;rw[decide_eq_false hz,bPC,bNH]at hi;exact⟨of_decide_eq_true hi.1,of_decide_eq_true hi.2⟩
theorem Vf(z n:Int):(z*p2 n).natAbs=z.natAbs*2^n.toNat:=by
 rw[bSP];rfl
theorem yK{a E b F G:Int}(h1:G<=E)(h2:G<=F)(h3:-1048576<=G)(f1:bl (a*p2 (E-G)).natAbs<=524287)(f2:bl (b*p2 (F-G)).natAbs<=524287)(f3:G<=524288) :
  bM.jZ (aK a E) (aK b F)=true:=by
 unfold bM.jZ
 by_cases ha:a=0
 ·rw[decide_eq_true (dT.2 ha),bSM]
 ·by_cases hb:b=0
  ·rw[decide_eq_true (dT.2 hb),bSM,bTB]
  ·have ga:=rL (e:=E) ha h1;have gb:=rL (e:=F) hb h2;have la:=nJ (e:=E) ha;have lb:=nJ (e:=F) hb;have hm:=Mp (p:=aK a E) (q:=aK b F);have hg:G<=bM.fK (aK a E) (aK b F):=by unfold bM.fK;split <;> omega
   rw[<-ga]at f1;rw[<-gb]at f2;have inner:∀(p:Int×Int) (m:Int),G<=m->m<=p.2->bl (p.1*p2 (p.2-G)).natAbs<=524287->p.1≠0->bl (p.1*p2 (p.2-m)).natAbs+(m-G).toNat<=524287:=by
    intro p m h1 h2 h3 hp;have e1:p2 (p.2-G)=p2 (m-G)*p2 (p.2-m):=by rw[<-pV (by omega) (by omega)];congr 1;omega
    rw[e1,Int.mul_comm (p2 (m-G)),<-bTO,Vf,bRZ,Dc (by
     have:=Gr (p.2-m);have:=bVA hp (show p2 (p.2-m)≠0 by omega);omega)]at h3
    omega
   have i1:=inner _ _ hg hm.1 f1 (fun h=>ha (dT.1 h));have i2:=inner _ _ hg hm.2 f2 (fun h=>hb (dT.1 h));have x1:bl (bM.lK (aK a E) (aK b F)).natAbs+(bM.fK (aK a E) (aK b F)-G).toNat<=524287:=i1;have x2:bl (bM.lI (aK a E) (aK b F)).natAbs+(bM.fK (aK a E) (aK b F)-G).toNat<=524287:=i2;generalize bM.lK (aK a E) (aK b F)=X at *;generalize bM.lI (aK a E) (aK b F)=Y at *;have x3:bl (X+Y).natAbs<=max (bl X.natAbs) (bl Y.natAbs)+1:=bNX (gU (bVD _ _)) (yI _ _);have hi:fN (X+Y) (bM.fK (aK a E) (aK b F))=true:=fP (by omega) (by omega);have yes:∀n,bl n<=524288->fit n=true:=fun n h=>decide_eq_true h
   rw[decide_eq_false (fun h=>ha (dT.1 h)),decide_eq_false (fun h=>hb (dT.1 h)),hi,yes _ (by omega),yes _ (by omega),yes _ (by omega)];rfl
theorem Pu{z e n:Int}(h1:-1048576<=e+n)(h2:e+n+(bl z.natAbs:Int)<=1048577):mK.Jj (aK z e) n=true:=by
 unfold mK.Jj
 by_cases hz:z=0
 ·rw[decide_eq_true (dT.2 hz),bSM]
 ·have:=zX (n:=z.natAbs) (by omega);have h3:=(jK (e:=e) hz).2;rw[decide_eq_false (fun h=>hz (dT.1 h)),decide_eq_true (by omega),decide_eq_true (by omega)];rfl
theorem xF{z:Int}{b k:Nat}{n:Int}(h:bl z.natAbs<=b)(hn:n<=k):bl (z*p2 n).natAbs<=b+k:=by
 rw[Vf];refine dV.2 ?_;rw[bSD];exact Nat.mul_lt_mul_of_lt_of_le (dV.1 h) (bQB (by decide) (by omega)) (bQA (by decide))
theorem Uy{x y:Int}{n:Nat}(h1:bl x.natAbs<=n)(h2:bl y.natAbs<=n):bl (x+y).natAbs<=n+1:=by
 have:=bNX (gU (bVD x y)) (yI _ _);omega
theorem aQF{z:Int}{n:Nat}(h:bl z.natAbs<=n)(k:Int):bl (z/p2 k).natAbs<=n:=bNX (gU (Aw (bQA (by decide)))) h
theorem Oc{z:Int}{n:Nat}(h:bl z.natAbs<=n):bl (-z).natAbs<=n:=by rwa [bTV]
theorem vF:bl (1:Int).natAbs<=1:=dV.2 (by decide)
theorem nZ{R:Type}(V:Int×Int)(k:Bool->List Int->Int->Option R):(aC (isNeg V.1) fun b=>aC (M6.dg V.1.natAbs) fun l=>aC V.2 fun e=>k b l e)=k (isNeg V.1) (M6.dg V.1.natAbs) V.2:=rfl
theorem vl{α R:Type}(x:α)(k:α->Option R):aC x k=k x:=rfl
end M
namespace AI
open Go Go.RowKit
def allB:Nat->(Nat->Bool)->Bool
 |0,_=>true
 |n+1,f=>f n&&allB n f
theorem Sb{f:Nat->Bool}:∀{n:Nat},allB n f=true->∀i,i<n->f i=true
 |0,_,i,hi=>absurd hi (by omega)
 |n+1,h,i,hi=>by
  simp only[allB,bNH]at h
  by_cases hc:i=n
  ·subst hc;exact h.1
  ·exact Sb h.2 i (by omega)
def pR{β:Type}(p:SPar β)(d:β):kR (Nat×(Nat->β)) where
 put x:=.rows p.n x.1 fun i=>p.put (x.2 i)
 get
  | .rows sz n g=>if sz=p.n/\allB n (fun i=>(p.get (g i)).isSome)=true then some (n,fun i=>(p.get (g i)).getD d)else none
  |_=>none
 le:=by
  intro dd x h
  match dd,h with
  | .rows sz n g,h =>
   dsimp only at h;split at h
   ·rename_i hc;cases h;obtain⟨rfl,xB⟩:=hc;rintro Y w v ⟨A,c,hv,hle,aOS⟩;refine⟨A,c,hv,hle,fun i hi=>?_⟩;obtain⟨h1,b,off,hA,h2⟩:=aOS i hi;have hs:=Sb xB i hi;obtain⟨y,hy⟩:=Option.isSome_iff_exists.1 hs;obtain⟨a1,a2,a3⟩:=p.le hy;dsimp only;rw[hy];refine⟨a2,b,off,hA,fun j s hj=>?_⟩;obtain⟨s0,Jd⟩:=aY (l:=g i) (i:=j) (by have:=aR hj;simp only[Option.getD_some]at this;omega);obtain⟨b1,b2,u,hu,hr⟩:=h2 j s0 Jd;exact⟨b1,b2,u,hu,a3 j s0 s Jd hj Y w u hr⟩
   ·cases h
def pFn(id:FuncId):kR Unit where
 put _:=.s (.sc (.func (.func id) #[] #[]))
 get
  | .s (.sc (.func (.func g) ⟨[]⟩ ⟨[]⟩))=>if g=id then some ()else none
  |_=>none
 le:=by
  intro dd x h;split at h
  ·split at h
   ·rename_i hg;subst hg;exact zU.refl _
   ·cases h
  ·cases h
end AI
namespace R
def sum(f:Nat->Rat):Nat->Rat
 |0=>0
 |n+1=>sum f n+f n
theorem cZ(f:Nat->Rat)(n:Nat):sum f (n+1)=sum f n+f n:=rfl
theorem iL{f g:Nat->Rat}{n:Nat}(h:∀k,k<n->f k=g k):sum f n=sum g n:=by
 induction n with
 |zero=>rfl
 |succ n ih=>rw[cZ,cZ,ih fun k hk=>h k (by omega),h n (by omega)]
theorem sum_add(f g:Nat->Rat)(n:Nat):sum (fun k=>f k+g k) n=sum f n+sum g n:=by
 induction n with
 |zero=>simp only[sum];grind
 |succ n ih=>simp only[cZ,ih];grind
theorem xV(f g:Nat->Rat)(n:Nat):sum (fun k=>f k-g k) n=sum f n-sum g n:=by
 induction n with
 |zero=>simp only[sum];grind
 |succ n ih=>simp only[cZ,ih];grind
theorem kZ(c:Rat)(f:Nat->Rat)(n:Nat):sum (fun k=>c*f k) n=c*sum f n:=by
 induction n with
 |zero=>simp only[sum];grind
 |succ n ih=>simp only[cZ,ih];grind
theorem tF{f g:Nat->Rat}{n:Nat}(h:∀k,k<n->f k<=g k):sum f n<=sum g n:=by
 induction n with
 |zero=>simp only[sum];grind
 |succ n ih=>simp only[cZ];have:=ih fun k hk=>h k (by omega);have:=h n (by omega);grind
def ab(x:Rat):Rat:=if 0<=x then x else -x
theorem aN(x:Rat):0<=ab x:=by unfold ab;split <;> grind
theorem Ao(x:Rat):x<=ab x:=by unfold ab;split <;> grind
theorem mW(x:Rat):-x<=ab x:=by unfold ab;split <;> grind
theorem cT{x a:Rat}:ab x<=a↔-a<=x/\x<=a:=by unfold ab;split <;> grind
theorem fW(x:Rat):ab (-x)=ab x:=by unfold ab;split <;> split <;> grind
theorem Oh(x y:Rat):ab (x+y)<=ab x+ab y:=by unfold ab;split <;> split <;> split <;> grind
theorem aG{a b:Rat}(h:0<=a)(h':0<=b):0<=a*b:=Rat.mul_nonneg h h'
theorem fG(x y:Rat):ab (x*y)=ab x*ab y:=by
 unfold ab
 by_cases hx:0<=x <;> by_cases hy:0<=y
 ·rw[if_pos hx,if_pos hy,if_pos (aG hx hy)]
 ·rw[if_pos hx,if_neg hy];have:=aG hx (show 0<=-y by grind);split <;> grind
 ·rw[if_neg hx,if_pos hy];have:=aG (show 0<=-x by grind) hy;split <;> grind
 ·rw[if_neg hx,if_neg hy];have:=aG (show 0<=-x by grind) (show 0<=-y by grind);split <;> grind
theorem cC{a b c d:Rat}(h1:0<=a)(h2:a<=b)(h3:0<=c)(h4:c<=d):a*c<=b*d:=by
 have:=aG h1 (show 0<=d-c by grind);have:=aG (show 0<=b-a by grind) (show 0<=d by grind);grind
theorem vG(f:Nat->Rat)(n:Nat):ab (sum f n)<=sum (fun k=>ab (f k)) n:=by
 induction n with
 |zero=>simp[sum,ab]
 |succ n ih=>simp only[cZ];have:=Oh (sum f n) (f n);grind
theorem aCI{f:Nat->Rat}{n:Nat}(h:∀k,0<=f k):0<=sum f n:=by
 induction n with
 |zero=>simp only[sum];grind
 |succ n ih=>simp only[cZ];have:=h n;grind
def conv(f g:Nat->Rat)(m:Nat):Rat:=sum (fun j=>f j*g (m-j)) (m+1)
theorem aCJ(f g:Nat->Rat)(n:Nat):sum (conv f g) n=sum (fun j=>f j*sum g (n-j)) n:=by
 induction n with
 |zero=>rfl
 |succ n ih =>
  rw[cZ,ih,conv,cZ,cZ];rw[show n+1-n=1 by omega,bRF];have:sum (fun j=>f j*sum g (n+1-j)) n=sum (fun j=>f j*sum g (n-j)+f j*g (n-j)) n :=
   iL fun k hk=>by rw[show n+1-k=(n-k)+1 by omega,cZ];grind
  rw[this,sum_add];have:sum g 1=g 0:=by simp only[sum];grind
  grind
theorem Ah(f g:Nat->Rat)(n:Nat):sum f n*sum g n=sum (conv f g) n+sum (fun j=>f j*(sum g n-sum g (n-j))) n:=by
 rw[aCJ,<-sum_add];have:sum (fun k=>f k*sum g (n-k)+f k*(sum g n-sum g (n-k))) n=sum (fun k=>sum g n*f k) n:=iL fun k _=>by grind
 rw[this,kZ];grind
def tm(x:Rat):Nat->Rat
 |0=>1
 |k+1=>tm x k*x/((k+1:Nat):Rat)
theorem cast_pos(k:Nat):(0:Rat)<((k+1:Nat):Rat):=by
 exact_mod_cast Nat.succ_pos k
theorem iV(x:Rat)(k:Nat):((k+1:Nat):Rat)*tm x (k+1)=x*tm x k:=by
 have:=cast_pos k;rw[tm];grind
theorem Lz(x y:Rat):∀m,conv (tm x) (tm y) m=tm (x+y) m
 |0=>by simp only[conv,sum,tm,Nat.sub_zero];grind
 |m+1=>by
  have ih:=Lz x y m;have hp:=cast_pos m;have e:=iV (x+y) m;have h:((m+1:Nat):Rat)*conv (tm x) (tm y) (m+1)=(x+y)*conv (tm x) (tm y) m:=by
   unfold conv;rw[<-kZ];have h1:sum (fun k=>((m+1:Nat):Rat)*(tm x k*tm y (m+1-k))) (m+1+1)=sum (fun k=>(k:Rat)*tm x k*tm y (m+1-k)) (m+1+1)+sum (fun k=>tm x k*(((m+1-k:Nat):Rat)*tm y (m+1-k))) (m+1+1):=by
    rw[<-sum_add];refine iL fun k hk=>?_
    have:((m+1:Nat):Rat)=(k:Rat)+((m+1-k:Nat):Rat):=by
     rw[<-Rat.natCast_add];congr 1;omega
    rw[this];grind
   have h2:∀n,sum (fun k=>(k:Rat)*tm x k*tm y (m+1-k)) (n+1)=x*sum (fun k=>tm x k*tm y (m-k)) n:=by
    intro n
    induction n with
    |zero=>simp only[sum];grind
    |succ n ih =>
     rw[cZ,ih,cZ,show m+1-(n+1)=m-n by omega];have:=iV x n;grind
   have h3:sum (fun k=>tm x k*(((m+1-k:Nat):Rat)*tm y (m+1-k))) (m+1+1)=y*sum (fun k=>tm x k*tm y (m-k)) (m+1):=by
    rw[cZ,bRF];have:sum (fun k=>tm x k*(((m+1-k:Nat):Rat)*tm y (m+1-k))) (m+1)=sum (fun k=>y*(tm x k*tm y (m-k))) (m+1):=by
     refine iL fun k hk=>?_
     have:=iV y (m-k);rw[show m+1-k=m-k+1 by omega];grind
    rw[this,kZ];grind
   rw[h1,h2,h3];grind
  rw[ih]at h;generalize ((m+1:Nat):Rat)=q at *;generalize conv (tm x) (tm y) (m+1)=u at *;generalize tm (x+y) (m+1)=v at *;have:q*u=q*v:=by rw[h,e]
  have hq:q≠0:=by grind
  clear h e ih;grind
theorem jB(f:Nat->Rat)(a n:Nat):sum f (a+n)=sum f a+sum (fun i=>f (a+i)) n:=by
 induction n with
 |zero=>simp only[sum,bOC];grind
 |succ n ih=>rw[<-bQR,cZ,ih,cZ];grind
theorem Po{f:Nat->Rat}(h:∀k,0<=f k){a b:Nat}(aXT:a<=b):sum f a<=sum f b:=by
 obtain⟨n,rfl⟩:=bOG aXT;rw[jB];have:=aCI (f:=fun i=>f (a+i)) (n:=n) fun k=>h _
 grind
def hf:Nat->Rat
 |0=>1
 |k+1=>hf k/2
theorem tI:∀k,0<hf k
 |0=>by simp only[hf];grind
 |k+1=>by have:=tI k;simp only[hf];grind
theorem Hh(a:Nat):∀b,hf (a+b)=hf a*hf b
 |0=>by simp only[hf,bOC];grind
 |b+1=>by rw[<-bQR,hf,Hh a b,hf];grind
theorem aER{a b:Nat}(h:a<=b):hf b<=hf a:=by
 obtain⟨n,rfl⟩:=bOG h;clear h
 induction n with
 |zero=>grind
 |succ n ih=>rw[<-bQR,hf];have:=tI (a+n);grind
theorem Nc(k:Nat):hf k*(2^k:Nat)=1:=by
 induction k with
 |zero=>simp only[hf];grind
 |succ k ih=>rw[hf,bSA,bUB];grind
theorem bCL(n:Nat):sum hf n<=2:=by
 have:sum hf n=2-2*hf n:=by
  induction n with
  |zero=>simp only[sum,hf];grind
  |succ n ih=>rw[cZ,ih,hf];grind
 have:=tI n;grind
theorem kY{x:Rat}(h:0<=x):∀k,0<=tm x k
 |0=>by simp only[tm];grind
 |k+1=>by
  have h1:=aG h (kY h k);have h2:=iV x k;have h3:=cast_pos k;refine Rat.not_lt.1 fun hn=>?_
  have:=bSV h3 (show 0 < -(tm x (k+1)) by grind);grind
theorem Kh(x:Rat):∀k,ab (tm x k)=tm (ab x) k
 |0=>by simp only[tm,ab];grind
 |k+1=>by
  have h3:=cast_pos k;have h1:=Kh x k;have h2:=iV x k;have h4:=iV (ab x) k;have h5:ab (((k+1:Nat):Rat)*tm x (k+1))=ab x*ab (tm x k):=by rw[h2,fG]
  rw[fG,h1]at h5;have h6:ab ((k+1:Nat):Rat)=((k+1:Nat):Rat):=by unfold ab;rw[if_pos (by grind)]
  rw[h6]at h5;generalize ((k+1:Nat):Rat)=q at *;generalize ab (tm x (k+1))=u at *;generalize tm (ab x) (k+1)=v at *;have hq:q≠0:=by grind
  have:q*u=q*v:=by grind
  clear h1 h2 h4 h5 h6;grind
theorem Wa{x y:Rat}(h:0<=x)(aTJ:x<=y):∀k,tm x k<=tm y k
 |0=>by simp only[tm];grind
 |k+1=>by
  have h1:=cC (kY h k) (Wa h aTJ k) h aTJ;have h2:=iV x k;have h4:=iV y k;have h3:=cast_pos k;refine Rat.not_lt.1 fun hn=>?_
  have:=bSV h3 (show 0<tm x (k+1)-tm y (k+1) by grind);grind
theorem aCA(j:Nat):tm 4 (8+j)<=2*hf j:=by
 induction j with
 |zero =>
  have:tm 4 8=65536/40320:=by simp only[tm];grind
  simp only[hf,bOC,this];grind
 |succ j ih =>
  have h2:=iV 4 (8+j);have h3:(8:Rat)<=((8+j+1:Nat):Rat):=by exact_mod_cast(show 8<=8+j+1 by omega)
  have h4:=kY (x:=4) (by grind) (8+j+1);rw[<-bQR,hf];have:=aG (show 0<=((8+j+1:Nat):Rat)-8 by grind) h4;grind
theorem wH(m n:Nat):sum (fun i=>tm 4 (8+m+i)) n<=4*hf m:=by
 have h1:sum (fun i=>tm 4 (8+m+i)) n<=sum (fun i=>2*hf m*hf i) n:=tF fun k _=>by
  have:=aCA (m+k);rw[Hh,<-bQR]at this;grind
 rw[kZ]at h1;have:=aG (show 0<=2*hf m by have:=tI m;grind) (show 0<=2-sum hf n by have:=bCL n;grind);grind
theorem Wb(n:Nat):sum (tm 4) n<=64:=by
 have h0:∀k,0<=tm 4 k:=kY (by grind);have h1:=Po h0 (show n<=8+n by omega);have h2:=jB (tm 4) 8 n;have h3:=wH 0 n;have h4:sum (tm 4) 8<=52:=by
  simp only[sum,tm];grind
 simp only[hf,bOC]at h3;grind
theorem Fg{f g:Nat->Rat}(aVG:∀k,ab (f k)<=tm 4 k)(hg:∀k,ab (g k)<=tm 4 k)(m:Nat) :
  ab (sum (fun j=>f j*(sum g (2*(8+m))-sum g (2*(8+m)-j))) (2*(8+m)))<=512*hf m:=by
 have hG:∀a n,ab (sum g (a+n)-sum g a)<=sum (fun i=>tm 4 (a+i)) n:=fun a n=>by
  rw[jB,show sum g a+sum (fun i=>g (a+i)) n-sum g a=sum (fun i=>g (a+i)) n by grind];exact bSH (vG _ _) (tF fun k _=>hg _)
 have h0:∀k,0<=tm 4 k:=kY (by grind);refine bSH (vG _ _) ?_;have hp:=tI m;have e:2*(8+m)=(8+m)+(8+m):=by omega
 rw[show sum (fun k=>ab (f k*(sum g (2*(8+m))-sum g (2*(8+m)-k)))) (2*(8+m))=sum (fun k=>ab (f k*(sum g (2*(8+m))-sum g (2*(8+m)-k)))) ((8+m)+(8+m)) by rw[<-e],jB];have p1:sum (fun k=>ab (f k*(sum g (2*(8+m))-sum g (2*(8+m)-k)))) (8+m)<=sum (fun k=>4*hf m*tm 4 k) (8+m):=tF fun k hk=>by
  rw[fG];have h1:=hG (2*(8+m)-k) k;rw[show 2*(8+m)-k+k=2*(8+m) by omega]at h1;have h2:=wH (8+m-k) k;rw[show 8+(8+m-k)=2*(8+m)-k-m by omega]at h2;have h3:=wH (m+(8+m-k)-8+8-8+8) k;have h5:sum (fun i=>tm 4 (2*(8+m)-k+i)) k<=4*hf (2*(8+m)-k-8):=by
   have:=wH (2*(8+m)-k-8) k;rwa [show 8+(2*(8+m)-k-8)=2*(8+m)-k by omega]at this
  have h6:=aER (show m<=2*(8+m)-k-8 by omega);have:=cC (aN _) (aVG k) (aN _) (show ab (sum g (2*(8+m))-sum g (2*(8+m)-k))<=4*hf m by grind);grind
 have p2:sum (fun i=>ab (f (8+m+i)*(sum g (2*(8+m))-sum g (2*(8+m)-(8+m+i))))) (8+m)<=sum (fun i=>64*tm 4 (8+m+i)) (8+m):=tF fun k hk=>by
  rw[fG];have h1:=hG (2*(8+m)-(8+m+k)) (8+m+k);rw[show 2*(8+m)-(8+m+k)+(8+m+k)=2*(8+m) by omega]at h1;have h2:=jB (tm 4) (2*(8+m)-(8+m+k)) (8+m+k);have h3:=Wb (2*(8+m)-(8+m+k)+(8+m+k));have h4:=aCI (n:=2*(8+m)-(8+m+k)) h0;have:=cC (aN _) (aVG (8+m+k)) (aN _) (show ab (sum g (2*(8+m))-sum g (2*(8+m)-(8+m+k)))<=64 by grind);grind
 rw[kZ]at p1 p2;have t1:=Wb (8+m);have t2:=wH m (8+m);have:=aG (show 0<=4*hf m by grind) (show 0<=64-sum (tm 4) (8+m) by grind);grind
def cc(k:Nat):Rat:=if k%4=0 then 1 else if k%4=2 then -1 else 0
def ss(k:Nat):Rat:=if k%4=1 then 1 else if k%4=3 then -1 else 0
theorem aQD(j l:Nat):cc j*cc l-ss j*ss l=cc (j+l):=by
 unfold cc ss;rw[bTL];have h1:=bPJ j (show 4>0 by omega);have h2:=bPJ l (show 4>0 by omega);generalize j%4=a at *;generalize l%4=b at *;have h3:a=0\/a=1\/a=2\/a=3:=by omega
 have h4:b=0\/b=1\/b=2\/b=3:=by omega
 rcases h3 with rfl |rfl |rfl |rfl <;> rcases h4 with rfl |rfl |rfl |rfl <;> simp <;> grind
theorem aNS(j l:Nat):ss j*cc l+cc j*ss l=ss (j+l):=by
 unfold cc ss;rw[bTL];have h1:=bPJ j (show 4>0 by omega);have h2:=bPJ l (show 4>0 by omega);generalize j%4=a at *;generalize l%4=b at *;have h3:a=0\/a=1\/a=2\/a=3:=by omega
 have h4:b=0\/b=1\/b=2\/b=3:=by omega
 rcases h3 with rfl |rfl |rfl |rfl <;> rcases h4 with rfl |rfl |rfl |rfl <;> simp <;> grind
theorem aGR(k:Nat):ab (cc k)<=1:=by
 unfold cc ab;split <;> split <;> grind
theorem Wf(k:Nat):ab (ss k)<=1:=by
 unfold ss ab;split <;> split <;> grind
def rB(x:Rat)(n:Nat):Rat:=sum (fun k=>cc k*tm x k) n
def qR(x:Rat)(n:Nat):Rat:=sum (fun k=>ss k*tm x k) n
theorem Yg{x:Rat}(h:ab x<=4)(k:Nat):ab (cc k*tm x k)<=tm 4 k:=by
 rw[fG,Kh];have:=cC (aN _) (aGR k) (kY (aN x) k) (Wa (aN x) h k);grind
theorem We{x:Rat}(h:ab x<=4)(k:Nat):ab (ss k*tm x k)<=tm 4 k:=by
 rw[fG,Kh];have:=cC (aN _) (Wf k) (kY (aN x) k) (Wa (aN x) h k);grind
theorem aQA(x y:Rat)(m:Nat):conv (fun k=>cc k*tm x k) (fun k=>cc k*tm y k) m-conv (fun k=>ss k*tm x k) (fun k=>ss k*tm y k) m=cc m*tm (x+y) m:=by
 rw[<-Lz];unfold conv;rw[<-xV,<-kZ];refine iL fun k hk=>?_
 have:=aQD k (m-k);rw[show k+(m-k)=m by omega]at this;rw[<-this];grind
theorem aPZ(x y:Rat)(m:Nat):conv (fun k=>ss k*tm x k) (fun k=>cc k*tm y k) m+conv (fun k=>cc k*tm x k) (fun k=>ss k*tm y k) m=ss m*tm (x+y) m:=by
 rw[<-Lz];unfold conv;rw[<-sum_add,<-kZ];refine iL fun k hk=>?_
 have:=aNS k (m-k);rw[show k+(m-k)=m by omega]at this;rw[<-this];grind
theorem aGM{x y:Rat}(hx:ab x<=4)(hy:ab y<=4)(m:Nat):ab (rB (x+y) (2*(8+m))-(rB x (2*(8+m))*rB y (2*(8+m))-qR x (2*(8+m))*qR y (2*(8+m))))<=1024*hf m:=by
 have h1:=Fg (Yg hx) (Yg hy) m;have h2:=Fg (We hx) (We hy) m;unfold rB qR;rw[Ah,Ah];have h3:sum (fun k=>cc k*tm (x+y) k) (2*(8+m))=sum (conv (fun k=>cc k*tm x k) (fun k=>cc k*tm y k)) (2*(8+m))-sum (conv (fun k=>ss k*tm x k) (fun k=>ss k*tm y k)) (2*(8+m)):=by
  rw[<-xV];exact iL fun k _=>(aQA x y k).symm
 rw[h3];rw[cT]at *;grind
theorem aCU{x y:Rat}(hx:ab x<=4)(hy:ab y<=4)(m:Nat):ab (qR (x+y) (2*(8+m))-(qR x (2*(8+m))*rB y (2*(8+m))+rB x (2*(8+m))*qR y (2*(8+m))))<=1024*hf m:=by
 have h1:=Fg (We hx) (Yg hy) m;have h2:=Fg (Yg hx) (We hy) m;unfold rB qR;rw[Ah,Ah];have h3:sum (fun k=>ss k*tm (x+y) k) (2*(8+m))=sum (conv (fun k=>ss k*tm x k) (fun k=>cc k*tm y k)) (2*(8+m))+sum (conv (fun k=>cc k*tm x k) (fun k=>ss k*tm y k)) (2*(8+m)):=by
  rw[<-sum_add];exact iL fun k _=>(aPZ x y k).symm
 rw[h3];rw[cT]at *;grind
theorem aGN(x:Rat)(n:Nat):rB (-x) n=rB x n:=by
 refine iL fun k _=>?_
 have:∀k,cc k*tm (-x) k=cc k*tm x k/\ss k*tm (-x) k=- (ss k*tm x k):=by
  intro k;have h:∀j,tm (-x) (2*j)=tm x (2*j)/\tm (-x) (2*j+1)=- tm x (2*j+1):=by
   intro j
   induction j with
   |zero=>simp only[tm];grind
   |succ j ih =>
    rw[show 2*(j+1)=2*j+1+1 by omega];obtain⟨h1,h2⟩:=ih;have e:tm (-x) (2*j+1+1)=tm x (2*j+1+1):=by rw[tm,h2];grind [tm]
    refine⟨e,?_⟩;rw[tm,e];grind [tm]
  have:=h (k/2);unfold cc ss
  by_cases hk:k%2=0
  ·rw[show 2*(k/2)=k by omega]at this;rw[if_neg (show ¬k%4=1 by omega),if_neg (show ¬k%4=3 by omega),this.1];grind
  ·rw[show 2*(k/2)+1=k by omega]at this;rw[if_neg (show ¬k%4=0 by omega),if_neg (show ¬k%4=2 by omega),this.2];grind
 exact(this k).1
theorem aCV(x:Rat)(n:Nat):qR (-x) n=- qR x n:=by
 unfold qR;rw[show -sum (fun k=>ss k*tm x k) n=(-1)*sum (fun k=>ss k*tm x k) n by grind,<-kZ];refine iL fun k _=>?_
 have h:∀j,tm (-x) (2*j)=tm x (2*j)/\tm (-x) (2*j+1)=- tm x (2*j+1):=by
  intro j
  induction j with
  |zero=>simp only[tm];grind
  |succ j ih =>
   rw[show 2*(j+1)=2*j+1+1 by omega];obtain⟨h1,h2⟩:=ih;have e:tm (-x) (2*j+1+1)=tm x (2*j+1+1):=by rw[tm,h2];grind [tm]
   refine⟨e,?_⟩;rw[tm,e];grind [tm]
 have:=h (k/2);unfold ss
 by_cases hk:k%2=0
 ·rw[if_neg (show ¬k%4=1 by omega),if_neg (show ¬k%4=3 by omega)];grind
 ·rw[show 2*(k/2)+1=k by omega]at this;rw[this.2];grind
theorem Fy{x:Rat}(h0:0<=x)(h1:x<=1)(a:Nat)(ha:1<=a)(n:Nat):sum (fun i=>tm x (a+i)) n<=2*tm x a:=by
 have hh:∀i,tm x (a+i)<=tm x a*hf i:=by
  intro i
  induction i with
  |zero=>simp only[hf,bOC];grind
  |succ i ih =>
   have h2:=iV x (a+i);have h3:(2:Rat)<=((a+i+1:Nat):Rat):=by exact_mod_cast(show 2<=a+i+1 by omega)
   have h4:=kY h0 (a+i+1);have h5:=kY h0 (a+i);have:=aG (show 0<=((a+i+1:Nat):Rat)-2 by grind) h4;have:=aG (show 0<=1-x by grind) h5;rw[<-bQR,hf];grind
 have h1:sum (fun i=>tm x (a+i)) n<=sum (fun i=>tm x a*hf i) n:=tF fun k _=>hh k
 rw[kZ]at h1;have:=aG (kY h0 a) (show 0<=2-sum hf n by have:=bCL n;grind);grind
theorem aGL{x:Rat}(h:ab x<=1){a n:Nat}(ha:1<=a)(hn:a<=n):ab (rB x n-rB x a)<=2*tm (ab x) a:=by
 obtain⟨m,rfl⟩:=bOG hn;unfold rB;rw[jB,show sum (fun k=>cc k*tm x k) a+sum (fun i=>cc (a+i)*tm x (a+i)) m-sum (fun k=>cc k*tm x k) a=sum (fun i=>cc (a+i)*tm x (a+i)) m by grind];refine bSH (vG _ _) (bSH (tF fun k _=>?_) (Fy (aN x) h a ha m));rw[fG,Kh];have:=cC (aN _) (aGR (a+k)) (kY (aN x) (a+k)) bTP;grind
theorem aCR{x:Rat}(h:ab x<=1){a n:Nat}(ha:1<=a)(hn:a<=n):ab (qR x n-qR x a)<=2*tm (ab x) a:=by
 obtain⟨m,rfl⟩:=bOG hn;unfold qR;rw[jB,show sum (fun k=>ss k*tm x k) a+sum (fun i=>ss (a+i)*tm x (a+i)) m-sum (fun k=>ss k*tm x k) a=sum (fun i=>ss (a+i)*tm x (a+i)) m by grind];refine bSH (vG _ _) (bSH (tF fun k _=>?_) (Fy (aN x) h a ha m));rw[fG,Kh];have:=cC (aN _) (Wf (a+k)) (kY (aN x) (a+k)) bTP;grind
theorem aWR:∃k:Nat,k=1048576:=⟨_,rfl⟩
def K:Nat:=Classical.choose aWR
theorem aQP:K=1048576:=Classical.choose_spec aWR
def aLE:Nat:=2*(8+(K+10))
def sO:Rat:=hf K
def sn(x:Rat):Rat:=qR x aLE
def cs(x:Rat):Rat:=rB x aLE
theorem sZ:0<sO:=tI K
theorem aFQ:1024*hf (K+10)=sO:=by
 have:=Hh K 10;have h:hf 10=1/1024:=by simp only[hf];grind
 unfold sO;grind
theorem yD{n:Nat}(h:n<=1048576):sO<=hf n:=aER (by rw[aQP];exact h)
theorem Ho:sO<=1/1048576:=by
 have:=yD (n:=20) (by omega);simp only[hf]at this;grind
theorem Cz{x y:Rat}(hx:ab x<=4)(hy:ab y<=4):ab (cs (x+y)-(cs x*cs y-sn x*sn y))<=sO:=by
 rw[<-aFQ];exact aGM hx hy _
theorem aNT{x y:Rat}(hx:ab x<=4)(hy:ab y<=4):ab (sn (x+y)-(sn x*cs y+cs x*sn y))<=sO:=by
 rw[<-aFQ];exact aCU hx hy _
theorem Ny(x:Rat):cs (-x)=cs x:=aGN x _
theorem Ca(x:Rat):sn (-x)=- sn x:=aCV x _
theorem aIU(k:Nat):tm 0 (k+1)=0:=by rw[tm];grind
theorem Od{a:Nat}(h:a<=1048576):a<=aLE:=by unfold aLE;rw[aQP];omega
theorem Fp{x:Rat}(h:ab x<=1){a:Nat}(ha:1<=a)(hn:a<=1048576):ab (cs x-rB x a)<=2*tm (ab x) a:=aGL h ha (Od hn)
theorem Me{x:Rat}(h:ab x<=1){a:Nat}(ha:1<=a)(hn:a<=1048576):ab (sn x-qR x a)<=2*tm (ab x) a:=aCR h ha (Od hn)
theorem Yh:cs 0=1:=by
 have h:=Fp (x:=0) (by simp only[ab];grind) (a:=1) (by omega) (by omega);rw[show ab 0=0 by simp only[ab];grind,show(1:Nat)=0+1 by rfl,aIU]at h;have h2:rB 0 (0+1)=1:=by simp[rB,sum,cc,tm];grind
 rw[cT,h2]at h;grind
theorem aDH{x:Rat}(hx:ab x<=4):ab (sn x*sn x+cs x*cs x-1)<=sO:=by
 have:=Cz hx (show ab (-x)<=4 by rwa [fW]);rw[show x+-x=0 by grind,Yh,Ny,Ca]at this;rw[cT]at *;grind
theorem Kk{x:Rat}(hx:ab x<=4):ab (sn (2*x)-2*sn x*cs x)<=sO:=by
 have:=aNT hx hx;rw[show x+x=2*x by grind]at this;rw[cT]at *;grind
theorem Le{x:Rat}(hx:ab x<=4):ab (cs (2*x)-(1-2*(sn x*sn x)))<=2*sO:=by
 have:=Cz hx hx;have:=aDH hx;rw[show x+x=2*x by grind]at *;rw[cT]at *;grind
theorem Ge{a b:Rat}(h:a*a<=b*b)(hb:0<=b):ab a<=b:=by
 rw[cT];constructor
 ·refine Rat.not_lt.1 fun hn=>?_
  have:=bSV (show 0 < -a-b by grind) (show 0 < -a+b by grind);grind
 ·refine Rat.not_lt.1 fun hn=>?_
  have:=bSV (show 0<a-b by grind) (show 0<a+b by grind);grind
theorem aYH(a:Rat):0<=a*a:=by
 by_cases h:0<=a
 ·exact aG h h
 ·have:=aG (show 0<=-a by grind) (show 0<=-a by grind);grind
theorem aCQ{x:Rat}(hx:ab x<=4):ab (sn x)<=1+sO:=by
 have h:=aDH hx;have h1:=sZ;have h2:=aYH (cs x);have h3:=aG (show 0<=sO by grind) (show 0<=sO by grind);refine Ge ?_ (by grind);rw[cT]at h;grind
theorem aGK{x:Rat}(hx:ab x<=4):ab (cs x)<=1+sO:=by
 have h:=aDH hx;have h1:=sZ;have h2:=aYH (sn x);have h3:=aG (show 0<=sO by grind) (show 0<=sO by grind);refine Ge ?_ (by grind);rw[cT]at h;grind
theorem bG{x:Rat}(h:0<=x):ab x=x:=by unfold ab;rw[if_pos h]
theorem zA(x:Rat):tm x 1=x/\tm x 2=x*x/2/\tm x 3=x*x*x/6/\tm x 4=x*x*x*x/24/\tm x 5=x*x*x*x*x/120/\tm x 6=x*x*x*x*x*x/720:=by
 simp only[tm];refine⟨?_,?_,?_,?_,?_,?_⟩ <;> grind
theorem wL{x:Rat}(h0:0<=x)(h1:x<=1):x-x*x*x/6<=sn x/\sn x<=x-x*x*x/6+x*x*x*x*x/60:=by
 have a1:ab x<=1:=by rwa [bG h0]
 have t5:=Me a1 (a:=5) (by omega) (by omega);have t7:=Me a1 (a:=7) (by omega) (by omega);rw[bG h0]at t5 t7;obtain⟨e1,e2,e3,e4,e5,e6⟩:=zA x;have p5:qR x 5=x-x*x*x/6:=by simp[qR,sum,ss];rw[e1,e3];grind
 have p7:qR x 7=x-x*x*x/6+x*x*x*x*x/120:=by simp[qR,sum,ss];rw[e1,e3,e5];grind
 have e7:tm x 7<=tm x 5/4:=by
  have h2:=iV x 6;have h3:=iV x 5;have:=kY h0 7;have:=kY h0 6;have:=kY h0 5;have:=aG (show 0<=1-x by grind) (kY h0 6);have:=aG (show 0<=1-x by grind) (kY h0 5);norm_cast at h2 h3;grind
 rw[cT,p5,e5]at t5;rw[cT,p7]at t7;rw[e5]at e7;grind
theorem Ht{x:Rat}(h0:0<=x)(h1:x<=1):1-x*x/2<=cs x/\cs x<=1-x*x/2+x*x*x*x/12:=by
 have a1:ab x<=1:=by rwa [bG h0]
 have t5:=Fp a1 (a:=4) (by omega) (by omega);have t7:=Fp a1 (a:=6) (by omega) (by omega);rw[bG h0]at t5 t7;obtain⟨e1,e2,e3,e4,e5,e6⟩:=zA x;have p5:rB x 4=1-x*x/2:=by simp[rB,sum,cc];rw[e2,tm];grind
 have p7:rB x 6=1-x*x/2+x*x*x*x/24:=by simp[rB,sum,cc];rw[e2,e4,tm];grind
 have e7:tm x 6<=tm x 4/4:=by
  have h2:=iV x 5;have h3:=iV x 4;have:=kY h0 6;have:=kY h0 5;have:=kY h0 4;have:=aG (show 0<=1-x by grind) (kY h0 5);have:=aG (show 0<=1-x by grind) (kY h0 4);norm_cast at h2 h3;grind
 rw[cT,p5,e4]at t5;rw[cT,p7]at t7;rw[e4]at e7;grind
theorem aBZ{x y:Rat}(hx:ab x<=1)(hy:ab y<=1):∀k,ab (tm y (k+1)-tm x (k+1))<=ab (y-x)*tm 1 k
 |0=>by
  obtain⟨e1,_⟩:=zA x;obtain⟨e2,_⟩:=zA y;rw[show 0+1=1 by rfl,e1,e2,tm];grind
 |k+1=>by
  have ih:=aBZ hx hy k;have h2:=iV x (k+1);have h3:=iV y (k+1);have h1:=iV 1 k;have hp:=cast_pos (k+1);have e:((k+1+1:Nat):Rat)*(tm y (k+1+1)-tm x (k+1+1))=(y-x)*tm y (k+1)+x*(tm y (k+1)-tm x (k+1)):=by grind
  have e2:=congrArg ab e;have e3:=Oh ((y-x)*tm y (k+1)) (x*(tm y (k+1)-tm x (k+1)));rw[fG,bG (show(0:Rat)<=((k+1+1:Nat):Rat) by grind)]at e2;rw[fG,fG,Kh]at e3;have b1:=cC (aN (y-x)) bTP (kY (aN y) (k+1)) (Wa (aN y) hy (k+1));have b2:=cC (aN x) hx (aN _) ih;have hc:((k+1+1:Nat):Rat)=((k+1:Nat):Rat)+1:=by norm_cast
  refine Rat.not_lt.1 fun hn=>?_
  have:=bSV hp (show 0<ab (tm y (k+1+1)-tm x (k+1+1))-ab (y-x)*tm 1 (k+1) by grind);have aAB:tm 1 k=((k+1:Nat):Rat)*tm 1 (k+1):=by grind
  rw[aAB]at b2;rw[hc]at this e2;clear e h2 h3 h1 ih aAB hc hp hx hy;generalize ((k+1:Nat):Rat)=q at *;generalize ab (tm y (k+1+1)-tm x (k+1+1))=A at *;generalize ab ((y-x)*tm y (k+1)+x*(tm y (k+1)-tm x (k+1)))=B at *;generalize ab (y-x)=d at *;generalize tm 1 (k+1)=T at *;grind
theorem aCB(a:Nat)(ha:1<=a)(n:Nat):sum (fun i=>tm 1 (a+i)) n<=2*tm 1 a:=Fy (by grind) (by grind) a ha n
theorem aCO{x y:Rat}(hx:ab x<=1)(hy:ab y<=1):ab (sn y-sn x-(y-x))<=3/4*ab (y-x):=by
 have hN:=Od (a:=3) (by omega);obtain⟨n,hn⟩:=bOG hN;unfold sn qR;rw[hn,jB,jB];obtain⟨e1,_⟩:=zA x;obtain⟨e2,_⟩:=zA y;have p:sum (fun k=>ss k*tm x k) 3=x:=by simp[sum,ss];rw[e1];grind
 have q:sum (fun k=>ss k*tm y k) 3=y:=by simp[sum,ss];rw[e2];grind
 rw[p,q,show y+sum (fun i=>ss (3+i)*tm y (3+i)) n-(x+sum (fun i=>ss (3+i)*tm x (3+i)) n)-(y-x)=sum (fun i=>ss (3+i)*tm y (3+i)) n-sum (fun i=>ss (3+i)*tm x (3+i)) n by grind,<-xV];refine bSH (vG _ _) ?_;have h1:sum (fun k=>ab (ss (3+k)*tm y (3+k)-ss (3+k)*tm x (3+k))) n<=sum (fun k=>ab (y-x)*tm 1 (2+k)) n:=tF fun k _=>by
  have:=aBZ hx hy (2+k);rw[show 2+k+1=3+k by omega]at this;rw[show ss (3+k)*tm y (3+k)-ss (3+k)*tm x (3+k)=ss (3+k)*(tm y (3+k)-tm x (3+k)) by grind,fG];have:=cC (aN _) (Wf (3+k)) (aN _) this;grind
 rw[kZ]at h1;have h2:sum (fun k=>tm 1 (2+k)) n<=3/4:=by
  have h3:=Po (f:=fun k=>tm 1 (2+k)) (fun k=>kY (by grind) _) (show n<=2+n by omega);have h4:=jB (fun k=>tm 1 (2+k)) 2 n;have h5:=aCB 4 (by omega) n;obtain⟨_,f2,f3,f4,_⟩:=zA 1;have h6:sum (fun k=>tm 1 (2+k)) 2=2/3:=by simp[sum];rw[f2,f3];grind
  have h7:sum (fun i=>tm 1 (2+(2+i))) n=sum (fun i=>tm 1 (4+i)) n:=iL fun k _=>by rw[show 2+(2+k)=4+k by omega]
  rw[f4]at h5;grind
 have:=aG (aN (y-x)) (show 0<=3/4-sum (fun k=>tm 1 (2+k)) n by grind);grind
theorem Yj{a b:Rat}(ha:ab a<=4)(hb:ab b<=4):ab (cs (a-b)-cs (a+b)-2*(sn a*sn b))<=2*sO:=by
 have h1:=Cz ha hb;have h2:=Cz ha (show ab (-b)<=4 by rwa [fW]);rw[Ny,Ca,show a+-b=a-b by grind]at h2;rw[cT]at *;grind
theorem Gg{x:Rat}(h0:0<=x)(h1:x<=1):0<=sn x:=by
 have:=(wL h0 h1).1;have h2:=cC h0 h1 h0 h1;have h3:=aG h0 (show 0<=1*1-x*x by grind);grind
theorem Wk{x:Rat}(h0:0<=x)(h1:x<=1):sn x<=x:=by
 have:=(wL h0 h1).2;have h2:=cC h0 h1 h0 h1;have h4:=aG (aG h0 h0) h0;have h3:=aG h4 (show 0<=1*1-x*x by grind);grind
theorem Tg{x:Rat}(h:ab x<=1):ab (sn x)<=ab x:=by
 by_cases h0:0<=x
 ·rw[bG h0]at *;have:=Gg h0 h;have:=Wk h0 h;rw[cT];grind
 ·have e:ab x=-x:=by unfold ab;rw[if_neg h0]
  rw[e]at h;rw[e];have h1:=Gg (show 0<=-x by grind) h;have h2:=Wk (show 0<=-x by grind) h;rw[Ca]at h1 h2;rw[cT];grind
theorem Yi{x y:Rat}(h0:0<=x)(h:x<=y)(h1:y<=1):cs y<=cs x+2*sO:=by
 have h2:=Yj (a:=(x+y)/2) (b:=(y-x)/2) (by rw[cT];grind) (by rw[cT];grind);rw[show(x+y)/2-(y-x)/2=x by grind,show(x+y)/2+(y-x)/2=y by grind,cT]at h2;have h3:=aG (Gg (x:=(x+y)/2) (by grind) (by grind)) (Gg (x:=(y-x)/2) (by grind) (by grind));grind
theorem aGI{x y:Rat}(hx:ab x<=1)(hy:ab y<=1):ab (cs y-cs x)<=ab (y-x)+2*sO:=by
 have b1:ab ((x+y)/2)<=1:=by rw[cT]at *;grind
 have b2:ab ((y-x)/2)<=1:=by rw[cT]at *;grind
 have h2:=Yj (a:=(x+y)/2) (b:=(y-x)/2) (by grind) (by grind);rw[show(x+y)/2-(y-x)/2=x by grind,show(x+y)/2+(y-x)/2=y by grind]at h2;have h3:=cC (aN _) (Tg b1) (aN _) (Tg b2);have h4:=cC (aN _) b1 (aN _) (show ab ((y-x)/2)<=ab ((y-x)/2)from bTP);rw[<-fG]at h3;have h5:ab ((y-x)/2)=ab (y-x)/2:=by unfold ab;split <;> split <;> grind
 rw[h5]at h3 h4;have h6:=Ao (sn ((x+y)/2)*sn ((y-x)/2));have h7:=mW (sn ((x+y)/2)*sn ((y-x)/2));rw[cT]at h2 ⊢;clear h5 b1 b2 hx hy;generalize sn ((x+y)/2)*sn ((y-x)/2)=P at *;generalize ab ((x+y)/2)*(ab (y-x)/2)=Q at *;grind
theorem Wj{x y:Rat}(hx:ab x<=1)(hy:ab y<=1):ab (sn y-sn x)<=2*ab (y-x):=by
 have h:=aCO hx hy;have h1:=Ao (y-x);have h2:=mW (y-x);rw[cT]at h ⊢;grind
theorem Wi{x y:Rat}(hx:ab x<=1)(hy:ab y<=1)(h:x<=y):sn x<=sn y:=by
 have h1:=aCO hx hy;rw[bG (show 0<=y-x by grind),cT]at h1;grind
theorem uV(a:Nat){b:Nat}(_hb:0<b):(b:Rat)*((a/b:Nat):Rat)<=(a:Rat)/\(a:Rat)<(b:Rat)*((a/b:Nat):Rat)+(b:Rat):=by
 have h1:=bSI a b;have h2:=bPJ a _hb;constructor
 ·exact_mod_cast(show b*(a/b)<=a by omega)
 ·exact_mod_cast(show a<b*(a/b)+b by omega)
theorem cN{q a b:Rat}(hq:0<q)(h:q*a<=q*b):a<=b:=by
 refine Rat.not_lt.1 fun hn=>?_
 have:=bSV hq (show 0<a-b by grind);grind
theorem oR{q a b:Rat}(hq:0<q)(h:q*a<q*b):a<b:=by
 refine Rat.not_le.1 fun hn=>?_
 have:=aG (bSJ hq) (show 0<=a-b by grind);grind
def sq(u W:Nat):Nat->Nat
 |0=>W
 |k+1=>sq u W k*u/W/(k+1)
theorem Gf{u W:Nat}(hW:0<W){x:Rat}(hx:x*(W:Rat)=(u:Rat))(h0:0<=x)(h1:x<=1/2):∀k,0<=tm x k*W-sq u W k/\tm x k*W-sq u W k<=2
 |0=>by simp only[tm,sq];grind
 |k+1=>by
  obtain⟨i1,i2⟩:=Gf hW hx h0 h1 k;obtain⟨d1,d2⟩:=uV (sq u W k*u) (b:=W*(k+1)) (bUC hW (by omega));rw[sq,bST];rw[bUB,bUB,<-hx]at d1 d2;have hc:=iV x k;have hp:=cast_pos k;have h1k:(1:Rat)<=((k+1:Nat):Rat):=by exact_mod_cast(show 1<=k+1 by omega)
  have aEZ:(0:Rat)<(W:Rat):=by exact_mod_cast hW
  generalize ((sq u W k*u/(W*(k+1)):Nat):Rat)=t' at *;generalize (sq u W k:Rat)=t at *;generalize ((k+1:Nat):Rat)=q at *;have d1':q*t'<=t*x:=cN aEZ (by grind);have d2':t*x<q*t'+q:=oR aEZ (by grind);have hcW:q*tm x (k+1)*(W:Rat)=x*tm x k*(W:Rat):=by rw[hc]
  have e1:=aG h0 i1;have e2:=aG (show 0<=1/2-x by grind) i1;refine⟨cN hp ?_,cN hp ?_⟩ <;> grind
theorem aCH{u W:Nat}(hW:0<W){x:Rat}(hx:x*(W:Rat)=(u:Rat))(h0:0<=x)(h1:x<=1/2){n:Nat}(hn:1<=n)(Zt:n<=1048576)(hz:sq u W n=0) :
  ab (sum (fun k=>cc k*(sq u W k:Rat)) n-W*cs x)<=2*(n:Rat)+4:=by
 have hs:ab (sum (fun k=>cc k*(sq u W k:Rat)) n-W*rB x n)<=2*(n:Rat):=by
  unfold rB;rw[<-kZ,<-xV];refine bSH (vG _ _) ?_;have:∀m,sum (fun k=>ab (cc k*(sq u W k:Rat)-W*(cc k*tm x k))) m<=2*(m:Rat):=by
   intro m
   induction m with
   |zero=>simp only[sum];grind
   |succ m ih =>
    rw[cZ];obtain⟨a1,a2⟩:=Gf hW hx h0 h1 m;have:ab (cc m*(sq u W m:Rat)-W*(cc m*tm x m))<=2:=by
     rw[show cc m*(sq u W m:Rat)-W*(cc m*tm x m)=cc m*(sq u W m-tm x m*W) by grind,fG];have b1:ab (sq u W m-tm x m*W)<=2:=by rw[cT];grind
     have:=cC (aN _) (aGR m) (aN _) b1;grind
    have hc:((m+1:Nat):Rat)=(m:Rat)+1:=by norm_cast
    rw[hc];grind
  exact this n
 have ht:=Fp (x:=x) (by rw[bG h0];grind) hn Zt;obtain⟨a1,a2⟩:=Gf hW hx h0 h1 n;rw[hz]at a2;rw[bG h0]at ht;have aEZ:(0:Rat)<(W:Rat):=by exact_mod_cast hW
 rw[cT]at *;have b1:=aG (bSJ aEZ) (show 0<=2*tm x n-(cs x-rB x n) by grind);have b2:=aG (bSJ aEZ) (show 0<=2*tm x n+(cs x-rB x n) by grind);have Zn:((0:Nat):Rat)=0:=by norm_cast
 rw[Zn]at a2;grind
theorem aCG{u W:Nat}(hW:0<W){x:Rat}(hx:x*(W:Rat)=(u:Rat))(h0:0<=x)(h1:x<=1/2){n:Nat}(hn:1<=n)(Zt:n<=1048576)(hz:sq u W n=0) :
  ab (sum (fun k=>ss k*(sq u W k:Rat)) n-W*sn x)<=2*(n:Rat)+4:=by
 have hs:ab (sum (fun k=>ss k*(sq u W k:Rat)) n-W*qR x n)<=2*(n:Rat):=by
  unfold qR;rw[<-kZ,<-xV];refine bSH (vG _ _) ?_;have:∀m,sum (fun k=>ab (ss k*(sq u W k:Rat)-W*(ss k*tm x k))) m<=2*(m:Rat):=by
   intro m
   induction m with
   |zero=>simp only[sum];grind
   |succ m ih =>
    rw[cZ];obtain⟨a1,a2⟩:=Gf hW hx h0 h1 m;have:ab (ss m*(sq u W m:Rat)-W*(ss m*tm x m))<=2:=by
     rw[show ss m*(sq u W m:Rat)-W*(ss m*tm x m)=ss m*(sq u W m-tm x m*W) by grind,fG];have b1:ab (sq u W m-tm x m*W)<=2:=by rw[cT];grind
     have:=cC (aN _) (Wf m) (aN _) b1;grind
    have hc:((m+1:Nat):Rat)=(m:Rat)+1:=by norm_cast
    rw[hc];grind
  exact this n
 have ht:=Me (x:=x) (by rw[bG h0];grind) hn Zt;obtain⟨a1,a2⟩:=Gf hW hx h0 h1 n;rw[hz]at a2;rw[bG h0]at ht;have aEZ:(0:Rat)<(W:Rat):=by exact_mod_cast hW
 rw[cT]at *;have b1:=aG (bSJ aEZ) (show 0<=2*tm x n-(sn x-qR x n) by grind);have b2:=aG (bSJ aEZ) (show 0<=2*tm x n+(sn x-qR x n) by grind);have Zn:((0:Nat):Rat)=0:=by norm_cast
 rw[Zn]at a2;grind
theorem aRV{W x e s c s' c':Rat}(hW:1<=W)(hx:ab x<=1)(hs:ab (s-W*sn x)<=e)(hc:ab (c-W*cs x)<=e)(he:8*(e*e)<=W)(aZX:(8*e+4*W)*sO<=1/4)
  (h1:ab (W*s'-2*(s*c))<=2*W) (h2:ab (W*c'-(W*W-2*(s*s)))<=2*W):ab (s'-W*sn (2*x))<=4*e+4/\ab (c'-W*cs (2*x))<=4*e+4:=by
 have aXA:ab x<=4:=by grind
 have d1:=Kk aXA;have d2:=Le aXA;have bs:=aCQ aXA;have bc:=aGK aXA;have aII:0<=e:=bSH (aN _) hs;have aMR:=sZ;generalize sn (2*x)=S2 at *;generalize cs (2*x)=C2 at *;generalize sn x=S at *;generalize cs x=C at *;obtain⟨a,ha⟩:∃a,a=s-W*S:=⟨_,rfl⟩;obtain⟨b,hb⟩:∃b,b=c-W*C:=⟨_,rfl⟩;rw[<-ha]at hs;rw[<-hb]at hc;have es:s=W*S+a:=by grind
 have ec:c=W*C+b:=by grind
 subst es;subst ec;have q1:=cC (aN S) bs (aN b) hc;have q2:=cC (aN C) bc (aN a) hs;have q3:=cC (aN a) hs (aN b) hc;have q4:=cC (aN S) bs (aN a) hs;have q5:=cC (aN a) hs (aN a) hs;rw[<-fG]at q1 q2 q3 q4 q5;have aRQ:0<=W:=by grind
 have w1:∀{t r:Rat},ab t<=r->-(W*r)<=W*t/\W*t<=W*r:=fun {t r} h=>by
  rw[cT]at h;have:=aG aRQ (show 0<=r-t by grind);have:=aG aRQ (show 0<=r+t by grind);constructor <;> grind
 have k1:=w1 q1;have k2:=w1 q2;have k4:=w1 q4;have k6:=w1 (r:=W*sO) (t:=W*(S2-2*S*C)) (by
  have:=w1 d1;rw[cT];grind)
 have k7:=w1 (r:=W*(2*sO)) (t:=W*(C2-(1-2*(S*S)))) (by
  have:=w1 d2;rw[cT];grind)
 have hq:0<W:=by grind
 have z1:=aG aRQ (show 0<=1/4-(8*e+4*W)*sO by grind);rw[cT]at h1 h2 q3 q5;constructor
 ·rw[cT];constructor
  ·refine cN hq ?_;grind
  ·refine cN hq ?_;grind
 ·rw[cT];constructor
  ·refine cN hq ?_;grind
  ·refine cN hq ?_;grind
def sg(j:Nat):Rat:=if j%2=0 then 1 else -1
theorem aLW(j:Nat):ab (sg j)=1:=by unfold sg ab;split <;> split <;> grind
def fU(n w j:Nat):Nat:=2^w/n^(2*j+1)/(2*j+1)
def apart(n j:Nat):Rat:=1/((n^(2*j+1)*(2*j+1):Nat):Rat)
def Rs(n:Nat):Rat:=sum (fun j=>sg j*apart n j) K
theorem uF{n:Nat}(hn:0<n)(j:Nat):0<apart n j/\apart n j*((n^(2*j+1)*(2*j+1):Nat):Rat)=1:=by
 unfold apart;have h:0<n^(2*j+1)*(2*j+1):=bUC (bQA hn) (by omega);have h':(0:Rat)<((n^(2*j+1)*(2*j+1):Nat):Rat):=by exact_mod_cast h
 generalize ((n^(2*j+1)*(2*j+1):Nat):Rat)=q at *;have:q≠0:=by grind
 constructor
 ·have:=Rat.inv_pos.2 h';grind
 ·grind
theorem Lm{n:Nat}(hn:0<n)(w j:Nat):0<=((2^w:Nat):Rat)*apart n j-fU n w j/\((2^w:Nat):Rat)*apart n j-fU n w j<=1:=by
 obtain⟨h1,h2⟩:=uF hn j;have h:0<n^(2*j+1)*(2*j+1):=bUC (bQA hn) (by omega);obtain⟨d1,d2⟩:=uV (2^w) h;unfold fU;rw[bST];have h':(0:Rat)<((n^(2*j+1)*(2*j+1):Nat):Rat):=by exact_mod_cast h
 generalize ((n^(2*j+1)*(2*j+1):Nat):Rat)=q at *;generalize ((2^w/(n^(2*j+1)*(2*j+1)):Nat):Rat)=t at *;generalize ((2^w:Nat):Rat)=W at *;have e:q*(W*apart n j)=W:=by
  rw[show q*(W*apart n j)=W*(apart n j*q) by grind,h2];grind
 refine⟨?_,?_⟩
 ·have:t<=W*apart n j:=cN h' (by grind);grind
 ·have:W*apart n j<=t+1:=cN h' (by grind);grind
theorem Ve{n:Nat}(hn:2<=n)(j:Nat):apart n (j+1)<=apart n j/2:=by
 obtain⟨h1,h2⟩:=uF (show 0<n by omega) j;obtain⟨h3,h4⟩:=uF (show 0<n by omega) (j+1);have hle:2*(n^(2*j+1)*(2*j+1))<=n^(2*(j+1)+1)*(2*(j+1)+1):=by
  have e:n^(2*(j+1)+1)=n^(2*j+1)*(n*n):=by
   rw[show 2*(j+1)+1=(2*j+1)+2 by omega,bSD,Nat.pow_two]
  have bCI:4<=n*n:=Nat.mul_le_mul hn hn;rw[e,bSF,bUY];refine bPP _ ?_;have:4*(2*(j+1)+1)<=n*n*(2*(j+1)+1):=Nat.mul_le_mul_right _ bCI;omega
 have hle':(2:Rat)*((n^(2*j+1)*(2*j+1):Nat):Rat)<=((n^(2*(j+1)+1)*(2*(j+1)+1):Nat):Rat):=by exact_mod_cast hle
 generalize ((n^(2*j+1)*(2*j+1):Nat):Rat)=p at *;generalize ((n^(2*(j+1)+1)*(2*(j+1)+1):Nat):Rat)=q at *;have hp:0<p:=by
  refine Rat.not_le.1 fun hn=>?_
  have:=aG (bSJ h1) (show 0<=-p by grind);grind
 have:=aG (bSJ h3) (show 0<=q-2*p by grind);refine cN hp ?_;grind
theorem Vd{n:Nat}(hn:2<=n)(a m:Nat):sum (fun i=>apart n (a+i)) m<=2*apart n a:=by
 have hh:∀i,apart n (a+i)<=apart n a*hf i:=by
  intro i
  induction i with
  |zero=>simp only[hf,bOC];grind
  |succ i ih =>
   have:=Ve hn (a+i);rw[<-bQR,hf];grind
 have h1:sum (fun i=>apart n (a+i)) m<=sum (fun i=>apart n a*hf i) m:=tF fun k _=>hh k
 rw[kZ]at h1;have h2:=(uF (show 0<n by omega) a).1;have:=aG (bSJ h2) (show 0<=2-sum hf m by have:=bCL m;grind);grind
theorem Yq{n:Nat}(hn:2<=n)(w:Nat){J:Nat}(hJ:J<=1048576)(hz:fU n w J=0):ab (sum (fun j=>sg j*(fU n w j:Rat)) J-((2^w:Nat):Rat)*Rs n)<=(J:Rat)+2:=by
 obtain⟨m,hm⟩:=bOG (show J<=K by rw[aQP];exact hJ);unfold Rs;rw[hm,jB];have h1:∀i,ab (sum (fun j=>sg j*(fU n w j:Rat)) i-((2^w:Nat):Rat)*sum (fun j=>sg j*apart n j) i)<=(i:Rat):=by
  intro i;rw[<-kZ,<-xV];refine bSH (vG _ _) ?_
  induction i with
  |zero=>simp only[sum];grind
  |succ i ih =>
   rw[cZ];obtain⟨a1,a2⟩:=Lm (show 0<n by omega) w i;have:ab (sg i*(fU n w i:Rat)-((2^w:Nat):Rat)*(sg i*apart n i))<=1:=by
    rw[show sg i*(fU n w i:Rat)-((2^w:Nat):Rat)*(sg i*apart n i)=sg i*(fU n w i-((2^w:Nat):Rat)*apart n i) by grind,fG,aLW];have b1:ab (fU n w i-((2^w:Nat):Rat)*apart n i)<=1:=by rw[cT];grind
    grind
   have hc:((i+1:Nat):Rat)=(i:Rat)+1:=by norm_cast
   rw[hc];grind
 have h2:ab (sum (fun i=>sg (J+i)*apart n (J+i)) m)<=2*apart n J:=by
  refine bSH (vG _ _) (bSH (tF fun k _=>?_) (Vd hn J m));rw[fG,aLW,bG (bSJ (uF (show 0<n by omega) _).1)];grind
 have h3:=(Lm (show 0<n by omega) w J).2;have h4:=h1 J;have h0:(0:Rat)<=((2^w:Nat):Rat):=by exact_mod_cast bTF _
 rw[hz]at h3;have Zn:((0:Nat):Rat)=0:=by norm_cast
 rw[Zn]at h3;rw[cT]at *;have b1:=aG h0 (show 0<=2*apart n J-sum (fun i=>sg (J+i)*apart n (J+i)) m by grind);have b2:=aG h0 (show 0<=2*apart n J+sum (fun i=>sg (J+i)*apart n (J+i)) m by grind);grind
end R
end Go.Proofs.YtcnlagnipklcmaaGreatDoor
end
