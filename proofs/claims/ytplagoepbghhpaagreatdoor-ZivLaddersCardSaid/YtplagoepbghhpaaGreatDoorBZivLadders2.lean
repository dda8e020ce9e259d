/- Contracts. -/
import Derived.KernelRfl
import Derived.Laws.Externs
import Derived.Test.YtplagoepbghhpaaGreatDoorProg
import Derived.Shelf.SlGeneric
import Derived.Ground.SlgnProg
import Derived.Shelf.SlicesE.Clone
import Derived.RangeFuncFrom
import Derived.RangeFuncLeaves
import Derived.RangeFuncCalls
import Derived.Shelf.Abstract
import Derived.WalkKit
import Derived.OwnWalkIn
import Derived.TacticsInMore
import Derived.LoopNIn
import Derived.LoopIn
import Derived.RangeFuncBox
import Derived.Maps.AppendAt
import Derived.Test.YtplagoepbghhpaaGreatDoorBZivLadders1
set_option linter.unusedVariables false
set_option linter.unusedSimpArgs false
noncomputable section
open Go.IntKind(i8 i16 i32 i64 u8 u16 u32 u64)
open Go.Proofs.Tryz
open List renaming replicate->bXR,mem_append->bWR,getD_eq_getElem?_getD->cAP,length_cons->bYZ,cons_append->bXH,length_take->bYE,replicate_succ->cAU,append_nil->cAX,append_assoc->bXJ,nil_append->bZR,take_succ_eq_append_getElem->cBD,drop_eq_nil_of_le->cBE,getElem?_map->bVS,take_of_length_le->cBH,size_toArray->bXE,length_nil->bZA,push_toArray->cBL,append_toArray->cBM,getLast?_cons_cons->cBT,getElem?_eq_getElem->bWF,getElem?_eq_none->bXK,drop_eq_getElem_cons->cBV,length_map->bXC,replicate_zero->cBW,mem_of_getElem?->bVX,take_length->cCD,drop_zero->cCE,range->bXB,singleton_append->cCF,mapM_cons->bWX,mem_cons_self->bVV,mem_cons_of_mem->bVZ,getElem?_take_of_lt->bVT,nodup_cons->cAC,mem_cons->bWW,length_drop->bZO,getElem?_drop->bWB,mem_of_mem_take->cCL,mem_of_mem_drop->cCM,replicate_succ'->cCN,take_append_drop->cCO,getLast?_append->cCP,mem_or_eq_of_mem_set->cCQ,drop_set->cCR,set_append_right->cCT,set_cons_zero->cCU,ext_getElem?->bZN,getElem?_take->bZK
open Int renaming toNat_natCast->bZL,eq_ofNat_of_zero_le->cAS,mul_assoc->cAZ,natAbs_mul->cBB,zero_mul->cBC,natAbs_natCast->cBF,mul_comm->cBN,natCast_ediv->cBO,natCast_mul->cBP,pow_succ->cCB,natAbs_neg->cCC,ediv_eq_zero_of_lt->cCV,natCast_emod->cCX,toNat_zero->cCZ,ediv_mul_cancel->cDC,mul_ne_zero->cDD,natAbs_add_le->cDF
open Nat renaming le_refl->bVO,mul_comm->cAM,beq->bVP,pow_succ->cAN,mul_add->cAO,pow_add->cAQ,mul_assoc->cAR,pow_pos->bYO,lt_or_ge->bWE,eq_of_beq_eq_true->bWD,ble->bVR,le_of_ble_eq_true->bXM,le_trans->bWK,zero_add->bVQ,mul_le_mul_left->bYC,pow_le_pow_right->bYP,mod_lt->bXW,div_add_mod->cAT,lt_of_lt_of_le->bWL,strongRecOn->cAY,div_lt_of_lt_mul->cBG,div_eq_of_lt->cBI,add_zero->bWM,reduceAdd->cBJ,reduceSub->cBK,blt->bWA,add_comm->cBR,beq_refl->bZV,min_eq_left->cBU,zero_le->cBX,lt_of_le_of_lt->cBY,pow_mul->cBZ,div_div_eq_div_mul->cCA,mul_zero->cCG,sub_le->cCH,dvd_of_mod_eq_zero->cCI,add_right_comm->cCJ,add_mul_div_left->cCS,pow_lt_pow_right->cCW
open Option renaming bind_some->bXG,isSome_or->cBS
open Bool renaming true_and->bYQ,not_true->bXO,false_and->cAV,true_or->cAW,false_or->bXP,and_eq_true->bVU,and_false->cBA,or_true->cBQ,or_eq_true->bXA,not_eq_true'->bWY
namespace Go.Proofs.YtplagoepbghhpaaGreatDoor
namespace AI
open Go Go.RowKit
theorem oJ{P:Program}{f:FuncId}{fn:Func}{c:Code}(hf:P.funcs[f]?=some fn)(hb:fn.body=some c)(hn:(fn.name== "runtime.NumGoroutine")=false):oG P f:=by
 intro vs w;have aFE:¬fn.name= "runtime.NumGoroutine":=by simpa using hn
 simp[callFunc,hf,hb,aFE]
theorem Pj{α β:Type}{P:Program}{w:World}{f:α->Sem β}{g:α->β}:∀{l:List α},(∀x∈l,(f x).run P w=.ok (g x) w)->(l.mapM f).run P w=.ok (l.map g) w
 | [],_=>rfl
 |x :: l,h=>by
  rw[bWX,Sem.run_bind,h x (bVV ..),Result.andThen_ok,Sem.run_bind,Pj fun y hy=>h y (bVZ _ hy)];rfl
theorem aKA{α β:Type}{P:Program}{w:World}{f:α->Sem β}{g:α->β}{arr:Array α}(h:∀x∈arr.toList,(f x).run P w=.ok (g x) w) :
  (arr.mapM f).run P w=.ok (arr.toList.map g).toArray w:=by
 rw[Array.mapM_eq_mapM_toList,map_eq_pure_bind,Sem.run_bind,Pj h];rfl
section
variable {P:Program} {E:Env} {X:Nat->Prop} {w0:Old} {ρ:Nat->Nat} {al:Nat->Prop} {st:St} {a:Act} {w:World}
def ownOf(st:St):ResultVar->Option Nat
 | .tmp t=>match st.fr t with
  | .v (.one (.buf i _))=>some i
  | .v (.one (.view i _ _))=>some i
  |_=>none
 | .cell _ _=>none
def Fq(a:Act):ResultVar->Sem Value
 | .tmp t=>pure (a.tmps.getD t undef)
 | .cell d t=>do loadVar t (<-asAddr (a.tmps.getD d undef))
def Good(E:Env)(X:Nat->Prop)(base:Nat)(st:St)(ρ:Nat->Nat)(w:World)(r:ResultVar)(v:Value):D->Prop
 | .own e k ns=>∃i,ownOf st r=some i/\(∃b,st.hp i=some b)/\Qi base w (ρ i) e k ns v
 | .back i off n=>i∈E.io/\∀blk k ns,st.hp i=some blk->blk.cont=.ints k ns->aAN w (ρ i) ns.length off n v
 |d=>lL (XO X ρ st.hp) w d v
theorem Ys(hT:nU P E.T)(h:iU E X w0 ρ al st.fr st.hp a w){r:ResultVar}{d:D}(hd:resD E st r=some d) :
  ∃v,(Fq a r).run P w=.ok v w/\Good E X w0.w.heap.size st ρ w r v d:=by
 cases r with
 |tmp t =>
  have hr:=h.fr t;refine⟨_,rfl,?_⟩;unfold resD at hd;simp only at hd;split at hd
  ·rename_i cs hf;cases hd;rw[hf]at hr;exact hr
  ·rename_i x hf;cases hd;rw[hf]at hr;exact hr
  ·rename_i i n hf;cases Gg:bWA i E.n0 with
   |true=>rw[Gg]at hd;cases hd
   |false =>
   rw[Gg]at hd;simp only[cond_false]at hd;have Gg:E.n0<=i:=by
    have:¬i<E.n0:=fun h=>by
     have h2:bWA i E.n0=true:=by rw[Nat.blt_eq];exact h
     rw[h2]at Gg;cases Gg
    omega
   split at hd
   ·rename_i e k ns hb;cases hd;rw[hf]at hr;obtain⟨cap,hv,hle,hc,_⟩:=hr;obtain⟨e1,e2,e3⟩:=hc _ k ns hb rfl;obtain⟨hw,arr,hg,Ry⟩:=h.blk i _ hb;have hs:cap<=arr.size:=by unfold lA at e3;rw[hg]at e3;exact e3
    refine⟨i,by simp[ownOf,hf],⟨_,hb⟩,arr,cap,by rw[<-e1];exact hv,hw.new Gg,hg,by omega,hs,e2,Ry.2⟩
   ·cases hd
  ·rename_i i off n hf;rw[hf]at hr;obtain⟨o',cap,hv,Bq,hA,hA0,hc⟩:=hr;cases Lj:E.io.elem i with
   |true =>
    rw[Lj]at hd;simp only[cond_true]at hd;cases hd;exact⟨by simpa using Lj,fun blk k ns hb hk=>⟨o',cap,hv,Bq,hA,hA0,hc blk k ns hb hk⟩⟩
   |false =>
   rw[Lj]at hd;simp only[cond_false]at hd;cases Gg:bWA i E.n0 with
   |true=>rw[Gg]at hd;cases hd
   |false =>
   rw[Gg]at hd;simp only[cond_false]at hd;have Gg:E.n0<=i:=by
    have:¬i<E.n0:=fun h=>by
     have h2:bWA i E.n0=true:=by rw[Nat.blt_eq];exact h
     rw[h2]at Gg;cases Gg
    omega
   split at hd
   ·rename_i e k ns hb;cases hd;obtain⟨e1,e2,e3⟩:=hc _ k ns hb rfl;obtain⟨hw,arr,hg,Ry⟩:=h.blk i _ hb;have hs:cap<=arr.size:=by unfold lA at e3;rw[hg]at e3;exact e3
    have hl:(ns.take n).length=n:=by rw[bYE];omega
    refine⟨i,by simp[ownOf,hf],⟨_,hb⟩,arr,cap,by rw[hl,<-hA0 rfl];exact hv,hw.new Gg,hg,by rw[hl];exact Bq,hs,e2,fun j m hj=>Ry.2 j m ?_⟩;have Zl:j<n:=by have:=aT hj;omega
    rw[bVT Zl]at hj;exact hj
   ·cases hd
  ·cases hd
 |cell t ty =>
  have hr:=h.fr t;unfold resD at hd;simp only at hd;split at hd
  ·rename_i i off ti hf xA;rw[hf]at hr;have hr:a.tmps.getD t undef=.pointer (some ⟨ρ i,off,none⟩):=hr;split at hd
   ·rename_i e cs hb;obtain⟨_,arr,hg,Ry⟩:=h.blk i _ hb;have hl:∀x,partOf ti cs off=some x->∃v,(Fq a (.cell t ty)).run P w=.ok v w/\Ew ρ st.hp (XO X ρ st.hp) w x v/\refsV x=[]:=by
     intro x hx;obtain⟨v,h1,h2,h3⟩:=Jb (P:=P) (hT ty ti xA) (b:=ρ i) (off:=0) (cs:=cs) (fun j s hs=>by
      obtain⟨u,hu,hr⟩:=Ry.2 j s hs;exact⟨u,by rw[cell_of_row w (ρ i) _ arr e (0,0) hg];simpa using hu,hr⟩) hx (ρ:=ρ) (hp':=st.hp)
     rw[bVQ]at h1;refine⟨v,?_,h2,h3⟩;unfold Fq;rw[Sem.run_bind,hr];simpa [asAddr] using h1
    split at hd
    ·rename_i Ma hx;cases hd;obtain⟨v,h1,h2,_⟩:=hl _ hx;exact⟨v,h1,h2⟩
    ·rename_i x hx;cases hd;obtain⟨v,h1,h2,_⟩:=hl _ hx;exact⟨v,h1,h2⟩
    ·cases hd
   ·cases hd
  ·cases hd
theorem zM{α β:Type}{f:α->Option β}:∀{l:List α} {ys:List β},l.mapM f=some ys->ys.length=l.length/\∀(i:Nat) (x:α),l[i]?=some x->∃y,ys[i]?=some y/\f x=some y
 | [],ys,h=>by simp at h;subst h;simp
 |x :: l,ys,h=>by
  rw[bWX]at h;cases hx:f x with
  |none=>rw[hx]at h;cases h
  |some y =>
   cases hl:l.mapM f with
   |none=>rw[hx,hl]at h;cases h
   |some ys' =>
    rw[hx,hl]at h;cases h;obtain⟨h1,h2⟩:=zM hl;refine⟨by simp[h1],fun i x' hi=>?_⟩
    match i with
    |0=>simp at hi;subst hi;exact⟨y,rfl,hx⟩
    |i+1=>simp at hi;obtain⟨y',e1,e2⟩:=h2 i x' hi;exact⟨y',by simpa using e1,e2⟩
theorem Ko:∀{l:List ResultVar} {j:Nat} {r:ResultVar} {i:Nat},l[j]?=some r->ownOf st r=some i->i∈ownIds st l
 | [],j,r,i,h,_=>by simp at h
 |r0 :: l,0,r,i,h,ho=>by
  simp at h;subst h;cases r0 with
  |cell=>cases ho
  |tmp t =>
   simp only[ownOf]at ho;split at ho
   ·rename_i i' n hf;cases ho;simp[ownIds,hf]
   ·rename_i i' o' n hf;cases ho;simp[ownIds,hf]
   ·cases ho
 |r0 :: l,j+1,r,i,h,ho=>by
  have:=Ko (l:=l) (j:=j) (by simpa using h) ho;cases r0 with
  |cell=>exact this
  |tmp t=>simp only[ownIds];exact List.mem_append_right _ this
theorem Bc:∀{xs ys:List Nat},nodup (xs ++ ys)=true->nodup ys=true/\∀x∈xs,x ∉ ys
 | [],ys,h=>⟨h,by simp⟩
 |x :: xs,ys,h=>by
  simp only[bXH,nodup,bVU]at h;obtain⟨h1,h2⟩:=Bc h.2;refine⟨h1,fun y hy=>?_⟩;rcases List.mem_cons.1 hy with rfl |hy
  ·intro hm;have:(xs ++ ys).elem y=true:=by simp[hm]
   rw[this]at h;simp at h
  ·exact h2 y hy
theorem Kp:∀{l:List ResultVar} {j j':Nat} {r r':ResultVar} {i:Nat},nodup (ownIds st l)=true->l[j]?=some r->l[j']?=some r'->ownOf st r=some i->ownOf st r'=some i->j=j'
 | [],j,j',r,r',i,_,h,_,_,_=>by simp at h
 |r0 :: l,j,j',r,r',i,hn,h,h',ho,aHD=>by
  have yL:nodup (ownIds st l)=true:=by
   cases r0 with
   |cell=>exact hn
   |tmp t=>simp only[ownIds]at hn;exact(Bc hn).1
  have aDA:∀r1,ownOf st r0=some i->∀k:Nat,l[k]?=some r1->ownOf st r1=some i->False:=by
   intro r1 h0 k hk h1;have hm:=Ko hk h1;cases r0 with
   |cell=>cases h0
   |tmp t =>
    simp only[ownOf]at h0;split at h0
    ·rename_i i' n hf;cases h0;simp only[ownIds,hf]at hn;exact(Bc hn).2 i (by simp) hm
    ·rename_i i' o' n hf;cases h0;simp only[ownIds,hf]at hn;exact(Bc hn).2 i (by simp) hm
    ·cases h0
  match j,j' with
  |0,0=>rfl
  |0,j'+1=>simp at h h';subst h;exact(aDA r' ho j' h' aHD).elim
  |j+1,0=>simp at h h';subst h';exact(aDA r aHD j h ho).elim
  |j+1,j'+1=>simp at h h';exact congrArg (·+1) (Kp yL h h' ho aHD)
theorem Mo:∀{ds:List D} {i t:Nat},(∃d,ds[t]?=some d/\argFrI i ds t=argAt (i+t) d)\/argFrI i ds t=.any
 | [],_,_=>.inr (by simp[argFrI])
 |d :: _,_,0=>.inl ⟨d,rfl,rfl⟩
 |_ :: ds,i,t+1=>by
  rcases Mo (ds:=ds) (i:=i+1) (t:=t)with ⟨d,h1,h2⟩ |h
  ·exact .inl ⟨d,by simpa using h1,by rw[show i+(t+1)=i+1+t by omega];exact h2⟩
  ·exact .inr h
theorem Qe:∀{ds:List D} {i j:Nat} {b:jT},argHp i ds j=some b->i<=j/\∃e k ns off n,ds[j-i]?=some (.io e k ns off n)/\b=⟨e,.ints k ns⟩
 | [],_,_,_,h=>by cases h
 |d :: ds,i,j,b,h=>by
  have tail:argHp (i+1) ds j=some b->i<=j/\∃e k ns off n,(d :: ds)[j-i]?=some (.io e k ns off n)/\b=⟨e,.ints k ns⟩:=by
   intro h;obtain⟨h1,e,k,ns,off,n,h2,h3⟩:=Qe h;exact⟨by omega,e,k,ns,off,n,by rw[show j-i=(j-(i+1))+1 by omega];simpa using h2,h3⟩
  cases d with
  |io e k ns off n =>
   simp only[argHp]at h;cases hb:bVP j i with
   |true =>
    rw[hb]at h;have:=bWD hb;subst this;cases h;exact⟨bVO _,e,k,ns,off,n,by simp,rfl⟩
   |false=>rw[hb]at h;exact tail h
  |s=>exact tail h
  |rows=>exact tail h
  |agg=>exact tail h
  |own=>exact tail h
  |back=>exact tail h
theorem Xb:∀{ds:List D} {i t:Nat} {e:TypeId} {k:IntKind} {ns:List Int} {off n:Nat},ds[t]?=some (.io e k ns off n)->argHp i ds (i+t)=some ⟨e,.ints k ns⟩
 | [],_,_,_,_,_,_,_,h=>by simp at h
 |d :: ds,i,0,e,k,ns,off,n,h=>by
  simp at h;subst h;simp[argHp]
 |d :: ds,i,t+1,e,k,ns,off,n,h=>by
  have ih:=Xb (i:=i+1) (ds:=ds) (t:=t) (by simpa using h);rw[show i+1+t=i+(t+1) by omega]at ih;cases d with
  |io e' k' mZ bAJ n' =>
   simp only[argHp];rw[show bVP (i+(t+1)) i=false from by
    cases hb:bVP (i+(t+1)) i with
    |false=>rfl
    |true=>have:=bWD hb;omega]
   exact ih
  |s=>exact ih
  |rows=>exact ih
  |agg=>exact ih
  |own=>exact ih
  |back=>exact ih
theorem aBZ{Y:Nat->Prop}{w:World}{g:Nat->Nat}{i:Nat}{v:Value}{d:D}(hn:Dy d=false)(h:aEI Y w g i v d):lL Y w d v:=by
 cases d with
 |io=>cases hn
 |s x=>exact h
 |rows a b c=>exact h
 |agg cs=>exact h
 |own a b c=>exact h
 |back=>exact h
end
theorem oneOf(vs:List Value):(if h:vs.toArray.size=1 then vs.toArray[0]else Value.tuple vs.toArray)=resV vs:=by
 match vs with
 | []=>simp[resV]
 | [v]=>simp[resV]
 |_ :: _ :: _=>simp[resV]
theorem fn_core{P:Program}{E:Env}(hT:nU P E.T)(hC:jR P E)(hm:P.follows .mixedOrders=true){f:FuncId}{fn:Func}{c:Code}(hf:P.funcs[f]?=some fn)(hb:fn.body=some c)(bBQ:E.nt=fn.ntmps)
  {ds rs js:List D} (hle:ds.length<=fn.ntmps) (he:aH E fn c ds=some (rs ++ js)) (aKW:js.length=E.io.length) (jB:∀i,i∈E.io->i<E.n0)
  (Zm:∀(i:Nat) (d:D),ds[i]?=some d->Dy d=true->i∈E.io) (zW:∀i,i∈E.io->∃e k ns off n,ds[i]?=some (.io e k ns off n))
  {Y:Nat->Prop} {w:World} {vs:List Value} {g0:Nat->Nat} (hY:∀b,Y b->b<w.heap.size) (hG:GlobOk E.glob Y w) (hlen:ds.length=vs.length)
  (hargs:∀(i:Nat) (d:D) (v:Value),ds[i]?=some d->vs[i]?=some v->aEI Y w g0 i v d) (bCE:∀i j,i∈E.io->j∈E.io->g0 i=g0 j->i=j) :
  Calls P f vs.toArray w fun e w'=>∃tK,e=.returned (resV tK)/\Cy (Ct E.io g0) w w'/\Tk Y w.heap.size w' E.io js g0 rs tK/\∀(j i:Nat) (d:D),E.io[j]?=some i->js[j]?=some d->Tu w' (g0 i) d:=by
 refine calls_of_wp hf hb ?_;have bKH:∀i e k ns off n,ds[i]?=some (.io e k ns off n)->Y (g0 i)/\∃v,vs[i]?=some v/\aYJ w (g0 i) e k ns off n v:=by
  intro i e k ns off n hi;obtain⟨v,hv⟩:=bB (l:=vs) (i:=i) (by have:=aT hi;omega);have:=hargs i _ v hi hv;exact⟨this.1,v,hv,this.2⟩
 have bKE:∀b,Ct E.io g0 b->Y b:=by
  rintro b ⟨i,hi,rfl⟩;obtain⟨e,k,ns,off,n,h⟩:=zW i hi;exact(bKH i e k ns off n h).1
 obtain⟨w0,aFA⟩:∃w0:Old,w0=⟨w,Ct E.io g0,g0,fun b hb=>hY b (bKE b hb)⟩:=⟨_,rfl⟩;have aEZ:w0.w=w:=by rw[aFA]
 have aKM:w0.M=Ct E.io g0:=by rw[aFA]
 have bAY:w0.g=g0:=by rw[aFA]
 have bBM:∀j b,argHp 0 ds j=some b->j∈E.io/\∃e k ns off n,ds[j]?=some (.io e k ns off n)/\b=⟨e,.ints k ns⟩:=by
  intro j b hj;obtain⟨_,e,k,ns,off,n,h1,h2⟩:=Qe hj;rw[Nat.sub_zero]at h1;exact⟨Zm j _ h1 rfl,e,k,ns,off,n,h1,h2⟩
 have Zg:iU E (fun b=>Y b/\¬Ct E.io g0 b) w0 g0 (fun i=>i<E.n0) (Xc ds) (argHp 0 ds) { tmps:=vs.toArray ++ Array.replicate (fn.ntmps-vs.toArray.size) undef,defers:=[] } w:=by
  have hx:∀b,XO (fun b=>Y b/\¬Ct E.io g0 b) g0 (argHp 0 ds) b->Y b:=by
   rintro b (h |⟨i,bl,h,rfl⟩)
   ·exact h.1
   ·exact bKE _ ⟨i,(bBM i bl h).1,rfl⟩
  have hl:iA Y w (XO (fun b=>Y b/\¬Ct E.io g0 b) g0 (argHp 0 ds)) w:=⟨bVO _,fun b _ h=>⟨rfl,fun h'=>h (hx b h')⟩⟩;have uO:∀t,(∃d,ds[t]?=some d/\Xc ds t=argAt t d)\/Xc ds t=.any:=by
   intro t;have:=Mo (ds:=ds) (i:=0) (t:=t);rw[bVQ]at this;exact this
  refine { fr:=?_,sz:=by simp[bBQ];omega,nod:=rfl,blk:=?_,inj:=?_,alh:=?_,alr:=?_,below:=by rw[aEZ];exact Kept.refl _ _,x0:=?_,glob:=?_,mg:=?_,al0:=fun _ h=>h,vD:=fun _ _=>by rw[bAY] }
  ·intro t;rcases uO t with ⟨d,h1,h2⟩ |h
   ·rw[h2];have ht:=aT h1;obtain⟨v,hv⟩:=bB (l:=vs) (i:=t) (by omega);have e:(vs.toArray ++ Array.replicate (fn.ntmps-vs.toArray.size) undef).getD t undef=v:=by
     rw[Array.getD_eq_getD_getElem?,Array.getElem?_append_left (by simp;omega)];simp[hv]
    rw[e];cases hd:Dy d with
    |false =>
     have hr:=(aBZ hd (hargs t d v h1 hv)).later hl;cases d with
     |io=>cases hd
     |own e k ns=>exact hr
     |s x=>exact hr
     |rows a b c=>exact hr
     |agg cs=>exact hr
     |back=>exact hr.elim
    |true =>
     cases d with
     |io e' k ns off n =>
      obtain⟨_,v',aHB,⟨o',cap,h3,h4,h5,h6,h7⟩,_⟩:=bKH t _ _ _ _ _ h1;rw[hv]at aHB;cases aHB;refine⟨o',cap,h3,h4,h5,h6,fun blk k1 Xq tY Hz=>?_⟩;have:=Xb (i:=0) h1;rw[bVQ]at this;rw[this]at tY;cases tY;cases Hz;exact h7
     |own=>cases hd
     |s=>cases hd
     |rows=>cases hd
     |agg=>cases hd
     |back=>cases hd
   ·rw[h];trivial
  ·intro id b hb;obtain⟨h1,e,k,ns,off,n,h2,rfl⟩:=bBM id b hb;obtain⟨_,v,_,_,h3⟩:=bKH id _ _ _ _ _ h2;exact⟨.inr ⟨jB id h1,by rw[aKM];exact⟨id,h1,rfl⟩⟩,h3⟩
  ·intro id Xr b b' h1 h2 h3;exact bCE id Xr (bBM id b h1).1 (bBM Xr b' h2).1 h3
  ·intro id b h1;exact jB id (bBM id b h1).1
  ·intro t i hi;rcases uO t with ⟨d,h1,h2⟩ |h
   ·rw[h2]at hi;cases d with
    |io e' k ns off n =>
     simp[argAt,refs,refsV,refsL]at hi;subst hi;exact jB _ (Zm _ _ h1 rfl)
    |own=>cases hi
    |s=>cases hi
    |rows=>cases hi
    |agg=>cases hi
    |back=>cases hi
   ·rw[h]at hi;cases hi
  ·rintro b ⟨h1,h2⟩ (hm |hm)
   ·rw[aEZ]at hm;have:=hY b h1;omega
   ·rw[aKM]at hm;exact h2 hm
  ·rw[aEZ];intro g k ns hg;obtain⟨h1,h2,h3⟩:=hG g k ns hg;exact⟨h1,fun h=>h2 h.1,h3.later ⟨bVO _,fun b _ hb=>⟨rfl,fun h=>hb h.1⟩⟩⟩
  ·intro g q hg hm;rw[aKM]at hm;obtain⟨k,ns⟩:=q;exact(hG g k ns hg).2.1 (bKE _ hm)
 have bTL:∀b,Y b->(Y b/\¬Ct E.io g0 b)\/Ct E.io g0 b:=fun b hb=>by
  by_cases h:Ct E.io g0 b
  ·exact .inr h
  ·exact .inl ⟨hb,h⟩
 unfold aH at he;refine aAB hT hC hm _ c _ _ _ g0 _ w Zg he ?_;intro ex st ρ a' w' hK hs;have bJF:(∃i,ex=.exit i)\/(nodup (ownIds st fn.results.toList)=true/\fn.results.toList.mapM (resD E st)=some rs/\E.io.mapM (bAS st)=some js):=by
  have yL:(bif nodup (ownIds st fn.results.toList)then(match E.io with
  | []=>fn.results.toList.mapM (resD E st)
  |p :: ps=>match fn.results.toList.mapM (resD E st),(p :: ps).mapM (bAS st)with
   |some rs,some is=>some (rs ++ is)
   |_,_=>none)else none)=some (rs ++ js)->(nodup (ownIds st fn.results.toList)=true/\fn.results.toList.mapM (resD E st)=some rs/\E.io.mapM (bAS st)=some js):=by
   intro hK;cases hn:nodup (ownIds st fn.results.toList)with
   |false=>rw[hn]at hK;cases hK
   |true =>
    rw[hn]at hK;simp only[cond_true]at hK;refine⟨rfl,?_⟩
    match Lj:E.io,hK with
    | [],hK =>
     rw[Lj]at aKW;have:js=[]:=List.eq_nil_of_length_eq_zero aKW;subst this;rw[cAX]at hK;exact⟨hK,rfl⟩
    |p :: ps,hK =>
     simp only at hK;split at hK
     ·rename_i aPC js' h1 h2;have bIU:=(zM h2).1;rw[Lj]at aKW;have:=List.append_inj' (Option.some.inj hK) (by rw[bIU,aKW]);rw[h1,h2,this.1,this.2];exact⟨rfl,rfl⟩
     ·cases hK
  cases ex with
  |exit i=>exact .inl ⟨i,rfl⟩
  |normal=>exact .inr (yL hK)
  |ret=>exact .inr (yL hK)
 rcases bJF with ⟨i,rfl⟩ |⟨hn,bBH,bSH⟩
 ·cases hK
 have key:a'.defers=[]/\∃v,(results fn a'.tmps).run P w'=.ok v w'/\∃tK,Ending.returned v=.returned (resV tK)/\Cy (Ct E.io g0) w w'/\Tk Y w.heap.size w' E.io js g0 rs tK/\∀(j i:Nat) (d:D),E.io[j]?=some i->js[j]?=some d->Tu w' (g0 i) d:=by
  refine⟨hs.nod,?_⟩;obtain⟨bCA,aTT⟩:=zM bBH
  let X':Nat->Prop:=fun b=>Y b/\¬Ct E.io g0 b
  let aWW (r:ResultVar) (d:D) (v:Value):Prop:=(Fq a' r).run P w'=.ok v w'/\Good E X' w.heap.size st ρ w' r v d
  have hex:∀r,∃v,∀d,resD E st r=some d->aWW r d v:=by
   intro r;cases hd:resD E st r with
   |none=>exact⟨undef,fun d h=>by cases h⟩
   |some d =>
    obtain⟨v,h1,h2⟩:=Ys hT hs hd;rw[aEZ]at h2;exact⟨v,fun d' h=>by cases h;exact⟨h1,h2⟩⟩
  obtain⟨g,bSU⟩:=Classical.axiomOfChoice hex;have hg:∀r d,r∈fn.results.toList->resD E st r=some d->aWW r d (g r):=fun r d _ hd=>bSU r d hd
  have gF:(fn.results.mapM (Fq a')).run P w'=.ok (fn.results.toList.map g).toArray w' :=
   aKA fun r hr=>by
    obtain⟨i,hi⟩:=List.mem_iff_getElem?.1 hr;obtain⟨d,_,hd⟩:=aTT i r hi;exact(hg r d hr hd).1
  have Ru:(results fn a'.tmps).run P w'=.ok (resV (fn.results.toList.map g)) w':=by
   have e:results fn a'.tmps=(fn.results.mapM (Fq a') >>= fun vs=>pure (if h:vs.size=1 then vs[0]else Value.tuple vs)):=by
    unfold results;congr 1
   rw[e,Sem.run_bind,gF,Result.andThen_ok,Sem.run_pure];congr 1;exact oneOf _
  have Li:=hs.below;rw[aEZ]at Li;have bBC:Cy (Ct E.io g0) w w':=⟨Li.os,Li.tape,Li.output,Li.size,fun b hb hM=>Li.block b (fun hm=>by
   rcases hm with hm |hm
   ·rw[aEZ]at hm;omega
   ·rw[aKM]at hm;exact hM hm),fun b hM=>Li.room b (by rw[aKM];exact hM)⟩
  have aKX:∀(j i:Nat) (d:D),E.io[j]?=some i->js[j]?=some d->∃e k ns,d=.io e k ns 0 0/\st.hp i=some ⟨e,.ints k ns⟩/\ρ i=g0 i:=by
   intro j i d hj hd;obtain⟨_,h2⟩:=zM bSH;obtain⟨d',h3,h4⟩:=h2 j i hj;rw[hd]at h3;cases h3;unfold bAS at h4;split at h4
   ·rename_i e k ns hb;cases h4;refine⟨e,k,ns,rfl,hb,?_⟩;have:=hs.vD i (jB i (bVX hj));rw[bAY]at this;exact this
   ·cases h4
  have bTM:∀b,Y b->XO X' ρ st.hp b:=by
   intro b hb;rcases bTL b hb with h |⟨i,hi,rfl⟩
   ·exact .inl h
   ·obtain⟨j,hj⟩:=List.mem_iff_getElem?.1 hi;obtain⟨d,hd⟩:=bB (l:=js) (i:=j) (by have:=aT hj;omega);obtain⟨e,k,ns,_,h1,h2⟩:=aKX j i d hj hd;exact .inr ⟨i,_,h1,h2⟩
  refine⟨_,Ru,_,rfl,bBC,?_,?_⟩
  ·have bNW:∀(i:Nat) (d:D),rs[i]?=some d->∃r,fn.results.toList[i]?=some r/\resD E st r=some d/\aWW r d (g r):=by
    intro i d hi;obtain⟨r,hr⟩:=bB (l:=fn.results.toList) (i:=i) (by have:=aT hi;omega);obtain⟨d',h1,h2⟩:=aTT i r hr;rw[hi]at h1;cases h1;exact⟨r,hr,h2,hg r d (bVX hr) h2⟩
   let blk (i:Nat):Nat:=match fn.results.toList[i]? with
    |some r=>match ownOf st r with
     |some j=>ρ j
     |none=>0
    |none=>0
   have sR:∀(i:Nat) (d:D),rs[i]?=some d->kB d=true->∃r j b,fn.results.toList[i]?=some r/\ownOf st r=some j/\st.hp j=some b/\blk i=ρ j:=by
    intro i d hi ho;obtain⟨r,h1,h2,h3⟩:=bNW i d hi;cases d with
    |own e k ns =>
     obtain⟨_,j,h4,⟨b,h5⟩,_⟩:=h3;exact⟨r,j,b,h1,h4,h5,by simp only[blk,h1,h4]⟩
    |_=>cases ho
   refine⟨blk,by simp[bCA],?_,?_⟩
   ·intro i j d d' hi hj ho aHD Be;obtain⟨r,k,b,h1,h2,h3,h4⟩:=sR i d hi ho;obtain⟨r',k',b',Xy,aQW,bKP,bKO⟩:=sR j d' hj aHD;rw[h4,bKO]at Be;have:=hs.inj k k' b b' h3 bKP Be;subst this;exact Kp hn h1 Xy h2 aQW
   ·intro i d v hi hv;obtain⟨r,h1,h2,h3⟩:=bNW i d hi;have e:v=g r:=by
     rw[bVS,h1]at hv;exact(Option.some.inj hv).symm
    subst e;have hl:iA (XO X' ρ st.hp) w' (fun b=>Y b\/∃(j:Nat) (d':D),rs[j]?=some d'/\kB d'=true/\blk j=b) w':=by
     refine⟨bVO _,fun b _ hx=>⟨rfl,fun hb=>hx ?_⟩⟩;rcases hb with hb |⟨j,d',hj,ho,rfl⟩
     ·exact bTM b hb
     ·obtain⟨r',k,b',_,_,h5,h6⟩:=sR j d' hj ho;exact .inr ⟨k,b',h5,h6.symm⟩
    cases d with
    |own e k ns =>
     obtain⟨_,j,h4,_,h5⟩:=h3;have:blk i=ρ j:=by simp only[blk,h1,h4]
     show Qi _ _ (blk i) _ _ _ _;rw[this];exact h5
    |s x=>exact lL.later hl (d:=.s x) h3.2
    |rows sz n fr=>exact lL.later hl (d:=.rows sz n fr) h3.2
    |agg cs=>exact lL.later hl (d:=.agg cs) h3.2
    |io=>exact h3.2.elim
    |back p off n =>
     obtain⟨_,h4,h5⟩:=h3;obtain⟨j,hj⟩:=List.mem_iff_getElem?.1 h4;obtain⟨d,hd⟩:=bB (l:=js) (i:=j) (by have:=aT hj;omega);obtain⟨e,k,ns,rfl,h6,h7⟩:=aKX j p d hj hd;have:=h5 _ k ns h6 rfl;rw[h7]at this;exact⟨j,e,k,ns,hj,hd,this⟩
  ·intro j i d hj hd;obtain⟨e,k,ns,rfl,h1,h2⟩:=aKX j i d hj hd;have:=(hs.blk i _ h1).2;rw[h2]at this;exact this
 cases ex with
 |normal=>exact key
 |ret=>exact key
 |exit i=>cases hK
theorem Cy.below{M:Nat->Prop}(hM:∀b,¬M b){w w':World}(h:Cy M w w'):Below w.heap.size w w':=⟨h.os,h.tape,h.output,h.size,fun k hk=>h.block k hk (hM k)⟩
theorem fn_contract{P:Program}{E:Env}(hT:nU P E.T)(hC:jR P E)(hm:P.follows .mixedOrders=true){f:FuncId}{fn:Func}{c:Code}(hf:P.funcs[f]?=some fn)(hb:fn.body=some c)(bBQ:E.nt=fn.ntmps)(Lj:E.io=[])
  {ds rs:List D} (hle:ds.length<=fn.ntmps) (he:aH E fn c ds=some rs):Contract P E.glob f ds rs:=by
 intro Y w vs hY hG hlen hargs;have yS:∀(i:Nat) (d:D),ds[i]?=some d->Dy d=false:=by
  intro i d hi;obtain⟨v,hv⟩:=bB (l:=vs) (i:=i) (by have:=aT hi;omega);have:=hargs i d v hi hv;cases d with
  |io=>exact this.elim
  |s=>rfl
  |rows=>rfl
  |agg=>rfl
  |own=>rfl
  |back=>rfl
 have:=fn_core hT hC hm hf hb bBQ (rs:=rs) (js:=[]) hle (by rw[cAX];exact he) (by rw[Lj];rfl) (by rw[Lj];intro i hi;cases hi) (fun i d hi hd=>by rw[yS i d hi]at hd;cases hd) (by rw[Lj];intro i hi;cases hi) (g0:=fun _=>0) hY hG hlen (fun i d v hi hv=>Mn (yS i d hi) (hargs i d v hi hv)) (by rw[Lj];intro i j hi;cases hi);refine this.mono ?_;rintro e w' ⟨tK,h1,h2,⟨g,h3,h4,h5⟩,_⟩;refine⟨tK,h1,h2.below (fun b=>by rintro ⟨i,hi,_⟩;rw[Lj]at hi;cases hi),g,h3,h4,fun i d v hi hv=>?_⟩;have:=h5 i d v hi hv;cases d with
 |own e k ns=>exact this
 |s x=>exact this
 |rows a b c=>exact this
 |agg cs=>exact this
 |io=>exact this
 |back p off n =>
  obtain⟨j,e,k,ns,h6,_⟩:=this;rw[Lj]at h6;simp at h6
theorem Nz{P:Program}{E:Env}(hT:nU P E.T)(hC:jR P E)(hm:P.follows .mixedOrders=true){f:FuncId}{fn:Func}{c:Code}(hf:P.funcs[f]?=some fn)(hb:fn.body=some c)(bBQ:E.nt=fn.ntmps)(jB:∀i,i∈E.io->i<E.n0)
  {ds rs js:List D} (hle:ds.length<=fn.ntmps) (he:aH E fn c ds=some (rs ++ js)) (aKW:js.length=E.io.length) (hL:aTY E.io ds js) (Zm:∀(i:Nat) (d:D),ds[i]?=some d->Dy d=true->i∈E.io):oL P E.glob f E.io ds rs js:=by
 refine⟨aKW,hL,fun Y w vs g hY hG hlen hargs zU=>?_⟩;refine fn_core hT hC hm hf hb bBQ hle he aKW jB Zm (fun i hi=>?_) hY hG hlen hargs zU;obtain⟨j,hj⟩:=List.mem_iff_getElem?.1 hi;obtain⟨e,k,ns,off,n,_,_,_,h1,_⟩:=hL j i hj;exact⟨e,k,ns,off,n,h1⟩
def kindOf(P:Program):TypeDesc->Option TK
 | .bool=>some .bool
 | .int k=>some (.int k)
 | .float k=>some (.float k)
 | .slice e=>some (.slice e)
 | .string=>some .str
 | .struct fields=>(fields.toList.mapM fun(f:Field)=>match P.info? f.type,P.underlying f.type with
  |some fi,some fd=>some (f.offset,fi.size,sQ fd)
  |_,_=>none).map .struct
 | .array len e=>match P.info? e,P.underlying e with
  |some ei,some ed=>some (.arr len ei.size (sQ ed))
  |_,_=>none
 |_=>some .other
def tiOf(P:Program)(t:TypeId):Option TI:=match P.info? t,P.underlying t with
 |some i,some d=>match i.zero,kindOf P d with
  |some z,some k=>some ⟨i.size,i.bytes,z.cells.toList,k⟩
  |_,_=>none
 |_,_=>none
def aUI(ti:TI):Bool:=bVP ti.zero.length ti.size&&ti.zero.all fun v=>v.oneCell'
theorem aEX{P:Program}{d:TypeDesc}{k:TK}(h:kindOf P d=some k):Mz P k d:=by
 unfold kindOf at h;split at h
 ·cases h;rfl
 ·cases h;rfl
 ·cases h;rfl
 ·cases h;rfl
 ·cases h;rfl
 ·rename_i fields;cases hm:(fields.toList.mapM fun(f:Field)=>match P.info? f.type,P.underlying f.type with
   |some fi,some fd=>some (f.offset,fi.size,sQ fd)
   |_,_=>none)with
  |none=>rw[hm]at h;cases h
  |some fs =>
   rw[hm]at h;cases h;obtain⟨h1,h2⟩:=zM hm;refine⟨fields,rfl,by simpa using h1,fun i f hf=>?_⟩;obtain⟨y,e1,e2⟩:=h2 i f (by simpa using hf);split at e2
   ·rename_i fi fd bFH bSW;cases e2;exact⟨fi,fd,bFH,bSW,e1⟩
   ·cases e2
 ·rename_i len e;split at h
  ·rename_i ei ed bTC bFI;cases h;exact⟨e,ei,ed,rfl,bTC,rfl,bFI,rfl⟩
  ·cases h
 ·rename_i h1 h2 h3 h4 h5 h6 h7;cases h;show sQ d=false;cases d <;> first |rfl | (exfalso;exact h6 _ rfl) | (exfalso;exact h7 _ _ rfl)
def eqChk(P:Program)(t:TypeId)(ti:TI):Bool:=match xH ti with
 |some ks=>(match P.underlying t with
  |some (.struct fields)=>!P.stoodInHeld t&&(eqChkF P 0 fields.toList ks&&!P.eqGuardType P.depth t)
  |_=>false)
 |none=>true
theorem aLW{P:Program}{t:TypeId}{ti:TI}(h:eqChk P t ti=true)(ks:List EK)(hk:xH ti=some ks):aYL P t ks:=by
 unfold eqChk at h;rw[hk]at h;simp only at h;split at h
 ·rename_i fields hf;simp only[bVU,bWY]at h;exact⟨fields,hf,h.1,h.2.1,h.2.2⟩
 ·cases h
theorem aHZ{P:Program}{t:TypeId}{ti:TI}(h:tiOf P t=some ti)(hk:aUI ti=true)(hq:eqChk P t ti=true):Af P t ti:=by
 have heq:=aLW hq;unfold tiOf at h;split at h
 ·rename_i i d hi hd;split at h
  ·rename_i z k hz bSE;cases h;unfold aUI at hk;simp only[bVU]at hk;exact { i:=⟨i,hi,rfl,rfl,z,hz,rfl⟩,zl:=bWD hk.1,zo:=fun v hv=>List.all_eq_true.1 hk.2 v hv,d:=⟨d,hd,aEX bSE⟩,eq:=heq }
  ·cases h
 ·cases h
def tlook{α:Type}:List (Nat×α)->Nat->Option α
 | [],_=>none
 |p :: r,t=>bif bVP p.1 t then some p.2 else tlook r t
theorem wC{α:Type}:∀{l:List (Nat×α)} {t:Nat} {x:α},tlook l t=some x->(t,x)∈l
 | [],t,x,h=>by cases h
 |p :: r,t,x,h=>by
  simp only[tlook]at h;cases hb:bVP p.1 t with
  |true =>
   rw[hb]at h;cases h;have:=bWD hb;subst this;exact bVV ..
  |false=>rw[hb]at h;exact bVZ _ (wC h)
theorem aOS{P:Program}(Js:List (Nat×TI))(h:Js.map (fun p=>tiOf P p.1)=Js.map fun p=>some p.2)(hk:(Js.all fun p=>aUI p.2)=true)(hq:(Js.all fun p=>eqChk P p.1 p.2)=true):nU P (tlook Js):=by
 intro t ti ht;have hm:=wC ht;have h1:tiOf P t=some ti:=by
  have:=List.map_inj_left.1 h (t,ti) hm;exact this
 exact aHZ h1 (List.all_eq_true.1 hk (t,ti) hm) (List.all_eq_true.1 hq (t,ti) hm)
end AI
namespace AI
open Go Go.RowKit
theorem qD{R:Type}(E:Env)(draw:Bool)(ops:Array Oper)(base:Nat):∀(rest:List Oper) (i:Nat) (nW:List Rec) (st:St) (K:St->Option R),
  opsK E draw ops base rest i nW st K=(opsK E draw ops base rest i nW st some).bind K
 | [],i,nW,st,K=>rfl
 |o :: rest,i,nW,st,K=>by
  unfold opsK;cases (iT E.nt o&&(!draw||xR i o))with
  |false=>rfl
  |true =>
   simp only[cond_true];split
   ·rw[oR,oR];cases pV E (base+8*i) o (evA E st.fr) st.hp with
    |none=>rfl
    |some p =>
     simp only[bXG];cases (!draw||nW.all fun r=>indep ops r i o (tN o (evA E st.fr) p.2) (p.2.map (·.1)))with
     |false=>rfl
     |true=>exact qD E draw ops base rest (i+1) _ _ K
   ·split
    ·split
     ·rename_i want _ _ d _ _ b _;cases b with
      |true =>
       simp only[cond_true];cases (true==want)with
       |true =>
        simp only[cond_true];rw[oR,oR];cases pV E (base+8*i) o (evA E (Ay st.fr d (Bo (.bool true)))) st.hp with
        |none=>rfl
        |some p =>
         simp only[bXG];cases (!draw||nW.all fun r=>indep ops r i o (tN o (evA E (Ay st.fr d (Bo (.bool true)))) p.2) (p.2.map (·.1)))with
         |false=>rfl
         |true=>exact qD E draw ops base rest (i+1) _ _ K
       |false =>
        simp only[cond_false];cases (!draw||nW.all fun r=>indep ops r i o [] [])with
        |false=>rfl
        |true=>exact qD E draw ops base rest (i+1) _ _ K
      |false =>
       simp only[cond_false];cases (false==want)with
       |true =>
        simp only[cond_true];rw[oR,oR];cases pV E (base+8*i) o (evA E (Ay st.fr d (Bo (.bool false)))) st.hp with
        |none=>rfl
        |some p =>
         simp only[bXG];cases (!draw||nW.all fun r=>indep ops r i o (tN o (evA E (Ay st.fr d (Bo (.bool false)))) p.2) (p.2.map (·.1)))with
         |false=>rfl
         |true=>exact qD E draw ops base rest (i+1) _ _ K
       |false =>
        simp only[cond_false];cases (!draw||nW.all fun r=>indep ops r i o [] [])with
        |false=>rfl
        |true=>exact qD E draw ops base rest (i+1) _ _ K
     ·cases (!draw||nW.all fun r=>indep ops r i o [] [])with
      |false=>rfl
      |true=>exact qD E draw ops base rest (i+1) _ _ K
     ·rfl
    ·rfl
section
variable (n0:Nat) (keep:List Nat) (f:St->Option (Ex×St))
def runs:Nat->List KV->Option (Ex×St)
 |0,_=>none
 |n+1,l=>(f (mk n0 keep l)).bind fun p=>match p.1 with
  | .normal=>runs n (canon n0 keep p.2)
  | .exit i=>some (.exit i,p.2)
  | .ret=>some (.ret,p.2)
theorem Fo:∀(n k:Nat) (l:List KV) (p:Ex×St),runs n0 keep f n l=some p->runs n0 keep f (n+k) l=some p
 |0,_,_,_,h=>by cases h
 |n+1,k,l,p,h=>by
  rw[cCJ];simp only[runs]at h ⊢;cases hf:f (mk n0 keep l)with
  |none=>rw[hf]at h;cases h
  |some q =>
   rw[hf]at h;simp only[bXG]at h ⊢;obtain⟨ex,st⟩:=q;cases ex with
   |normal=>exact Fo n k _ p h
   |exit i=>exact h
   |ret=>exact h
theorem Kd{n m:Nat}{l:List KV}{p q:Ex×St}(h:runs n0 keep f n l=some p)(h':runs n0 keep f m l=some q):p=q:=by
 have h1:=Fo n0 keep f n m l p h;have h2:=Fo n0 keep f m n l q h';rw[cBR m n,h1]at h2;exact Option.some.inj h2
open Classical in
def aGX (l:List KV):Option (Ex×St):=if h:∃p,∃n,runs n0 keep f n l=some p then some (Classical.choose h)else none
theorem Kv{n:Nat}{l:List KV}{p:Ex×St}(h:runs n0 keep f n l=some p):aGX n0 keep f l=some p:=by
 unfold aGX;have hex:∃p,∃n,runs n0 keep f n l=some p:=⟨p,n,h⟩;rw[dif_pos hex];obtain⟨m,hm⟩:=Classical.choose_spec hex;rw[Kd n0 keep f hm h]
theorem Rk{l:List KV}{p:Ex×St}(h:aGX n0 keep f l=some p):∃n,runs n0 keep f n l=some p:=by
 unfold aGX at h;split at h
 ·rename_i hex;cases h;exact Classical.choose_spec hex
 ·cases h
theorem aVF(l:List KV):aGX n0 keep f l=(f (mk n0 keep l)).bind fun p=>match p.1 with
  | .normal=>aGX n0 keep f (canon n0 keep p.2)
  | .exit i=>some (.exit i,p.2)
  | .ret=>some (.ret,p.2):=by
 cases hf:f (mk n0 keep l)with
 |none =>
  cases hl:aGX n0 keep f l with
  |none=>rfl
  |some p =>
   obtain⟨n,hn⟩:=Rk n0 keep f hl;cases n with
   |zero=>cases hn
   |succ n=>simp only[runs,hf]at hn;cases hn
 |some q =>
  obtain⟨ex,st⟩:=q;simp only[bXG];cases ex with
  |normal =>
   simp only;cases hl:aGX n0 keep f (canon n0 keep st)with
   |some p =>
    obtain⟨n,hn⟩:=Rk n0 keep f hl;exact Kv n0 keep f (n:=n+1) (by simp only[runs,hf,bXG];exact hn)
   |none =>
    cases bFF:aGX n0 keep f l with
    |none=>rfl
    |some p =>
     obtain⟨n,hn⟩:=Rk n0 keep f bFF;cases n with
     |zero=>cases hn
     |succ n =>
      simp only[runs,hf,bXG]at hn;rw[Kv n0 keep f hn]at hl;cases hl
  |exit i=>exact Kv n0 keep f (n:=1) (by simp only[runs,hf,bXG])
  |ret=>exact Kv n0 keep f (n:=1) (by simp only[runs,hf,bXG])
def aHL{R:Type}(K:Ex->St->Option R)(rec:List KV->Option R)(l:List KV):Option R :=
 (f (mk n0 keep l)).bind fun p=>match p.1 with
  | .normal=>rec (canon n0 keep p.2)
  | .exit i=>K (.exit i) p.2
  | .ret=>K .ret p.2
theorem uI{R:Type}(K:Ex->St->Option R):∀(n:Nat) (l:List KV),iter (aHL n0 keep f K) n l=(runs n0 keep f n l).bind fun p=>K p.1 p.2
 |0,_=>rfl
 |n+1,l=>by
  simp only[iter,aHL,runs];cases f (mk n0 keep l)with
  |none=>rfl
  |some q =>
   obtain⟨ex,st⟩:=q;simp only[bXG];cases ex with
   |normal=>exact uI K n _
   |exit i=>rfl
   |ret=>rfl
theorem Sd{R:Type}(K:Ex->St->Option R)(l:List KV):fix (aHL n0 keep f K) l=(aGX n0 keep f l).bind fun p=>K p.1 p.2:=by
 cases hl:aGX n0 keep f l with
 |none =>
  unfold fix;rw[dif_neg]
  ·rfl
  ·rintro ⟨r,n,h⟩;rw[uI]at h;cases hr:runs n0 keep f n l with
   |none=>rw[hr]at h;cases h
   |some p=>rw[Kv n0 keep f hr]at hl;cases hl
 |some p =>
  obtain⟨n,hn⟩:=Rk n0 keep f hl;simp only[bXG];cases hK:K p.1 p.2 with
  |some r =>
   unfold fix;have hex:∃r,∃n,iter (aHL n0 keep f K) n l=some r:=⟨r,n,by rw[uI,hn];exact hK⟩;rw[dif_pos hex];obtain⟨m,hm⟩:=Classical.choose_spec hex;rw[uI]at hm;cases hr:runs n0 keep f m l with
   |none=>rw[hr]at hm;cases hm
   |some q =>
    rw[hr,Kd n0 keep f hr hn]at hm;simp only[bXG]at hm;rw[hK]at hm;exact hm.symm
  |none =>
   unfold fix;rw[dif_neg];rintro ⟨r,m,h⟩;rw[uI]at h;cases hr:runs n0 keep f m l with
   |none=>rw[hr]at h;cases h
   |some q =>
    rw[hr,Kd n0 keep f hr hn]at h;simp only[bXG]at h;rw[hK]at h;cases h
theorem aRC{R:Type}(K:Ex->St->Option R)(l:List KV):fix (aHL n0 keep f K) l=aHL n0 keep f K (fix (aHL n0 keep f K)) l:=by
 rw[Sd,aVF];unfold aHL;cases f (mk n0 keep l)with
 |none=>rfl
 |some q =>
  obtain⟨ex,st⟩:=q;simp only[bXG];cases ex with
  |normal=>exact(Sd n0 keep f K _).symm
  |exit i=>rfl
  |ret=>rfl
end
def condSt(c:Operand)(st:St):Option (Bool×St):=match c with
 | .tmp s=>match st.fr s with
  | .v (.one (.s (.sc (.bool t))))=>some (t,⟨Ay st.fr s (Bo (.bool t)),st.hp,st.n⟩)
  |_=>none
 | .const (.bool t)=>some (t,st)
 |_=>none
theorem Wq{R:Type}(E:Env)(c:Operand)(a b:Code)(st:St)(K:Ex->St->Option R):evalCode E (.cond c a b) st K=(condSt c st).bind fun p=>bif p.1 then evalCode E a p.2 K else evalCode E b p.2 K:=by
 cases c with
 |tmp s =>
  simp only[evalCode,condSt];split
  ·rename_i t h;simp only[h,bXG];cases t <;> rfl
  ·rename_i h;split
   ·rename_i t h';exact(h t h').elim
   ·rfl
 |const v=>cases v <;> simp only[evalCode,condSt] <;> rfl
 |_=>simp only[evalCode,condSt];rfl
theorem evalCode_bind(E:Env)(c:Code):∃f:St->Option (Ex×St),∀(st:St) {R:Type} (K:Ex->St->Option R),evalCode E c st K=(f st).bind fun p=>K p.1 p.2:=by
 induction c with
 |skip=>exact⟨fun st=>some (.normal,st),fun st R K=>rfl⟩
 |label l=>exact⟨fun st=>some (.normal,st),fun st R K=>rfl⟩
 |exit id=>exact⟨fun st=>some (.exit id,st),fun st R K=>rfl⟩
 |ret=>exact⟨fun st=>some (.ret,st),fun st R K=>rfl⟩
 |region id ops draw =>
  refine⟨fun st=>(opsK E draw ops st.n ops.toList 0 [] st some).bind fun fP=>some (.normal,⟨fP.fr,fP.hp,st.n+8*ops.size⟩),fun st R K=>?_⟩;unfold evalCode;rw[qD];simp only[];cases opsK E draw ops st.n ops.toList 0 [] st some <;> rfl
 |seq a b zR zQ =>
  obtain⟨f,hf⟩:=zR;obtain⟨g,hg⟩:=zQ;refine⟨fun st=>(f st).bind fun p=>match p.1 with
   | .normal=>match E.cut (keyOf b)with
    |some keep=>g (mk E.n0 keep (canon E.n0 keep p.2))
    |none=>g p.2
   | .exit i=>some (.exit i,p.2)
   | .ret=>some (.ret,p.2),fun st R K=>?_⟩
  unfold evalCode;rw[hf];simp only[];cases f st with
  |none=>rfl
  |some q =>
   obtain⟨ex,fP⟩:=q;cases ex with
   |normal =>
    simp only[bXG];cases E.cut (keyOf b)with
    |none=>exact hg fP K
    |some keep=>exact hg _ K
   |exit i=>rfl
   |ret=>rfl
 |cond cd a b zR zQ =>
  obtain⟨f,hf⟩:=zR;obtain⟨g,hg⟩:=zQ;refine⟨fun st=>(condSt cd st).bind fun p=>bif p.1 then f p.2 else g p.2,fun st R K=>?_⟩;rw[Wq];simp only[];cases condSt cd st with
  |none=>rfl
  |some p =>
   obtain⟨t,fP⟩:=p;cases t with
   |true=>exact hf _ K
   |false=>exact hg _ K
 |block id c ih =>
  obtain⟨f,hf⟩:=ih;refine⟨fun st=>(f st).bind fun p=>match p.1 with
   | .normal=>some (.normal,p.2)
   | .exit i=>bif bVP i id then some (.normal,p.2)else some (.exit i,p.2)
   | .ret=>some (.ret,p.2),fun st R K=>?_⟩
  unfold evalCode;rw[hf];simp only[];cases f st with
  |none=>rfl
  |some q =>
   obtain⟨ex,fP⟩:=q;cases ex with
   |normal=>rfl
   |exit i =>
    simp only[bXG];cases bVP i id <;> rfl
   |ret=>rfl
 |loop c ih =>
  obtain⟨f,hf⟩:=ih;have hG:∀{R:Type} (keep:List Nat) (K:Ex->St->Option R),(fun(rec:List KV->Option R) l=>evalCode E c (mk E.n0 keep l) fun ex fP=>match ex with
    | .normal=>rec (canon E.n0 keep fP)
    | .exit i=>K (.exit i) fP
    | .ret=>K .ret fP)=aHL E.n0 keep f K:=by
   intro R keep K;funext rec l;rw[hf];unfold aHL;cases f (mk E.n0 keep l)with
   |none=>rfl
   |some q=>obtain⟨ex,fP⟩:=q;cases ex <;> rfl
  refine⟨fun st=>match E.roll (keyOf c)with
   |some n=>runs E.n0 (E.keep (keyOf c)) f n (canon E.n0 (E.keep (keyOf c)) st)
   |none=>aGX E.n0 (E.keep (keyOf c)) f (canon E.n0 (E.keep (keyOf c)) st),fun st R K=>?_⟩
  simp only[evalCode];cases E.roll (keyOf c)with
  |some n=>exact(congrArg (fun G=>iter G n (canon E.n0 (E.keep (keyOf c)) st)) (hG _ K)).trans (uI _ _ _ _ _ _)
  |none=>exact(congrArg (fun G=>fix G (canon E.n0 (E.keep (keyOf c)) st)) (hG _ K)).trans (Sd _ _ _ _ _)
 |rangeFunc f ps x y _ _=>exact⟨fun _=>none,fun st R K=>rfl⟩
 |scope c ih =>
  obtain⟨f,hf⟩:=ih;exact⟨f,fun st R K=>by unfold evalCode;exact hf st K⟩
 |goto l=>exact⟨fun _=>none,fun st R K=>rfl⟩
 |refuse bLT=>exact⟨fun _=>none,fun st R K=>rfl⟩
theorem aQB{R:Type}(E:Env)(keep:List Nat)(c:Code)(K:Ex->St->Option R)(l:List KV) :
  fix (roundOf (evalCode E) E.n0 keep c K) l=roundOf (evalCode E) E.n0 keep c K (fix (roundOf (evalCode E) E.n0 keep c K)) l:=by
 obtain⟨f,hf⟩:=evalCode_bind E c;have hG:roundOf (evalCode E) E.n0 keep c K=aHL E.n0 keep f K:=by
  funext rec l;unfold roundOf;rw[hf];unfold aHL;cases f (mk E.n0 keep l)with
  |none=>rfl
  |some q=>obtain⟨ex,fP⟩:=q;cases ex <;> rfl
 rw[hG];exact aRC E.n0 keep f K l
def Gb(E:Env)(fn:Func)(c:Code)(key:Nat)(l:List KV):Option (List D) :=
 match findLoop E key c (qK E fn)with
 |some (b,K)=>fix (roundOf (evalCode E) E.n0 (E.keep key) b K) l
 |none=>none
def Rc(E:Env)(fn:Func)(c:Code)(key:Nat)(l:List KV):Option (List D) :=
 match findLoop E key c (qK E fn)with
 |some (b,K)=>roundOf (evalCode E) E.n0 (E.keep key) b K (fix (roundOf (evalCode E) E.n0 (E.keep key) b K)) l
 |none=>none
theorem aEW(E:Env)(fn:Func)(c:Code)(key:Nat)(l:List KV):Gb E fn c key l=Rc E fn c key l:=by
 unfold Gb Rc;cases findLoop E key c (qK E fn)with
 |none=>rfl
 |some p=>exact aQB E _ p.1 p.2 l
def cutAt(E:Env)(fn:Func)(c:Code)(key:Nat)(l:List KV):Option (List D) :=
 match eY E key c (qK E fn),E.cut key with
 |some (b,K),some keep=>Bi key l fun l=>evalCode E b (mk E.n0 keep l) K
 |_,_=>none
def Sq(E:Env)(fn:Func)(c:Code)(key:Nat)(l:List KV):Option (List D) :=
 match eY E key c (qK E fn),E.cut key with
 |some (b,K),some keep=>evalCode E b (mk E.n0 keep l) K
 |_,_=>none
theorem aMM(E:Env)(fn:Func)(c:Code)(key:Nat)(l:List KV):cutAt E fn c key l=Sq E fn c key l:=by
 unfold cutAt Sq Bi;rfl
end AI
namespace AI
open Go Go.RowKit
theorem Contract.of{P:Program}{G:Nat->Option (IntKind×List Int)}{f:FuncId}{ds ds' rs:List D}(h:Contract P G f ds' rs)(hl:ds.length=ds'.length)
  (hd:∀(i:Nat) (d d':D),ds[i]?=some d->ds'[i]?=some d'->∀(Y:Nat->Prop) (w:World) (v:Value),lL Y w d v->lL Y w d' v):Contract P G f ds rs:=by
 intro Y w vs hY hG hlen hargs;refine h Y w vs hY hG (by omega) fun i d' v hi hv=>?_
 obtain⟨d,yV⟩:=bB (l:=ds) (i:=i) (by have:=aT hi;omega);exact hd i d d' yV hi Y w v (hargs i d v yV hv)
def dI(k:IntKind):D->Option (List Int)
 | .s (.ints k' ns)=>if _h:k=k' then some ns else none
 | .s (.sc (.slice none 0 0))=>some []
 |_=>none
def dN(k:IntKind):D->Option Int
 | .s (.sc (.int k' n))=>if _h:k=k' then some n else none
 |_=>none
def dB:D->Option Bool
 | .s (.sc (.bool b))=>some b
 |_=>none
def Cj(d d':D):Prop:=∀(Y:Nat->Prop) (w:World) (v:Value),lL Y w d v->lL Y w d' v
theorem Cj.refl(d:D):Cj d d:=fun _ _ _ h=>h
theorem bDS{k:IntKind}{d:D}{ns:List Int}(h:dI k d=some ns):Cj d (.s (.ints k ns)):=by
 intro Y w v hr;unfold dI at h;split at h
 ·split at h
  ·rename_i hk;cases h;subst hk;exact hr
  ·cases h
 ·cases h;obtain⟨rfl,_⟩:=hr;exact⟨none,0,rfl,bVO _,fun i n hn=>by simp at hn⟩
 ·cases h
theorem bDR{k:IntKind}{d:D}{n:Int}(h:dN k d=some n):d=.s (.sc (.int k n)):=by
 unfold dN at h;split at h
 ·split at h
  ·rename_i hk;cases h;subst hk;rfl
  ·cases h
 ·cases h
theorem bDQ{k:IntKind}{d:D}{n:Int}(h:dN k d=some n):Cj d (.s (.sc (.int k n))):=by rw[bDR h];exact Cj.refl _
theorem bDV{d:D}{b:Bool}(h:dB d=some b):d=.s (.sc (.bool b)):=by
 unfold dB at h;split at h
 ·cases h;rfl
 ·cases h
theorem bDU{d:D}{b:Bool}(h:dB d=some b):Cj d (.s (.sc (.bool b))):=by rw[bDV h];exact Cj.refl _
theorem Contract.bGZ{P:Program}{G:Nat->Option (IntKind×List Int)}{f:FuncId}{d d':D}{rs:List D}(h:Contract P G f [d'] rs)(hd:Cj d d'):Contract P G f [d] rs :=
 h.of rfl fun i x x' hx yU=>by
  match i with
  |0=>simp at hx yU;subst hx;subst yU;exact hd
  |i+1=>simp at hx
theorem Contract.bGY{P:Program}{G:Nat->Option (IntKind×List Int)}{f:FuncId}{d d' e e':D}{rs:List D}(h:Contract P G f [d',e'] rs)(hd:Cj d d')(he:Cj e e'):Contract P G f [d,e] rs :=
 h.of rfl fun i x x' hx yU=>by
  match i with
  |0=>simp at hx yU;subst hx;subst yU;exact hd
  |1=>simp at hx yU;subst hx;subst yU;exact he
  |i+2=>simp at hx
theorem Contract.bLZ{P:Program}{G:Nat->Option (IntKind×List Int)}{f:FuncId}{d d' e e' g g':D}{rs:List D}(h:Contract P G f [d',e',g'] rs)(hd:Cj d d')(he:Cj e e')(hg:Cj g g'):Contract P G f [d,e,g] rs :=
 h.of rfl fun i x x' hx yU=>by
  match i with
  |0=>simp at hx yU;subst hx;subst yU;exact hd
  |1=>simp at hx yU;subst hx;subst yU;exact he
  |2=>simp at hx yU;subst hx;subst yU;exact hg
  |i+3=>simp at hx
theorem Contract.bLY{P:Program}{G:Nat->Option (IntKind×List Int)}{f:FuncId}{d d' e e' g g' k k':D}{rs:List D}(h:Contract P G f [d',e',g',k'] rs)(hd:Cj d d')(he:Cj e e')(hg:Cj g g')(hk:Cj k k'):Contract P G f [d,e,g,k] rs :=
 h.of rfl fun i x x' hx yU=>by
  match i with
  |0=>simp at hx yU;subst hx;subst yU;exact hd
  |1=>simp at hx yU;subst hx;subst yU;exact he
  |2=>simp at hx yU;subst hx;subst yU;exact hg
  |3=>simp at hx yU;subst hx;subst yU;exact hk
  |i+4=>simp at hx
abbrev dK:=List D->Option (Prop×List D)
def kY(P:Program)(G:Nat->Option (IntKind×List Int))(f:FuncId)(o:dK):Prop :=
 ∀ds g rs,o ds=some (g,rs)->g->Contract P G f ds rs/\oG P f
def callsOf(Js:List (Nat×dK))(f:FuncId)(ds:List D):Option (Prop×List D):=match tlook Js f with
 |some o=>o ds
 |none=>none
theorem lY{P:Program}{E:Env}(Js:List (Nat×dK))(hC:E.C=callsOf Js)(h:∀p∈Js,kY P E.glob p.1 p.2)
  (hx:∀f vs g rs,E.ext f vs=some (g,rs)->g->(∀v∈rs,v.oneCell'=true)/\∀w,(callFunc f vs.toArray).run P w=.ok (.value (resV rs)) w) (hF:E.ioF=(fun _=>[]):=by rfl):jR P E:=by
 refine⟨fun f ds g rs _ he hg=>?_,fun f p ps ds g rs he=>(by rw[hF]at he;cases he),hx⟩;rw[hC]at he;unfold callsOf at he;split at he
 ·rename_i o ho;exact h _ (wC ho) ds g rs he hg
 ·cases he
theorem aD{P:Program}{G:Nat->Option (IntKind×List Int)}:∀p∈([]:List (Nat×dK)),kY P G p.1 p.2:=fun _ h=>by cases h
theorem aA{P:Program}{G:Nat->Option (IntKind×List Int)}{f:Nat}{o:dK}{Js:List (Nat×dK)}(h:kY P G f o)(ht:∀p∈Js,kY P G p.1 p.2):∀p∈(f,o) :: Js,kY P G p.1 p.2:=by
 intro p hp;rcases List.mem_cons.1 hp with rfl |hp
 ·exact h
 ·exact ht p hp
def pW(P:Program)(G:Nat->Option (IntKind×List Int))(f:FuncId)(o:dK):Prop :=
 ∀ds g rs,o ds=some (g,rs)->g->(∃Fp js,rs=Fp ++ js/\oL P G f [0] ds Fp js)/\oG P f
def rA(aOV:List (Nat×dK))(r:FuncId->List D->Option (Prop×List D))(f:FuncId)(ds:List D):Option (Prop×List D):=match tlook aOV f with
 |some o=>o ds
 |none=>r f ds
def Nv(aOV:List (Nat×dK))(f:FuncId):List Nat:=match tlook aOV f with
 |some _=>[0]
 |none=>[]
theorem lZ{P:Program}{E:Env}(aOV Js:List (Nat×dK))(hC:E.C=rA aOV (callsOf Js))(hF:E.ioF=Nv aOV)(hi:∀p∈aOV,pW P E.glob p.1 p.2)(h:∀p∈Js,kY P E.glob p.1 p.2)
  (hx:∀f vs g rs,E.ext f vs=some (g,rs)->g->(∀v∈rs,v.oneCell'=true)/\∀w,(callFunc f vs.toArray).run P w=.ok (.value (resV rs)) w):jR P E:=by
 refine⟨fun f ds g rs h0 he hg=>?_,fun f p ps ds g rs h0 he hg=>?_,hx⟩
 ·rw[hF]at h0;rw[hC]at he;unfold Nv at h0;unfold rA at he;cases ht:tlook aOV f with
  |some o=>rw[ht]at h0;cases h0
  |none =>
   rw[ht]at he;simp only at he;unfold callsOf at he;split at he
   ·rename_i o ho;exact h _ (wC ho) ds g rs he hg
   ·cases he
 ·rw[hF]at h0;rw[hC]at he;unfold Nv at h0;unfold rA at he;cases ht:tlook aOV f with
  |none=>rw[ht]at h0;cases h0
  |some o =>
   rw[ht]at h0 he;simp only at h0 he;cases h0;obtain⟨⟨Fp,js,h1,h2⟩,h3⟩:=hi _ (wC ht) ds g rs he hg;exact⟨Fp,js,h1,h2,h3⟩
theorem xN{P:Program}{G:Nat->Option (IntKind×List Int)}:∀p∈([]:List (Nat×dK)),pW P G p.1 p.2:=fun _ h=>by cases h
theorem mH{P:Program}{G:Nat->Option (IntKind×List Int)}{f:Nat}{o:dK}{Js:List (Nat×dK)}(h:pW P G f o)(ht:∀p∈Js,pW P G p.1 p.2):∀p∈(f,o) :: Js,pW P G p.1 p.2:=by
 intro p hp;rcases List.mem_cons.1 hp with rfl |hp
 ·exact h
 ·exact ht p hp
theorem oL.bQA{P:Program}{G:Nat->Option (IntKind×List Int)}{f:FuncId}{d:D}{ds ds' rs js:List D}(h:oL P G f [0] (d :: ds') rs js)(hl:ds.length=ds'.length)
  (hd:∀(i:Nat) (x x':D),ds[i]?=some x->ds'[i]?=some x'->Dy x=false/\Dy x'=false/\Cj x x'):oL P G f [0] (d :: ds) rs js:=by
 refine⟨h.len,fun j i hj=>?_,fun Y w vs g hY hG hlen hargs zU=>?_⟩
 ·obtain⟨e,k,ns,off,n,e',k',mZ,h1,h2,h3⟩:=h.io j i hj;have hi:i=0:=by
   match j with
   |0=>simp at hj;exact hj.symm
   |j+1=>simp at hj
  subst hi;exact⟨e,k,ns,off,n,e',k',mZ,by simpa using h1,h2,h3⟩
 ·refine h.run Y w vs g hY hG (by simp at hlen ⊢;omega) (fun i x' v hi hv=>?_) zU
  match i with
  |0=>exact hargs 0 x' v (by simpa using hi) hv
  |i+1 =>
   have hi:ds'[i]?=some x':=by simpa using hi
   obtain⟨x,hx⟩:=bB (l:=ds) (i:=i) (by have:=aT hi;omega);obtain⟨h1,h2,h3⟩:=hd i x x' hx hi;exact Mn h2 (h3 Y w v (aBZ h1 (hargs (i+1) x v (by simpa using hx) hv)))
def aEH(P:Program)(ext:FuncId->List Value->Option (Prop×List Value)):Prop:=∀f vs g rs,ext f vs=some (g,rs)->g->(∀v∈rs,v.oneCell'=true)/\∀w,(callFunc f vs.toArray).run P w=.ok (.value (resV rs)) w
end AI
namespace AI
open Go Go.RowKit
section
variable {R:Type} (E:Env) (J L:Nat->List KV->Option R)
def evalJ:Code->St->(Ex->St->Option R)->Option R
 | .skip,st,K=>K .normal st
 | .label _,st,K=>K .normal st
 | .region _ ops draw,st,K=>opsK E draw ops st.n ops.toList 0 [] st fun fP=>K .normal ⟨fP.fr,fP.hp,st.n+8*ops.size⟩
 | .seq a b,st,K=>evalJ a st fun ex fP=>match ex with
  | .normal=>match E.cut (keyOf b)with
   |some keep=>J (keyOf b) (canon E.n0 keep fP)
   |none=>evalJ b fP K
  | .exit i=>K (.exit i) fP
  | .ret=>K .ret fP
 | .cond c a b,st,K=>match c with
  | .tmp s=>match st.fr s with
   | .v (.one (.s (.sc (.bool t))))=>aB t (evalJ a ⟨Ay st.fr s (Bo (.bool true)),st.hp,st.n⟩ K) (evalJ b ⟨Ay st.fr s (Bo (.bool false)),st.hp,st.n⟩ K)
   |_=>none
  | .const (.bool t)=>aB t (evalJ a st K) (evalJ b st K)
  |_=>none
 | .block id c,st,K=>evalJ c st fun ex fP=>match ex with
  | .normal=>K .normal fP
  | .exit i=>bif bVP i id then K .normal fP else K (.exit i) fP
  | .ret=>K .ret fP
 | .exit id,st,K=>K (.exit id) st
 | .ret,st,K=>K .ret st
 | .loop c,st,_=>L (keyOf c) (canon E.n0 (E.keep (keyOf c)) st)
 | .scope c,st,K=>evalJ c st K
 |_,_,_=>none
def aBU(b:Code)(K:Ex->St->Option R)(ex:Ex)(fP:St):Option R:=match ex with
 | .normal=>match E.cut (keyOf b)with
  |some keep=>J (keyOf b) (canon E.n0 keep fP)
  |none=>evalJ E J L b fP K
 | .exit i=>K (.exit i) fP
 | .ret=>K .ret fP
def Rq(c:Code)(K:Ex->St->Option R)(ex:Ex)(fP:St):Option R:=match ex with
 | .normal=>L (keyOf c) (canon E.n0 (E.keep (keyOf c)) fP)
 | .exit i=>K (.exit i) fP
 | .ret=>K .ret fP
def findLoopJ(key:Nat):Code->(Ex->St->Option R)->Option (Code×(Ex->St->Option R))
 | .seq a b,K=>(findLoopJ key a (aBU E J L b K)).or (findLoopJ key b K)
 | .cond _ a b,K=>(findLoopJ key a K).or (findLoopJ key b K)
 | .block id c,K=>findLoopJ key c (Mi id K)
 | .loop c,K=>bif bVP (keyOf c) key then some (c,K)else findLoopJ key c (Rq E L c K)
 | .scope c,K=>findLoopJ key c K
 |_,_=>none
def kV(key:Nat):Code->(Ex->St->Option R)->Option (Code×(Ex->St->Option R))
 | .seq a b,K=>bif bVP (keyOf b) key then some (b,K)else(kV key a (aBU E J L b K)).or (kV key b K)
 | .cond _ a b,K=>(kV key a K).or (kV key b K)
 | .block id c,K=>kV key c (Mi id K)
 | .loop c,K=>kV key c (Rq E L c K)
 | .scope c,K=>kV key c K
 |_,_=>none
end
def loopKeys:Code->List Nat
 | .seq a b=>loopKeys a ++ loopKeys b
 | .cond _ a b=>loopKeys a ++ loopKeys b
 | .block _ c=>loopKeys c
 | .loop c=>keyOf c :: loopKeys c
 | .scope c=>loopKeys c
 |_=>[]
def gD(E:Env):Code->List Nat
 | .seq a b=>(match E.cut (keyOf b)with |some _=>[keyOf b] |none=>[]) ++ (gD E a ++ gD E b)
 | .cond _ a b=>gD E a ++ gD E b
 | .block _ c=>gD E c
 | .loop c=>gD E c
 | .scope c=>gD E c
 |_=>[]
theorem nodup_iff:∀{xs:List Nat},nodup xs=true↔xs.Nodup
 | []=>by simp[nodup]
 |x :: xs=>by
  have ih:=nodup_iff (xs:=xs);simp only[nodup,bVU,bWY,cAC,ih];constructor
  ·rintro ⟨h1,h2⟩;refine⟨fun hm=>?_,h2⟩;have:xs.elem x=true:=List.elem_eq_true_of_mem hm;rw[this]at h1;cases h1
  ·rintro ⟨h1,h2⟩;refine⟨?_,h2⟩;cases hb:xs.elem x with
   |false=>rfl
   |true=>exact(h1 (List.mem_of_elem_eq_true hb)).elim
section
variable {R:Type} (E:Env)
theorem qZ(key:Nat):∀(c:Code) (K:Ex->St->Option R),(findLoop E key c K).isSome=true↔key∈loopKeys c:=by
 intro c
 induction c with
 |seq a b zR zQ =>
  intro K;simp only[findLoop,loopKeys,bWR,cBS,bXA,zR,zQ]
 |cond cd a b zR zQ =>
  intro K;simp only[findLoop,loopKeys,bWR,cBS,bXA,zR,zQ]
 |block id c ih=>intro K;simp only[findLoop,loopKeys,ih]
 |scope c ih=>intro K;simp only[findLoop,loopKeys,ih]
 |loop c ih =>
  intro K;simp only[findLoop,loopKeys,bWW];cases hb:bVP (keyOf c) key with
  |true=>simp[(bWD hb)]
  |false =>
   have:key≠keyOf c:=fun h=>by subst h;rw[bZV]at hb;cases hb
   simp only[cond_false,ih,this,false_or]
 |_=>intro K;simp[findLoop,loopKeys]
theorem uC{key:Nat}:∀{c:Code},key∈gD E c->(E.cut key).isSome=true:=by
 intro c
 induction c with
 |seq a b zR zQ =>
  intro h;simp only[gD,bWR]at h;rcases h with h |h |h
  ·split at h
   ·rename_i keep hk;simp at h;subst h;rw[hk];rfl
   ·cases h
  ·exact zR h
  ·exact zQ h
 |cond cd a b zR zQ =>
  intro h;simp only[gD,bWR]at h;exact h.elim zR zQ
 |block id c ih=>intro h;exact ih h
 |scope c ih=>intro h;exact ih h
 |loop c ih=>intro h;exact ih h
 |_=>intro h;simp[gD]at h
theorem tZ{key:Nat}(hk:(E.cut key).isSome=true):∀(c:Code) (K:Ex->St->Option R),(eY E key c K).isSome=true↔key∈gD E c:=by
 intro c
 induction c with
 |seq a b zR zQ =>
  intro K;simp only[eY,gD,bWR];cases hb:bVP (keyOf b) key with
  |true =>
   have:=bWD hb;subst this;cases hc:E.cut (keyOf b)with
   |none=>rw[hc]at hk;cases hk
   |some x=>simp
  |false =>
   have hn:key≠keyOf b:=fun h=>by subst h;rw[bZV]at hb;cases hb
   simp only[cond_false,cBS,bXA,zR,zQ];constructor
   ·intro h;exact .inr h
   ·rintro (h |h)
    ·split at h
     ·simp at h;exact(hn h).elim
     ·cases h
    ·exact h
 |cond cd a b zR zQ =>
  intro K;simp only[eY,gD,bWR,cBS,bXA,zR,zQ]
 |block id c ih=>intro K;simp only[eY,gD,ih]
 |scope c ih=>intro K;simp only[eY,gD,ih]
 |loop c ih=>intro K;simp only[eY,gD,ih]
 |_=>intro K;simp[eY,gD]
theorem Iw{α:Type}{x y:Option α}(h:x.isSome=true):x.or y=x:=by cases x <;> simp_all
theorem Du{α:Type}{x y:Option α}(h:¬x.isSome=true):x.or y=y:=by cases x <;> simp_all
structure Sub(c0:Code)(K0:Ex->St->Option R)(c:Code)(K:Ex->St->Option R):Prop where
 lp:∀key,key∈loopKeys c->findLoop E key c0 K0=findLoop E key c K
 ct:∀key,key∈gD E c->eY E key c0 K0=eY E key c K
 dl:(loopKeys c).Nodup
 dc:(gD E c).Nodup
variable {E} {c0:Code} {K0:Ex->St->Option R}
theorem Sub.seq1{a b:Code}{K:Ex->St->Option R}(h:Sub E c0 K0 (.seq a b) K):Sub E c0 K0 a (Yo E b K):=by
 have hl:=h.dl;have hc:=h.dc;simp only[loopKeys]at hl;simp only[gD]at hc;refine⟨fun key hk=>?_,fun key hk=>?_,(List.nodup_append.1 hl).1,(List.nodup_append.1 (List.nodup_append.1 hc).2.1).1⟩
 ·rw[h.lp key (by simp only[loopKeys,bWR];exact .inl hk),findLoop];exact Iw ((qZ E key a _).2 hk)
 ·rw[h.ct key (by simp only[gD,bWR];exact .inr (.inl hk)),eY];have hs:=uC E hk;cases hb:bVP (keyOf b) key with
  |true =>
   exfalso;have:=bWD hb;subst this;cases hx:E.cut (keyOf b)with
   |none=>rw[hx]at hs;cases hs
   |some x =>
    rw[hx]at hc;exact(List.nodup_append.1 hc).2.2 (keyOf b) (by simp) (keyOf b) (List.mem_append.2 (.inl hk)) rfl
  |false =>
   simp only[cond_false];exact Iw ((tZ E hs a _).2 hk)
theorem Sub.Yp{a b:Code}{K:Ex->St->Option R}(h:Sub E c0 K0 (.seq a b) K):Sub E c0 K0 b K:=by
 have hl:=h.dl;have hc:=h.dc;simp only[loopKeys]at hl;simp only[gD]at hc;refine⟨fun key hk=>?_,fun key hk=>?_,(List.nodup_append.1 hl).2.1,(List.nodup_append.1 (List.nodup_append.1 hc).2.1).2.1⟩
 ·rw[h.lp key (by simp only[loopKeys,bWR];exact .inr hk),findLoop];refine Du fun hx=>?_
  exact(List.nodup_append.1 hl).2.2 key ((qZ E key a _).1 hx) key hk rfl
 ·rw[h.ct key (by simp only[gD,bWR];exact .inr (.inr hk)),eY];have hs:=uC E hk;cases hb:bVP (keyOf b) key with
  |true =>
   exfalso;have:=bWD hb;subst this;cases hx:E.cut (keyOf b)with
   |none=>rw[hx]at hs;cases hs
   |some x =>
    rw[hx]at hc;exact(List.nodup_append.1 hc).2.2 (keyOf b) (by simp) (keyOf b) (List.mem_append.2 (.inr hk)) rfl
  |false =>
   simp only[cond_false];refine Du fun hx=>?_
   exact(List.nodup_append.1 (List.nodup_append.1 hc).2.1).2.2 key ((tZ E hs a _).1 hx) key hk rfl
theorem Sub.Wt{cd:Operand}{a b:Code}{K:Ex->St->Option R}(h:Sub E c0 K0 (.cond cd a b) K):Sub E c0 K0 a K:=by
 have hl:=h.dl;have hc:=h.dc;simp only[loopKeys]at hl;simp only[gD]at hc;refine⟨fun key hk=>?_,fun key hk=>?_,(List.nodup_append.1 hl).1,(List.nodup_append.1 hc).1⟩
 ·rw[h.lp key (by simp only[loopKeys,bWR];exact .inl hk),findLoop];exact Iw ((qZ E key a _).2 hk)
 ·rw[h.ct key (by simp only[gD,bWR];exact .inl hk),eY];exact Iw ((tZ E (uC E hk) a _).2 hk)
theorem Sub.Wr{cd:Operand}{a b:Code}{K:Ex->St->Option R}(h:Sub E c0 K0 (.cond cd a b) K):Sub E c0 K0 b K:=by
 have hl:=h.dl;have hc:=h.dc;simp only[loopKeys]at hl;simp only[gD]at hc;refine⟨fun key hk=>?_,fun key hk=>?_,(List.nodup_append.1 hl).2.1,(List.nodup_append.1 hc).2.1⟩
 ·rw[h.lp key (by simp only[loopKeys,bWR];exact .inr hk),findLoop];refine Du fun hx=>?_
  exact(List.nodup_append.1 hl).2.2 key ((qZ E key a _).1 hx) key hk rfl
 ·rw[h.ct key (by simp only[gD,bWR];exact .inr hk),eY];refine Du fun hx=>?_
  exact(List.nodup_append.1 hc).2.2 key ((tZ E (uC E hk) a _).1 hx) key hk rfl
theorem Sub.block{id:Nat}{c:Code}{K:Ex->St->Option R}(h:Sub E c0 K0 (.block id c) K):Sub E c0 K0 c (Mi id K) :=
 ⟨fun key hk=>h.lp key hk,fun key hk=>h.ct key hk,h.dl,h.dc⟩
theorem Sub.scope{c:Code}{K:Ex->St->Option R}(h:Sub E c0 K0 (.scope c) K):Sub E c0 K0 c K :=
 ⟨fun key hk=>h.lp key hk,fun key hk=>h.ct key hk,h.dl,h.dc⟩
theorem Sub.loop{c:Code}{K:Ex->St->Option R}(h:Sub E c0 K0 (.loop c) K):Sub E c0 K0 c (Ph E c K):=by
 have hl:=h.dl;simp only[loopKeys,cAC]at hl;refine⟨fun key hk=>?_,fun key hk=>h.ct key hk,hl.2,h.dc⟩;rw[h.lp key (by simp only[loopKeys,bWW];exact .inr hk),findLoop];cases hb:bVP (keyOf c) key with
 |true=>have:=bWD hb;subst this;exact(hl.1 hk).elim
 |false=>rfl
def Ku(E:Env)(c0:Code)(K0:Ex->St->Option R)(key:Nat)(l:List KV):Option R :=
 match findLoop E key c0 K0 with
 |some (b,K)=>fix (roundOf (evalCode E) E.n0 (E.keep key) b K) l
 |none=>none
def Og(E:Env)(c0:Code)(K0:Ex->St->Option R)(key:Nat)(l:List KV):Option R :=
 match eY E key c0 K0,E.cut key with
 |some (b,K),some keep=>Bi key l fun l=>evalCode E b (mk E.n0 keep l) K
 |_,_=>none
theorem Sub.aKB{c:Code}{K:Ex->St->Option R}(h:Sub E c0 K0 (.loop c) K)(l:List KV):Ku E c0 K0 (keyOf c) l=fix (roundOf (evalCode E) E.n0 (E.keep (keyOf c)) c K) l:=by
 unfold Ku;rw[h.lp (keyOf c) (by simp[loopKeys]),findLoop,bZV];rfl
theorem Sub.aMN{a b:Code}{K:Ex->St->Option R}(h:Sub E c0 K0 (.seq a b) K){keep:List Nat}(hk:E.cut (keyOf b)=some keep)(l:List KV):Og E c0 K0 (keyOf b) l=evalCode E b (AI.mk E.n0 keep l) K:=by
 unfold Og;rw[h.ct (keyOf b) (by simp[gD,hk]),eY,bZV,hk];rfl
theorem Ee(hr:∀k,E.roll k=none):∀(c:Code) (K:Ex->St->Option R),Sub E c0 K0 c K->∀st,evalJ E (Og E c0 K0) (Ku E c0 K0) c st K=evalCode E c st K:=by
 intro c
 induction c with
 |seq a b zR zQ =>
  intro K h st;simp only[evalJ];have e:(fun(ex:Ex) (fP:St)=>match ex with
   | .normal=>match E.cut (keyOf b)with
    |some keep=>Og E c0 K0 (keyOf b) (canon E.n0 keep fP)
    |none=>evalJ E (Og E c0 K0) (Ku E c0 K0) b fP K
   | .exit i=>K (.exit i) fP
   | .ret=>K .ret fP)=Yo E b K:=by
   funext ex fP;unfold Yo;cases ex with
   |normal =>
    cases hk:E.cut (keyOf b)with
    |some keep=>simp only[];rw[h.aMN hk];rfl
    |none=>simp only[];exact zQ K h.Yp fP
   |exit i=>rfl
   |ret=>rfl
  rw[e,zR _ h.seq1 st];rfl
 |cond cd a b zR zQ =>
  intro K h st;simp only[evalJ,evalCode];have ha:=zR K h.Wt;have hb:=zQ K h.Wr;simp only[ha,hb];rfl
 |block id c ih =>
  intro K h st;exact ih _ h.block st
 |loop c ih =>
  intro K h st;simp only[evalJ,evalCode,hr];rw[h.aKB]
 |region id ops draw=>intro K h st;rfl
 |skip=>intro K h st;rfl
 |label l=>intro K h st;rfl
 |exit i=>intro K h st;rfl
 |ret=>intro K h st;rfl
 |rangeFunc f ps x y _ _=>intro K h st;rfl
 |scope c ih=>intro K h st;exact ih _ h.scope st
 |goto l=>intro K h st;rfl
 |refuse bLT=>intro K h st;rfl
theorem Un(hr:∀k,E.roll k=none){a b:Code}{K:Ex->St->Option R}(h:Sub E c0 K0 (.seq a b) K):aBU E (Og E c0 K0) (Ku E c0 K0) b K=Yo E b K:=by
 funext ex fP;unfold aBU Yo;cases ex with
 |normal =>
  cases hk:E.cut (keyOf b)with
  |some keep=>simp only[];rw[h.aMN hk];rfl
  |none=>simp only[];exact Ee hr b K h.Yp fP
 |exit i=>rfl
 |ret=>rfl
theorem Fz{c:Code}{K:Ex->St->Option R}(h:Sub E c0 K0 (.loop c) K):Rq E (Ku E c0 K0) c K=Ph E c K:=by
 funext ex fP;unfold Rq Ph;cases ex with
 |normal=>exact h.aKB _
 |exit i=>rfl
 |ret=>rfl
theorem Se(hr:∀k,E.roll k=none)(key:Nat):∀(c:Code) (K:Ex->St->Option R),Sub E c0 K0 c K->findLoopJ E (Og E c0 K0) (Ku E c0 K0) key c K=findLoop E key c K:=by
 intro c
 induction c with
 |seq a b zR zQ =>
  intro K h;rw[findLoopJ,findLoop,Un hr h,zR _ h.seq1,zQ _ h.Yp]
 |cond cd a b zR zQ =>
  intro K h;rw[findLoopJ,findLoop,zR _ h.Wt,zQ _ h.Wr]
 |block id c ih=>intro K h;rw[findLoopJ,findLoop,ih _ h.block]
 |scope c ih=>intro K h;rw[findLoopJ,findLoop,ih _ h.scope]
 |loop c ih=>intro K h;rw[findLoopJ,findLoop,Fz h,ih _ h.loop]
 |_=>intro K h;rfl
theorem Vz(hr:∀k,E.roll k=none)(key:Nat):∀(c:Code) (K:Ex->St->Option R),Sub E c0 K0 c K->kV E (Og E c0 K0) (Ku E c0 K0) key c K=eY E key c K:=by
 intro c
 induction c with
 |seq a b zR zQ =>
  intro K h;rw[kV,eY,Un hr h,zR _ h.seq1,zQ _ h.Yp]
 |cond cd a b zR zQ =>
  intro K h;rw[kV,eY,zR _ h.Wt,zQ _ h.Wr]
 |block id c ih=>intro K h;rw[kV,eY,ih _ h.block]
 |scope c ih=>intro K h;rw[kV,eY,ih _ h.scope]
 |loop c ih=>intro K h;rw[kV,eY,Fz h,ih _ h.loop]
 |_=>intro K h;rfl
theorem Sub.aXR:∀(c:Code) (K:Ex->St->Option R),Sub E c0 K0 c K->∀{key:Nat} {b:Code} {K':Ex->St->Option R},findLoop E key c K=some (b,K')->key=keyOf b/\Sub E c0 K0 (.loop b) K':=by
 intro c
 induction c with
 |seq a b zR zQ =>
  intro K h key b' K' hf;rw[findLoop]at hf;rcases Option.or_eq_some_iff.1 hf with hf |⟨_,hf⟩
  ·exact zR _ h.seq1 hf
  ·exact zQ _ h.Yp hf
 |cond cd a b zR zQ =>
  intro K h key b' K' hf;rw[findLoop]at hf;rcases Option.or_eq_some_iff.1 hf with hf |⟨_,hf⟩
  ·exact zR _ h.Wt hf
  ·exact zQ _ h.Wr hf
 |block id c ih=>intro K h key b' K' hf;exact ih _ h.block hf
 |scope c ih=>intro K h key b' K' hf;exact ih _ h.scope hf
 |loop c ih =>
  intro K h key b' K' hf;rw[findLoop]at hf;cases hb:bVP (keyOf c) key with
  |true =>
   rw[hb]at hf;cases hf;exact⟨(bWD hb).symm,h⟩
  |false=>rw[hb]at hf;exact ih _ h.loop hf
 |_=>intro K h key b' K' hf;simp[findLoop]at hf
theorem Sub.bDZ:∀(c:Code) (K:Ex->St->Option R),Sub E c0 K0 c K->∀{key:Nat} {b:Code} {K':Ex->St->Option R},eY E key c K=some (b,K')->Sub E c0 K0 b K':=by
 intro c
 induction c with
 |seq a b zR zQ =>
  intro K h key b' K' hf;rw[eY]at hf;cases hb:bVP (keyOf b) key with
  |true=>rw[hb]at hf;cases hf;exact h.Yp
  |false =>
   rw[hb]at hf;rcases Option.or_eq_some_iff.1 hf with hf |⟨_,hf⟩
   ·exact zR _ h.seq1 hf
   ·exact zQ _ h.Yp hf
 |cond cd a b zR zQ =>
  intro K h key b' K' hf;rw[eY]at hf;rcases Option.or_eq_some_iff.1 hf with hf |⟨_,hf⟩
  ·exact zR _ h.Wt hf
  ·exact zQ _ h.Wr hf
 |block id c ih=>intro K h key b' K' hf;exact ih _ h.block hf
 |scope c ih=>intro K h key b' K' hf;exact ih _ h.scope hf
 |loop c ih=>intro K h key b' K' hf;exact ih _ h.loop hf
 |_=>intro K h key b' K' hf;simp[eY]at hf
end
def xL(E:Env)(c:Code):Bool:=nodup (loopKeys c)&&nodup (gD E c)
theorem sub_self{E:Env}{c:Code}{K:Ex->St->Option (List D)}(h:xL E c=true):Sub E c K c K:=by
 unfold xL at h;rw[bVU,nodup_iff,nodup_iff]at h;exact⟨fun _ _=>rfl,fun _ _=>rfl,h.1,h.2⟩
section
variable (E:Env) (fn:Func) (c:Code)
def aIT(J L:Nat->List KV->Option (List D))(ds:List D):Option (List D) :=
 evalJ E J L c ⟨Xc ds,argHp 0 ds,E.n0⟩ (qK E fn)
def Yr(J L:Nat->List KV->Option (List D))(key:Nat)(l:List KV):Option (List D) :=
 match findLoopJ E J L key c (qK E fn)with
 |some (b,K)=>evalJ E J L b (mk E.n0 (E.keep key) l) fun ex fP=>match ex with
  | .normal=>L key (canon E.n0 (E.keep key) fP)
  | .exit i=>K (.exit i) fP
  | .ret=>K .ret fP
 |none=>none
def aXG(J L:Nat->List KV->Option (List D))(key:Nat)(l:List KV):Option (List D) :=
 match kV E J L key c (qK E fn),E.cut key with
 |some (b,K),some keep=>evalJ E J L b (mk E.n0 keep l) K
 |_,_=>none
end
variable {E:Env} {fn:Func} {c:Code}
theorem Ly:cutAt E fn c=Og E c (qK E fn):=by
 funext key l;unfold cutAt Og;cases eY E key c (qK E fn) <;> cases E.cut key <;> rfl
theorem Ga:Gb E fn c=Ku E c (qK E fn):=by
 funext key l;unfold Gb Ku;cases findLoop E key c (qK E fn) <;> rfl
theorem aMO(E:Env)(fn:Func)(c:Code):∃f:Nat->List KV->Option (List D),f=cutAt E fn c:=⟨_,rfl⟩
def mD(E:Env)(fn:Func)(c:Code):Nat->List KV->Option (List D):=Classical.choose (aMO E fn c)
theorem Zy:mD E fn c=cutAt E fn c:=Classical.choose_spec (aMO E fn c)
theorem aKC(E:Env)(fn:Func)(c:Code):∃f:Nat->List KV->Option (List D),f=Gb E fn c:=⟨_,rfl⟩
def qV(E:Env)(fn:Func)(c:Code):Nat->List KV->Option (List D):=Classical.choose (aKC E fn c)
theorem Zc:qV E fn c=Gb E fn c:=Classical.choose_spec (aKC E fn c)
theorem aLT(hr:E.roll=fun _=>none)(h:xL E c=true)(ds:List D):aH E fn c ds=aIT E fn c (mD E fn c) (qV E fn c) ds:=by
 rw[Zy,Zc,Ly,Ga];exact(Ee (c0:=c) (K0:=qK E fn) (fun k=>by rw[hr]) c (qK E fn) (sub_self h) _).symm
theorem aKD(hr:E.roll=fun _=>none)(h:xL E c=true)(key:Nat)(l:List KV):qV E fn c key l=Yr E fn c (mD E fn c) (qV E fn c) key l:=by
 rw[Zy,Zc,aEW,Ly,Ga];unfold Rc Yr;have hs:=sub_self (K:=qK E fn) h;have e:=Se (c0:=c) (K0:=qK E fn) (fun k=>by rw[hr]) key c (qK E fn) hs;rw[e];cases hf:findLoop E key c (qK E fn)with
 |none=>rfl
 |some p =>
  obtain⟨b,K⟩:=p;simp only[];obtain⟨rfl,hb⟩:=Sub.aXR c (qK E fn) hs hf;have e2:(fun(ex:Ex) (fP:St)=>match ex with
   | .normal=>Ku E c (qK E fn) (keyOf b) (canon E.n0 (E.keep (keyOf b)) fP)
   | .exit i=>K (.exit i) fP
   | .ret=>K .ret fP)=Ph E b K:=Fz hb
  rw[e2];exact(Ee (c0:=c) (K0:=qK E fn) (fun k=>by rw[hr]) b _ hb.loop _).symm
theorem aRP(hr:E.roll=fun _=>none)(h:xL E c=true)(key:Nat)(l:List KV):mD E fn c key l=aXG E fn c (mD E fn c) (qV E fn c) key l:=by
 rw[Zy,Zc,aMM,Ly,Ga];unfold Sq aXG;have hs:=sub_self (K:=qK E fn) h;have e:=Vz (c0:=c) (K0:=qK E fn) (fun k=>by rw[hr]) key c (qK E fn) hs;rw[e];cases hf:eY E key c (qK E fn)with
 |none=>rfl
 |some p =>
  obtain⟨b,K⟩:=p;cases hc:E.cut key with
  |none=>rfl
  |some keep=>exact(Ee (c0:=c) (K0:=qK E fn) (fun k=>by rw[hr]) b _ (Sub.bDZ c _ hs hf) _).symm
def Nk(E:Env)(c:Code):Prop:=(E.roll=fun _=>none)/\xL E c=true
theorem nk{E:Env}{c:Code}(h:xL E c=true:=by kernel_rfl)(hr:E.roll=fun _=>none:=by rfl):Nk E c:=⟨hr,h⟩
section
variable {E:Env} {fn:Func} {c:Code} {key:Nat} {l:List KV} {ds:List D} {r:Option (List D)} (h:Nk E c)
include h
theorem eJ(e:aIT E fn c (mD E fn c) (qV E fn c) ds=r:=by kernel_rfl):aH E fn c ds=r:=(aLT h.1 h.2 ds).trans e
theorem lJ(e:Yr E fn c (mD E fn c) (qV E fn c) key l=r:=by kernel_rfl):qV E fn c key l=r:=(aKD h.1 h.2 key l).trans e
theorem cJ(e:aXG E fn c (mD E fn c) (qV E fn c) key l=r:=by kernel_rfl):mD E fn c key l=r:=(aRP h.1 h.2 key l).trans e
end
end AI
namespace AI
open Go Go.RowKit
structure kM(α:Type) where
 put:α->D
 get:D->Option α
 le:∀{d x},get d=some x->Cj d (put x)
def pI(k:IntKind):kM (List Int):=⟨fun a=>.s (.ints k a),dI k,bDS⟩
def pN(k:IntKind):kM Int:=⟨fun n=>.s (.sc (.int k n)),dN k,bDQ⟩
def dIO(e:TypeId)(k:IntKind):D->Option (List Int×Nat×Nat)
 | .io e' k' ns off n=>if _h:e=e'/\k=k' then some (ns,off,n)else none
 |_=>none
theorem Sp{e:TypeId}{k:IntKind}{d:D}{x:List Int×Nat×Nat}(h:dIO e k d=some x):d=.io e k x.1 x.2.1 x.2.2:=by
 unfold dIO at h;split at h
 ·split at h
  ·rename_i hk;obtain⟨rfl,rfl⟩:=hk;cases h;rfl
  ·cases h
 ·cases h
def Ds(e:TypeId)(k:IntKind):kM (List Int×Nat×Nat):=⟨fun x=>.io e k x.1 x.2.1 x.2.2,dIO e k,fun h=>by rw[Sp h];exact Cj.refl _⟩
def pB:kM Bool:=⟨fun b=>.s (.sc (.bool b)),dB,bDU⟩
def dF(k:FloatKind):D->Option Nat
 | .s (.sc (.float k' b))=>if _h:k=k' then some b else none
 |_=>none
theorem bDT{k:FloatKind}{d:D}{n:Nat}(h:dF k d=some n):Cj d (.s (.sc (.float k n))):=by
 unfold dF at h;split at h
 ·split at h
  ·rename_i hk;cases h;subst hk;exact Cj.refl _
  ·cases h
 ·cases h
def pF(k:FloatKind):kM Nat:=⟨fun b=>.s (.sc (.float k b)),dF k,bDT⟩
class aGJ{α:Type}(p:kM α):Prop where
 no:∀{d x},p.get d=some x->Dy d=false/\Dy (p.put x)=false
instance {k:IntKind}:aGJ (pI k):=⟨fun {d x} h=>⟨by cases d <;> first |rfl | (simp[pI,dI]at h),rfl⟩⟩
instance {k:IntKind}:aGJ (pN k):=⟨fun {d x} h=>⟨by cases d <;> first |rfl | (simp[pN,dN]at h),rfl⟩⟩
instance:aGJ pB:=⟨fun {d x} h=>⟨by cases d <;> first |rfl | (simp[pB,dB]at h),rfl⟩⟩
structure SPar(α:Type) where
 n:Nat
 put:α->List S
 get:List S->Option α
 le:∀{d x},get d=some x->d.length=n/\(put x).length=n/\∀(i:Nat) (s s':S),d[i]?=some s->(put x)[i]?=some s'->∀X w v,nO X w s v->nO X w s' v
def bEP{α:Type}(p:kM α)(put:α->S)(h:∀x,p.put x=.s (put x)):SPar α where
 n:=1
 put x:=[put x]
 get
  | [s]=>p.get (.s s)
  |_=>none
 le:=by
  intro d x hd
  match d,hd with
  | [s],hd =>
   refine⟨rfl,rfl,fun i s1 s2 h1 h2=>?_⟩
   match i with
   |0 =>
    simp at h1 h2;subst h1;subst h2;intro X w v hr;have:=p.le hd X w v hr;rw[h]at this;exact this
   |i+1=>simp at h1
def sI(k:IntKind):SPar (List Int):=bEP (pI k) (fun a=>.ints k a) fun _=>rfl
def sN(k:IntKind):SPar Int:=bEP (pN k) (fun n=>.sc (.int k n)) fun _=>rfl
def sB:SPar Bool:=bEP pB (fun b=>.sc (.bool b)) fun _=>rfl
def SPar.pair{α β:Type}(p:SPar α)(q:SPar β):SPar (α×β) where
 n:=p.n+q.n
 put x:=p.put x.1 ++ q.put x.2
 get d:=match p.get (d.take p.n),q.get (d.drop p.n)with
  |some a,some b=>some (a,b)
  |_,_=>none
 le:=by
  intro d x h;split at h
  ·rename_i a b ha hb;cases h;obtain⟨a1,a2,a3⟩:=p.le ha;obtain⟨b1,b2,b3⟩:=q.le hb;simp only[bYE,bZO]at a1 b1;have bLH:(p.put (a,b).fst).length=p.n:=a2;refine⟨by omega,by simp[a2,b2],fun i s s' h1 h2=>?_⟩
   by_cases hi:i<p.n
   ·rw[List.getElem?_append_left (by rw[bLH];exact hi)]at h2;exact a3 i s s' (by rw[bVT hi];exact h1) h2
   ·rw[List.getElem?_append_right (by rw[bLH];omega),bLH]at h2;exact b3 (i-p.n) s s' (by rw[bWB,show p.n+(i-p.n)=i from by omega];exact h1) h2
  ·cases h
def pG{α:Type}(p:SPar α):kM α where
 put x:=.agg (p.put x)
 get
  | .agg cs=>p.get cs
  |_=>none
 le:=by
  intro d x h
  match d,h with
  | .agg cs,h =>
   obtain⟨h1,h2,h3⟩:=p.le h;rintro Y w v ⟨arr,rfl,hl,hr⟩;refine⟨arr,rfl,by omega,fun i s u hs hu=>?_⟩;obtain⟨s0,Xv⟩:=bB (l:=cs) (i:=i) (by have:=aT hs;omega);exact h3 i s0 s Xv hs Y w u (hr i s0 u Xv hu)
def yO(d d':D):Prop:=(d'=d)\/(kB d'=false/\((∃e k ns,d=.own e k ns/\d'=.s (.ints k ns))\/(kB d=false/\Cj d d')))
theorem yO.refl(d:D):yO d d:=.inl rfl
theorem yO.own(e:TypeId)(k:IntKind)(ns:List Int):yO (.own e k ns) (.s (.ints k ns)):=.inr ⟨rfl,.inl ⟨e,k,ns,rfl,rfl⟩⟩
theorem yO.nil(k:IntKind):yO (.s (.sc (.slice none 0 0))) (.s (.ints k [])) :=
 .inr ⟨rfl,.inr ⟨rfl,fun Y w v h=>by obtain⟨rfl,_⟩:=h;exact⟨none,0,rfl,bVO _,fun i n hn=>by simp at hn⟩⟩⟩
def Da(s s':S):Prop:=∀X w v,nO X w s v->nO X w s' v
theorem Da.refl(s:S):Da s s:=fun _ _ _ h=>h
theorem Da.nil(k:IntKind):Da (.sc (.slice none 0 0)) (.ints k []):=fun X w v h=>by
 obtain⟨rfl,_⟩:=h;exact⟨none,0,rfl,bVO _,fun i n hn=>by simp at hn⟩
inductive yH:List S->List S->Prop where
 |nil:yH [] []
 |cons {s s':S} {l l':List S}:Da s s'->yH l l'->yH (s :: l) (s' :: l')
theorem yH.refl:∀l,yH l l
 | []=>.nil
 |s :: l=>.cons (Da.refl s) (yH.refl l)
theorem yH.len{l l':List S}(h:yH l l'):l.length=l'.length:=by induction h with |nil=>rfl |cons _ _ ih=>simp[ih]
theorem yH.at{l l':List S}(h:yH l l'):∀{i:Nat} {s s':S},l[i]?=some s->l'[i]?=some s'->Da s s':=by
 induction h with
 |nil=>intro i s s' h;simp at h
 |cons hs _ ih =>
  intro i s s' h1 h2;cases i with
  |zero=>simp at h1 h2;subst h1;subst h2;exact hs
  |succ i=>simp at h1 h2;exact ih h1 h2
theorem yO.agg{l l':List S}(h:yH l l'):yO (.agg l) (.agg l') :=
 .inr ⟨rfl,.inr ⟨rfl,fun Y w v hv=>by
  obtain⟨arr,rfl,hl,hr⟩:=hv;refine⟨arr,rfl,by rw[<-h.len];exact hl,fun i s u hs hu=>?_⟩;obtain⟨s0,Xv⟩:=bB (l:=l) (i:=i) (by have:=aT hs;rw[h.len];exact this);exact h.at Xv hs Y w u (hr i s0 u Xv hu)⟩⟩
inductive iD:List D->List D->Prop where
 |nil:iD [] []
 |cons {s s':D} {l l':List D}:yO s s'->iD l l'->iD (s :: l) (s' :: l')
theorem iD.refl:∀l,iD l l
 | []=>.nil
 |s :: l=>.cons (yO.refl s) (iD.refl l)
theorem iD.len{l l':List D}(h:iD l l'):l.length=l'.length:=by induction h with |nil=>rfl |cons _ _ ih=>simp[ih]
theorem iD.at{l l':List D}(h:iD l l'):∀{i:Nat} {s s':D},l[i]?=some s->l'[i]?=some s'->yO s s':=by
 induction h with
 |nil=>intro i s s' h;simp at h
 |cons hs _ ih =>
  intro i s s' h1 h2;cases i with
  |zero=>simp at h1 h2;subst h1;subst h2;exact hs
  |succ i=>simp at h1 h2;exact ih h1 h2
theorem Contract.less{P:Program}{G:Nat->Option (IntKind×List Int)}{f:FuncId}{ds rs aPC:List D}(h:Contract P G f ds rs)(hr:iD rs aPC):Contract P G f ds aPC:=by
 intro Y w vs hY hG hlen hargs;refine(h Y w vs hY hG hlen hargs).mono ?_;rintro e w' ⟨tK,he,hb,g,hl,zU,Ru⟩;have sR:∀{i:Nat} {d d':D},rs[i]?=some d->aPC[i]?=some d'->kB d'=true->d'=d:=by
  intro i d d' h1 h2 ho;rcases hr.at h1 h2 with h3 |⟨h3,_⟩
  ·exact h3
  ·rw[h3]at ho;cases ho
 have uO:∀{i:Nat} {d':D},aPC[i]?=some d'->∃d,rs[i]?=some d:=fun {i d'} h=>bB (l:=rs) (i:=i) (by have:=aT h;rw[hr.len];exact this)
 have aFB:∀b,(Y b\/∃(j:Nat) (d':D),aPC[j]?=some d'/\kB d'=true/\g j=b)->(Y b\/∃(j:Nat) (d':D),rs[j]?=some d'/\kB d'=true/\g j=b):=by
  rintro b (hb |⟨j,d',h1,h2,h3⟩)
  ·exact .inl hb
  ·obtain⟨d,hd⟩:=uO h1;have:=sR hd h1 h2;subst this;exact .inr ⟨j,d',hd,h2,h3⟩
 refine⟨tK,he,hb,g,by rw[<-hr.len];exact hl,?_,?_⟩
 ·intro i j d d' h1 h2 h3 h4 h5;obtain⟨e1,aDC⟩:=uO h1;obtain⟨e2,aQO⟩:=uO h2;have q1:=sR aDC h1 h3;have q2:=sR aQO h2 h4;subst q1;subst q2;exact zU i j _ _ aDC aQO h3 h4 h5
 ·intro i d' v h1 hv;obtain⟨d,hd⟩:=uO h1;have bFJ:=Ru i d v hd hv;have aVZ:∀(X:Nat->Prop),(∀b,X b->(Y b\/∃(j:Nat) (d':D),rs[j]?=some d'/\kB d'=true/\g j=b))->iA (fun b=>Y b\/∃(j:Nat) (d':D),rs[j]?=some d'/\kB d'=true/\g j=b) w' X w' :=
   fun X hX=>⟨bVO _,fun b _ hn=>⟨rfl,fun hx=>hn (hX b hx)⟩⟩
  have bMY:∀{x:D},kB x=false->lL (fun b=>Y b\/∃(j:Nat) (d':D),rs[j]?=some d'/\kB d'=true/\g j=b) w' x v->lL (fun b=>Y b\/∃(j:Nat) (d':D),aPC[j]?=some d'/\kB d'=true/\g j=b) w' x v :=
   fun _ hx=>hx.later (aVZ _ aFB)
  have bBS:∀{x:D},kB x=false->(match x with
   | .own e k ns=>Qi w.heap.size w' (g i) e k ns v
   |d=>lL (fun b=>Y b\/∃(j:Nat) (d':D),rs[j]?=some d'/\kB d'=true/\g j=b) w' d v)->lL (fun b=>Y b\/∃(j:Nat) (d':D),rs[j]?=some d'/\kB d'=true/\g j=b) w' x v:=by
   intro x hx hm;cases x with
   |own e k ns=>cases hx
   |s x=>exact hm
   |rows a b c=>exact hm
   |agg cs=>exact hm
   |io=>exact hm
   |back=>exact hm
  have aDF:∀{x:D},kB x=false->lL (fun b=>Y b\/∃(j:Nat) (d':D),aPC[j]?=some d'/\kB d'=true/\g j=b) w' x v->(match x with
   | .own e k ns=>Qi w.heap.size w' (g i) e k ns v
   |d=>lL (fun b=>Y b\/∃(j:Nat) (d':D),aPC[j]?=some d'/\kB d'=true/\g j=b) w' d v):=by
   intro x hx hm;cases x with
   |own e k ns=>cases hx
   |s x=>exact hm
   |rows a b c=>exact hm
   |agg cs=>exact hm
   |io=>exact hm
   |back=>exact hm
  rcases hr.at hd h1 with rfl |⟨h3,⟨e0,k,ns,rfl,rfl⟩ |⟨h4,h5⟩⟩
  ·cases aTJ:kB d' with
   |true =>
    cases d' with
    |own e k ns=>exact bFJ
    |s x=>cases aTJ
    |io=>cases aTJ
    |back=>cases aTJ
    |rows a b c=>cases aTJ
    |agg cs=>cases aTJ
   |false=>exact aDF aTJ (bMY aTJ (bBS aTJ bFJ))
  ·obtain⟨arr,cap,Rt,hbg,hh,Zh,hn1b,aQJ,Ry⟩:=bFJ;refine⟨_,_,Rt,Zh,fun j n hj=>⟨g i,0,rfl,?_,?_,?_⟩⟩
   ·exact(Array.getElem?_eq_some_iff.1 hh).1
   ·rintro (hy |⟨j',d',q1,q2,q3⟩)
    ·have:=hY _ hy;omega
    ·obtain⟨d2,aZH⟩:=uO q1;have:=sR aZH q1 q2;subst this;have:=zU j' i _ _ aZH hd q2 rfl q3;subst this;rw[h1]at q1;cases q1;cases q2
   ·rw[cell_of_row w' (g i) _ arr e0 (0,0) hh];simpa using Ry j n hj
  ·exact aDF h3 (h5 _ _ _ (bMY h4 (bBS h4 bFJ)))
def orc0(r:Prop×List D):dK
 | []=>some r
 |_=>none
def orc1{α:Type}(p:kM α)(f:α->Prop×List D):dK
 | [a]=>match p.get a with
  |some x=>some (f x)
  |none=>none
 |_=>none
def orc2{α β:Type}(p:kM α)(q:kM β)(f:α->β->Prop×List D):dK
 | [a,b]=>match p.get a,q.get b with
  |some x,some y=>some (f x y)
  |_,_=>none
 |_=>none
def orc3{α β γ:Type}(p:kM α)(q:kM β)(r:kM γ)(f:α->β->γ->Prop×List D):dK
 | [a,b,c]=>match p.get a,q.get b,r.get c with
  |some x,some y,some z=>some (f x y z)
  |_,_,_=>none
 |_=>none
def orc4{α β γ δ:Type}(p:kM α)(q:kM β)(r:kM γ)(s:kM δ)(f:α->β->γ->δ->Prop×List D):dK
 | [a,b,c,d]=>match p.get a,q.get b,r.get c,s.get d with
  |some x,some y,some z,some u=>some (f x y z u)
  |_,_,_,_=>none
 |_=>none
structure tB(P:Program)(E:Env)(f:FuncId)(fn:Func)(c:Code):Prop where
 ty:nU P E.T
 calls:jR P E
 mix:P.follows .mixedOrders=true
 fnc:P.funcs[f]?=some fn
 body:fn.body=some c
 nt:E.nt=fn.ntmps
 has:oG P f
 io:E.io=[]
theorem aFO{P:Program}{E:Env}{f:FuncId}{fn:Func}{c:Code}(ty:nU P E.T)(mix:P.follows .mixedOrders=true)(calls:jR P E)(hf:P.funcs[f]?=some fn)(hb:fn.body=some c)(nt:E.nt=fn.ntmps)(hn:(fn.name== "runtime.NumGoroutine")=false)(io:E.io=[]:=by rfl):tB P E f fn c :=
 ⟨ty,calls,mix,hf,hb,nt,oJ hf hb hn,io⟩
structure mA(P:Program)(E:Env)(f:FuncId)(fn:Func)(c:Code):Prop where
 ty:nU P E.T
 calls:jR P E
 mix:P.follows .mixedOrders=true
 fnc:P.funcs[f]?=some fn
 body:fn.body=some c
 nt:E.nt=fn.ntmps
 has:oG P f
 io:E.io=[0]
 n0:E.n0=1
theorem vU{P:Program}{E:Env}{f:FuncId}{fn:Func}{c:Code}(ty:nU P E.T)(mix:P.follows .mixedOrders=true)(calls:jR P E)(hf:P.funcs[f]?=some fn)(hb:fn.body=some c)(nt:E.nt=fn.ntmps)(hn:(fn.name== "runtime.NumGoroutine")=false)(io:E.io=[0])(n0:E.n0=1):mA P E f fn c :=
 ⟨ty,calls,mix,hf,hb,nt,oJ hf hb hn,io,n0⟩
variable {P:Program} {E:Env} {f:FuncId} {fn:Func} {c:Code}
theorem tB.bGX(h:tB P E f fn c){r:Prop×List D}(hs:r.1->aH E fn c []=some r.2):kY P E.glob f (orc0 r):=by
 intro ds g rs hd hg;unfold orc0 at hd;split at hd
 ·cases hd;exact⟨fn_contract h.ty h.calls h.mix h.fnc h.body h.nt h.io (cBX _) (hs hg),h.has⟩
 ·cases hd
theorem tB.pU{α:Type}(h:tB P E f fn c){p:kM α}{g:α->Prop×List D}(hn:bVR 1 fn.ntmps=true)(hs:∀x,(g x).1->aH E fn c [p.put x]=some (g x).2):kY P E.glob f (orc1 p g):=by
 intro ds q rs hd hg;unfold orc1 at hd;split at hd
 ·split at hd
  ·rename_i x hx;have hd:=Option.some.inj hd;have e1:q=(g x).1:=by rw[hd]
   have e2:rs=(g x).2:=by rw[hd]
   subst e1;subst e2;exact⟨(fn_contract (ds:=[p.put x]) h.ty h.calls h.mix h.fnc h.body h.nt h.io (bXM hn) (hs x hg)).bGZ (p.le hx),h.has⟩
  ·cases hd
 ·cases hd
theorem tB.mT{α β:Type}(h:tB P E f fn c){p:kM α}{p':kM β}{g:α->β->Prop×List D}(hn:bVR 2 fn.ntmps=true)(hs:∀x y,(g x y).1->aH E fn c [p.put x,p'.put y]=some (g x y).2):kY P E.glob f (orc2 p p' g):=by
 intro ds q rs hd hg;unfold orc2 at hd;split at hd
 ·split at hd
  ·rename_i x y hx hy;have hd:=Option.some.inj hd;have e1:q=(g x y).1:=by rw[hd]
   have e2:rs=(g x y).2:=by rw[hd]
   subst e1;subst e2;exact⟨(fn_contract (ds:=[p.put x,p'.put y]) h.ty h.calls h.mix h.fnc h.body h.nt h.io (bXM hn) (hs x y hg)).bGY (p.le hx) (p'.le hy),h.has⟩
  ·cases hd
 ·cases hd
theorem tB.yK{α β γ:Type}(h:tB P E f fn c){p:kM α}{p':kM β}{Rh:kM γ}{g:α->β->γ->Prop×List D}(hn:bVR 3 fn.ntmps=true)(hs:∀x y z,(g x y z).1->aH E fn c [p.put x,p'.put y,Rh.put z]=some (g x y z).2):kY P E.glob f (orc3 p p' Rh g):=by
 intro ds q rs hd hg;unfold orc3 at hd;split at hd
 ·split at hd
  ·rename_i x y z hx hy hz;have hd:=Option.some.inj hd;have e1:q=(g x y z).1:=by rw[hd]
   have e2:rs=(g x y z).2:=by rw[hd]
   subst e1;subst e2;exact⟨(fn_contract (ds:=[p.put x,p'.put y,Rh.put z]) h.ty h.calls h.mix h.fnc h.body h.nt h.io (bXM hn) (hs x y z hg)).bLZ (p.le hx) (p'.le hy) (Rh.le hz),h.has⟩
  ·cases hd
 ·cases hd
theorem tB.aOE{α β γ δ:Type}(h:tB P E f fn c){p:kM α}{p':kM β}{Rh:kM γ}{p3:kM δ}{g:α->β->γ->δ->Prop×List D}(hn:bVR 4 fn.ntmps=true)(hs:∀x y z u,(g x y z u).1->aH E fn c [p.put x,p'.put y,Rh.put z,p3.put u]=some (g x y z u).2):kY P E.glob f (orc4 p p' Rh p3 g):=by
 intro ds q rs hd hg;unfold orc4 at hd;split at hd
 ·split at hd
  ·rename_i x y z u hx hy hz hu;have hd:=Option.some.inj hd;have e1:q=(g x y z u).1:=by rw[hd]
   have e2:rs=(g x y z u).2:=by rw[hd]
   subst e1;subst e2;exact⟨(fn_contract (ds:=[p.put x,p'.put y,Rh.put z,p3.put u]) h.ty h.calls h.mix h.fnc h.body h.nt h.io (bXM hn) (hs x y z u hg)).bLY (p.le hx) (p'.le hy) (Rh.le hz) (p3.le hu),h.has⟩
  ·cases hd
 ·cases hd
theorem mA.bGU(h:mA P E f fn c){e:TypeId}{k:IntKind}{x:List Int×Nat×Nat}{ds ds' rs:List D}{mZ:List Int}(hn:1+ds'.length<=fn.ntmps)
  (hs:aH E fn c ((Ds e k).put x :: ds')=some (rs ++ [.io e k mZ 0 0])) (hl:mZ.length=x.1.length) (aZG:ds.length=ds'.length)
  (hd:∀(i:Nat) (y y':D),ds[i]?=some y->ds'[i]?=some y'->Dy y=false/\Dy y'=false/\Cj y y'):oL P E.glob f [0] ((Ds e k).put x :: ds) rs [.io e k mZ 0 0]:=by
 have yS:∀(i:Nat) (d:D),ds'[i]?=some d->Dy d=false:=fun i d hi=>by
  obtain⟨y,hy⟩:=bB (l:=ds) (i:=i) (by have:=aT hi;omega);exact(hd i y d hy hi).2.1
 have:=Nz h.ty h.calls h.mix h.fnc h.body h.nt (fun i hi=>by rw[h.io]at hi;rw[h.n0];simp at hi;omega) (ds:=(Ds e k).put x :: ds') (by simp;omega) hs (by rw[h.io];rfl)
  (by
   rw[h.io];intro j i hj
   match j with
   |0 =>
    simp at hj;subst hj;exact⟨e,k,x.1,x.2.1,x.2.2,e,k,mZ,rfl,rfl,hl⟩
   |j+1=>simp at hj)
  (by
   rw[h.io];intro i d hi Lj
   match i with
   |0=>simp
   |i+1=>rw[yS i d (by simpa using hi)]at Lj;cases Lj)
 rw[h.io]at this;exact this.bQA aZG hd
theorem mA.pU(h:mA P E f fn c){e:TypeId}{k:IntKind}{g:List Int×Nat×Nat->Prop×List D}(hn:bVR 1 fn.ntmps=true)(hs:∀x,(g x).1->aH E fn c [(Ds e k).put x]=some (g x).2/\∃rs mZ,(g x).2=rs ++ [.io e k mZ 0 0]/\mZ.length=x.1.length):pW P E.glob f (orc1 (Ds e k) g):=by
 intro ds q rs hd hg;unfold orc1 at hd;split at hd
 ·rename_i d1;split at hd
  ·rename_i x hx;have hd:=Option.some.inj hd;have e1:q=(g x).1:=by rw[hd]
   have e2:rs=(g x).2:=by rw[hd]
   subst e1;subst e2;obtain⟨h1,Fp,mZ,h2,h3⟩:=hs x hg;rw[h2]at h1 ⊢;refine⟨⟨Fp,_,rfl,?_⟩,h.has⟩;have e3:=Sp (show dIO e k d1=some x from hx);rw[e3];exact h.bGU (x:=x) (ds':=[]) (by have:=bXM hn;simp;omega) h1 h3 rfl fun i a b ha hb=>by simp at ha
  ·cases hd
 ·cases hd
theorem mA.mT{α:Type}(h:mA P E f fn c){e:TypeId}{k:IntKind}{p:kM α}[hp:aGJ p]{g:List Int×Nat×Nat->α->Prop×List D}(hn:bVR 2 fn.ntmps=true)(hs:∀x y,(g x y).1->aH E fn c [(Ds e k).put x,p.put y]=some (g x y).2/\∃rs mZ,(g x y).2=rs ++ [.io e k mZ 0 0]/\mZ.length=x.1.length):pW P E.glob f (orc2 (Ds e k) p g):=by
 intro ds q rs hd hg;unfold orc2 at hd;split at hd
 ·rename_i d1 d2;split at hd
  ·rename_i x y hx hy;have hd:=Option.some.inj hd;have e1:q=(g x y).1:=by rw[hd]
   have e2:rs=(g x y).2:=by rw[hd]
   subst e1;subst e2;obtain⟨h1,Fp,mZ,h2,h3⟩:=hs x y hg;rw[h2]at h1 ⊢;refine⟨⟨Fp,_,rfl,?_⟩,h.has⟩;have e3:=Sp (show dIO e k d1=some x from hx);rw[e3];refine h.bGU (x:=x) (ds':=[p.put y]) (by have:=bXM hn;simp;omega) h1 h3 rfl fun i a b ha hb=>?_
   match i with
   |0=>simp at ha hb;subst ha;subst hb;exact⟨(hp.no hy).1,(hp.no hy).2,p.le hy⟩
   |i+1=>simp at ha
  ·cases hd
 ·cases hd
theorem mA.yK{α β:Type}(h:mA P E f fn c){e:TypeId}{k:IntKind}{p:kM α}[hp:aGJ p]{p':kM β}[hp':aGJ p']{g:List Int×Nat×Nat->α->β->Prop×List D}(hn:bVR 3 fn.ntmps=true)(hs:∀x y z,(g x y z).1->aH E fn c [(Ds e k).put x,p.put y,p'.put z]=some (g x y z).2/\∃rs mZ,(g x y z).2=rs ++ [.io e k mZ 0 0]/\mZ.length=x.1.length):pW P E.glob f (orc3 (Ds e k) p p' g):=by
 intro ds q rs hd hg;unfold orc3 at hd;split at hd
 ·rename_i d1 d2 d3;split at hd
  ·rename_i x y z hx hy hz;have hd:=Option.some.inj hd;have e1:q=(g x y z).1:=by rw[hd]
   have e2:rs=(g x y z).2:=by rw[hd]
   subst e1;subst e2;obtain⟨h1,Fp,mZ,h2,h3⟩:=hs x y z hg;rw[h2]at h1 ⊢;refine⟨⟨Fp,_,rfl,?_⟩,h.has⟩;have e3:=Sp (show dIO e k d1=some x from hx);rw[e3];refine h.bGU (x:=x) (ds':=[p.put y,p'.put z]) (by have:=bXM hn;simp;omega) h1 h3 rfl fun i a b ha hb=>?_
   match i with
   |0=>simp at ha hb;subst ha;subst hb;exact⟨(hp.no hy).1,(hp.no hy).2,p.le hy⟩
   |1=>simp at ha hb;subst ha;subst hb;exact⟨(hp'.no hz).1,(hp'.no hz).2,p'.le hz⟩
   |i+2=>simp at ha
  ·cases hd
 ·cases hd
theorem tB.aZT{α:Type}(h:tB P E f fn c){p:kM α}{g:α->Prop×List D}(hn:bVR 1 fn.ntmps=true)(hs:∀x,(g x).1->∃rs,aH E fn c [p.put x]=some rs/\iD rs (g x).2):kY P E.glob f (orc1 p g):=by
 intro ds q rs hd hg;unfold orc1 at hd;split at hd
 ·split at hd
  ·rename_i x hx;have hd:=Option.some.inj hd;have e1:q=(g x).1:=by rw[hd]
   have e2:rs=(g x).2:=by rw[hd]
   subst e1;subst e2;obtain⟨Rb,he,hle⟩:=hs x hg;exact⟨((fn_contract (ds:=[p.put x]) h.ty h.calls h.mix h.fnc h.body h.nt h.io (bXM hn) he).bGZ (p.le hx)).less hle,h.has⟩
  ·cases hd
 ·cases hd
theorem tB.aHQ{α β:Type}(h:tB P E f fn c){p:kM α}{p':kM β}{g:α->β->Prop×List D}(hn:bVR 2 fn.ntmps=true)(hs:∀x y,(g x y).1->∃rs,aH E fn c [p.put x,p'.put y]=some rs/\iD rs (g x y).2):kY P E.glob f (orc2 p p' g):=by
 intro ds q rs hd hg;unfold orc2 at hd;split at hd
 ·split at hd
  ·rename_i x y hx hy;have hd:=Option.some.inj hd;have e1:q=(g x y).1:=by rw[hd]
   have e2:rs=(g x y).2:=by rw[hd]
   subst e1;subst e2;obtain⟨Rb,he,hle⟩:=hs x y hg;exact⟨((fn_contract (ds:=[p.put x,p'.put y]) h.ty h.calls h.mix h.fnc h.body h.nt h.io (bXM hn) he).bGY (p.le hx) (p'.le hy)).less hle,h.has⟩
  ·cases hd
 ·cases hd
theorem tB.bGH{α β γ:Type}(h:tB P E f fn c){p:kM α}{p':kM β}{Rh:kM γ}{g:α->β->γ->Prop×List D}(hn:bVR 3 fn.ntmps=true)(hs:∀x y z,(g x y z).1->∃rs,aH E fn c [p.put x,p'.put y,Rh.put z]=some rs/\iD rs (g x y z).2):kY P E.glob f (orc3 p p' Rh g):=by
 intro ds q rs hd hg;unfold orc3 at hd;split at hd
 ·split at hd
  ·rename_i x y z hx hy hz;have hd:=Option.some.inj hd;have e1:q=(g x y z).1:=by rw[hd]
   have e2:rs=(g x y z).2:=by rw[hd]
   subst e1;subst e2;obtain⟨Rb,he,hle⟩:=hs x y z hg;exact⟨((fn_contract (ds:=[p.put x,p'.put y,Rh.put z]) h.ty h.calls h.mix h.fnc h.body h.nt h.io (bXM hn) he).bLZ (p.le hx) (p'.le hy) (Rh.le hz)).less hle,h.has⟩
  ·cases hd
 ·cases hd
def aDK(f:FuncId)(g:List Value->Option (Prop×List Value))(r:FuncId->List Value->Option (Prop×List Value)):FuncId->List Value->Option (Prop×List Value):=fun f' vs=>bif bVP f' f then g vs else r f' vs
def aDJ:FuncId->List Value->Option (Prop×List Value):=fun _ _=>none
theorem Zt:aEH P aDJ:=fun _ _ _ _ h=>by cases h
structure aTZ(P:Program)(f:FuncId)(e:Array Value->Sem Value):Prop where
 run:∀(args:Array Value) (w:World),(callFunc f args).run P w=((e args).run P w).andThen fun v w'=>.ok (.value v) w'
theorem We{f:FuncId}{g:List Value->Option (Prop×List Value)}{r:FuncId->List Value->Option (Prop×List Value)}{e:Array Value->Sem Value}(hf:aTZ P f e)
  (hg:∀vs q rs,g vs=some (q,rs)->q->(∀v∈rs,v.oneCell'=true)/\∀w,(e vs.toArray).run P w=.ok (resV rs) w) (hr:aEH P r):aEH P (aDK f g r):=by
 intro f' vs q rs h hq;unfold aDK at h;cases hb:bVP f' f with
 |true =>
  rw[hb]at h;have:=bWD hb;subst this;obtain⟨h1,h2⟩:=hg vs q rs h hq;exact⟨h1,fun w=>by rw[hf.run,h2];rfl⟩
 |false=>rw[hb]at h;exact hr f' vs q rs h hq
def gAdd:List Value->Option (Prop×List Value)
 | [.int .u64 x,.int .u64 y,.int .u64 c]=>some ((0<=x/\0<=y/\0<=c/\c<=1),[.int .u64 ((x+y+c)%18446744073709551616),.int .u64 ((x+y+c)/18446744073709551616)])
 |_=>none
theorem aRA(vs:List Value)(q:Prop)(rs:List Value)(h:gAdd vs=some (q,rs))(hq:q):(∀v∈rs,v.oneCell'=true)/\∀w,(add64Entry vs.toArray).run P w=.ok (resV rs) w:=by
 unfold gAdd at h;split at h
 ·cases h;obtain⟨h1,h2,h3,h4⟩:=hq;exact⟨by simp[Value.oneCell'],fun w=>run_add64 _ _ _ h1 h2 h3 h4 w⟩
 ·cases h
def xE:Array Value->Sem Value:=fun args=>do
 let (x,y,b) <-Extern.MathBitsCarry.three "Sub64" args
 pure (Extern.MathBitsCarry.pair ((x+Extern.MathBitsCarry.m64-y-b)%Extern.MathBitsCarry.m64) (if x<y+b then 1 else 0))
theorem aEN(x y c:Int)(hx:0<=x)(hy:0<=y)(bHP:y<18446744073709551616)(bCS:0<=c)(hc:c<=1)(w:World) :
  (xE #[.int .u64 x,.int .u64 y,.int .u64 c]).run P w =
   .ok (.tuple #[.int .u64 ((x-y-c)%18446744073709551616),.int .u64 (if x<y+c then 1 else 0)]) w:=by
 have key:∀k:Nat,k<=1->(xE #[.int .u64 x,.int .u64 y,.int .u64 (k:Int)]).run P w =
   .ok (Extern.MathBitsCarry.pair ((x.toNat+Extern.MathBitsCarry.m64-y.toNat-k)%Extern.MathBitsCarry.m64) (if x.toNat<y.toNat+k then 1 else 0)) w:=by
  intro k hk;have:k=0\/k=1:=by omega
  rcases this with rfl |rfl <;> rfl
 obtain⟨k,rfl⟩:=cAS bCS;rw[key k (by omega)];obtain⟨X,rfl⟩:=cAS hx;obtain⟨Y,rfl⟩:=cAS hy;simp only[Extern.MathBitsCarry.pair,Extern.MathBitsCarry.m64,bZL];have e1:Int.ofNat ((X+2^64-Y-k)%2^64)=((X:Int)-Y-k)%18446744073709551616:=by
  show((((X+2^64-Y-k)%2^64:Nat)):Int)=_;omega
 have e2:Int.ofNat (if X<Y+k then 1 else 0)=if(X:Int)<Y+k then 1 else 0:=by
  show(((if X<Y+k then 1 else 0:Nat)):Int)=_;split <;> split <;> omega
 rw[e1,e2]
def aWX:List Value->Option (Prop×List Value)
 | [.int .u64 x,.int .u64 y,.int .u64 c]=>some ((0<=x/\0<=y/\y<18446744073709551616/\0<=c/\c<=1),[.int .u64 ((x-y-c)%18446744073709551616),.int .u64 (if x<y+c then 1 else 0)])
 |_=>none
theorem aQZ(vs:List Value)(q:Prop)(rs:List Value)(h:aWX vs=some (q,rs))(hq:q):(∀v∈rs,v.oneCell'=true)/\∀w,(xE vs.toArray).run P w=.ok (resV rs) w:=by
 unfold aWX at h;split at h
 ·cases h;obtain⟨h1,h2,h3,h4,h5⟩:=hq;exact⟨by simp[Value.oneCell'],fun w=>aEN _ _ _ h1 h2 h3 h4 h5 w⟩
 ·cases h
theorem Wf{f:FuncId}{fn:Func}{e:Array Value->Sem Value}(hf:P.funcs[f]?=some fn)(bBU:(fn.name== "runtime.NumGoroutine")=false)
  (hb:fn.body.isNone=true) (hn:Extern.findNext fn=none) (he:Extern.find fn=some e):aTZ P f e:=⟨fun args w=>run_callFunc_extern hf bBU hb hn he args w⟩
end AI
namespace M
open Go
def val:List Int->Nat
 | []=>0
 |d :: r=>d.toNat+4294967296*val r
def dg(n:Nat):List Int:=if h:n=0 then []else((n%4294967296:Nat):Int) :: dg (n/4294967296)
termination_by n
decreasing_by omega
def cY(a:List Int):Prop:=∀d∈a,0<=d/\d<4294967296
def cR(a:List Int):Prop:=a=dg (val a)
theorem cK:dg 0=[]:=by rw[dg];rfl
theorem pA{n:Nat}(h:n≠0):dg n=((n%4294967296:Nat):Int) :: dg (n/4294967296):=by rw[dg,dif_neg h]
theorem bQ(n:Nat):val (dg n)=n:=by
 induction n using cAY with
 |_ n ih =>
  by_cases h:n=0
  ·subst h;rw[cK];rfl
  ·rw[pA h,val,ih _ (by omega)];have:=cAT n 4294967296;omega
theorem oZ:cY []:=fun _ h=>by cases h
theorem mI{d:Int}{r:List Int}:cY (d :: r)↔(0<=d/\d<4294967296)/\cY r:=by
 unfold cY;simp
theorem qL{a b:List Int}:cY (a ++ b)↔cY a/\cY b:=by
 unfold cY;simp only[bWR];exact⟨fun h=>⟨fun d hd=>h d (.inl hd),fun d hd=>h d (.inr hd)⟩,fun h d hd=>hd.elim (h.1 d) (h.2 d)⟩
theorem cY.take{a:List Int}(h:cY a)(n:Nat):cY (a.take n):=fun d hd=>h d (cCL hd)
theorem cY.drop{a:List Int}(h:cY a)(n:Nat):cY (a.drop n):=fun d hd=>h d (cCM hd)
theorem kZ(n:Nat):cY (bXR n 0):=fun d hd=>by rw[(List.mem_replicate.1 hd).2];omega
theorem lG(n:Nat):cY (dg n):=by
 induction n using cAY with
 |_ n ih =>
  by_cases h:n=0
  ·subst h;rw[cK];exact oZ
  ·rw[pA h];exact mI.2 ⟨by omega,ih _ (by omega)⟩
theorem aY(n:Nat):cR (dg n):=by unfold cR;rw[bQ]
theorem cR.kW{a:List Int}(h:cR a):cY a:=by rw[h];exact lG _
theorem jI:∀(a b:List Int),val (a ++ b)=val a+4294967296^a.length*val b
 | [],b=>by simp[val]
 |d :: a,b=>by
  simp only[bXH,val,jI a b,bYZ,cAN];rw[cAO,<-cAR,cAM 4294967296 (4294967296^a.length)];omega
theorem dT:∀{a:List Int},cY a->val a<4294967296^a.length
 | [],_=>by simp[val]
 |d :: a,h=>by
  obtain⟨h1,h2⟩:=mI.1 h;have:=dT h2;simp only[val,bYZ,cAN];have:d.toNat<4294967296:=by omega
  have:4294967296*val a+4294967296<=4294967296^a.length*4294967296:=by
   rw[cAM (4294967296^a.length)];have:4294967296*(val a+1)<=4294967296*4294967296^a.length:=bYC _ (by omega);omega
  omega
theorem jU:∀n,val (bXR n 0)=0
 |0=>rfl
 |n+1=>by simp[cAU,val,jU n]
theorem Gj:∀{a:List Int},cY a->∃k,a=dg (val a) ++ bXR k 0
 | [],_=>⟨0,by simp[val,cK]⟩
 |d :: a,h=>by
  obtain⟨h1,h2⟩:=mI.1 h;obtain⟨k,hk⟩:=Gj h2
  by_cases hz:d.toNat+4294967296*val a=0
  ·have hd:d=0:=by omega
   have hv:val a=0:=by omega
   rw[hv,cK]at hk;refine⟨k+1,?_⟩;simp only[val];rw[hz,cK,hd,hk];simp[cAU]
  ·refine⟨k,?_⟩;simp only[val];rw[pA hz];have e1:(d.toNat+4294967296*val a)%4294967296=d.toNat:=by omega
   have e2:(d.toNat+4294967296*val a)/4294967296=val a:=by omega
   rw[e1,e2,bXH,<-hk];congr 1;omega
theorem Iy:cR []:=by unfold cR;simp[val,cK]
theorem Fw{a:List Int}(h:cY a)(ht:∀d,a.getLast?=some d->d≠0):cR a:=by
 obtain⟨k,hk⟩:=Gj h;cases k with
 |zero=>unfold cR;simpa using hk
 |succ k =>
  exfalso;refine ht 0 ?_ rfl;rw[hk,cCN,<-bXJ];simp
theorem cR.top{a:List Int}(h:cR a){d:Int}(hd:a.getLast?=some d):d≠0:=by
 have key:∀n,∀d,(dg n).getLast?=some d->d≠0:=by
  intro n
  induction n using cAY with
  |_ n ih =>
   intro d hd
   by_cases hn:n=0
   ·subst hn;rw[cK]at hd;cases hd
   ·rw[pA hn]at hd
    by_cases hq:n/4294967296=0
    ·rw[hq,cK]at hd;simp at hd;omega
    ·refine ih (n/4294967296) (by omega) d ?_;rw[pA hq]at hd ⊢;rwa [cBT]at hd
 rw[h]at hd;exact key _ d hd
theorem Vd{d:Int}{a:List Int}(h:cR (d :: a)):cR a:=by
 have hd:=h.kW;refine Fw (mI.1 hd).2 fun e he=>h.top ?_
 cases a with
 |nil=>cases he
 |cons x r=>rwa [cBT]
theorem eB {n k : Nat} (h : n < 4294967296 ^ k) : (dg n).length ≤ k := by
  induction k generalizing n with
  | zero => have : n = 0 := by simpa using h
            subst this; rw [cK]; exact bVO _
  | succ k ih =>
    by_cases hn : n = 0
    · subst hn; rw [cK]; simp
    · rw [pA hn, bYZ]
      have := ih (n := n / 4294967296) (by rw [cAN] at h; exact cBG (by rw [cAM]; exact h))
      omega
theorem wI{n:Nat}:n<4294967296^(dg n).length:=by
 have:=dT (lG n);rwa [bQ]at this
theorem zN{n m:Nat}(h:n<=m):(dg n).length<=(dg m).length:=eB (cBY h wI)
theorem tT{a:List Int}(h:cY a):(dg (val a)).length<=a.length:=eB (dT h)
theorem Bf{n k:Nat}(h:k<(dg n).length):4294967296^k<=n:=by
 rcases bWE n (4294967296^k)with h1 |h1
 ·have:=eB h1;omega
 ·exact h1
theorem mL{a:List Int}{n:Nat}(h:n<a.length):val (a.take (n+1))=val (a.take n)+4294967296^n*(a.getD n 0).toNat:=by
 rw[cBD h,jI,bYE,cBU (by omega)];simp[val,cAP,h]
theorem iZ(a:List Int){n:Nat}(h:n<=a.length):val a=val (a.take n)+4294967296^n*val (a.drop n):=by
 have e:=jI (a.take n) (a.drop n);rw[cCO,bYE,cBU h]at e;exact e
theorem Ls{a:List Int}{n:Nat}(h:n<a.length):a.getD n 0∈a:=by
 rw[cAP,bWF h];simp
theorem cY.get{a:List Int}(h:cY a)(n:Nat):0<=a.getD n 0/\a.getD n 0<4294967296:=by
 rcases bWE n a.length with hn |hn
 ·exact h _ (Ls hn)
 ·rw[cAP,bXK hn];simp
theorem getLast_take{a:List Int}{n:Nat}(h:n<a.length):(a.take (n+1)).getLast?=some (a.getD n 0):=by
 rw[cBD h,cCP];simp[cAP,h]
theorem xZ{w:Int}(h:0<=w)(h':w<18446744073709551616):AI.gA .and .u64 w 4294967295=w%4294967296:=by
 obtain⟨n,rfl⟩:=cAS h;rw[AI.wS];unfold AI.bitsI0;simp only;have e:(BitVec.ofInt u64.bits (n:Int) &&& BitVec.ofInt u64.bits 4294967295).toNat=n%4294967296:=by
  show(BitVec.ofInt 64 (n:Int) &&& BitVec.ofInt 64 4294967295).toNat=_;rw[BitVec.toNat_and];have e1:(BitVec.ofInt 64 (n:Int)).toNat=n:=by simp;omega
  have e2:(BitVec.ofInt 64 4294967295).toNat=2^32-1:=by decide
  rw[e1,e2,Nat.and_two_pow_sub_one_eq_mod]
 rw[e,wrap_u64];omega
section
variable {R:Type} {x y:Option R}
theorem aP{p:Prop}[Decidable p](h:p:=by omega):AI.aB (decide p) x y=x:=by simp only[AI.aB,decide_eq_true h,cond_true]
theorem aL{p:Prop}[Decidable p](h:¬p:=by omega):AI.aB (decide p) x y=y:=by simp only[AI.aB,decide_eq_false h,cond_false]
theorem cO{a b:Int}(h:a=b:=by omega):AI.aB (a==b) x y=x:=by subst h;simp[AI.aB]
theorem bN{a b:Int}(h:a≠b:=by omega):AI.aB (a==b) x y=y:=by rw[beq_eq_false_iff_ne.2 h];rfl
theorem nC{a b:Int}(h:a≠b:=by omega):AI.aB (a !=b) x y=x:=by rw[bne_iff_ne.2 h];rfl
theorem gG{a b:Int}(h:a=b:=by omega):AI.aB (a !=b) x y=y:=by subst h;simp[AI.aB]
theorem bT:AI.aB true x y=x:=rfl
theorem bF:AI.aB false x y=y:=rfl
theorem aXQ{b:Bool}(h:b=true):AI.aB b x y=x:=by rw[h];rfl
theorem Sx{b:Bool}(h:b=false):AI.aB b x y=y:=by rw[h];rfl
theorem gP{g:Prop}(h:g:=by omega):AI.aO g x=x:=AI.aQY h
end
def lB(a b:Nat):Int:=if a<b then -1 else if b<a then 1 else 0
theorem getD_none{a:List Int}{n:Nat}(h:a.length<=n):a.getD n 0=0:=by
 rw[cAP,bXK h];rfl
theorem dS{a:List Int}{n:Nat}(h:a.length<=n):val (a.take n)=val a:=by rw[cBH h]
theorem dR{a:List Int}(n:Nat):val (a.take (n+1))=val (a.take n)+4294967296^n*(a.getD n 0).toNat:=by
 rcases bWE n a.length with h |h
 ·exact mL h
 ·rw[dS (by omega),dS h,getD_none h];simp
theorem iN{a:List Int}(h:cY a)(n:Nat):val (a.take n)<4294967296^n:=by
 have:=dT (h.take n);exact bWL this (bYP (by omega) (by rw[bYE];omega))
theorem nV{a:List Int}{d:Int}:val (a ++ [d])=val a+4294967296^a.length*d.toNat:=by
 rw[jI];simp[val]
theorem nZ{a:List Int}{d:Int}(h:cY a)(hd:0<=d/\d<4294967296):cY (a ++ [d]):=by
 rw[qL,mI];exact⟨h,hd,oZ⟩
theorem Iz{a:List Int}(h:cR a):dg (val a)=a:=h.symm
theorem uL{a b:List Int}(ha:cY a)(hb:cR b)(h:a.length<b.length):val a<val b:=by
 have h1:=dT ha;have h2:4294967296^a.length<=val b:=Bf (by rw[<-hb];exact h);omega
theorem dZ{a:List Int}(ha:cR a):a.length=0↔val a=0:=by
 constructor
 ·intro h;have:a=[]:=List.length_eq_zero_iff.1 h;subst this;rfl
 ·intro h;rw[ha,h,cK];rfl
theorem iQ{n:Nat}:(dg n).length=0↔n=0:=by rw[dZ (aY n),bQ]
theorem oF{a:List Int}(h:cY a){n:Nat}{d:Int}(hd:0<=d/\d<4294967296):cY (a.set n d):=by
 intro x hx;rcases cCQ hx with h1 |h1
 ·exact h x h1
 ·subst h1;exact hd
theorem xC{a:List Int}{n:Nat}(h:n<a.length)(d:Int):val ((a.set n d).drop n)=d.toNat+4294967296*val (a.drop (n+1)):=by
 have e:(a.set n d).drop n=d :: a.drop (n+1):=by
  rw[cBV (by simpa using h)];simp[cCR]
 rw[e];rfl
theorem jM{a:List Int}(n:Nat):val (a.drop n)=(a.getD n 0).toNat+4294967296*val (a.drop (n+1)):=by
 rcases bWE n a.length with h |h
 ·rw[cBV h];simp[val,cAP,h]
 ·rw[cBE h,cBE (by omega),getD_none h];rfl
theorem aMV(u v k:Nat):lB (u+k) (v+k)=lB u v:=by
 unfold lB;simp only[Nat.add_lt_add_iff_right]
end M
namespace M
open Go
def bl(n:Nat):Nat:=if n=0 then 0 else n.log2+1
theorem Sv:bl 0=0:=rfl
theorem vG(n:Nat):n<2^bl n:=by
 unfold bl;split
 ·omega
 ·exact Nat.lt_log2_self
theorem Ww{n:Nat}(h:n≠0):2^(bl n-1)<=n:=by
 unfold bl;rw[if_neg h];exact Nat.log2_self_le h
theorem cZ{n k:Nat}:bl n<=k↔n<2^k:=by
 constructor
 ·intro h;exact bWL (vG n) (bYP (by omega) h)
 ·intro h
  by_cases hn:n=0
  ·subst hn;exact cBX _
  ·rcases bWE k (bl n)with h1 |h1
   ·exfalso;have h2:=Ww hn;have h3:2^k<=2^(bl n-1):=gO;omega
   ·exact h1
theorem qG{n k:Nat}:k<bl n↔2^k<=n:=by
 have:=@cZ n k;omega
theorem pD{n:Nat}(h:n≠0):0<bl n:=by rw[qG];simp;omega
theorem bDY{n k:Nat}(h:2^k<=n)(h':n<2^(k+1)):bl n=k+1:=by
 have:=cZ.2 h';have:=qG.2 h;omega
theorem Gt{r k t:Nat}(hr:r<2^k)(ht:t≠0):bl (r+2^k*t)=k+bl t:=by
 have hp:=pD ht;have e:k+bl t=(k+(bl t-1))+1:=by omega
 rw[e];apply bDY
 ·rw[cAQ];have:=bYC (2^k) (Ww ht);omega
 ·have h1:=vG t;have h2:2^k*(t+1)<=2^k*2^bl t:=bYC _ h1;rw[<-cAQ]at h2;rw[cAO]at h2;have e2:k+(bl t-1)+1=k+bl t:=by omega
  rw[e2];omega
theorem xW{k t:Nat}(ht:t≠0):bl (2^k*t)=k+bl t:=by
 have:=Gt (r:=0) (k:=k) (t:=t) (cX) ht;rwa [bVQ]at this
theorem fY{a b:Nat}(h:a<=b):bl a<=bl b:=cZ.2 (cBY h (vG b))
theorem bAF(k:Nat):4294967296^k=2^(32*k):=by rw[cBZ]
theorem Vi{n k:Nat}(h:n<2^k):(dg n).length<=k/32+1:=by
 apply eB;rw[bAF];exact bWL h (gO)
theorem nH{a:List Int}(h:cY a)(n:Nat):val (a.drop n)=val a/4294967296^n:=by
 rcases Nat.le_or_ge n a.length with hn |hn
 ·rw[iZ a hn,cCS _ _ (cX),cBI (iN h n),bVQ]
 ·rw[cBE hn,cBI]
  ·rfl
  ·exact bWL (dT h) (bYP (by omega) hn)
end M
namespace M6
open Go
def val:List Int->Nat
 | []=>0
 |d :: r=>d.toNat+18446744073709551616*val r
def dg(n:Nat):List Int:=if h:n=0 then []else((n%18446744073709551616:Nat):Int) :: dg (n/18446744073709551616)
termination_by n
decreasing_by omega
def cY(a:List Int):Prop:=∀d∈a,0<=d/\d<18446744073709551616
def cR(a:List Int):Prop:=a=dg (val a)
theorem cK:dg 0=[]:=by rw[dg];rfl
theorem pA{n:Nat}(h:n≠0):dg n=((n%18446744073709551616:Nat):Int) :: dg (n/18446744073709551616):=by rw[dg,dif_neg h]
theorem bQ(n:Nat):val (dg n)=n:=by
 induction n using cAY with
 |_ n ih =>
  by_cases h:n=0
  ·subst h;rw[cK];rfl
  ·rw[pA h,val,ih _ (by omega)];have:=cAT n 18446744073709551616;omega
theorem oZ:cY []:=fun _ h=>by cases h
theorem mI{d:Int}{r:List Int}:cY (d :: r)↔(0<=d/\d<18446744073709551616)/\cY r:=by
 unfold cY;simp
theorem qL{a b:List Int}:cY (a ++ b)↔cY a/\cY b:=by
 unfold cY;simp only[bWR];exact⟨fun h=>⟨fun d hd=>h d (.inl hd),fun d hd=>h d (.inr hd)⟩,fun h d hd=>hd.elim (h.1 d) (h.2 d)⟩
theorem cY.take{a:List Int}(h:cY a)(n:Nat):cY (a.take n):=fun d hd=>h d (cCL hd)
theorem cY.drop{a:List Int}(h:cY a)(n:Nat):cY (a.drop n):=fun d hd=>h d (cCM hd)
theorem kZ(n:Nat):cY (bXR n 0):=fun d hd=>by rw[(List.mem_replicate.1 hd).2];omega
theorem lG(n:Nat):cY (dg n):=by
 induction n using cAY with
 |_ n ih =>
  by_cases h:n=0
  ·subst h;rw[cK];exact oZ
  ·rw[pA h];exact mI.2 ⟨by omega,ih _ (by omega)⟩
theorem aY(n:Nat):cR (dg n):=by unfold cR;rw[bQ]
theorem cR.kW{a:List Int}(h:cR a):cY a:=by rw[h];exact lG _
theorem jI:∀(a b:List Int),val (a ++ b)=val a+18446744073709551616^a.length*val b
 | [],b=>by simp[val]
 |d :: a,b=>by
  simp only[bXH,val,jI a b,bYZ,cAN];rw[cAO,<-cAR,cAM 18446744073709551616 (18446744073709551616^a.length)];omega
theorem dT:∀{a:List Int},cY a->val a<18446744073709551616^a.length
 | [],_=>by simp[val]
 |d :: a,h=>by
  obtain⟨h1,h2⟩:=mI.1 h;have:=dT h2;simp only[val,bYZ,cAN];have:d.toNat<18446744073709551616:=by omega
  have:18446744073709551616*val a+18446744073709551616<=18446744073709551616^a.length*18446744073709551616:=by
   rw[cAM (18446744073709551616^a.length)];have:18446744073709551616*(val a+1)<=18446744073709551616*18446744073709551616^a.length:=bYC _ (by omega);omega
  omega
theorem jU:∀n,val (bXR n 0)=0
 |0=>rfl
 |n+1=>by simp[cAU,val,jU n]
theorem Gj:∀{a:List Int},cY a->∃k,a=dg (val a) ++ bXR k 0
 | [],_=>⟨0,by simp[val,cK]⟩
 |d :: a,h=>by
  obtain⟨h1,h2⟩:=mI.1 h;obtain⟨k,hk⟩:=Gj h2
  by_cases hz:d.toNat+18446744073709551616*val a=0
  ·have hd:d=0:=by omega
   have hv:val a=0:=by omega
   rw[hv,cK]at hk;refine⟨k+1,?_⟩;simp only[val];rw[hz,cK,hd,hk];simp[cAU]
  ·refine⟨k,?_⟩;simp only[val];rw[pA hz];have e1:(d.toNat+18446744073709551616*val a)%18446744073709551616=d.toNat:=by omega
   have e2:(d.toNat+18446744073709551616*val a)/18446744073709551616=val a:=by omega
   rw[e1,e2,bXH,<-hk];congr 1;omega
theorem Iy:cR []:=by unfold cR;simp[val,cK]
theorem Fw{a:List Int}(h:cY a)(ht:∀d,a.getLast?=some d->d≠0):cR a:=by
 obtain⟨k,hk⟩:=Gj h;cases k with
 |zero=>unfold cR;simpa using hk
 |succ k =>
  exfalso;refine ht 0 ?_ rfl;rw[hk,cCN,<-bXJ];simp
theorem cR.top{a:List Int}(h:cR a){d:Int}(hd:a.getLast?=some d):d≠0:=by
 have key:∀n,∀d,(dg n).getLast?=some d->d≠0:=by
  intro n
  induction n using cAY with
  |_ n ih =>
   intro d hd
   by_cases hn:n=0
   ·subst hn;rw[cK]at hd;cases hd
   ·rw[pA hn]at hd
    by_cases hq:n/18446744073709551616=0
    ·rw[hq,cK]at hd;simp at hd;omega
    ·refine ih (n/18446744073709551616) (by omega) d ?_;rw[pA hq]at hd ⊢;rwa [cBT]at hd
 rw[h]at hd;exact key _ d hd
theorem Vd{d:Int}{a:List Int}(h:cR (d :: a)):cR a:=by
 have hd:=h.kW;refine Fw (mI.1 hd).2 fun e he=>h.top ?_
 cases a with
 |nil=>cases he
 |cons x r=>rwa [cBT]
theorem eB {n k : Nat} (h : n < 18446744073709551616 ^ k) : (dg n).length ≤ k := by
  induction k generalizing n with
  | zero => have : n = 0 := by simpa using h
            subst this; rw [cK]; exact bVO _
  | succ k ih =>
    by_cases hn : n = 0
    · subst hn; rw [cK]; simp
    · rw [pA hn, bYZ]
      have := ih (n := n / 18446744073709551616) (by rw [cAN] at h; exact cBG (by rw [cAM]; exact h))
      omega
theorem wI{n:Nat}:n<18446744073709551616^(dg n).length:=by
 have:=dT (lG n);rwa [bQ]at this
theorem zN{n m:Nat}(h:n<=m):(dg n).length<=(dg m).length:=eB (cBY h wI)
theorem tT{a:List Int}(h:cY a):(dg (val a)).length<=a.length:=eB (dT h)
theorem Bf{n k:Nat}(h:k<(dg n).length):18446744073709551616^k<=n:=by
 rcases bWE n (18446744073709551616^k)with h1 |h1
 ·have:=eB h1;omega
 ·exact h1
theorem mL{a:List Int}{n:Nat}(h:n<a.length):val (a.take (n+1))=val (a.take n)+18446744073709551616^n*(a.getD n 0).toNat:=by
 rw[cBD h,jI,bYE,cBU (by omega)];simp[val,cAP,h]
theorem iZ(a:List Int){n:Nat}(h:n<=a.length):val a=val (a.take n)+18446744073709551616^n*val (a.drop n):=by
 have e:=jI (a.take n) (a.drop n);rw[cCO,bYE,cBU h]at e;exact e
theorem Ls{a:List Int}{n:Nat}(h:n<a.length):a.getD n 0∈a:=by
 rw[cAP,bWF h];simp
theorem cY.get{a:List Int}(h:cY a)(n:Nat):0<=a.getD n 0/\a.getD n 0<18446744073709551616:=by
 rcases bWE n a.length with hn |hn
 ·exact h _ (Ls hn)
 ·rw[cAP,bXK hn];simp
theorem getLast_take{a:List Int}{n:Nat}(h:n<a.length):(a.take (n+1)).getLast?=some (a.getD n 0):=by
 rw[cBD h,cCP];simp[cAP,h]
theorem getD_none{a:List Int}{n:Nat}(h:a.length<=n):a.getD n 0=0:=by
 rw[cAP,bXK h];rfl
theorem dS{a:List Int}{n:Nat}(h:a.length<=n):val (a.take n)=val a:=by rw[cBH h]
theorem dR{a:List Int}(n:Nat):val (a.take (n+1))=val (a.take n)+18446744073709551616^n*(a.getD n 0).toNat:=by
 rcases bWE n a.length with h |h
 ·exact mL h
 ·rw[dS (by omega),dS h,getD_none h];simp
theorem iN{a:List Int}(h:cY a)(n:Nat):val (a.take n)<18446744073709551616^n:=by
 have:=dT (h.take n);exact bWL this (bYP (by omega) (by rw[bYE];omega))
theorem nV{a:List Int}{d:Int}:val (a ++ [d])=val a+18446744073709551616^a.length*d.toNat:=by
 rw[jI];simp[val]
theorem nZ{a:List Int}{d:Int}(h:cY a)(hd:0<=d/\d<18446744073709551616):cY (a ++ [d]):=by
 rw[qL,mI];exact⟨h,hd,oZ⟩
theorem Iz{a:List Int}(h:cR a):dg (val a)=a:=h.symm
theorem uL{a b:List Int}(ha:cY a)(hb:cR b)(h:a.length<b.length):val a<val b:=by
 have h1:=dT ha;have h2:18446744073709551616^a.length<=val b:=Bf (by rw[<-hb];exact h);omega
theorem dZ{a:List Int}(ha:cR a):a.length=0↔val a=0:=by
 constructor
 ·intro h;have:a=[]:=List.length_eq_zero_iff.1 h;subst this;rfl
 ·intro h;rw[ha,h,cK];rfl
theorem iQ{n:Nat}:(dg n).length=0↔n=0:=by rw[dZ (aY n),bQ]
theorem oF{a:List Int}(h:cY a){n:Nat}{d:Int}(hd:0<=d/\d<18446744073709551616):cY (a.set n d):=by
 intro x hx;rcases cCQ hx with h1 |h1
 ·exact h x h1
 ·subst h1;exact hd
theorem xC{a:List Int}{n:Nat}(h:n<a.length)(d:Int):val ((a.set n d).drop n)=d.toNat+18446744073709551616*val (a.drop (n+1)):=by
 have e:(a.set n d).drop n=d :: a.drop (n+1):=by
  rw[cBV (by simpa using h)];simp[cCR]
 rw[e];rfl
theorem jM{a:List Int}(n:Nat):val (a.drop n)=(a.getD n 0).toNat+18446744073709551616*val (a.drop (n+1)):=by
 rcases bWE n a.length with h |h
 ·rw[cBV h];simp[val,cAP,h]
 ·rw[cBE h,cBE (by omega),getD_none h];rfl
end M6
namespace M
open Go AI
def zs(b:Bool)(n:Nat):Int:=bif b then -(n:Int)else n
def zv(x:Bool×List Int):Int:=zs x.1 (val x.2)
def bGB(x:Bool×List Int):Prop:=cR x.2/\(x.1=true->val x.2≠0)/\x.2.length<=549755813888
def isNeg(z:Int):Bool:=match z with
 | .negSucc _=>true
 | .ofNat _=>false
theorem nL{z:Int}:isNeg z=true↔z<0:=by cases z <;> simp[isNeg] <;> omega
theorem iO{z:Int}:isNeg z=false↔0<=z:=by cases z <;> simp[isNeg] <;> omega
theorem Qn(b:Bool)(n:Nat):isNeg (zs b n)=(b&&decide (n≠0)):=by
 unfold zs;cases b with
 |false=>simp only[cond_false,cAV];exact iO.2 (by omega)
 |true =>
  simp only[cond_true,bYQ]
  by_cases h:n=0
  ·subst h;rfl
  ·rw[decide_eq_true h];exact nL.2 (by omega)
theorem lP(b:Bool)(n:Nat):(zs b n).natAbs=n:=by
 unfold zs;cases b <;> simp
theorem bGB.cells{x:Bool×List Int}(h:bGB x):isNeg (zv x)=x.1/\dg (zv x).natAbs=x.2:=by
 obtain⟨h1,h2,h3⟩:=h;unfold zv;rw[Qn,lP,<-h1];refine⟨?_,rfl⟩;cases hx:x.1 with
 |false=>rfl
 |true=>rw[decide_eq_true (h2 hx)];rfl
theorem bGB.len{x:Bool×List Int}(h:bGB x):x.2.length<=549755813888:=h.2.2
def lH(a b:Int):Int:=if a<b then -1 else if b<a then 1 else 0
theorem aDY{a b:Nat}:0<=lB a b↔b<=a:=by unfold lB;split <;> (try split) <;> omega
theorem Bk(a b:Nat):bl (a+b)<=max (bl a) (bl b)+1:=by
 rw[cZ,cAN];have h1:=vG a;have h2:=vG b;have h3:2^bl a<=2^max (bl a) (bl b):=gO;have h4:2^bl b<=2^max (bl a) (bl b):=gO;omega
theorem Qc(a b:Nat):bl (a*b)<=bl a+bl b:=by
 rw[cZ,cAQ];exact Nat.mul_lt_mul'' (vG a) (vG b)
theorem Gc{n k:Nat}(h:bl n<=k):(dg n).length<=k/32+1:=Vi (cZ.1 h)
abbrev K6:=Int×Int×Int×Int×Int×Int
def kf(w:Bool):K6:=bif w then(9223372036854775808,53,-1074,971,9218868437227405312,9221120237041090561)else(2147483648,24,-149,104,2139095040,2143289345)
def kP(k:K6):Nat:=k.2.1.toNat
def kH(k:K6):Nat:=2^(kP k-1)
end M
namespace M
open Go
theorem Xe{a b:Int}(ha:0<=a)(bFN:a<18446744073709551616)(hb:0<=b)(uZ:b<18446744073709551616):AI.gA .and .u64 a b=((a.toNat &&& b.toNat:Nat):Int):=by
 obtain⟨n,rfl⟩:=cAS ha;obtain⟨m,rfl⟩:=cAS hb;rw[AI.wS];unfold AI.bitsI0;simp only;have e:(BitVec.ofInt u64.bits (n:Int) &&& BitVec.ofInt u64.bits (m:Int)).toNat=n &&& m:=by
  show(BitVec.ofInt 64 (n:Int) &&& BitVec.ofInt 64 (m:Int)).toNat=_;rw[BitVec.toNat_and];have e1:(BitVec.ofInt 64 (n:Int)).toNat=n:=by simp;omega
  have e2:(BitVec.ofInt 64 (m:Int)).toNat=m:=by simp;omega
  rw[e1,e2]
 have hle:n &&& m<=n:=Nat.and_le_left;rw[e,wrap_u64];rfl
theorem Uy{a b:Int}(ha:0<=a)(bFN:a<18446744073709551616)(hb:0<=b)(uZ:b<18446744073709551616):AI.gA .or .u64 a b=((a.toNat |||b.toNat:Nat):Int):=by
 obtain⟨n,rfl⟩:=cAS ha;obtain⟨m,rfl⟩:=cAS hb;rw[AI.wS];unfold AI.bitsI0;simp only;have e:(BitVec.ofInt u64.bits (n:Int) |||BitVec.ofInt u64.bits (m:Int)).toNat=n |||m:=by
  show(BitVec.ofInt 64 (n:Int) |||BitVec.ofInt 64 (m:Int)).toNat=_;rw[BitVec.toNat_or];have e1:(BitVec.ofInt 64 (n:Int)).toNat=n:=by simp;omega
  have e2:(BitVec.ofInt 64 (m:Int)).toNat=m:=by simp;omega
  rw[e1,e2]
 have jB:n |||m<2^64:=Nat.or_lt_two_pow (by omega) (by omega);rw[e,wrap_u64];rfl
def tz:Nat->Nat
 |0=>0
 |n+1=>if(n+1)%2=1 then 0 else tz ((n+1)/2)+1
termination_by n=>n
decreasing_by omega
theorem yW{n:Nat}(h:n%2=1):tz n=0:=by
 cases n with
 |zero=>omega
 |succ n=>rw[tz,if_pos h]
theorem Di{n:Nat}(h0:n≠0)(h:n%2=0):tz n=tz (n/2)+1:=by
 cases n with
 |zero=>omega
 |succ n=>rw[tz,aW]
theorem tM:∀n,n≠0->n%2^tz n=0/\(n/2^tz n)%2=1:=by
 intro n
 induction n using cAY with
 |_ n ih =>
  intro h0
  by_cases h:n%2=1
  ·rw[yW h];simp[Nat.mod_one];exact h
  ·rw[Di h0 (by omega)];obtain⟨h1,h2⟩:=ih (n/2) (by omega) (by omega);have e:2^(tz (n/2)+1)=2*2^tz (n/2):=by rw[cAN];omega
   rw[e];refine⟨?_,by rw[<-cCA];exact h2⟩;have h3:=cAT (n/2) (2^tz (n/2));rw[h1]at h3;generalize tz (n/2)=t at *;have h4:n=2*2^t*(n/2/2^t):=by rw[cAR];omega
   generalize n/2/2^t=q at *;rw[h4];exact Nat.mul_mod_right _ _
theorem Jo{n:Nat}(h:n≠0):2^tz n<=n:=by
 obtain⟨h1,h2⟩:=tM n h;have h3:=cAT n (2^tz n);rw[h1]at h3;generalize 2^tz n=p at *;generalize n/p=q at *;have:p*1<=p*q:=bYC _ (by omega);omega
theorem Qr{n:Nat}(h:n≠0):∀k,tz (2^k*n)=k+tz n
 |0=>by simp
 |k+1=>by
  have hp:0<2^k:=cX;have h0:2^k*n≠0:=Nat.mul_ne_zero (by omega) h;have e:2^(k+1)*n=2*(2^k*n):=by rw[cAN,cAM (2^k) 2,cAR]
  rw[e,Di (by omega) (by omega),Nat.mul_div_cancel_left _ (by omega),Qr h k];omega
theorem aHY{r k n:Nat}(hr:r<2^k)(h:r≠0):tz (r+2^k*n)=tz r:=by
 induction k generalizing r n with
 |zero=>simp at hr;omega
 |succ k ih =>
  have e:2^(k+1)*n=2*(2^k*n):=by rw[cAN,cAM (2^k) 2,cAR]
  rw[e];rw[cAN]at hr
  by_cases ho:r%2=1
  ·rw[yW ho,yW (by omega)]
  ·rw[Di (by omega) (by omega),Di h (by omega),show(r+2*(2^k*n))/2=r/2+2^k*n from by omega,ih (by omega) (by omega)]
theorem Vk(a b:Nat):a &&& b=2*(a/2 &&& b/2)+(if a%2=1/\b%2=1 then 1 else 0):=by
 have h1:(a &&& b)/2=a/2 &&& b/2:=Nat.and_div_two;have h2:(a &&& b)%2=1↔a%2=1/\b%2=1:=Nat.and_mod_two_eq_one;rw[<-h1];split
 ·rename_i h;have:=h2.2 h;omega
 ·rename_i h;have:¬(a &&& b)%2=1:=fun hh=>h (h2.1 hh)
  omega
theorem Ky:∀(p m:Nat),m<2^p->m &&& (2^p-1-m)=0
 |0,m,h=>by simp at h;subst h;rfl
 |p+1,m,h=>by
  rw[cAN]at h ⊢;rw[Vk,show(2^p*2-1-m)/2=2^p-1-m/2 from by omega,Ky p (m/2) (by omega),aW]
theorem Vj:∀(p a b:Nat),a+b=2^p->a≠0->b≠0->a &&& b=2^tz a
 |0,a,b,h,ha,hb=>by simp at h;omega
 |p+1,a,b,h,ha,hb=>by
  rw[cAN]at h;rw[Vk]
  by_cases ho:a%2=1
  ·rw[yW ho,show b/2=2^p-1-a/2 from by omega,Ky p (a/2) (by omega),aU]
  ·rw[Di ha (by omega),Vj p (a/2) (b/2) (by omega) (by omega) (by omega),aW,cAN,cAM,bWM]
theorem zG{pre:List Int}{i k:Nat}(h:pre.length=i)(v:Int):(pre ++ bXR (k+1) 0).set i v=(pre ++ [v]) ++ bXR k 0:=by
 subst h;rw[cCT _ _ (bVO _),Nat.sub_self,cAU,cCU,bXJ];rfl
theorem Gh{pre:List Int}{i:Nat}(h:pre.length=i)(v:Int)(r:List Int):(pre ++ v :: r).getD i 0=v:=by
 subst h;simp[cAP]
theorem Fl{pre:List Int}{i:Nat}(h:pre.length=i)(v u:Int)(r:List Int):(pre ++ v :: r).set i u=pre ++ u :: r:=by
 subst h;rw[cCT _ _ (bVO _),Nat.sub_self,cCU]
theorem Fv{c n k:Nat}(h:c<2^k):c |||2^k*n=c+2^k*n:=by
 rw[Nat.or_comm,<-Nat.two_pow_add_eq_or_of_lt h,cBR]
theorem Pc(k:Nat):18446744073709551616^k=2^(64*k):=by rw[cBZ]
theorem fL{n k:Nat}(h:bl n<=64*k):(M6.dg n).length<=k:=by
 apply M6.eB;rw[Pc,<-cZ];exact h
theorem xX{a:List Int}(h:M6.cY a){n:Nat}(hn:a.length<=n):bl (M6.val a)<=64*n:=by
 rw[cZ,<-Pc];exact bWL (M6.dT h) (bYP (by omega) hn)
theorem aJR{x:List Int}(h:M6.cR x):(M6.dg (M6.val x)).length=x.length:=by rw[<-h]
theorem aIK{n:Int}(h:0<=n):n.tdiv 64=n/64:=Int.tdiv_eq_ediv_of_nonneg h
theorem aIG{n:Int}(h:0<=n):n.tmod 64=n%64:=Int.tmod_eq_emod_of_nonneg h
theorem Kk(n:Nat):2^n=18446744073709551616^(n/64)*2^(n%64):=by
 rw[Pc,<-cAQ];congr 1;omega
theorem Fj(x k:Nat)(h:k<64):x*2^k=18446744073709551616*(x/2^(64-k))+x*2^k%18446744073709551616:=by
 have e:(18446744073709551616:Nat)=2^(64-k)*2^k:=by rw[<-cAQ,show 64-k+k=64 from by omega]
 have h1:x*2^k/18446744073709551616=x/2^(64-k):=by
  rw[e,Nat.mul_div_mul_right _ _ (cX)]
 have:=cAT (x*2^k) 18446744073709551616;rw[h1]at this;omega
theorem Il(x k:Nat)(h:k<64):x*2^k%18446744073709551616=2^k*(x%2^(64-k)):=by
 have e:(18446744073709551616:Nat)=2^(64-k)*2^k:=by rw[<-cAQ,show 64-k+k=64 from by omega]
 rw[e,Nat.mul_mod_mul_right,cAM]
end M
namespace W
open Go AI
abbrev Qs(k:IntKind)(b:Nat):TI:={size:=1,bytes:=b,zero:=[.int k 0],kind:=.int k}
abbrev aYP(e:Nat):TI:={size:=1,bytes:=24,zero:=[.slice none 0 0],kind:=.slice e}
abbrev yR(n b:Nat)(z:List Value)(f:List (Nat×Nat×Bool)):TI:={size:=n,bytes:=b,zero:=z,kind:=.struct f}
abbrev lR(k:IntKind):Value:=.int k 0
def Js:List (Nat×TI):=[
 (2,Qs .i64 8),
 (3,Qs .i64 8),
 (4,{ size:=1,bytes:=1,zero:=[.bool false],kind:=TK.bool }),
 (5,Qs .u8 1),
 (6,Qs .u8 1),
 (7,yR 4 24 [lR .i64,lR .i64,.bool false,lR .u8] [(0,1,false),(1,1,false),(2,1,false),(3,1,false)]),
 (8,yR 4 24 [lR .i64,lR .i64,.bool false,lR .u8] [(0,1,false),(1,1,false),(2,1,false),(3,1,false)]),
 (9,{ size:=1,bytes:=16,zero:=[Value.string ByteArray.empty],kind:=TK.str }),
 (10,{ size:=1,bytes:=16,zero:=[Value.string ByteArray.empty],kind:=TK.str }),
 (11,{ size:=1,bytes:=16,zero:=[Value.string ByteArray.empty],kind:=TK.str }),
 (12,Qs .u64 8),
 (18,yR 1 8 [.pointer none] [(0,1,false)]),
 (19,yR 1 8 [.pointer none] [(0,1,false)]),
 (21,Qs .i32 4),
 (22,Qs .u64 8),
 (25,aYP 22),
 (26,yR 2 32 [.bool false,.slice none 0 0] [(0,1,false),(1,1,false)]),
 (27,yR 2 32 [.bool false,.slice none 0 0] [(0,1,false),(1,1,false)]),
 (28,yR 3 40 [.bool false,.slice none 0 0,lR .i64] [(0,2,true),(2,1,false)]),
 (29,yR 3 40 [.bool false,.slice none 0 0,lR .i64] [(0,2,true),(2,1,false)]),
 (30,Qs .i64 8),
 (33,Qs .i64 8),
 (42,Qs .i64 8),
 (43,yR 6 80 [.bool false,.slice none 0 0,lR .i64,.bool false,.slice none 0 0,lR .i64] [(0,3,true),(3,3,true)]),
 (44,yR 6 80 [.bool false,.slice none 0 0,lR .i64,.bool false,.slice none 0 0,lR .i64] [(0,3,true),(3,3,true)]),
 (46,{ size:=1,bytes:=8,zero:=[Value.nilFunc],kind:=TK.other }),
 (51,aYP 3),
 (55,yR 6 48 [lR .i64,lR .i64,lR .i64,lR .u64,lR .i64,lR .i64] [(0,1,false),(1,1,false),(2,1,false),(3,1,false),(4,1,false),(5,1,false)]),
 (56,yR 6 48 [lR .i64,lR .i64,lR .i64,lR .u64,lR .i64,lR .i64] [(0,1,false),(1,1,false),(2,1,false),(3,1,false),(4,1,false),(5,1,false)]),
 (57,aYP 56),
 (61,yR 3 24 [lR .u64,.bool false,lR .i64] [(0,1,false),(1,1,false),(2,1,false)]),
 (62,yR 3 24 [lR .u64,.bool false,lR .i64] [(0,1,false),(1,1,false),(2,1,false)]),
 (66,yR 6 48 [lR .u64,lR .i64,lR .i64,lR .i64,lR .u64,lR .u64] [(0,1,false),(1,1,false),(2,1,false),(3,1,false),(4,1,false),(5,1,false)]),
 (67,yR 6 48 [lR .u64,lR .i64,lR .i64,lR .i64,lR .u64,lR .u64] [(0,1,false),(1,1,false),(2,1,false),(3,1,false),(4,1,false),(5,1,false)]),
 (71,Qs .u32 4),
 (83,yR 4 32 [lR .i64,lR .i64,lR .i64,lR .u64] [(0,1,false),(1,1,false),(2,1,false),(3,1,false)]),
 (84,yR 4 32 [lR .i64,lR .i64,lR .i64,lR .u64] [(0,1,false),(1,1,false),(2,1,false),(3,1,false)]),
 (97,yR 3 24 [lR .i64,lR .i64,lR .i64] [(0,1,false),(1,1,false),(2,1,false)]),
 (98,yR 3 24 [lR .i64,lR .i64,lR .i64] [(0,1,false),(1,1,false),(2,1,false)]),
 (107,yR 2 16 [lR .i64,.bool false] [(0,1,false),(1,1,false)]),
 (108,yR 2 16 [lR .i64,.bool false] [(0,1,false),(1,1,false)]),
 (122,Qs .i64 8),
 (127,{ size:=1,bytes:=8,zero:=[Value.nilFunc],kind:=TK.other }),
 (128,yR 2 16 [lR .i64,Value.nilFunc] [(0,1,false),(1,1,false)]),
 (129,yR 2 16 [lR .i64,Value.nilFunc] [(0,1,false),(1,1,false)]),
 (139,Qs .u64 8),
 (164,Qs .i64 8),
 (178,aYP 71),
 (179,yR 2 32 [.bool false,.slice none 0 0] [(0,1,false),(1,1,false)]),
 (180,yR 2 32 [.bool false,.slice none 0 0] [(0,1,false),(1,1,false)]),
 (191,yR 0 0 [] []),
 (192,yR 0 0 [] []),
 (196,yR 1 1 [.bool false] [(0,1,false)]),
 (197,yR 1 1 [.bool false] [(0,1,false)]),
 (199,yR 1 1 [.bool false] [(0,1,false)]),
 (200,yR 3 40 [.bool false,.slice none 0 0,lR .i64] [(0,3,true)]),
 (201,yR 3 40 [.bool false,.slice none 0 0,lR .i64] [(0,3,true)]),
 (211,Qs .i64 8),
 (218,aYP 29),
 (223,aYP 44),
 (241,{ size:=64,bytes:=64,zero:=(bXR 64 (lR .u8)),kind:=TK.arr 64 1 false }),
 (295,{ size:=1,bytes:=16,zero:=[Value.nilIface],kind:=TK.other }),
 (298,{ size:=4,bytes:=96,zero:=[.slice none 0 0,.slice none 0 0,.slice none 0 0,.slice none 0 0],kind:=TK.arr 4 1 false }),
 (311,{ size:=0,bytes:=0,zero:=[],kind:=TK.arr 0 1 false }),
 (312,yR 0 0 [] [(0,0,true)]),
 (313,yR 0 0 [] [(0,0,true)]),
 (315,Qs .u8 1),
 (316,Qs .u8 1),
 (319,Qs .i32 4),
 (320,Qs .i32 4),
 (321,yR 11 48 [lR .u64,lR .u64,lR .u32,lR .u8,lR .u8,lR .u8,lR .u8,Value.nilFunc,.pointer none,lR .i32,lR .i32] [(0,1,false),(1,1,false),(2,1,false),(3,1,false),(4,1,false),(5,1,false),(6,1,false),(7,1,false),(8,1,false),(9,1,false),(10,1,false)]),
 (322,yR 11 48 [lR .u64,lR .u64,lR .u32,lR .u8,lR .u8,lR .u8,lR .u8,Value.nilFunc,.pointer none,lR .i32,lR .i32] [(0,1,false),(1,1,false),(2,1,false),(3,1,false),(4,1,false),(5,1,false),(6,1,false),(7,1,false),(8,1,false),(9,1,false),(10,1,false)])]
theorem rI:nU prog (tlook Js):=aOS Js (by kernel_rfl) (by kernel_rfl) (by kernel_rfl)
def ext:FuncId->List Value->Option (Prop×List Value):=(aDK 148 aWX (aDK 146 gAdd aDJ))
theorem nT:aEH prog ext:=(We (Wf (P:=prog) (f:=148) (fn:=f148) (e:=xE) func148 rfl rfl (by kernel_rfl) (by kernel_rfl)) aQZ (We (Wf (P:=prog) (f:=146) (fn:=f146) (e:=add64Entry) func146 rfl rfl (by kernel_rfl) (by kernel_rfl)) aRA Zt))
def globs(g:Nat):Option (IntKind×List Int):=bif bVP g 0 then some (.u8,[0,1,56,2,57,49,28,3,61,58,42,50,38,29,17,4,62,47,59,36,45,43,51,22,53,39,33,30,24,18,12,5,63,55,48,27,60,41,37,16,46,35,44,21,52,32,23,11,54,26,40,15,34,20,31,10,25,14,19,9,13,8,7,6])else(none)
def base:Env:={ T:=tlook Js,C:=fun _ _=>none,ext:=ext,glob:=globs,nt:=0,own:=[],keep:=fun _=>[],roll:=fun _=>none,cut:=fun _=>none }
theorem mixed:prog.follows .mixedOrders=true:=by kernel_rfl
abbrev OK(n:Nat)(o:dK):Prop:=kY prog base.glob n o
theorem eZ(E:Env)(c:Code){n:FuncId}{f:Func}{t:List (Nat×dK)}(h:∀p∈t,kY prog base.glob p.1 p.2)(hf:prog.funcs[n]?=some f)(hb:f.body=some c:=by exact rfl)(hn:(f.name== "runtime.NumGoroutine")=false:=by exact rfl)(hE:E={ base with C:=callsOf t,nt:=f.ntmps,own:=E.own,keep:=E.keep,cut:=E.cut,wide:=E.wide }:=by exact rfl):tB prog E n f c:=by
 have hg:E.glob=base.glob:=by rw[hE]
 exact aFO (by rw[hE];exact rI) mixed (lY t (by rw[hE]) (by rw[hg];exact h) (by rw[hE];exact nT) (by rw[hE];rfl)) hf hb (by rw[hE]) hn (by rw[hE];rfl)
abbrev gJ:TypeId:=22
end W
namespace AI
open Go Go.RowKit
theorem Contract.bPZ{P:Program}{G:Nat->Option (IntKind×List Int)}{f:FuncId}{d d' e e' g g' k k' l l':D}{rs:List D}(h:Contract P G f [d',e',g',k',l'] rs)(hd:Cj d d')(he:Cj e e')(hg:Cj g g')(hk:Cj k k')(hl:Cj l l'):Contract P G f [d,e,g,k,l] rs :=
 h.of rfl fun i x x' hx yU=>by
  match i with
  |0=>simp at hx yU;subst hx;subst yU;exact hd
  |1=>simp at hx yU;subst hx;subst yU;exact he
  |2=>simp at hx yU;subst hx;subst yU;exact hg
  |3=>simp at hx yU;subst hx;subst yU;exact hk
  |4=>simp at hx yU;subst hx;subst yU;exact hl
  |i+5=>simp at hx
def orc5{α β γ δ ε:Type}(p:kM α)(q:kM β)(r:kM γ)(s:kM δ)(t:kM ε)(f:α->β->γ->δ->ε->Prop×List D):dK
 | [a,b,c,d,e]=>match p.get a,q.get b,r.get c,s.get d,t.get e with
  |some x,some y,some z,some u,some v=>some (f x y z u v)
  |_,_,_,_,_=>none
 |_=>none
variable {P:Program} {E:Env} {f:FuncId} {fn:Func} {c:Code}
theorem tB.bGW{α β γ δ ε:Type}(h:tB P E f fn c){p:kM α}{p':kM β}{Rh:kM γ}{p3:kM δ}{p4:kM ε}{g:α->β->γ->δ->ε->Prop×List D}(hn:bVR 5 fn.ntmps=true)(hs:∀x y z u v,(g x y z u v).1->aH E fn c [p.put x,p'.put y,Rh.put z,p3.put u,p4.put v]=some (g x y z u v).2):kY P E.glob f (orc5 p p' Rh p3 p4 g):=by
 intro ds q rs hd hg;unfold orc5 at hd;split at hd
 ·split at hd
  ·rename_i x y z u v hx hy hz hu hv;have hd:=Option.some.inj hd;have e1:q=(g x y z u v).1:=by rw[hd]
   have e2:rs=(g x y z u v).2:=by rw[hd]
   subst e1;subst e2;exact⟨(fn_contract (ds:=[p.put x,p'.put y,Rh.put z,p3.put u,p4.put v]) h.ty h.calls h.mix h.fnc h.body h.nt h.io (bXM hn) (hs x y z u v hg)).bPZ (p.le hx) (p'.le hy) (Rh.le hz) (p3.le hu) (p4.le hv),h.has⟩
  ·cases hd
 ·cases hd
end AI
namespace M
open Go AI
def wv(x:Bool×List Int):Int:=zs x.1 (M6.val x.2)
def gL(x:Bool×List Int):Prop:=M6.cR x.2/\(x.1=true->M6.val x.2≠0)/\x.2.length<=8192
def wD(z:Int):D:=.agg [.sc (.bool (isNeg z)),.ints .u64 (M6.dg z.natAbs)]
def fit(n:Nat):Bool:=decide (bl n<=524288)
theorem iG(x:Bool×List Int):(wv x).natAbs=M6.val x.2:=lP _ _
theorem Qp{x:Bool×List Int}(h:x.1=true):wv x=-(M6.val x.2:Int):=by unfold wv zs;rw[h];rfl
theorem Fe{x:Bool×List Int}(h:x.1=false):wv x=(M6.val x.2:Int):=by unfold wv zs;rw[h];rfl
theorem gL.cells{x:Bool×List Int}(h:gL x):isNeg (wv x)=x.1/\M6.dg (wv x).natAbs=x.2:=by
 obtain⟨h1,h2,h3⟩:=h;unfold wv;rw[Qn,lP,<-h1];refine⟨?_,rfl⟩;cases hx:x.1 with
 |false=>rfl
 |true=>rw[decide_eq_true (h2 hx)];rfl
theorem gL.len{x:Bool×List Int}(h:gL x):x.2.length<=8192:=h.2.2
theorem aZV(b:Bool)(n:Nat):wD (zs b n)=.agg [.sc (.bool (b&&decide (n≠0))),.ints .u64 (M6.dg n)]:=by
 unfold wD;rw[Qn,lP]
theorem nA(z:Int):wv (isNeg z,M6.dg z.natAbs)=z:=by
 unfold wv zs;simp only[M6.bQ];cases h:isNeg z with
 |true=>have:=nL.1 h;simp only[cond_true];omega
 |false=>have:=iO.1 h;simp only[cond_false];omega
theorem fT{z:Int}(h:bl z.natAbs<=524288):gL (isNeg z,M6.dg z.natAbs):=by
 refine⟨M6.aY _,fun hn=>?_,fL (k:=8192) (by omega)⟩;rw[M6.bQ];have:=nL.1 hn;omega
theorem aAG{n:Nat}(h:(M6.dg n).length<=8192):bl n<=524288:=by
 have:=xX (M6.lG n) h;rw[M6.bQ]at this;omega
theorem gL.bl{x:Bool×List Int}(h:gL x):bl (M6.val x.2)<=524288:=by
 have:=xX h.1.kW h.len;omega
def wE(ok:Bool)(z:Int):List D:=[wD (bif ok then z else 0),.s (.sc (.int .i64 (bif ok then 0 else 5)))]
theorem Ij(neg ok:Bool)(n:Nat):[D.agg [.sc (.bool (isNeg (bif (bif ok then(0:Int)else 5)==0 then zs neg (M6.val (bif ok then M6.dg n else []))else 0))),.ints .u64 (M6.dg (bif (bif ok then(0:Int)else 5)==0 then zs neg (M6.val (bif ok then M6.dg n else []))else 0).natAbs)],D.s (.sc (.int .i64 (bif ok then 0 else 5)))]=wE ok (zs neg n):=by
 cases ok with
 |true=>rw[cond_true,cond_true,show((0:Int)==0)=true from rfl,cond_true,M6.bQ];rfl
 |false=>rfl
theorem Ja{ok:Bool}{n:Nat}(h:ok=true->bl n<=524288):M6.cR (bif ok then M6.dg n else [])/\(bif ok then M6.dg n else []).length<=1099511627776:=by
 cases ok with
 |true=>have:=fL (n:=n) (k:=8192) (by have:=h rfl;omega);exact⟨M6.aY _,by rw[cond_true];omega⟩
 |false=>exact⟨M6.Iy,by simp⟩
theorem Bd{n:Nat}:decide ((M6.dg n).length<=8192)=fit n:=by
 unfold fit
 by_cases h:bl n<=524288
 ·rw[decide_eq_true h,decide_eq_true (fL (k:=8192) (by omega))]
 ·rw[decide_eq_false h,decide_eq_false (fun hl=>h (aAG hl))]
theorem xO{n:Nat}(h:fit n=true):bl n<=524288:=of_decide_eq_true h
end M
namespace AI
open Go Go.RowKit
abbrev O0:Nat->Prop:=fun _=>False
theorem Kx{w w':World}(h:Below w.heap.size w w'):iA O0 w O0 w':=⟨h.size,fun b hb _=>⟨h.block b hb,id⟩⟩
theorem qJ{G:Nat->Option (IntKind×List Int)}{w w':World}(h:GlobOk G O0 w)(hb:Below w.heap.size w w'):GlobOk G O0 w':=fun g k ns e=>by
 obtain⟨h1,_,h3⟩:=h g k ns e;exact⟨bWL h1 hb.size,id,h3.later (Kx hb)⟩
theorem Mk{Y:Nat->Prop}{w:World}:iA Y w O0 w:=⟨bVO _,fun _ _ _=>⟨rfl,id⟩⟩
theorem Pp{G:Nat->Option (IntKind×List Int)}{Y:Nat->Prop}{w:World}(h:GlobOk G Y w):GlobOk G O0 w:=fun g k ns e=>by
 obtain⟨h1,_,h3⟩:=h g k ns e;exact⟨h1,id,h3.later Mk⟩
theorem Mg{P:Program}{G:Nat->Option (IntKind×List Int)}{f:FuncId}{o:dK}(h:kY P G f o){ds rs:List D}{g:Prop}(e:o ds=some (g,rs))(hg:g){w:World}(hG:GlobOk G O0 w){vs:List Value}(hl:ds.length=vs.length)
  (hd:∀(i:Nat) (d:D) (v:Value),ds[i]?=some d->vs[i]?=some v->lL O0 w d v) :
  Calls P f vs.toArray w fun e w'=>∃tK,e=.returned (resV tK)/\Below w.heap.size w w'/\Tl O0 w.heap.size w' rs tK :=
 (h ds g rs e hg).1 O0 w vs (fun _ hb=>hb.elim) hG hl hd
def Ng(v:Value):D:=.s (.sc v)
theorem El{P:Program}{G:Nat->Option (IntKind×List Int)}{f:FuncId}{o:dK}(h:kY P G f o){xs ys:List Value}{g:Prop}(e:o (xs.map Ng)=some (g,ys.map Ng))(hg:g){w:World}(hG:GlobOk G O0 w)(hx:∀x∈xs,x.oneCell'=true) :
  Calls P f xs.toArray w fun e w'=>e=.returned (resV ys)/\Below w.heap.size w w':=by
 refine(Mg h e hg hG (vs:=xs) (by simp) (fun i d v hd hv=>?_)).mono ?_
 ·simp only[bVS,Option.map_eq_some_iff]at hd;obtain⟨x,aTG,rfl⟩:=hd;rw[hv]at aTG;cases aTG;exact⟨rfl,hx v (bVX hv)⟩
 ·rintro e w' ⟨tK,rfl,hb,g,aKY,-,aHG⟩;refine⟨?_,hb⟩;congr 2;apply bZN;intro i;have aKY:ys.length=tK.length:=by simpa using aKY
  cases hi:tK[i]? with
  |none =>
   have:tK.length<=i:=List.getElem?_eq_none_iff.1 hi;exact(List.getElem?_eq_none_iff.2 (by omega)).symm
  |some v =>
   have jB:i<ys.length:=by rw[aKY];exact(List.getElem?_eq_some_iff.1 hi).1
   have hy:ys[i]?=some ys[i]:=bWF jB;have:=aHG i (Ng ys[i]) v (by simp[hy]) hi;rw[hy,this.1]
structure Ms(w:World)(n1:Bool)(l1:List Int)(e1:Int)(n2:Bool)(l2:List Int)(e2:Int)(s1 s2:Value):Prop where
 a:nO O0 w (.ints .u64 l1) s1
 b:nO O0 w (.ints .u64 l2) s2
theorem Ms.later{w w':World}{n1 n2:Bool}{l1 l2:List Int}{e1 e2:Int}{s1 s2:Value}(h:Ms w n1 l1 e1 n2 l2 e2 s1 s2)(hb:Below w.heap.size w w'):Ms w' n1 l1 e1 n2 l2 e2 s1 s2 :=
 ⟨h.a.later (Kx hb),h.b.later (Kx hb)⟩
theorem Ms.rep{w:World}{n1 n2:Bool}{l1 l2:List Int}{e1 e2:Int}{s1 s2:Value}(h:Ms w n1 l1 e1 n2 l2 e2 s1 s2):lL O0 w (.agg [.sc (.bool n1),.ints .u64 l1,.sc (.int .i64 e1),.sc (.bool n2),.ints .u64 l2,.sc (.int .i64 e2)]) (.agg #[.bool n1,s1,.int .i64 e1,.bool n2,s2,.int .i64 e2]):=by
 refine⟨_,rfl,rfl,fun i s u hs hu=>?_⟩
 match i with
 |0=>cases hs;cases hu;exact⟨rfl,rfl⟩
 |1=>cases hs;cases hu;exact h.a
 |2=>cases hs;cases hu;exact⟨rfl,rfl⟩
 |3=>cases hs;cases hu;exact⟨rfl,rfl⟩
 |4=>cases hs;cases hu;exact h.b
 |5=>cases hs;cases hu;exact⟨rfl,rfl⟩
 |i+6=>simp at hs
theorem Wo{P:Program}{G:Nat->Option (IntKind×List Int)}{f:FuncId}{xs ys:List Value}{rs:List D}(h:∀w,GlobOk G O0 w->Calls P f xs.toArray w fun e w'=>e=.returned (resV ys)/\Below w.heap.size w w')(hl:rs.length=ys.length)
  (hr:∀(i:Nat) (d:D) (v:Value),rs[i]?=some d->ys[i]?=some v->kB d=false/\∀(Y:Nat->Prop) (w:World),lL Y w d v):Contract P G f (xs.map Ng) rs:=by
 intro Y w vs hY hG hlen aQF;have e:vs=xs:=by
  apply bZN;intro i;have hlen:xs.length=vs.length:=by simpa using hlen
  cases hi:vs[i]? with
  |none =>
   have:vs.length<=i:=List.getElem?_eq_none_iff.1 hi;exact(List.getElem?_eq_none_iff.2 (by omega)).symm
  |some v =>
   have jB:i<xs.length:=by rw[hlen];exact(List.getElem?_eq_some_iff.1 hi).1
   have hx:xs[i]?=some xs[i]:=bWF jB;have:=aQF i (Ng xs[i]) v (by simp[hx]) hi;rw[hx,this.1]
 subst e;refine(h w (Pp hG)).mono ?_;rintro e w' ⟨rfl,hb⟩;refine⟨ys,rfl,hb,fun _=>0,hl,fun i j d d' hd _ ho=>?_,fun i d v hd hv=>?_⟩
 ·obtain⟨v,hv⟩:=bB (l:=ys) (i:=i) (by have:=aT hd;omega);rw[(hr i d v hd hv).1]at ho;cases ho
 ·obtain⟨h1,h2⟩:=hr i d v hd hv;cases d with
  |own=>cases h1
  |_=>exact h2 _ _
theorem bLF{Y:Nat->Prop}{w:World}{x y z:Value}(hx:x.oneCell'=true)(hy:y.oneCell'=true)(hz:z.oneCell'=true):lL Y w (.agg [.sc x,.sc y,.sc z]) (.agg #[x,y,z]):=by
 refine⟨_,rfl,rfl,fun i s u hs hu=>?_⟩
 match i with
 |0=>cases hs;cases hu;exact⟨rfl,hx⟩
 |1=>cases hs;cases hu;exact⟨rfl,hy⟩
 |2=>cases hs;cases hu;exact⟨rfl,hz⟩
 |i+3=>simp at hs
theorem aPO{P:Program}{G:Nat->Option (IntKind×List Int)}{f:FuncId}{α β γ δ ε:Type}{p:kM α}{q:kM β}{r:kM γ}{s:kM δ}{t:kM ε}{sp:α->β->γ->δ->ε->Prop×List D}(hb:oG P f)
  (h:∀a b c d e,(sp a b c d e).1->Contract P G f [p.put a,q.put b,r.put c,s.put d,t.put e] (sp a b c d e).2):kY P G f (orc5 p q r s t sp):=by
 intro ds g rs ho hg;unfold orc5 at ho;split at ho
 ·rename_i a1 a2 a3 a4 a5;split at ho
  ·rename_i h1 h2 h3 h4 h5;have e:=Option.some.inj ho;have c:=(h _ _ _ _ _ (by rw[e];exact hg)).of (ds:=[a1,a2,a3,a4,a5]) rfl (fun i d d' hd yV Y w v hr=>by
    match i with
    |0=>cases hd;cases yV;exact p.le h1 Y w v hr
    |1=>cases hd;cases yV;exact q.le h2 Y w v hr
    |2=>cases hd;cases yV;exact r.le h3 Y w v hr
    |3=>cases hd;cases yV;exact s.le h4 Y w v hr
    |4=>cases hd;cases yV;exact t.le h5 Y w v hr
    |i+5=>simp at hd)
   rw[e]at c;exact⟨c,hb⟩
  ·cases ho
 ·cases ho
end AI
open Go.Value(int bool slice)
open AI.S(sc ints)
namespace W
open Go AI M
def mE(t:List (Nat×dK))(n:Nat)(o:List Nat)(k:List (Nat×List Nat))(c:List Nat):Env:={({base with C:=callsOf t})with nt:=n,own:=o,keep:=fun j=>(tlook k j).getD [],cut:=fun j=>bif c.elem j then tlook k j else none}
noncomputable def bd(f:Func):Code:=f.body.getD .skip
def vA(s:S):KV:=(A.v (V.one (L.s s)),none)
def iM(l:List Int):KV:=vA (S.ints .u64 l)
def vaI3(l:List Int):KV:=vA (S.ints .u32 l)
def bP(n:Int):KV:=vA (S.sc (.int .i64 n))
def dC(n:Int):KV:=vA (S.sc (.int .u64 n))
def Nq(b:Bool):KV:=vA (S.sc (.bool b))
def dM(i e:Nat)(c:List S):KV:=(A.v (V.one (L.ptr i 0)),some ⟨e,.cells c⟩)
def cV(n:Int):S:=S.sc (.int .i64 n)
def Yg(n:Int):S:=S.sc (.int .u64 n)
def cU(b:Bool):S:=S.sc (.bool b)
def fU(l:List Int):S:=S.ints .u64 l
def vaJ_(l:List Int):S:=S.ints .u32 l
def Ck(i n e:Nat)(l:List Int):KV:=(A.v (V.one (L.buf i n)),some ⟨e,.ints .u64 l⟩)
abbrev jE{α:Type}(E:Env)(f:Func)(c:Code)(p:kM α)(g:α→Prop×List D):Prop:=∀x,(g x).1→aH E f c [p.put x]=some (g x).2
abbrev gT{α β:Type}(E:Env)(f:Func)(c:Code)(p:kM α)(q:kM β)(g:α→β→Prop×List D):Prop:=∀x y,(g x y).1→aH E f c [p.put x,q.put y]=some (g x y).2
abbrev oK{α β γ:Type}(E:Env)(f:Func)(c:Code)(p:kM α)(q:kM β)(r:kM γ)(g:α→β→γ→Prop×List D):Prop:=∀x y z,(g x y z).1→aH E f c [p.put x,q.put y,r.put z]=some (g x y z).2
abbrev Om{α β γ δ:Type}(E:Env)(f:Func)(c:Code)(p:kM α)(q:kM β)(r:kM γ)(t:kM δ)(g:α→β→γ→δ→Prop×List D):Prop:=∀x y z u,(g x y z u).1→aH E f c [p.put x,q.put y,r.put z,t.put u]=some (g x y z u).2
abbrev aNH{α:Type}(E:Env)(f:Func)(c:Code)(p:kM α)(g:α→Prop×List D):Prop:=∀x,(g x).1→∃rs,aH E f c [p.put x]=some rs∧iD rs (g x).2
abbrev Mt{α β:Type}(E:Env)(f:Func)(c:Code)(p:kM α)(q:kM β)(g:α→β→Prop×List D):Prop:=∀x y,(g x y).1→∃rs,aH E f c [p.put x,q.put y]=some rs∧iD rs (g x y).2
abbrev aXU{α β γ:Type}(E:Env)(f:Func)(c:Code)(p:kM α)(q:kM β)(r:kM γ)(g:α→β→γ→Prop×List D):Prop:=∀x y z,(g x y z).1→∃rs,aH E f c [p.put x,q.put y,r.put z]=some rs∧iD rs (g x y z).2
abbrev yJ:=pG (.pair sB (.pair (sI .u64) (.pair (sN .i64) (.pair sB (.pair (sI .u64) (sN .i64))))))
abbrev iX:=pG (.pair sB (.pair (sI .u64) (sN .i64)))
abbrev pZt:=pG (.pair sB (sI .u32))
abbrev oD:=pG (.pair sB (sI .u64))
namespace Clone
def Nu:Go.Shelf.Ren:=⟨fun |41=>97 |n=>n,fun |22=>25 |23=>22 |4=>4 |n=>n,fun |n=>n⟩
theorem Ge:Go.Proofs.SlLaysE0.n41 prog Nu:={
 mixed:=by kernel_rfl
 f41:=⟨f97.name,by decide,func97.trans (congrArg some (by kernel_rfl))⟩
 t4:=Tryz.underlying4
 a4:=Tryz.isAgg4
 z4:=Tryz.sizeOf4
 v4:=Tryz.zeroValue4
 t22:=Tryz.underlying25
 a22:=Tryz.isAgg25
 z22:=Tryz.sizeOf25
 v22:=Tryz.zeroValue25 }
def sp(a:List Int):Prop×List D:=(a.length<=1099511627776,[.s (.ints .u64 a)])
section
open Go.Shelf Go.RowKit Go.Lib
set_option maxHeartbeats 2000000
set_option maxRecDepth 100000
theorem zero{P:Program}{ρ:Ren}(L:SlLaysE0.n41 P ρ)(i0:TypeInfo)(z:Value)(bytes:Nat)(hi:P.info? (ρ.t 23)=some i0)(Zf:i0.zero=some z)(aTD:i0.size=1)(aKK:i0.bytes=bytes)(aCU:z.cells.size=1)
  (z23:∀w,(Go.sizeOf (ρ.t 23)).run P w=.ok 1 w) (a:Addr) (c:Nat) (w:World) :
  Calls P (ρ.f 41) #[.slice (some a) 0 c] w fun e w'=>∃v',e=.returned v'/\w'.ownsRow w.heap.size (ρ.t 23) 1 v' 0 []/\Below w.heap.size w w':=by
 have mixed:=L.mixed;have t4:=L.t4;have a4:=L.a4;have z4:=L.z4;have v4:=L.v4;have t22:=L.t22;have a22:=L.a22;have z22:=L.z22;have v22:=L.v22;have q22:∀(w:World) (a:Option Addr) (n c n' c':Nat),(binOp .eql (ρ.t 22) (.slice a n c) (.slice none n' c')).run P w=.ok (.bool a.isNone) w:=fun w a n c n' c'=>Lib.run_eql_slice_nil w _ _ a n c n' c' L.t22
 have u22:∀w,Sem.run P (underlying (ρ.t 22)) w=.ok (TypeDesc.slice (ρ.t 23)) w:=run_underlying t22;obtain⟨_,_,FG⟩:=L.f41
 go_enter FG,SlBodyN.n41_ntmps ρ
 go_wp2_with (at_builtin;refine wpList_append_own _ rfl _ _ (ρ.t 22) rfl w.heap.size (ρ.t 23) i0 z 1 bytes t22 hi Zf aTD aKK aCU (by decide) _ _ _ rfl (World.ownsRow_made w #[] 0 (bVO _) (cBX _) (by simp)) a 0 c [] rfl rfl (by intro j u hj;simp at hj) (by intro u hu;cases hu) (by unfold maxLen;omega) (by omega) (by simp) ?_)
 intro v' w1 sR Bz aVW
 go_wp2
 go_ret
 exact⟨v',rfl,by simpa using sR,((Below.refl _ w).alloc (bVO _) _).grown Bz (by simp) (by intro k hk;simp[Value.ownBlock]at hk;omega)⟩
end
theorem aJJ{X:Nat->Prop}{w:World}{base:Nat}{e:TypeId}{v:Value}{a:List Int}(hX:∀b,X b->b<base)(h:w.ownsRow base e 1 v a.length (a.map (Value.int .u64))):nO X w (.ints .u64 a) v:=by
 obtain⟨_,⟨rfl,h0⟩ |⟨g,cap,cur,rfl,hg,hb,hn,hm,hs,ht⟩⟩:=h
 ·have:a=[]:=List.length_eq_zero_iff.1 h0;subst this;exact⟨none,0,rfl,bVO _,fun i n hn=>by simp at hn⟩
 ·refine⟨some ⟨g,0,none⟩,cap,rfl,hn,fun i n hi=>⟨g,0,rfl,?_,fun hx=>?_,?_⟩⟩
  ·exact(Array.getElem?_eq_some_iff.1 hb).1
  ·have:=hX g hx;omega
  ·have jB:i<a.length:=(List.getElem?_eq_some_iff.1 hi).1;have e1:(cur.toList.take (a.length*1))[i]?=some (Value.int .u64 n):=by
    rw[ht,bVS,hi];rfl
   rw[bZK,aU]at e1;simp only[World.cell?,hb,bVQ];simpa using e1
theorem Rj{Y:Nat->Prop}{base:Nat}{w:World}{d:D}{v:Value}(hd:kB d=false)(h:lL Y w d v):Tl Y base w [d] [v]:=by
 refine⟨fun _=>0,rfl,fun i j d1 d2 h1 h2 o1 _ _=>?_,fun i d1 v1 h1 h2=>?_⟩
 ·have:d1=d:=by
   match i with
   |0=>simpa using h1.symm
   |i+1=>simp at h1
  rw[this,hd]at o1;cases o1
 ·have h3:d1=d/\v1=v:=by
   match i with
   |0=>exact⟨by simpa using h1.symm,by simpa using h2.symm⟩
   |i+1=>simp at h1
  obtain⟨rfl,rfl⟩:=h3;have e:(fun b=>Y b\/∃(j:Nat) (d':D),[d1][j]?=some d'/\kB d'=true/\(fun _:Nat=>0) j=b)=Y:=by
   funext b;refine propext ⟨fun hh=>?_,.inl⟩;rcases hh with hh |⟨j,d',h4,h5,_⟩
   ·exact hh
   ·match j with
    |0 =>
     have:d'=d1:=by simpa using h4.symm
     rw[this,hd]at h5;cases h5
    |j+1=>simp at h4
  rw[e];cases d1 with
  |own=>cases hd
  |_=>exact h
theorem aMU(a:List Int)(hl:a.length<=1099511627776):Contract prog base.glob 97 [(pI .u64).put a] [.s (.ints .u64 a)]:=by
 intro Y w vs hY hG hlen hargs;obtain⟨v,rfl⟩:∃v,vs=[v]:=by
  match vs,hlen with
  | [v],_=>exact⟨v,rfl⟩
 obtain⟨A,c,rfl,hc,jO⟩:nO Y w (.ints .u64 a) v:=hargs 0 _ _ rfl rfl;have t1:=rI gJ _ rfl;obtain⟨i0,hi,hs,bCT,z,hz,Nx⟩:=t1.i;have z23:=fun w=>t1.run_sizeOf (w:=w)
 have fin:∀(e:Ending) (w':World),(∃v',e=.returned v'/\w'.ownsRow w.heap.size gJ 1 v' a.length (a.map (Value.int .u64))/\RowKit.Below w.heap.size w w')->∃tK,e=.returned (resV tK)/\RowKit.Below w.heap.size w w'/\Tl Y w.heap.size w' [.s (.ints .u64 a)] tK:=by
  rintro e w' ⟨v',rfl,ho,hb⟩;exact⟨[v'],rfl,hb,Rj rfl (aJJ hY ho)⟩
 have aCU:z.cells.size=1:=by
  have:=congrArg List.length Nx;simpa using this
 cases A with
 |none =>
  have ha:a=[]:=by
   cases a with
   |nil=>rfl
   |cons x r=>obtain⟨b,off,h1,_⟩:=jO 0 x rfl;cases h1
  subst ha;refine(AnyE.slices_Clone_nil Ge 0 c w).mono ?_;rintro e w' ⟨rfl,rfl⟩;exact fin _ _ ⟨_,rfl,⟨rfl,.inl ⟨rfl,rfl⟩⟩,RowKit.Below.refl _ _⟩
 |some ad =>
  cases a with
  |nil =>
   refine(zero Ge i0 z _ hi hz hs bCT aCU z23 ad c w).mono ?_;rintro e w' ⟨v',rfl,ho,hb⟩;exact fin _ _ ⟨v',rfl,ho,hb⟩
  |cons x r =>
   obtain⟨b,off,h1,_⟩:=jO 0 x rfl;cases h1;refine(AnyE.slices_Clone Ge i0 z 1 _ hi hz hs bCT aCU (by decide) z23 b off (x :: r).length c ((x :: r).map (Value.int .u64)) w (by simp) (by unfold maxLen;omega) (by show(x :: r).length*8<=_;omega) ?_ ?_).mono ?_
   ·intro j u hj;rw[bVS]at hj;obtain⟨n,hn,rfl⟩:=Option.map_eq_some_iff.1 hj;obtain⟨b',bAJ,h2,_,_,h3⟩:=jO j n hn;cases h2;exact h3
   ·intro u hu;obtain⟨n,_,rfl⟩:=List.mem_map.1 hu;rfl
   ·rintro e w' ⟨v',rfl,ho,_,hb⟩;exact fin _ _ ⟨v',rfl,ho,hb⟩
theorem bJV:oG prog 97:=oJ func97 rfl rfl
def aJ:dK:=orc1 (pI .u64) sp
theorem ok:kY prog base.glob 97 aJ:=by
 intro ds g rs hd hg;unfold aJ orc1 at hd;split at hd
 ·split at hd
  ·rename_i x hx;have hd:=Option.some.inj hd;have e1:g=(sp x).1:=by rw[hd]
   have e2:rs=(sp x).2:=by rw[hd]
   subst e1;subst e2;exact⟨(aMU x hg).bGZ ((pI .u64).le hx),bJV⟩
  ·cases hd
 ·cases hd
end Clone
namespace fO
def E:=mE [] 16 [] [] []
def aE:=bd f75
theorem aX:Nk E aE:=nk
theorem start a b:aH E f75 aE [D.s (sc (int i64 a)),D.s (sc (int i64 b))]=letI A:=some [D.s (sc (bool false))];aB (decide (1<=a)) (aB (decide (a<=b)) (some [D.s (sc (bool (decide (b<=66000))))]) A) A:=eJ aX
def xM(a b:Int):Bool:=decide (1<=a/\a<=b/\b<=66000)
def sp(a b:Int):Prop×List D:=(True,[.s (.sc (.bool (xM a b)))])
theorem spec:gT E f75 aE (pN .i64) (pN .i64) sp:=by
 intro a b h;refine(start a b).trans ?_;unfold sp xM;dsimp only
 by_cases h1:1<=a
 ·rw[aP h1]
  by_cases h2:a<=b
  ·rw[aP h2]
   by_cases h3:b<=66000
   ·rw[decide_eq_true h3,decide_eq_true ⟨h1,h2,h3⟩]
   ·rw[decide_eq_false h3,decide_eq_false (by omega)]
  ·rw[aL h2,decide_eq_false (by omega)]
 ·rw[aL h1,decide_eq_false (by omega)]
def aJ:dK:=orc2 (pN .i64) (pN .i64) sp
theorem ok:OK 75 aJ:=(eZ E aE aD func75).mT rfl spec
end fO
namespace IvLadder
open Go.RowKit Go.Shelf
attribute [local go_sem] Oper.semAt_some
def rungsF:Nat->Int->Int->List Int
 |0,_,_=>[]
 |n+1,p,l=>if p<=l then p :: rungsF n (p*2) l else []
abbrev Bu:={ x:Int // 1<=x/\x<=66000 }
theorem Ke:∀(n:Nat) (p l:Int),(rungsF n p l).length<=n
 |0,_,_=>bVO _
 |n+1,p,l=>by
  unfold rungsF;split
  ·have:=Ke n (p*2) l;simp only[bYZ];omega
  ·simp
theorem oP{k:Nat}{p l:Int}(h:p<=l):rungsF (k+1) p l=p :: rungsF k (p*2) l:=by
 rw[rungsF,if_pos h]
set_option maxRecDepth 100000 in
set_option maxHeartbeats 2000000 in
theorem make (w:World) (a b:Int):Calls prog 70 #[.int .i64 a,.int .i64 b] w fun e w'=>e=.returned (.func (.func 124) #[] #[.pointer (some ⟨w.heap.size,0,none⟩),.pointer (some ⟨w.heap.size+1,0,none⟩)])/\w'=(w.alloc (.cells #[.int .i64 a] 3)).alloc (.cells #[.int .i64 b] 3):=by
 refine(callsIn_wide (n:=1)).1 ?_;refine callsIn_of_wp func70 rfl trivial ?_ rfl;simp only[Tryz.ntmps70,bXE,bYZ,bZA,cBJ,cBK,Array.replicate_succ,Array.replicate_zero,cBL,cBM,bZR,bXH]
 gi_wp2
 go_ret
 exact⟨by simp,rfl⟩
set_option maxRecDepth 100000 in
set_option maxHeartbeats 4000000 in
theorem each (F:Fence) (n:Nat) (hF:F.fn 124) (bDG:F.fn 75) (aVQ:F.round=none) (hn:1<=n) (l B n₀:Nat) (a b:Int) (ha:1<=a/\a<=66000) (hb:b<=66000) (aOH:a<=b)
  (W:World) (Lh:∀w',Below W.heap.size W w'->CallsIn F (n-1) prog 75 #[.int .i64 a,.int .i64 b] w' fun e w2=>e=.returned (.bool true)/\Below w'.heap.size w' w2) (J Jx:List Bu->World->Prop)
  (hJ:∀pre W',J pre W->Below W.heap.size W W'->J pre W')
  (hY:∀pre x W,J pre W->pre.length<17->YieldAt F (n-1) prog l #[.int .i64 x.1] W fun e W' =>
   (e=.returned (.bool true)/\J (pre ++ [x]) W'/\Below n₀ W W')\/(e=.returned (.bool false)/\Jx (pre ++ [x]) W'))
  (hB:B+1<n₀) (Br:n₀<=W.heap.size) (h1:W.cell? ⟨B,0,none⟩=some (.int .i64 a)) (h2:W.cell? ⟨B+1,0,none⟩=some (.int .i64 b)) (h0:J [] W) :
  CallsIn F n prog 124 #[.func (.yield l) #[] #[],.pointer (some ⟨B,0,none⟩),.pointer (some ⟨B+1,0,none⟩)] W fun e W'=>(∃v,e=.returned v) /\
   ((∃ys:List Bu,ys.map (·.1)=rungsF 17 a b/\J ys W')\/(∃pre:List Bu,pre.map (·.1) <+: rungsF 17 a b/\Jx pre W')):=by
 refine callsIn_of_wp func124 rfl hF ?_ aVQ;simp only[Tryz.ntmps124,bXE,bYZ,bZA,cBJ,cBK,Array.replicate_succ,Array.replicate_zero,cBL,cBM,bZR,bXH]
 gi_wp2_with (gi_at_call 75;refine(Lh _ (Below.refl _ _)).mono ?_;rintro e w1 ⟨rfl,tY⟩;have c1:w1.cell? ⟨B,0,none⟩=some (.int .i64 a):=(tY.cell (p:=⟨B,0,none⟩) (show B<_ by omega)).trans h1;have c2:w1.cell? ⟨B+1,0,none⟩=some (.int .i64 b):=(tY.cell (p:=⟨B+1,0,none⟩) (show B+1<_ by omega)).trans h2)
 gi_loopw [4] (fun v wr=>∃(k:Nat) (pre:List Bu) (p:Int),v=.int .i64 p/\(1<=p/\p<=132000)/\rungsF 17 a b=pre.map (·.1) ++ rungsF k p b/\pre.length+k=17/\b<p*2^k/\J pre wr/\Below n₀ W wr)
  (fun v _=>(b+1-intOf v).toNat)
 case atStart=>exact⟨17,[],a,rfl,⟨ha.1,by omega⟩,rfl,rfl,(by show b<a*131072;omega),hJ _ _ h0 tY,tY.mono Br⟩
 case round =>
  obtain⟨k,pre,p,rfl,hp,hr,hk,aHE,bDF,aHK⟩:=hrel;have c3:wr.cell? ⟨B+1,0,none⟩=some (.int .i64 b):=(aHK.cell (p:=⟨B+1,0,none⟩) (show B+1<_ by omega)).trans h2
  by_cases hle:p<=b
  ·obtain⟨fn,tmps,assign,body,hy,hR⟩:=hY pre ⟨p,hp.1,by omega⟩ wr bDF (by
    cases k with
    |zero=>simp at aHE;omega
    |succ k=>omega)
   obtain⟨k,rfl⟩:∃j,k=j+1:=by
    cases k with
    |zero=>simp at aHE;omega
    |succ k=>exact⟨k,rfl⟩
   rw[oP hle]at hr
   gi_wp2
   refine hR.mono ?_;rintro e W3 (⟨rfl,bKG,bIW⟩ |⟨rfl,aWR⟩)
   ·gi_wp2
    go_roundw
    case rel =>
     exact⟨k,pre ++ [⟨p,hp.1,by omega⟩],p*2,rfl,⟨by omega,by omega⟩,by simp[hr],by simp;omega,by rw[cCB]at aHE;rw[cAZ,cBN 2];exact aHE,bKG,aHK.trans bIW⟩
    case measure=>simp[intOf];omega
   ·gi_wp2
    refine bodyPost_ret (results_none rfl _ _ _) rfl ?_;exact⟨⟨_,rfl⟩,.inr ⟨pre ++ [⟨p,hp.1,by omega⟩],⟨rungsF k (p*2) b,by simp[hr]⟩,aWR⟩⟩
  ·have k3:rungsF k p b=[]:=by cases k with
    |zero=>rfl
    |succ k=>unfold rungsF;rw[if_neg hle]
   rw[k3,cAX]at hr
   gi_wp2
   go_end0
   exact⟨⟨_,rfl⟩,.inl ⟨pre,rfl,bDF⟩⟩
theorem stops(F:Fence)(n:Nat)(hF:F.fn 124)(bDG:F.fn 75)(aVQ:F.round=none)(hn:1<=n)(B n₀:Nat)(a b:Int)(ha:1<=a/\a<=66000)(hb:b<=66000)(aOH:a<=b)(w:World)
  (Lh:∀w',Below w.heap.size w w'->CallsIn F (n-1) prog 75 #[.int .i64 a,.int .i64 b] w' fun e w2=>e=.returned (.bool true)/\Below w'.heap.size w' w2) (hB:B+1<n₀) (Br:n₀<=w.heap.size) (h1:w.cell? ⟨B,0,none⟩=some (.int .i64 a)) (h2:w.cell? ⟨B+1,0,none⟩=some (.int .i64 b)) :
  SeqStopsK F n prog 124 #[.pointer (some ⟨B,0,none⟩),.pointer (some ⟨B+1,0,none⟩)] (fun x:Bu=>#[Value.int .i64 x.1]) (Below n₀) (fun ys=>ys.map (·.1)=rungsF 17 a b) (fun pre=>pre.map (·.1) <+: rungsF 17 a b) 17 w:=fun l J Jx W hW hJ _ hY h0 =>
 each F n hF bDG aVQ hn l B n₀ a b ha hb aOH W (fun w2 bET=>Lh w2 (hW.trans (bET.mono hW.size))) J Jx (fun pre W' hp Jd=>hJ pre _ _ none hp ⟨Jd.os,Jd.tape,Jd.output,Jd.size,fun k hk _=>Jd.block k hk⟩ (fun r e=>by cases e)) hY hB (bWK Br hW.size)
  ((hW.cell (p:=⟨B,0,none⟩) (show B<_ by omega)).trans h1) ((hW.cell (p:=⟨B+1,0,none⟩) (show B+1<_ by omega)).trans h2) h0
end IvLadder
namespace uV
open Go.RowKit Go.Shelf
attribute [local go_sem] Oper.semAt_some
open IvLadder (Bu rungsF)
def KC(b:Nat)(A B:World):Prop:=∀v,A.cell? ⟨b,0,none⟩=some v->B.cell? ⟨b,0,none⟩=some v
theorem KC.trans{b:Nat}{A B C:World}(h:KC b A B)(k:KC b B C):KC b A C:=fun v hv=>k v (h v hv)
theorem aVG{b:Nat}(W:World)(l:Nat)(o o':Obj)(ho:W.heap[l]?=some o)(hc:o.isCells=false):KC b W (W.putObj l o'):=fun _ hv=>cell_kept hv (grownBy_putObj' W l o') (fun r e=>by cases e;exact⟨o,ho,hc⟩)
theorem Vl{b:Nat}{A B:World}(h:Below A.heap.size A B):KC b A B:=fun _ hv=>cell_kept (row:=none) hv ⟨h.os,h.tape,h.output,h.size,fun k hk _=>h.block k hk⟩ (fun r e=>by cases e)
def Ni(s l:Int):List Int:=bif fO.xM s l then rungsF 17 s l else []
set_option maxRecDepth 100000 in
set_option maxHeartbeats 4000000 in
theorem each (F:Fence) (n:Nat) (hF:F.fn 124) (bDG:F.fn 75) (aVQ:F.round=none) (hn:1<=n) (l B:Nat) (a b:Int)
  (W:World) (Lh:∀w',Below W.heap.size W w'->CallsIn F (n-1) prog 75 #[.int .i64 a,.int .i64 b] w' fun e w2=>e=.returned (.bool (fO.xM a b))/\Below w'.heap.size w' w2) (J Jx:List Bu->World->Prop)
  (hJ:∀pre W',J pre W->Below W.heap.size W W'->J pre W')
  (hY:∀pre x W,J pre W->pre.length<17->YieldAt F (n-1) prog l #[.int .i64 x.1] W fun e W' =>
   (e=.returned (.bool true)/\J (pre ++ [x]) W'/\KC (B+1) W W')\/(e=.returned (.bool false)/\Jx (pre ++ [x]) W'))
  (h1:W.cell? ⟨B,0,none⟩=some (.int .i64 a)) (h2:W.cell? ⟨B+1,0,none⟩=some (.int .i64 b)) (h0:J [] W) :
  CallsIn F n prog 124 #[.func (.yield l) #[] #[],.pointer (some ⟨B,0,none⟩),.pointer (some ⟨B+1,0,none⟩)] W fun e W'=>(∃v,e=.returned v) /\
   ((∃ys:List Bu,ys.map (·.1)=Ni a b/\J ys W')\/(∃pre:List Bu,pre.map (·.1) <+: Ni a b/\Jx pre W')):=by
 refine callsIn_of_wp func124 rfl hF ?_ aVQ;simp only[Tryz.ntmps124,bXE,bYZ,bZA,cBJ,cBK,Array.replicate_succ,Array.replicate_zero,cBL,cBM,bZR,bXH];have aCY:=Lh _ (Below.refl _ _);unfold Ni;cases hl:fO.xM a b with
 |false =>
  rw[hl]at aCY
  gi_wp2_with (gi_at_call 75;refine aCY.mono ?_;rintro e w1 ⟨rfl,tY⟩)
  refine bodyPost_ret (results_none rfl _ _ _) rfl ?_;exact⟨⟨_,rfl⟩,.inl ⟨[],rfl,hJ _ _ h0 tY⟩⟩
 |true =>
  rw[hl]at aCY;have aOH:1<=a/\a<=b/\b<=66000:=of_decide_eq_true hl
  gi_wp2_with (gi_at_call 75;refine aCY.mono ?_;rintro e w1 ⟨rfl,tY⟩;have c1:w1.cell? ⟨B,0,none⟩=some (.int .i64 a):=Vl tY _ h1;have c2:w1.cell? ⟨B+1,0,none⟩=some (.int .i64 b):=Vl tY _ h2)
  gi_loopw [4] (fun v wr=>∃(k:Nat) (pre:List Bu) (p:Int),v=.int .i64 p/\(1<=p/\p<=132000)/\rungsF 17 a b=pre.map (·.1) ++ rungsF k p b/\pre.length+k=17/\b<p*2^k/\J pre wr/\wr.cell? ⟨B+1,0,none⟩=some (.int .i64 b))
   (fun v _=>(b+1-intOf v).toNat)
  case atStart=>exact⟨17,[],a,rfl,⟨aOH.1,by omega⟩,rfl,rfl,(by show b<a*131072;omega),hJ _ _ h0 tY,c2⟩
  case round =>
   obtain⟨k,pre,p,rfl,hp,hr,hk,aHE,bDF,c3⟩:=hrel
   by_cases hle:p<=b
   ·obtain⟨fn,tmps,assign,body,hy,hR⟩:=hY pre ⟨p,hp.1,by omega⟩ wr bDF (by
     cases k with
     |zero=>simp at aHE;omega
     |succ k=>omega)
    obtain⟨k,rfl⟩:∃j,k=j+1:=by
     cases k with
     |zero=>simp at aHE;omega
     |succ k=>exact⟨k,rfl⟩
    rw[IvLadder.oP hle]at hr
    gi_wp2
    refine hR.mono ?_;rintro e W3 (⟨rfl,bKG,bIW⟩ |⟨rfl,aWR⟩)
    ·gi_wp2
     go_roundw
     case rel =>
      exact⟨k,pre ++ [⟨p,hp.1,by omega⟩],p*2,rfl,⟨by omega,by omega⟩,by simp[hr],by simp;omega,by rw[cCB]at aHE;rw[cAZ,cBN 2];exact aHE,bKG,bIW _ c3⟩
     case measure=>simp[intOf];omega
    ·gi_wp2
     refine bodyPost_ret (results_none rfl _ _ _) rfl ?_;exact⟨⟨_,rfl⟩,.inr ⟨pre ++ [⟨p,hp.1,by omega⟩],⟨rungsF k (p*2) b,by simp[hr]⟩,aWR⟩⟩
   ·have k3:rungsF k p b=[]:=by cases k with
     |zero=>rfl
     |succ k=>unfold rungsF;rw[if_neg hle]
    rw[k3,cAX]at hr
    gi_wp2
    go_end0
    exact⟨⟨_,rfl⟩,.inl ⟨pre,rfl,bDF⟩⟩
theorem stops(F:Fence)(n:Nat)(hF:F.fn 124)(bDG:F.fn 75)(aVQ:F.round=none)(hn:1<=n)(B:Nat)(a b:Int)(w:World)
  (Lh:∀w',Below w.heap.size w w'->CallsIn F (n-1) prog 75 #[.int .i64 a,.int .i64 b] w' fun e w2=>e=.returned (.bool (fO.xM a b))/\Below w'.heap.size w' w2) (hB:B+1<w.heap.size) (h1:w.cell? ⟨B,0,none⟩=some (.int .i64 a)) (h2:w.cell? ⟨B+1,0,none⟩=some (.int .i64 b)) :
  SeqStopsK F n prog 124 #[.pointer (some ⟨B,0,none⟩),.pointer (some ⟨B+1,0,none⟩)] (fun x:Bu=>#[Value.int .i64 x.1]) (KC (B+1)) (fun ys=>ys.map (·.1)=Ni a b) (fun pre=>pre.map (·.1) <+: Ni a b) 17 w:=fun l J Jx W hW hJ _ hY h0 =>
 each F n hF bDG aVQ hn l B a b W (fun w2 bET=>Lh w2 (hW.trans (bET.mono hW.size))) J Jx (fun pre W' hp Jd=>hJ pre _ _ none hp ⟨Jd.os,Jd.tape,Jd.output,Jd.size,fun k hk _=>Jd.block k hk⟩ (fun r e=>by cases e)) hY
  ((hW.cell (p:=⟨B,0,none⟩) (show B<_ by omega)).trans h1) ((hW.cell (p:=⟨B+1,0,none⟩) (show B+1<_ by omega)).trans h2) h0
def sp(s l m:Int):Prop×List D:=(True,[.s (.ints .i64 (if m<=0 then []else(Ni s l).take m.toNat))])
def aJ:dK:=orc3 (pN .i64) (pN .i64) (pN .i64) sp
theorem appended{W w1:World}{N B:Nat}{t e:TypeId}{size:Nat}{v v':Value}{k m:Nat}{xs ys:List Value}{tmp:Obj}
  (hv:Boxed W B t v) (Hx:t≠e) (Ec:W.ownsRow N e size v k xs) (hN:N<=W.heap.size) (hB:B<N)
  (Vn:w1.ownsRow N e size v' m ys) (Bz:(W.alloc tmp).grownBy w1 v.ownBlock) :
  Boxed w1 B t v/\Boxed (w1.setCell ⟨B,0,none⟩ v') B t v'/\(w1.setCell ⟨B,0,none⟩ v').ownsRow N e size v' m ys/\KeepsOthers W (w1.setCell ⟨B,0,none⟩ v')/\Below B W (w1.setCell ⟨B,0,none⟩ v')/\∀b,b<N->b≠B->(w1.setCell ⟨B,0,none⟩ v').heap[b]?=W.heap[b]?:=by
 have aHA:Boxed w1 B t v:=(hv.alloc tmp).kept Bz (hv.not_row Hx Ec);have hg:∀j,v.ownBlock=some j->N<=j:=fun j ej=>by
  rcases Ec.2 with ⟨rfl,_⟩ |⟨g,cap,cur,rfl,hb,_,_⟩
  ·simp[Value.ownBlock]at ej
  ·obtain rfl:g=j:=by simpa [Value.ownBlock] using ej
   exact hb
 refine⟨aHA,aHA.set v',Vn.kept (grownBy_setCell' w1 B v') (.inr (aHA.not_row Hx Vn).symm),?_,?_,fun b hb yT=>?_⟩
 ·refine((KeepsOthers.alloc W tmp).trans (KeepsOthers.of_grownBy Bz fun j o ej hj=>?_)).trans (KeepsOthers.setCell _ _ _);rcases(Ec.alloc tmp).2 with ⟨rfl,_⟩ |⟨g,cap,cur,rfl,_,bST,_⟩
  ·simp[Value.ownBlock]at ej
  ·obtain rfl:g=j:=by simpa [Value.ownBlock] using ej
   rw[bST]at hj;cases hj;rfl
 ·exact(((Below.refl B W).alloc (by omega) tmp).grown Bz (by simp;omega) fun j ej=>by have:=hg j ej;omega).setCell (p:=⟨B,0,none⟩) (bVO _) v'
 ·have h1:(W.alloc tmp).heap[b]?=W.heap[b]?:=Below.heap_alloc _ _ _ (by omega);have h2:w1.heap[b]?=(W.alloc tmp).heap[b]?:=Bz.block b (by simp;omega) fun e=>by have:=hg b e.symm;omega
  have h3:(w1.setCell ⟨B,0,none⟩ v').heap[b]?=w1.heap[b]?:=(grownBy_setCell' w1 B v').block b (by have:=Bz.size;simp at this;omega) fun e=>yT (Option.some.inj e)
  exact h3.trans (h2.trans h1)
theorem aQC{b:Nat}{A B:World}(h:B.heap[b]?=A.heap[b]?):KC b A B:=fun v hv=>by
 unfold World.cell? at hv ⊢;rw[h];exact hv
theorem Uv{w:World}{b b':Nat}{e:TypeId}{size:Nat}{v:Value}{n:Nat}{xs:List Value}(hb:b'<=b)(h:w.ownsRow b e size v n xs):w.ownsRow b' e size v n xs:=⟨h.1,h.2.imp id fun⟨g,cap,cur,a,c,d⟩=>⟨g,cap,cur,a,bWK hb c,d⟩⟩
theorem aKF:(prog.info? 3).map (fun i=>(i.zero,i.size,i.bytes))=some (some (.int .i64 0),1,8):=by kernel_rfl
set_option maxRecDepth 100000 in
set_option maxHeartbeats 8000000 in
theorem main (s l m:Int) (hm:0<m) {w:World} (hG:GlobOk base.glob O0 w):Calls prog 23 #[.int .i64 s,.int .i64 l,.int .i64 m] w fun e W'=>∃v,e=.returned v/\W'.ownsRow w.heap.size 3 1 v ((Ni s l).take m.toNat).length (((Ni s l).take m.toNat).map (Value.int .i64))/\Below w.heap.size w W':=by
 refine(callsIn_wide (n:=3)).1 ?_;obtain⟨i0,hi,Zf,aTD,aKK⟩:=info_parts aKF;refine callsIn_of_wp_marks func23 rfl trivial ?_ rfl;simp only[Tryz.ntmps23,bXE,bYZ,bZA,cBJ,cBK,Array.replicate_succ,Array.replicate_zero,cBL,cBM,bZR,bXH];have aTK:¬m<=0:=by omega
 have aVW:∀(W:World) (xs:Array Value),Sem.run prog (binOp BinOp.eql 120 (.func (.func 124) #[] xs) Value.nilFunc) W=.ok (.bool false) W:=fun _ _=>by kernel_rfl
 gi_wp2_with (refine⟨trivial,?_⟩;gi_at_call 70;refine(callsIn_wide.2 (IvLadder.make _ s l)).mono ?_;rintro e w' ⟨rfl,rfl⟩)
 obtain⟨Wa,bFP⟩:∃Wa,w.alloc (.cells #[.int .i64 m] 3)=Wa:=⟨_,rfl⟩;obtain⟨Wb,bFO⟩:∃Wb,Wa.alloc (.cells #[.slice none 0 0] 51)=Wb:=⟨_,rfl⟩;obtain⟨Wc,bDA⟩:∃Wc,(Wb.alloc (.cells #[.int .i64 s] 3)).alloc (.cells #[.int .i64 l] 3)=Wc:=⟨_,rfl⟩;rw[bFP,bFO,bDA];have za:Wa.heap.size=w.heap.size+1:=by rw[<-bFP];simp
 have zb:Wb.heap.size=w.heap.size+2:=by rw[<-bFO];simp[za]
 have zc:Wc.heap.size=w.heap.size+4:=by rw[<-bDA];simp[zb]
 have ha:Below w.heap.size w Wa:=by rw[<-bFP];exact(Below.refl _ _).alloc (bVO _) _
 have hb:Below Wa.heap.size Wa Wb:=by rw[<-bFO];exact(Below.refl _ _).alloc (bVO _) _
 have hc:Below Wb.heap.size Wb Wc:=by rw[<-bDA];exact((Below.refl _ _).alloc (bVO _) _).alloc (by simp) _
 have bMM:Below w.heap.size w Wc:=ha.trans ((hb.trans (hc.mono (by omega))).mono (by omega));have bM:Boxed Wc w.heap.size 3 (.int .i64 m):=(hc.block _ (by omega)).trans ((hb.block _ (by omega)).trans (by rw[<-bFP];exact World.alloc_heap_new _ _));have bL:Boxed Wc (w.heap.size+1) 51 (.slice none 0 0):=(hc.block _ (by omega)).trans (by rw[<-bFO,<-za];exact World.alloc_heap_new _ _);have s1:Wc.cell? ⟨w.heap.size+2,0,none⟩=some (.int .i64 s):=by rw[<-bDA,<-zb,World.cell?_alloc_past _ _ _ (by simp)];simp
 have s2:Wc.cell? ⟨w.heap.size+2+1,0,none⟩=some (.int .i64 l):=by rw[<-bDA,<-zb];simp[World.cell?_alloc_at]
 have bKK:∀w',Below Wc.heap.size Wc w'->GlobOk base.glob O0 w':=fun w' h=>qJ hG (bMM.trans (h.mono (by omega)))
 refine wpIn_rangeFunc_ownF rfl (by omega) (gf:=124) (lb:=#[.pointer (some ⟨w.heap.size+2,0,none⟩),.pointer (some ⟨w.heap.size+2+1,0,none⟩)]) rfl trivial (enters_of func124 (by kernel_rfl) rfl)
  (stops Fence.wide (3-1) trivial trivial rfl (by omega) (w.heap.size+2) s l Wc (fun w' aTH=>callsIn_wide.2 (El fO.ok (xs:=[.int .i64 s,.int .i64 l]) (ys:=[.bool (fO.xM s l)]) rfl trivial (bKK w' aTH) (by simp[Value.oneCell']))) (by omega) s1 s2) KC.trans (fun W l o o' _ ho hc _=>aVG W l o o' ho hc) (Below.refl _ _) (fun _=>rfl)
  (fun pre W=>(∃v,Boxed W (w.heap.size+1) 51 v/\W.ownsRow Wc.heap.size 3 1 v pre.length (pre.map fun x=>Value.int .i64 x.1)/\(pre.length:Int)<m)/\(Boxed W w.heap.size 3 (.int .i64 m)/\Wc.heap.size<=W.heap.size)/\Below w.heap.size w W)
  (fun c pre W=>(∃v,Boxed W (w.heap.size+1) 51 v/\W.ownsRow Wc.heap.size 3 1 v pre.length (pre.map fun x=>Value.int .i64 x.1)/\(c=.exit 0/\(pre.length:Int)=m))/\Below w.heap.size w W)
  ?i1 ?i2 ?start ?a₁ ?assign ?body ?done ?stop
 case i1=>exact OwnFrom.and (Own.from (holdsRow_own Wc.heap.size (w.heap.size+1) 51 3 1 (fun pre:List Bu=>pre.length) (fun pre=>pre.map fun x=>Value.int .i64 x.1) (fun pre _=>(pre.length:Int)<m)) _) (OwnFrom.and (Own.from (fun t A B row hs hg hr=>⟨hs.1.kept hg (fun e=>by obtain⟨o,ho,hc⟩:=hr _ e.symm;rw[show A.heap[_]?=_ from hs.1]at ho;cases ho;cases hc),bWK hs.2 hg.size⟩) _) (ownFrom_below (bVO _) (by omega)))
 case i2=>exact fun c=>OwnFrom.and (Own.from (holdsRow_own Wc.heap.size (w.heap.size+1) 51 3 1 (fun pre:List Bu=>pre.length) (fun pre=>pre.map fun x=>Value.int .i64 x.1) (fun pre _=>c=.exit 0/\(pre.length:Int)=m)) _) (ownFrom_below (bVO _) (by omega))
 case start=>exact⟨⟨_,bL,World.ownsRow_nil _ _ _ _,by simpa using hm⟩,⟨bM,bVO _⟩,bMM⟩
 case assign =>
  intro k x W K hK
  gi_wp2
  exact hK
 case body =>
  rintro k pre x W ⟨⟨v,hv,Ec,jB⟩,⟨bCV,hN⟩,hB⟩ h17;have Pn:=hv.cell;have bFK:=bCV.cell
  gi_wp2_with (gi_at_builtin;refine wpListIn_append_own _ rfl _ _ 51 rfl Wc.heap.size 3 i0 (.int .i64 0) 1 8 Tryz.underlying51 hi Zf aTD aKK rfl (by decide) _ _ _ rfl (Ec.alloc _) ⟨W.heap.size,0,none⟩ 1 1 [.int .i64 x.1] rfl rfl (cell_one_new _ _ _) (by simp[Value.oneCell']) (by unfold maxLen;omega) (by omega) (by simp;omega) ?_;intro v' w1 Vn Bz _;obtain⟨g',Mf,rfl⟩:=ownsRow_succ Vn;obtain⟨aHA,Rt,bFA,aOF,aDG,bNI⟩:=appended hv (by decide) Ec hN (by omega) Vn Bz;have aWM:=aHA.cell;have bNM:=aHA.frozen;have aQR:=Rt.cell;have bCU:Boxed _ w.heap.size 3 (.int .i64 m):=(bNI w.heap.size (by omega) (by omega)).trans bCV;have bNE:=bCU.cell)
  ·have he:(pre.length:Int)+1=m:=by rename_i h;exact beq_iff_eq.1 h
   exact⟨aOF,⟨_,Rt,by simpa using bFA,rfl,by simp;omega⟩,hB.trans (aDG.mono (by omega))⟩
  ·have he:¬(pre.length:Int)+1=m:=by rename_i h;intro h';rw[beq_iff_eq.2 h']at h;cases h
   exact⟨aOF,aQC (bNI _ (by omega) (by omega)),⟨_,Rt,by simpa using bFA,by simp;omega⟩,⟨bCU,bWK hN (by have:=Bz.size;simp at this ⊢;omega)⟩,hB.trans (aDG.mono (by omega))⟩
 case done =>
  rintro D ys W hD hS ⟨⟨v,hv,Ec,jB⟩,⟨bCV,hN⟩,hB⟩ hK;have Pn:=hv.cell
  gi_wp2
  refine⟨by simp,.inl ⟨_,_,rfl,run_takeDeferred hK,?_⟩⟩;refine⟨_,results_tmp rfl _ _ _,v,rfl,?_,hB.grown (grownBy_putObj' W D (.deferred none)) hB.size (fun k e=>by cases e;omega)⟩;have e:(Ni s l).take m.toNat=ys.map (·.1):=by rw[<-hS];exact cBH (by rw[bXC];omega)
  rw[e,bXC,List.map_map];exact Uv (by omega) (ownsRow_putObj Ec _ hK rfl)
 case stop =>
  rintro D c pre W hD hS ⟨⟨v,hv,Ec,rfl,jB⟩,hB⟩ hK;have Pn:=hv.cell
  gi_wp2
  refine⟨by simp,.inl ⟨_,_,rfl,run_takeDeferred hK,?_⟩⟩;refine⟨_,results_tmp rfl _ _ _,v,rfl,?_,hB.grown (grownBy_putObj' W D (.deferred none)) hB.size (fun k e=>by cases e;omega)⟩;have e:(Ni s l).take m.toNat=pre.map (·.1):=by
   rw[List.prefix_iff_eq_take.1 hS,bXC];congr 1;omega
  rw[e,bXC,List.map_map];exact Uv (by omega) (ownsRow_putObj Ec _ hK rfl)
set_option maxRecDepth 100000 in
set_option maxHeartbeats 4000000 in
theorem aVC (s l m:Int) (hm:m<=0) {w:World}:Calls prog 23 #[.int .i64 s,.int .i64 l,.int .i64 m] w fun e W'=>e=.returned (.slice none 0 0)/\Below w.heap.size w W':=by
 refine(callsIn_wide (n:=1)).1 ?_;refine callsIn_of_wp func23 rfl trivial ?_ rfl;simp only[Tryz.ntmps23,bXE,bYZ,bZA,cBJ,cBK,Array.replicate_succ,Array.replicate_zero,cBL,cBM,bZR,bXH]
 gi_wp2
 go_ret
 exact⟨rfl,((Below.refl _ w).alloc (bVO _) _).alloc (by simp) _⟩
theorem aCJ{X:Nat->Prop}{w:World}{base:Nat}{e:TypeId}{v:Value}{a:List Int}(hX:∀b,X b->b<base)(h:w.ownsRow base e 1 v a.length (a.map (Value.int .i64))):nO X w (.ints .i64 a) v:=by
 obtain⟨_,⟨rfl,h0⟩ |⟨g,cap,cur,rfl,hg,hb,hn,hm,hs,ht⟩⟩:=h
 ·have:a=[]:=List.length_eq_zero_iff.1 h0;subst this;exact⟨none,0,rfl,bVO _,fun i n hn=>by simp at hn⟩
 ·refine⟨some ⟨g,0,none⟩,cap,rfl,hn,fun i n hi=>⟨g,0,rfl,?_,fun hx=>?_,?_⟩⟩
  ·exact(Array.getElem?_eq_some_iff.1 hb).1
  ·have:=hX g hx;omega
  ·have jB:i<a.length:=(List.getElem?_eq_some_iff.1 hi).1;have e1:(cur.toList.take (a.length*1))[i]?=some (Value.int .i64 n):=by
    rw[ht,bVS,hi];rfl
   rw[bZK,aU]at e1;simp only[World.cell?,hb,bVQ];simpa using e1
theorem aPQ{P:Program}{G:Nat->Option (IntKind×List Int)}{f:FuncId}{α β γ:Type}{p:kM α}{q:kM β}{r:kM γ}{sp:α->β->γ->Prop×List D}(hb:oG P f)
  (h:∀a b c,(sp a b c).1->Contract P G f [p.put a,q.put b,r.put c] (sp a b c).2):kY P G f (orc3 p q r sp):=by
 intro ds g rs ho hg;unfold orc3 at ho;split at ho
 ·rename_i a1 a2 a3;split at ho
  ·rename_i h1 h2 h3;have e:=Option.some.inj ho;have c:=(h _ _ _ (by rw[e];exact hg)).of (ds:=[a1,a2,a3]) rfl (fun i d d' hd yV Y w v hr=>by
    match i with
    |0=>cases hd;cases yV;exact p.le h1 Y w v hr
    |1=>cases hd;cases yV;exact q.le h2 Y w v hr
    |2=>cases hd;cases yV;exact r.le h3 Y w v hr
    |i+3=>simp at hd)
   rw[e]at c;exact⟨c,hb⟩
  ·cases ho
 ·cases ho
theorem ok:OK 23 aJ:=aPQ (oJ func23 rfl rfl) fun s l m _=>by
 intro Y w vs hY hG hlen aQF;obtain rfl:vs=[.int .i64 s,.int .i64 l,.int .i64 m]:=by
  match vs,hlen with
  | [a,b,c],_ =>
   have e0:=aQF 0 _ _ rfl rfl;have e1:=aQF 1 _ _ rfl rfl;have e2:=aQF 2 _ _ rfl rfl;rw[show a=.int .i64 s from e0.1,show b=.int .i64 l from e1.1,show c=.int .i64 m from e2.1]
 unfold sp
 by_cases hm:m<=0
 ·rw[if_pos hm];refine(aVC s l m hm).mono ?_;rintro e w' ⟨rfl,hb⟩;exact⟨[_],rfl,hb,Clone.Rj rfl (aCJ (a:=[]) hY (World.ownsRow_nil w' w.heap.size 3 1))⟩
 ·rw[if_neg hm];refine(main s l m (by omega) (Pp hG)).mono ?_;rintro e w' ⟨v,rfl,hr,hb⟩;exact⟨[v],rfl,hb,Clone.Rj rfl (aCJ hY hr)⟩
end uV
namespace uW
def E:=mE [] 30 [] [(5,[1,5,6]),(4,[0,1,5])] [4]
def aE:=bd f25
theorem aX:Nk E aE:=nk
def J4 a b:=mD E f25 aE 4 [bP a,bP b,vA (sc (slice none 0 0))]
def L5 a b:=qV E f25 aE 5 [bP a,vA (sc (slice none 0 0)),bP b]
def bGD a (b:Nat) (c:List Int) d:=qV E f25 aE 5 [bP a,(A.v (V.one (L.buf 1 b)),some { e:=(3:Nat),cont:=wX.ints i64 c }),bP d]
theorem start a b:aH E f25 aE [D.s (sc (int i64 a)),D.s (sc (int i64 b))]=letI A:=some [D.s (sc (slice none 0 0))];aB (decide (a<1)) A (aB (decide (66000<b)) A (aB (decide (b<a)) A (uW.J4 a b))):=eJ aX
theorem Ci a b:J4 a b=uW.L5 b a:=cJ aX
theorem Qj a b:L5 a b=aB (decide (b<=a)) (uW.bGD a [b].length [b] (i64.wrap (b*2))) (some [D.s (sc (slice none 0 0))]):=lJ aX
theorem aNS a b c d:bGD a b c d=letI A:=c.length+[d].length;aB (decide (d<=a)) (if(0:Nat)<[d].length/\(A:Int)<=(8796093022208:Int)then uW.bGD a A (c ++ [d]) (i64.wrap (d*2))else none) (some [D.own 3 i64 c]):=lJ aX
open IvLadder (rungsF oP)
def sp(s l:Int):Prop×List D:=(True,[.s (.ints .i64 (uV.Ni s l))])
theorem L{l:Int}(hl:l<=66000):∀(k:Nat) (p:Int) (xs:List Int),1<=p->p<=132000->l<p*2^k->xs.length+k<=100->bGD l xs.length xs p=some [.own 3 .i64 (xs ++ rungsF k p l)]
 |0,p,xs,h1,h2,h3,h4=>by
  have h3:l<p*1:=h3;rw[aNS,aL];simp[rungsF]
 |k+1,p,xs,h1,h2,h3,h4=>by
  rw[aNS]
  by_cases c:p<=l
  ·have e:=L hl k (p*2) (xs ++ [p]) (by omega) (by omega) (by rw[cCB]at h3;rw[cAZ,cBN 2];exact h3) (by simp;omega);rw[aP c,if_pos ⟨Nat.zero_lt_one,by show(xs.length:Int)+((1:Nat):Int)<=_;omega⟩,wrap_i64,oP c];rw[List.length_append]at e;rw[e,bXJ];rfl
  ·rw[aL c,rungsF,if_neg c,cAX]
theorem spec:Mt E f25 aE (pN .i64) (pN .i64) sp:=by
 intro s l h;have e:=start s l;unfold sp uV.Ni;cases c:fO.xM s l with
 |false =>
  have c:¬(1<=s/\s<=l/\l<=66000):=of_decide_eq_false c;refine⟨[.s (.sc (.slice none 0 0))],e.trans ?_,.cons (yO.nil _) (iD.refl _)⟩
  by_cases c1:s<1
  ·rw[aP c1]
  ·rw[aL c1]
   by_cases c2:66000<l
   ·rw[aP c2]
   ·rw[aL c2,aP]
 |true =>
  have c:1<=s/\s<=l/\l<=66000:=of_decide_eq_true c;refine⟨[.own 3 .i64 (rungsF 17 s l)],e.trans ?_,.cons (yO.own _ _ _) (iD.refl _)⟩;have h:=L c.2.2 16 (s*2) [s] (by omega) (by omega) (by show l<s*2*65536;omega) (by simp);rw[aL,aL,aL,Ci,Qj,aP c.2.1,wrap_i64,h,oP c.2.1];rfl
def aJ:dK:=orc2 (pN .i64) (pN .i64) sp
theorem ok:OK 25 aJ:=(eZ E aE aD func25).aHQ rfl spec
end uW
namespace Eu
def E:=mE [] 26 [] [(4,[0,1,5])] []
def aE:=bd f22
theorem aX:Nk E aE:=nk
def L4(a:List Int)(b:List Int) c:=qV E f22 aE 4 [vA (ints i64 a),vA (ints i64 b),bP c]
theorem start a b:aH E f22 aE [D.s (ints i64 a),D.s (ints i64 b)]=aB ((a.length:Int) !=(b.length:Int)) (some [D.s (sc (bool false))]) (Eu.L4 a b 0):=eJ aX
theorem rZ a b c:L4 a b c=aB (decide (c<(a.length:Int))) (if 0<=c/\c<(a.length:Int)then if 0<=c/\c<(b.length:Int)then aB (a.getD c.toNat 0 !=b.getD c.toNat 0) (some [D.s (sc (bool false))]) (Eu.L4 a b (i64.wrap (c+1)))else none else none) (some [D.s (sc (bool true))]):=lJ aX
theorem L{a b:List Int}(hl:a.length=b.length)(h:a.length<=4398046511104):∀(d i:Nat),i+d=a.length->a.take i=b.take i->L4 a b (i:Int)=some [D.s (.sc (.bool (decide (a=b))))]:=by
 intro d
 induction d with
 |zero =>
  intro i hd hv;rw[cBH (by omega),cBH (by omega)]at hv;rw[rZ,aL,decide_eq_true hv]
 |succ d ih =>
  intro i hd hv;rw[rZ,aP,aU,aU,bZL];have ga:a.getD i 0=a[i]'(by omega):=by simp[cAP,show i<a.length by omega]
  have gb:b.getD i 0=b[i]'(by omega):=by simp[cAP,show i<b.length by omega]
  by_cases hc:a.getD i 0=b.getD i 0
  ·rw[gG hc,wrap_i64];refine ih (i+1) (by omega) ?_;rw[cBD (by omega),cBD (by omega),hv,<-ga,<-gb,hc]
  ·rw[nC hc,decide_eq_false (fun h=>hc (by rw[h]))]
def sp(a b:List Int):Prop×List D:=(a.length<=4398046511104/\b.length<=4398046511104,[.s (.sc (.bool (decide (a=b))))])
theorem spec:gT E f22 aE (pI .i64) (pI .i64) sp:=by
 rintro a b ⟨h1,h2⟩;refine(start a b).trans ?_
 by_cases hl:a.length=b.length
 ·rw[gG];exact L hl h1 a.length 0 (by omega) rfl
 ·rw[nC];unfold sp;rw[decide_eq_false (fun h=>hl (by rw[h]))]
def aJ:dK:=orc2 (pI .i64) (pI .i64) sp
theorem ok:OK 22 aJ:=(eZ E aE aD func22).mT rfl spec
end Eu
end W
namespace M
open Go AI
abbrev gE:=Bool×List Int×Int
def aQ(x:gE):Prop:=gL (x.1,x.2.1)/\(-1048576<=x.2.2/\x.2.2<=1048576)/\(M6.val x.2.1=0->x.2.2=0)/\(M6.val x.2.1≠0->M6.val x.2.1%2=1)
def dv(x:gE):Int×Int:=(wv (x.1,x.2.1),x.2.2)
def dD(p:Int×Int):D:=.agg [.sc (.bool (isNeg p.1)),.ints .u64 (M6.dg p.1.natAbs),.sc (.int .i64 p.2)]
def dE(ok:Bool)(p:Int×Int):List D:=[dD (bif ok then p else(0,0)),.s (.sc (.int .i64 (bif ok then 0 else 5)))]
def aN(z e:Int):Int×Int:=if z=0 then(0,0)else(z/((2^tz z.natAbs:Nat):Int),e+(tz z.natAbs:Nat))
def gY(z e:Int):Bool:=decide (z=0)||(decide (-1048576<=e+(tz z.natAbs:Nat))&&decide (e+(tz z.natAbs:Nat)<=1048576))
theorem aQ.Dh{x:gE}(h:aQ x):gL (x.1,x.2.1):=h.1
theorem aQ.len{x:gE}(h:aQ x):x.2.1.length<=8192:=h.1.len
theorem aQ.Hv{x:gE}(h:aQ x):M6.cR x.2.1:=h.1.1
theorem aQ.dD{x:gE}(h:aQ x):M.dD (dv x)=.agg [.sc (.bool x.1),.ints .u64 x.2.1,.sc (.int .i64 x.2.2)]:=by
 have:=h.Dh.cells;unfold M.dD dv;dsimp only at *;rw[this.1,this.2]
theorem Qm{b:Bool}{n:Nat}:zs b n=0↔n=0:=by
 have:=lP b n;omega
theorem aUA{b:Bool}{n q:Nat}(hq:0<q)(h:n%q=0):zs b n/(q:Int)=zs b (n/q):=by
 have hd:=cAT n q;have e:n=q*(n/q):=by omega
 cases b with
 |false =>
  show((n:Nat):Int)/(q:Int)=((n/q:Nat):Int);rw[cBO]
 |true =>
  show -(n:Int)/(q:Int)=-((n/q:Nat):Int);have e1:-(n:Int)=(q:Int)*(-((n/q:Nat):Int)):=by rw[Int.mul_neg,<-cBP,<-e]
  rw[e1,Int.mul_ediv_cancel_left _ (by omega)]
theorem Dj{n:Nat}(h:n≠0):tz n<bl n:=by
 have h1:=Jo h;exact qG.2 h1
def jK(p:Int×Int):Prop:=bl p.1.natAbs<=524288/\(-1048576<=p.2/\p.2<=1048576)/\(p.1=0->p.2=0)/\(p.1≠0->p.1%2=1)
theorem dU(p:Int×Int):dv (isNeg p.1,M6.dg p.1.natAbs,p.2)=p:=by
 unfold dv;dsimp only;rw[nA]
theorem dG{p:Int×Int}(h:jK p):aQ (isNeg p.1,M6.dg p.1.natAbs,p.2):=by
 obtain⟨h1,h2,h3,h4⟩:=h;refine⟨fT h1,h2,fun hz=>h3 ?_,fun hz=>?_⟩
 ·dsimp only at hz;rw[M6.bQ]at hz;omega
 ·dsimp only at hz ⊢;rw[M6.bQ]at hz ⊢;have:=h4 (by omega);omega
theorem aQ.vD{x:gE}(h:aQ x):jK (dv x):=by
 obtain⟨h1,h2,h3,h4⟩:=h;have ha:=iG (x.1,x.2.1);dsimp only at ha;refine⟨?_,h2,fun hz=>h3 ?_,fun hz=>?_⟩
 ·show bl (wv _).natAbs<=_;rw[ha];exact h1.bl
 ·have hz:wv (x.1,x.2.1)=0:=hz;omega
 ·have hz:wv (x.1,x.2.1)≠0:=hz;have:=h4 (by omega);show wv (x.1,x.2.1)%2=1;omega
theorem jK.neg{p:Int×Int}(h:jK p):jK (-p.1,p.2):=by
 obtain⟨h1,h2,h3,h4⟩:=h;refine⟨by dsimp only;rwa [cCC],h2,fun hz=>h3 (by dsimp only at hz;omega),fun hz=>?_⟩;have:=h4 (by dsimp only at hz;omega);dsimp only;omega
theorem bUO{z:Int}{m n:Nat}(hm:bl z.natAbs<=m)(hn:bl z.natAbs<=n):z/((2^m:Nat):Int)=z/((2^n:Nat):Int):=by
 have one:∀k,bl z.natAbs<=k->z/((2^k:Nat):Int)=if z<0 then -1 else 0:=by
  intro k hk;have h:=cZ.1 hk;have hp:0<2^k:=bYO (by decide);generalize 2^k=q at *
  by_cases hz:z<0
  ·rw[if_pos hz];have e:z=(q+z)+(q:Int)*(-1):=by omega
   rw[e,Int.add_mul_ediv_left _ _ (by omega),cCV (by omega) (by omega)];rfl
  ·rw[if_neg hz,cCV (by omega) (by omega)]
 rw[one m hm,one n hn]
theorem uB{z:Int}{q:Nat}(hq:0<q):(z/(q:Int)).natAbs<=z.natAbs:=by
 have h:=Int.mul_ediv_add_emod z (q:Int);have h1:=Int.emod_nonneg z (show(q:Int)≠0 by omega);have h2:=Int.emod_lt_of_pos z (show 0<(q:Int) by omega)
 by_cases hz:0<=z
 ·have h3:0<=z/(q:Int):=Int.ediv_nonneg hz (by omega);have h4:z/(q:Int)<=z:=Int.ediv_le_self _ hz;omega
 ·have h3:z/(q:Int)<0:=Int.ediv_neg_of_neg_of_pos (by omega) (by omega);have h4:(q:Int)*(z/(q:Int)+1)<=1*(z/(q:Int)+1):=Int.mul_le_mul_of_nonpos_right (by omega) (by omega);rw[Int.mul_add]at h4;omega
end M
namespace W
open Go AI M
namespace gN
def E:=mE [] 20 [] [] []
def aE:=bd f144
theorem aX:Nk E aE:=nk
theorem start a:aH E f144 aE [D.s (ints u64 a)]=letI A:=(a.length:Int);letI B:=A-(1:Int);aB (decide (A<=(8192:Int))) (aB (A==(0:Int)) (some [D.s (sc (bool true))]) (if 0<=i64.wrap B/\i64.wrap B<A then some [D.s (sc (bool (a.getD (i64.wrap B).toNat 0 !=(0:Int))))]else none)) (some [D.s (sc (bool false))]):=eJ aX
def oQ(a:List Int):Bool:=decide (a.length<=8192)&&(a.length==0||a.getD (a.length-1) 0 !=0)
theorem nM{a:List Int}(h:M6.cR a)(hl:a.length<=8192):oQ a=true:=by
 unfold oQ;rw[decide_eq_true hl,bYQ]
 by_cases hz:a.length=0
 ·simp[hz]
 ·have:=M6.getLast_take (a:=a) (n:=a.length-1) (by omega);rw[show a.length-1+1=a.length from by omega,cCD]at this;have:=h.top this;have e1:(a.getD (a.length-1) 0 !=0)=true:=by simpa using this
  rw[e1,cBQ]
def sp(a:List Int):Prop×List D:=(a.length<=1099511627776,[.s (.sc (.bool (oQ a)))])
theorem spec:jE E f144 aE (pI .u64) sp:=by
 intro a h;have hl:a.length<=1099511627776:=h;refine(start a).trans ?_;show _=some [D.s (.sc (.bool (oQ a)))];unfold oQ
 by_cases h1:a.length<=8192
 ·rw[aP,decide_eq_true h1,bYQ]
  by_cases hz:a.length=0
  ·rw[cO];simp[hz]
  ·have e:((a.length:Int)-1).toNat=a.length-1:=by omega
   rw[bN,wrap_i64 (n:=(a.length:Int)-1),aU,e];simp[hz]
 ·rw[aL,decide_eq_false h1];rfl
def aJ:dK:=orc1 (pI .u64) sp
theorem ok:OK 144 aJ:=(eZ E aE aD func144).pU rfl spec
end gN
namespace fH
def E:=mE [(144,gN.aJ)] 17 [] [] []
def aE:=bd f96
theorem aX:Nk E aE:=nk
theorem start a b:aH E f96 aE [D.agg [sc (bool a),ints u64 b]]=aO (b.length<=1099511627776) (aB (gN.oQ b) (aB a (some [D.s (sc (bool !(b.length:Int)==(0:Int)))]) (some [D.s (sc (bool true))])) (some [D.s (sc (bool false))])):=eJ aX
def nR(x:Bool×List Int):Bool:=gN.oQ x.2&&!(x.1&&((x.2.length:Int)==0))
theorem kU{x:Bool×List Int}(h:gL x):nR x=true:=by
 unfold nR;rw[gN.nM h.1 h.len,bYQ];cases hx:x.1 with
 |false=>rfl
 |true =>
  have:=h.2.1 hx;have hz:x.2.length≠0:=fun hl=>this ((M6.dZ h.1).1 hl)
  rw[bYQ,beq_eq_false_iff_ne.2 (by omega)];rfl
def sp(x:Bool×List Int):Prop×List D:=(x.2.length<=1099511627776,[.s (.sc (.bool (nR x)))])
theorem spec:jE E f96 aE oD sp:=by
 intro x h;have hl:x.2.length<=1099511627776:=h;refine(start x.1 x.2).trans ?_;show _=some [D.s (.sc (.bool (nR x)))];unfold nR;rw[gP hl];cases gN.oQ x.2 with
 |false=>rfl
 |true=>cases x.1 <;> rfl
def aJ:dK:=orc1 oD sp
theorem ok:OK 96 aJ:=(eZ E aE (aA gN.ok aD) func96).pU rfl spec
end fH
namespace mB
def E:=mE [] 8 [] [] []
def aE:=bd f46
theorem aX:Nk E aE:=nk
theorem start a b c:aH E f46 aE [D.agg [sc (bool a),ints u64 b,sc (int i64 c)]]=some [D.s (sc (bool ((b.length:Int)==(0:Int))))]:=eJ aX
def sp(x:gE):Prop×List D:=(True,[.s (.sc (.bool ((x.2.1.length:Int)==0)))])
theorem spec:jE E f46 aE iX sp:=fun x h=>start x.1 x.2.1 x.2.2
def aJ:dK:=orc1 iX sp
theorem ok:OK 46 aJ:=(eZ E aE aD func46).pU rfl spec
end mB
namespace lO
def E:=mE [(96,fH.aJ),(46,mB.aJ)] 29 [] [(3,[1])] [3]
def aE:=bd f45
theorem aX:Nk E aE:=nk
def J3 a b c:=mD E f45 aE 3 [dM 0 29 [cU a,fU b,cV c]]
theorem start a b c:aH E f45 aE [D.agg [sc (bool a),ints u64 b,sc (int i64 c)]]=letI A:=some [D.s (sc (bool false))];aO (b.length<=1099511627776) (aB (!fH.nR (a,b)) A (aB (decide (c<(-1048576:Int))) A (aB (decide (1048576<c)) A (lO.J3 a b c)))):=eJ aX
theorem gU a b c:J3 a b c=aO True (aB ((b.length:Int)==(0:Int)) (some [D.s (sc (bool (c==0)))]) (if(0:Int)<=(0:Int)/\0<(b.length:Int)then some [D.s (sc (bool (gA BinOp.and u64 (b.getD 0 0) 1==(1:Int))))]else none)):=cJ aX
def sp(x:gE):Prop×List D:=(aQ x,[.s (.sc (.bool true))])
theorem aPS{a:List Int}(h:M6.cR a)(hv:M6.val a%2=1):gA .and .u64 (a.getD 0 0) 1=1:=by
 have g:=h.kW.get 0;rw[Xe g.1 g.2 (by omega) (by omega)];have e:M6.val a=(a.getD 0 0).toNat+18446744073709551616*M6.val (a.drop 1):=by
  have:=M6.jM (a:=a) 0;rwa [cCE]at this
 have e1:(a.getD 0 0).toNat &&& (1:Int).toNat=(a.getD 0 0).toNat%2:=Nat.and_one_is_mod _;rw[e1];omega
theorem spec:jE E f45 aE iX sp:=by
 intro x h;have h:aQ x:=h;have hl:=h.len;have hf:=fH.kU h.Dh;have hn:=h.Hv;obtain⟨b,a,e⟩:=x;obtain⟨hw,he,h0,h1⟩:=h;refine(start b a e).trans ?_
 try dsimp only at *
 unfold sp
 try dsimp only
 rw[gP,hf,bXO,bF,aL,aL,gU,gP trivial]
 try dsimp only
 by_cases hz:a.length=0
 ·rw[cO,h0 ((M6.dZ hn).1 hz)];rfl
 ·rw[bN,if_pos ⟨by omega,by omega⟩,aPS hn (h1 (fun hv=>hz ((M6.dZ hn).2 hv)))];rfl
def aJ:dK:=orc1 iX sp
theorem ok:OK 45 aJ:=(eZ E aE (aA fH.ok (aA mB.ok aD)) func45).pU rfl spec
end lO
namespace Fb
def E:=mE [(97,Clone.aJ)] 10 [] [] []
def aE:=bd f47
theorem aX:Nk E aE:=nk
theorem start a b c:aH E f47 aE [D.agg [sc (bool a),ints u64 b,sc (int i64 c)]]=aO (b.length<=1099511627776) (some [D.agg [sc (bool a),ints u64 b,sc (int i64 c)]]):=eJ aX
def sp(x:gE):Prop×List D:=(x.2.1.length<=1099511627776,[.agg [.sc (.bool x.1),.ints .u64 x.2.1,.sc (.int .i64 x.2.2)]])
theorem spec:jE E f47 aE iX sp:=fun x h=>(start x.1 x.2.1 x.2.2).trans (gP h)
def aJ:dK:=orc1 iX sp
theorem ok:OK 47 aJ:=(eZ E aE (aA Clone.ok aD) func47).pU rfl spec
end Fb
namespace Ak
def E:=mE [] 21 [] [(2,[0,3])] []
def aE:=bd f147
theorem aX:Nk E aE:=nk
def L2 a b:=qV E f147 aE 2 [iM a,bP b]
theorem start a:aH E f147 aE [D.s (ints u64 a)]=Ak.L2 a (a.length:Int):=eJ aX
theorem lN a b:L2 a b=letI B:=(a.length:Int);letI A:=ints u64 (List.drop 0 (List.take b.toNat a));aB (decide (0<b)) (if 0<=i64.wrap (b-1)/\i64.wrap (b-1)<B then aB (a.getD (i64.wrap (b-1)).toNat 0==(0:Int)) (Ak.L2 a (i64.wrap (b-1))) (if(0:Int)<=(0:Int)/\0<=b/\b<=B then some [D.s A]else none)else none) (if(0:Int)<=(0:Int)/\0<=b/\b<=B then some [D.s A]else none):=lJ aX
def sp(a:List Int):Prop×List D:=(M6.cY a/\a.length<=1099511627776,[.s (.ints .u64 (M6.dg (M6.val a)))])
theorem L{xs:List Int}(hd:M6.cY xs)(hl:xs.length<=4398046511104):∀n:Nat,n<=xs.length->L2 xs n=some [D.s (.ints .u64 (M6.dg (M6.val (xs.take n))))]
 |0,h=>by
  rw[lN,aL,aU];simp[M6.val,M6.cK]
 |n+1,h=>by
  rw[lN];have e:i64.wrap (((n+1:Nat):Int)-1)=(n:Int):=by rw[wrap_i64];omega
  rw[e,aP,aU,bZL]
  by_cases hz:xs.getD n 0=0
  ·rw[cO hz,L hd hl n (by omega),M6.mL (by omega),hz];simp
  ·rw[bN hz,aU,bZL,cCE];have:M6.cR (xs.take (n+1)):=M6.Fw (hd.take _) fun d hg=>by
    rw[M6.getLast_take (by omega)]at hg;cases hg;exact hz
   rw[<-this]
theorem spec:jE E f147 aE (pI .u64) sp:=by
 rintro a ⟨hd,hl⟩;refine(start a).trans ?_;rw[L hd (by omega) a.length (bVO _),cCD];rfl
def aJ:dK:=orc1 (pI .u64) sp
theorem ok:OK 147 aJ:=(eZ E aE aD func147).pU rfl spec
end Ak
namespace cP
def E:=mE [(147,Ak.aJ)] 10 [5] [] []
def aE:=bd f145
theorem aX:Nk E aE:=nk
theorem start a:aH E f145 aE [D.s (ints u64 a)]=aO (M6.cY a/\a.length<=1099511627776) (aB (decide (8192<(↑(M6.dg (M6.val a)).length:Int))) (some [D.s (sc (slice none 0 0)),D.s (sc (int i64 5))]) (some [D.s (ints u64 (M6.dg (M6.val a))),D.s (sc (int i64 0))])):=eJ aX
def mM(n:Nat):Bool:=decide ((M6.dg n).length<=8192)
def sp(a:List Int):Prop×List D:=(M6.cY a/\a.length<=1099511627776,[.s (.ints .u64 (bif mM (M6.val a)then M6.dg (M6.val a)else [])),.s (.sc (.int .i64 (bif mM (M6.val a)then 0 else 5)))])
theorem spec:aNH E f145 aE (pI .u64) sp:=by
 intro a h;have hl:=M6.tT h.1;have h2:=h.2;have e:=(start a).trans (gP h);unfold sp mM;simp only
 by_cases hc:(M6.dg (M6.val a)).length<=8192
 ·rw[aL]at e;rw[decide_eq_true hc];exact⟨_,e,iD.refl _⟩
 ·rw[aP]at e;rw[decide_eq_false hc];exact⟨_,e,.cons (yO.nil _) (iD.refl _)⟩
def aJ:dK:=orc1 (pI .u64) sp
theorem ok:OK 145 aJ:=(eZ E aE (aA Ak.ok aD) func145).aZT rfl spec
end cP
namespace Ap
def aSL:ByteArray:=⟨((bXB 256).map fun n=>UInt8.ofNat (bl n)).toArray⟩
def E:=mE [] 25 [] [(4,[0,2]),(7,[0,2])] [4,7]
def aE:=bd f137
theorem aX:Nk E aE:=nk
def J4 a b:=mD E f137 aE 4 [dC a,bP b]
def J7 a b:=mD E f137 aE 7 [dC a,bP b]
theorem start a:aH E f137 aE [D.s (sc (int u64 a))]=aB (decide (4294967296<=a)) (Ap.J4 (a/4294967296) 32) (Ap.J4 a 0):=eJ aX
theorem Ci a b:J4 a b=aB (decide (65536<=a)) (Ap.J7 (a/65536) (i64.wrap (b+16))) (Ap.J7 a b):=cJ aX
theorem Na a b:J7 a b=aB (decide (256<=a)) (if 0<=u8.wrap (a/256)/\u8.wrap (a/256)<256 then some [D.s (sc (int i64 (i64.wrap (i64.wrap (b+8)+i64.wrap (Hg aSL (u8.wrap (a/256)))))))]else none) (if 0<=u8.wrap a/\u8.wrap a<256 then some [D.s (sc (int i64 (i64.wrap (b+i64.wrap (Hg aSL (u8.wrap a))))))]else none):=cJ aX
theorem Qx:(bXB 256).all (fun n=>Hg aSL (n:Nat)==(bl n:Nat))=true:=by kernel_rfl
theorem Qw{x:Int}(h:0<=x)(h':x<256):Hg aSL x=(bl x.toNat:Nat):=by
 have:=List.all_eq_true.1 Qx x.toNat (List.mem_range.2 (by omega));rw[show((x.toNat:Nat):Int)=x from by omega]at this;exact eq_of_beq this
theorem wrap_u8{x:Int}(h:0<=x)(h':x<256):u8.wrap x=x:=by
 show(if(false&&decide (x%256>=128))=true then x%256-256 else x%256)=x;rw[Int.emod_eq_of_lt h h'];simp
theorem uR{x:Int}{k:Nat}(h:(2:Int)^k<=x):bl x.toNat=k+bl (x/2^k).toNat:=by
 have hp:(0:Int)<2^k:=Int.pow_pos (by omega);have bRQ:((2^k:Nat):Int)=2^k:=by rw[Int.natCast_pow];rfl
 obtain⟨n,rfl⟩:=cAS (show 0<=x by omega);rw[<-bRQ]at h ⊢;rw[<-cBO,bZL,bZL];have h1:=cAT n (2^k);have h2:=bXW n (bYO (n:=k) (show 0<2 by omega));have h3:n/2^k≠0:=by
  intro h0;have:=(Nat.div_eq_zero_iff_lt (bYO (n:=k) (show 0<2 by omega))).1 h0;omega
 have:=Gt h2 h3;rw[show n%2^k+2^k*(n/2^k)=n from by omega]at this;exact this
theorem bOU{x n:Int}(h:0<=x)(h':x<65536)(hn:0<=n)(aFE:n<=1000):J7 x n=some [D.s (.sc (.int .i64 (n+(bl x.toNat:Nat))))]:=by
 rw[Na]
 by_cases hc:256<=x
 ·have hb:bl (x/256).toNat<=8:=cZ.2 (by omega);have hs:=uR (x:=x) (k:=8) (by omega);rw[show((2:Int)^8)=256 from rfl]at hs;rw[aP hc,wrap_u8 (by omega) (by omega),if_pos ⟨by omega,by omega⟩,Qw (by omega) (by omega),wrap_i64 (n:=n+8),wrap_i64 (n:=((bl (x/256).toNat:Nat):Int)) (by omega) (by omega),wrap_i64,hs];congr 5;omega
 ·have hb:bl x.toNat<=8:=cZ.2 (by omega);rw[aL hc,wrap_u8 (by omega) (by omega),if_pos ⟨by omega,by omega⟩,Qw (by omega) (by omega),wrap_i64 (n:=(bl x.toNat:Int)),wrap_i64]
theorem bOW{x n:Int}(h:0<=x)(h':x<4294967296)(hn:0<=n)(aFE:n<=500):J4 x n=some [D.s (.sc (.int .i64 (n+(bl x.toNat:Nat))))]:=by
 rw[Ci]
 by_cases hc:65536<=x
 ·have hs:=uR (x:=x) (k:=16) (by omega);rw[show((2:Int)^16)=65536 from rfl]at hs;rw[aP hc,wrap_i64 (n:=n+16),bOU (by omega) (by omega) (by omega) (by omega),hs];congr 5;omega
 ·rw[aL hc,bOU (by omega) (by omega) (by omega) (by omega)]
def sp(a:Int):Prop×List D:=(0<=a/\a<18446744073709551616,[.s (.sc (.int .i64 (bl a.toNat:Nat)))])
theorem spec:jE E f137 aE (pN .u64) sp:=by
 rintro a ⟨h1,h2⟩;refine(start a).trans ?_;show _=some [D.s (.sc (.int .i64 (bl a.toNat:Nat)))]
 by_cases hc:4294967296<=a
 ·have hs:=uR (x:=a) (k:=32) (by omega);rw[show((2:Int)^32)=4294967296 from rfl]at hs;rw[aP hc,bOW (by omega) (by omega) (by omega) (by omega),hs];congr 5
 ·rw[aL hc,bOW (by omega) (by omega) (by omega) (by omega)];congr 5;omega
def aJ:dK:=orc1 (pN .u64) sp
theorem ok:OK 137 aJ:=(eZ E aE aD func137).pU rfl spec
end Ap
namespace rY
def E:=mE [(147,Ak.aJ),(137,Ap.aJ)] 21 [] [] []
def aE:=bd f106
theorem aX:Nk E aE:=nk
theorem start a:aH E f106 aE [D.s (ints u64 a)]=letI B:=M6.dg (M6.val a);letI A:=(B.length:Int);letI C:=A-(1:Int);letI F:=i64.wrap C;aO (M6.cY a/\a.length<=1099511627776) (aB (A==(0:Int)) (some [D.s (sc (int i64 0))]) (if 0<=i64.wrap C/\i64.wrap C<A then aO (0<=B.getD F.toNat 0/\B.getD F.toNat 0<(18446744073709551616:Int)) (some [D.s (sc (int i64 (i64.wrap (i64.wrap ((64:Int)*i64.wrap C)+(↑(bl (B.getD F.toNat 0).toNat):Int)))))])else none)):=eJ aX
def sp(a:List Int):Prop×List D:=(M6.cY a/\a.length<=1099511627776,[.s (.sc (.int .i64 (bl (M6.val a):Nat)))])
theorem Pc(k:Nat):18446744073709551616^k=2^(64*k):=by rw[cBZ]
theorem spec:jE E f106 aE (pI .u64) sp:=by
 intro a h;refine(start a).trans ((gP h).trans ?_);show _=some [D.s (.sc (.int .i64 (bl (M6.val a):Nat)))];have hl:=M6.tT h.1;have h2:=h.2;have hn:=M6.aY (M6.val a);have hv:=M6.bQ (M6.val a);generalize M6.dg (M6.val a)=d at *;rw[<-hv]
 by_cases hz:d.length=0
 ·rw[cO,(M6.dZ hn).1 hz];rfl
 ·have hd:=hn.kW.get (d.length-1);have hv:=M6.dR (a:=d) (d.length-1);rw[show d.length-1+1=d.length from by omega,M6.dS (bVO _)]at hv;have ht:d.getD (d.length-1) 0≠0:=by
   have:=M6.getLast_take (a:=d) (n:=d.length-1) (by omega);rw[show d.length-1+1=d.length from by omega,cCD]at this;exact hn.top this
  have hb:bl (d.getD (d.length-1) 0).toNat<=64:=cZ.2 (by omega);have e:((d.length:Int)-1).toNat=d.length-1:=by omega
  rw[bN,wrap_i64 (n:=(d.length:Int)-1),aU,e,gP hd,wrap_i64 (n:=64*((d.length:Int)-1)),wrap_i64,
   hv,Pc,Gt (by rw[<-Pc];exact M6.iN hn.kW _) (by omega)]
  congr 5;omega
def aJ:dK:=orc1 (pI .u64) sp
theorem ok:OK 106 aJ:=(eZ E aE (aA Ak.ok (aA Ap.ok aD)) func106).pU rfl spec
end rY
namespace kN
def E:=mE [(144,gN.aJ),(145,cP.aJ),(106,rY.aJ)] 71 [68] [(12,[0,6,7,8,34,35])] []
def aE:=bd f98
theorem aX:Nk E aE:=nk
def aZQ a b c (d:Nat) (e:List Int) f g:=qV E f98 aE 12 [iM a,bP b,bP c,Ck 3 d 22 e,bP f,bP g]
theorem start a b:aH E f98 aE [D.s (ints u64 a),D.s (sc (int i64 b))]=letI C:=(a.length:Int);letI B:=sc (slice none 0 0);letI A:=i64.wrap (i64.wrap (b.tdiv 64)+C)+1;aB (decide (b<0)) (some [D.s B,D.s (sc (int i64 1))]) (aO (a.length<=1099511627776) (aB (!gN.oQ a) (some [D.s B,D.s (sc (int i64 2))]) (aB (C==(0:Int)) (some [D.s B,D.s (sc (int i64 0))]) (aO (M6.cY a/\a.length<=1099511627776) (aB (decide (i64.wrap ((524288:Int)-(↑(bl (M6.val a)):Int))<b)) (some [D.s B,D.s (sc (int i64 5))]) (if 0<=i64.wrap A/\i64.wrap A<=i64.wrap A/\i64.wrap A<=8796093022208 then kN.aZQ a (i64.wrap (b.tdiv 64)) (b.tmod 64) (i64.wrap A).toNat (bXR (i64.wrap A).toNat (0:Int)) C 0 else none)))))):=eJ aX
theorem aNT a b c d e f g:aZQ a b c d e f g=letI A:=i64.wrap (b+g)+1;aB (decide (g<f)) (if 0<=i64.wrap (b+g)/\i64.wrap (b+g)<(d:Int)then if 0<=g/\g<(a.length:Int)then if c<0 then none else if 0<=i64.wrap (b+g)/\i64.wrap (b+g)<(d:Int)then if 0<=g/\g<(a.length:Int)then if i64.wrap ((63:Int)-c)<0 then none else if 0<=i64.wrap A/\i64.wrap A<(d:Int)then kN.aZQ a b c d ((e.set (i64.wrap (b+g)).toNat (gA BinOp.or u64 (e.getD (i64.wrap (b+g)).toNat 0) (u64.wrap (a.getD g.toNat 0*(↑((2:Nat)^min c.toNat 64):Int))))).set (i64.wrap A).toNat (a.getD g.toNat 0/(2:Int)/(↑((2:Nat)^min (i64.wrap ((63:Int)-c)).toNat 64):Int))) f (i64.wrap (g+1))else none else none else none else none else none) (aO (M6.cY e/\e.length<=1099511627776) (some [D.s (ints u64 (bif cP.mM (M6.val e)then M6.dg (M6.val e)else [])),D.s (sc (int i64 (bif cP.mM (M6.val e)then(0:Int)else(5:Int))))])):=lJ aX
theorem step{a P:List Int}{c:Int}{q k i r:Nat}(ha:M6.cY a)(hP:P.length=q+i)(hi:i<a.length)(hl:a.length<=8192)(hq:q<=8192)(hk:k<64)(h0:0<=c)(h1:c<((2^k:Nat):Int))(hr:i+(r+1)=a.length) :
  aZQ a q k (q+a.length+1) (P ++ c :: bXR (r+1) 0) a.length i =
   aZQ a q k (q+a.length+1) ((P ++ [c+(((a.getD i 0).toNat*2^k%18446744073709551616:Nat):Int)]) ++ (((a.getD i 0).toNat/2^(64-k):Nat):Int) :: bXR r 0) a.length ((i+1:Nat):Int):=by
 have g:=ha.get i;have w1:i64.wrap ((q:Int)+i)=((q+i:Nat):Int):=by rw[wrap_i64];omega
 have w2:i64.wrap (((q+i:Nat):Int)+1)=((q+i+1:Nat):Int):=by rw[wrap_i64];omega
 have w3:i64.wrap (63-(k:Int))=((63-k:Nat):Int):=by rw[wrap_i64];omega
 have m1:min k 64=k:=by omega
 have m2:min (63-k) 64=63-k:=by omega
 have bBK:2^k<2^64:=cCW (by omega) hk;obtain⟨x,hx⟩:=cAS g.1;rw[aNT,aP,w1,if_pos ⟨by omega,by omega⟩,if_pos ⟨by omega,by omega⟩,aW,if_pos ⟨by omega,by omega⟩,if_pos ⟨by omega,by omega⟩,w3,aW,w2,if_pos ⟨by omega,by omega⟩,
  bZL,bZL,bZL,bZL,bZL,m1,m2,Gh hP,Fl hP,wrap_i64 (n:=(i:Int)+1),hx,bZL]
 have Zk:u64.wrap ((x:Int)*((2^k:Nat):Int))=((x*2^k%18446744073709551616:Nat):Int):=by
  rw[fJ,<-cBP,cCX];rfl
 have jB:x*2^k%18446744073709551616<18446744073709551616:=bXW _ (by omega);have bBO:gA .or .u64 c ((x*2^k%18446744073709551616:Nat):Int)=c+((x*2^k%18446744073709551616:Nat):Int):=by
  rw[Uy h0 (by generalize 2^k=p at *;omega) (by omega) (by omega),bZL,Il x k hk,Fv (by omega)];omega
 have Xx:(x:Int)/2/((2^(63-k):Nat):Int)=((x/2^(64-k):Nat):Int):=by
  have e:2^(64-k)=2*2^(63-k):=by rw[show 64-k=(63-k)+1 from by omega,cAN,cAM]
  rw[e,<-cCA,cBO,cBO];rfl
 rw[Zk,bBO,Xx];have hs:=Fl (pre:=P ++ [c+((x*2^k%18446744073709551616:Nat):Int)]) (i:=q+i+1) (by simp[hP]) 0 ((x/2^(64-k):Nat):Int) (bXR r 0);rw[bXJ,cCF,<-cAU]at hs;rw[hs];rfl
theorem L{a:List Int}{q k:Nat}(ha:M6.cR a)(hl:a.length<=8192)(hq:q<=8192)(hk:k<64)(Nn:cP.mM (M6.val a*2^k*18446744073709551616^q)=true):∀(r i:Nat) (P:List Int) (c:Int),i+r=a.length->P.length=q+i->M6.cY P->0<=c->c<((2^k:Nat):Int) ->
  M6.val P+18446744073709551616^(q+i)*c.toNat=18446744073709551616^q*(M6.val (a.take i)*2^k) ->
  aZQ a q k (q+a.length+1) (P ++ c :: bXR r 0) a.length i=some [D.s (.ints .u64 (M6.dg (M6.val a*2^k*18446744073709551616^q))),D.s (.sc (.int .i64 0))]:=by
 intro r;have bBK:2^k<2^64:=cCW (by omega) hk
 induction r with
 |zero =>
  intro i P c hi hP hd h0 h1 hv;have Rt:M6.val (P ++ c :: bXR 0 0)=M6.val a*2^k*18446744073709551616^q:=by
   rw[cBW,M6.nV,hP,hv,M6.dS (by omega),cAM]
  have aTO:M6.cY (P ++ c :: bXR 0 0):=by
   rw[cBW];exact M6.nZ hd ⟨h0,by generalize 2^k=p at *;omega⟩
  rw[aNT,aL,gP ⟨aTO,by simp;omega⟩,Rt,Nn];rfl
 |succ r ih =>
  intro i P c hi hP hd h0 h1 hv;have g:=ha.kW.get i;rw[step ha.kW hP (by omega) hl hq hk h0 h1 (by omega)];have jB:(a.getD i 0).toNat*2^k%18446744073709551616<18446744073709551616:=bXW _ (by omega);have Zj:=Il (a.getD i 0).toNat k hk;have aVO:=Fj (a.getD i 0).toNat k hk;have Xx:(a.getD i 0).toNat/2^(64-k)<2^k:=by
   apply cBG;rw[<-cAQ,show 64-k+k=64 from by omega];omega
  have aQG:c.toNat+(a.getD i 0).toNat*2^k%18446744073709551616<18446744073709551616:=by
   rw[Zj];have hm:(a.getD i 0).toNat%2^(64-k)<2^(64-k):=bXW _ (cX);have e:(18446744073709551616:Nat)=2^k*2^(64-k):=by rw[<-cAQ,show k+(64-k)=64 from by omega]
   have h3:2^k*((a.getD i 0).toNat%2^(64-k)+1)<=2^k*2^(64-k):=bYC _ hm;rw[<-e,cAO]at h3;omega
  refine ih (i+1) _ _ (by omega) (by simp[hP];omega) (M6.nZ hd ⟨by omega,by omega⟩) (by omega) (by omega) ?_;rw[M6.nV,hP,M6.dR,bZL,show q+(i+1)=(q+i)+1 from by omega,cAN,cAR];have e1:(c+(((a.getD i 0).toNat*2^k%18446744073709551616:Nat):Int)).toNat=c.toNat+(a.getD i 0).toNat*2^k%18446744073709551616:=by omega
  rw[e1];have e2:18446744073709551616^(q+i)*(c.toNat+(a.getD i 0).toNat*2^k%18446744073709551616)+18446744073709551616^(q+i)*(18446744073709551616*((a.getD i 0).toNat/2^(64-k)))=18446744073709551616^(q+i)*c.toNat+18446744073709551616^(q+i)*((a.getD i 0).toNat*2^k):=by
   rw[<-cAO,<-cAO];congr 1;omega
  have e3:18446744073709551616^q*((M6.val (a.take i)+18446744073709551616^i*(a.getD i 0).toNat)*2^k)=18446744073709551616^q*(M6.val (a.take i)*2^k)+18446744073709551616^(q+i)*((a.getD i 0).toNat*2^k):=by
   rw[Nat.add_mul,cAO,cAQ,cAR,cAR]
  rw[e3];omega
def jL(n k:Nat):Bool:=decide (n=0)||decide (bl n+k<=524288)
def sp(a:List Int)(n:Int):Prop×List D:=(M6.cR a/\a.length<=8192/\0<=n/\n<4611686018427387904,[.s (.ints .u64 (bif jL (M6.val a) n.toNat then M6.dg (M6.val a*2^n.toNat)else [])),.s (.sc (.int .i64 (bif jL (M6.val a) n.toNat then 0 else 5)))])
theorem spec:Mt E f98 aE (pI .u64) (pN .i64) sp:=by
 rintro a n ⟨ha,hl,h0,h1⟩;have e:=start a n;have hb:=xX ha.kW hl;rw[aL,gP,gN.nM ha hl,bXO,bF]at e;unfold sp jL;simp only
 by_cases hz:a.length=0
 ·have hv:=(M6.dZ ha).1 hz;rw[cO]at e;rw[hv,Nat.zero_mul,M6.cK,decide_eq_true rfl,cAW];exact⟨_,e,.cons (yO.nil _) (iD.refl _)⟩
 ·have hv:M6.val a≠0:=fun h=>hz ((M6.dZ ha).2 h)
  rw[bN,gP ⟨ha.kW,by omega⟩,wrap_i64 (n:=524288-(bl (M6.val a):Int))]at e;rw[decide_eq_false hv,bXP]
  by_cases hc:bl (M6.val a)+n.toNat<=524288
  ·have bNV:=pD hv;have eq:n/64=((n.toNat/64:Nat):Int):=by omega
   have ek:n%64=((n.toNat%64:Nat):Int):=by omega
   rw[aL,aIK h0,aIG h0,wrap_i64 (n:=n/64),wrap_i64 (n:=n/64+a.length),wrap_i64,if_pos ⟨by omega,by omega,by omega⟩,eq,ek,
    show(((n.toNat/64:Nat):Int)+(a.length:Int)+1).toNat=n.toNat/64+a.length+1 from by omega]at e
   have hval:M6.val a*2^n.toNat=M6.val a*2^(n.toNat%64)*18446744073709551616^(n.toNat/64):=by
    rw[Kk,cAR,cAM (2^(n.toNat%64))]
   have Nn:cP.mM (M6.val a*2^(n.toNat%64)*18446744073709551616^(n.toNat/64))=true:=by
    rw[<-hval];exact decide_eq_true (fL (k:=8192) (by rw[cAM,xW hv];omega))
   have:=L (q:=n.toNat/64) (k:=n.toNat%64) ha hl (by omega) (by omega) Nn a.length 0 (bXR (n.toNat/64) 0) 0 (by omega) (by simp) (M6.kZ _) (by omega) (by have:=bYO (n:=n.toNat%64) (show 0<2 by omega);omega) (by rw[M6.jU];simp[M6.val]);rw[show(bXR (n.toNat/64) (0:Int) ++ 0 :: bXR a.length 0)=bXR (n.toNat/64+a.length+1) 0 from by rw[<-cAU,List.replicate_append_replicate,Nat.add_assoc]]at this;rw[decide_eq_true hc,hval];exact⟨_,e.trans this,iD.refl _⟩
  ·rw[aP]at e;rw[decide_eq_false hc];exact⟨_,e,.cons (yO.nil _) (iD.refl _)⟩
def aJ:dK:=orc2 (pI .u64) (pN .i64) sp
theorem ok:OK 98 aJ:=(eZ E aE (aA gN.ok (aA cP.ok (aA rY.ok aD))) func98).aHQ rfl spec
end kN
namespace De
def E:=mE [] 13 [] [] []
def aE:=bd f105
theorem aX:Nk E aE:=nk
theorem start a b:aH E f105 aE [D.s (sc (bool a)),D.s (ints u64 b)]=aB a (some [D.agg [sc (bool (decide (0<(b.length:Int)))),ints u64 b]]) (some [D.agg [sc (bool false),ints u64 b]]):=eJ aX
def sp(a:Bool)(b:List Int):Prop×List D:=(M6.cR b/\b.length<=1099511627776,[wD (zs a (M6.val b))])
theorem spec:gT E f105 aE pB (pI .u64) sp:=by
 rintro a b ⟨hb,hl⟩;refine(start a b).trans ?_;show _=some [wD (zs a (M6.val b))];rw[aZV,<-hb];cases a with
 |false=>rfl
 |true =>
  rw[bT,bYQ];have:=M6.dZ hb
  by_cases hz:b.length=0
  ·rw[decide_eq_false (show ¬(0<(b.length:Int)) by omega),decide_eq_false (show ¬(M6.val b≠0)from fun h=>h (this.1 hz))]
  ·rw[decide_eq_true (show(0<(b.length:Int)) by omega),decide_eq_true (show(M6.val b≠0)from fun h=>hz (this.2 h))]
def aJ:dK:=orc2 pB (pI .u64) sp
theorem ok:OK 105 aJ:=(eZ E aE aD func105).mT rfl spec
end De
namespace An
def E:=mE [(105,De.aJ)] 15 [] [] []
def aE:=bd f99
theorem aX:Nk E aE:=nk
theorem start a b c:aH E f99 aE [D.s (sc (bool a)),D.s (ints u64 b),D.s (sc (int i64 c))]=aB (c !=0) (some [D.agg [sc (bool false),sc (slice none 0 0)],D.s (sc (int i64 c))]) (aO (M6.cR b/\b.length<=1099511627776) (some [D.agg [sc (bool (isNeg (zs a (M6.val b)))),ints u64 (M6.dg (zs a (M6.val b)).natAbs)],D.s (sc (int i64 0))])):=eJ aX
def sp(a:Bool)(b:List Int)(c:Int):Prop×List D:=(M6.cR b/\b.length<=1099511627776,[wD (bif c==0 then zs a (M6.val b)else 0),.s (.sc (.int .i64 c))])
theorem spec:aXU E f99 aE pB (pI .u64) (pN .i64) sp:=by
 intro a b c h;have e:=start a b c;have hg:M6.cR b/\b.length<=1099511627776:=h;unfold sp;simp only
 by_cases hc:c=0
 ·subst hc;rw[gG rfl,gP hg]at e;exact⟨_,e,iD.refl _⟩
 ·rw[nC hc]at e;rw[beq_eq_false_iff_ne.2 hc,cond_false];refine⟨_,e,.cons ?_ (iD.refl _)⟩;unfold wD;rw[show(0:Int).natAbs=0 from rfl,M6.cK];exact yO.agg (.cons (Da.refl _) (.cons (Da.nil _) .nil))
def aJ:dK:=orc3 pB (pI .u64) (pN .i64) sp
theorem ok:OK 99 aJ:=(eZ E aE (aA De.ok aD) func99).bGH rfl spec
end An
namespace Ao
def E:=mE [(96,fH.aJ),(98,kN.aJ),(99,An.aJ)] 29 [26] [] []
def aE:=bd f48
theorem aX:Nk E aE:=nk
theorem start a c b:aH E f48 aE [D.agg [sc (bool a),ints u64 c],D.s (sc (int i64 b))]=letI B:=bif kN.jL (M6.val c) b.toNat then(0:Int)else(5:Int);letI A:=bif kN.jL (M6.val c) b.toNat then M6.dg (M6.val c*(2:Nat)^b.toNat)else [];letI C:=bif B==0 then zs a (M6.val A)else(0:Int);aB (decide (b<0)) (some [D.agg [sc (bool false),sc (slice none 0 0)],D.s (sc (int i64 1))]) (aO (c.length<=1099511627776) (aB (!fH.nR (a,c)) (some [D.agg [sc (bool false),sc (slice none 0 0)],D.s (sc (int i64 2))]) (aO (M6.cR c/\c.length<=8192/\0<=b/\b<4611686018427387904) (aO (M6.cR A/\A.length<=1099511627776) (some [D.agg [sc (bool (isNeg C)),ints u64 (M6.dg C.natAbs)],D.s (sc (int i64 B))]))))):=eJ aX
theorem Im(n k:Nat):kN.jL n k=fit (n*2^k):=by
 unfold kN.jL fit
 by_cases h:n=0
 ·subst h;rw[Nat.zero_mul];rfl
 ·rw[decide_eq_false h,bXP,cAM,xW h,cBR]
def sp(x:Bool×List Int)(n:Int):Prop×List D:=(gL x/\0<=n/\n<4611686018427387904,wE (fit (M6.val x.2*2^n.toNat)) (wv x*((2^n.toNat:Nat):Int)))
theorem spec:gT E f48 aE oD (pN .i64) sp:=by
 rintro x n ⟨hx,h0,h1⟩;refine(start x.1 x.2 n).trans ?_;have l1:=hx.len;have f1:=fH.kU hx;obtain⟨p,a⟩:=x;have n1:M6.cR a:=hx.1
 try dsimp only at *
 unfold sp
 try dsimp only
 have hs:wv (p,a)*((2^n.toNat:Nat):Int)=zs p (M6.val a*2^n.toNat):=by
  unfold wv zs;cases p with
  |true=>simp[Int.neg_mul]
  |false=>simp
 rw[aL,gP,f1,bXO,bF,gP ⟨n1,l1,h0,h1⟩,gP (Ja (fun h=>by rw[Im]at h;exact xO h)),Ij,Im,hs]
def aJ:dK:=orc2 oD (pN .i64) sp
theorem ok:OK 48 aJ:=(eZ E aE (aA fH.ok (aA kN.ok (aA An.ok aD))) func48).mT rfl spec
end Ao
namespace uF
def E:=mE [(144,gN.aJ),(145,cP.aJ)] 65 [62] [(8,[0,1,6,7,30,31]),(3,[0,1]),(5,[0,1]),(13,[0,1,6,7,8,9,30,31])] [3,5,13]
def aE:=bd f100
theorem aX:Nk E aE:=nk
def J3 a b:=mD E f100 aE 3 [iM a,iM b]
def J5 a b:=mD E f100 aE 5 [iM a,iM b]
def L8 a b (c:Nat) (d:List Int) e f g:=qV E f100 aE 8 [iM a,iM b,Ck 2 c 22 d,dC e,bP f,bP g]
def Ql a b (c:Nat) (d:List Int) e f g h i:=mD E f100 aE 13 [iM a,iM b,Ck 2 c 22 d,dC e,bP f,dC g,bP h,bP i]
theorem start a b:aH E f100 aE [D.s (ints u64 a),D.s (ints u64 b)]=letI A:=some [D.s (sc (slice none 0 0)),D.s (sc (int i64 2))];aO (a.length<=1099511627776) (aB (!gN.oQ a) A (aO (b.length<=1099511627776) (aB (!gN.oQ b) A (uF.J3 a b)))):=eJ aX
theorem gU a b:J3 a b=aB (decide ((a.length:Int)<(b.length:Int))) (uF.J5 b a) (uF.J5 a b):=cJ aX
theorem Xm a b:J5 a b=letI A:=(a.length:Int);letI B:=A+(1:Int);if 0<=i64.wrap B/\i64.wrap B<=i64.wrap B/\i64.wrap B<=8796093022208 then uF.L8 a b (i64.wrap B).toNat (bXR (i64.wrap B).toNat (0:Int)) 0 A 0 else none:=cJ aX
theorem Hs a b c d e f g:L8 a b c d e f g=letI B:=(a.length:Int);letI A:=d.set B.toNat e;aB (decide (g<f)) (aB (decide (g<(b.length:Int))) (if 0<=g/\g<(b.length:Int)then uF.Ql a b c d e g (b.getD g.toNat 0) f g else none) (uF.Ql a b c d e g 0 f g)) (if 0<=B/\B<(c:Int)then aO (M6.cY A/\A.length<=1099511627776) (some [D.s (ints u64 (bif cP.mM (M6.val A)then M6.dg (M6.val A)else [])),D.s (sc (int i64 (bif cP.mM (M6.val A)then(0:Int)else(5:Int))))])else none):=lJ aX
theorem yF a b c d e f g h i:Ql a b c d e f g h i=letI A:=a.getD f.toNat 0+g+e;if 0<=f/\f<(a.length:Int)then aO (0<=a.getD f.toNat 0/\0<=g/\0<=e/\e<=1) (if 0<=f/\f<(c:Int)then uF.L8 a b c (d.set f.toNat (A%18446744073709551616)) (A/18446744073709551616) h (i64.wrap (i+1))else none)else none:=cJ aX
theorem step{a b pre:List Int}{c:Int}{i k:Nat}(ha:M6.cY a)(hb:M6.cY b)(hp:pre.length=i)(hi:i<a.length)(hl:a.length<=8192)(h0:0<=c)(h1:c<=1) :
  L8 a b (i+(k+1)) (pre ++ bXR (k+1) 0) c a.length i=L8 a b ((i+1)+k) ((pre ++ [(a.getD i 0+b.getD i 0+c)%18446744073709551616]) ++ bXR k 0) ((a.getD i 0+b.getD i 0+c)/18446744073709551616) a.length ((i+1:Nat):Int):=by
 have g1:=ha.get i;have g2:=hb.get i;have hJ:∀y:Int,0<=y->Ql a b (i+(k+1)) (pre ++ bXR (k+1) 0) c i y a.length i=L8 a b ((i+1)+k) ((pre ++ [(a.getD i 0+y+c)%18446744073709551616]) ++ bXR k 0) ((a.getD i 0+y+c)/18446744073709551616) a.length ((i+1:Nat):Int):=by
  intro y hy;rw[yF,aU,bZL,gP ⟨g1.1,hy,h0,h1⟩,aU,zG hp,wrap_i64,show i+(k+1)=(i+1)+k from by omega];rfl
 rw[Hs,aP]
 by_cases h:i<b.length
 ·rw[aP,aU,bZL,hJ _ g2.1]
 ·rw[aL,hJ 0 (by omega),M6.getD_none (a:=b) (by omega)]
theorem L{a b:List Int}(ha:M6.cY a)(hb:M6.cY b)(hl:a.length<=8192)(aTR:b.length<=a.length):∀(k i:Nat) (pre:List Int) (c:Int),i+k=a.length->pre.length=i->M6.cY pre->0<=c->c<=1 ->
  M6.val pre+18446744073709551616^i*c.toNat=M6.val (a.take i)+M6.val (b.take i) ->
  L8 a b (i+(k+1)) (pre ++ bXR (k+1) 0) c a.length i=some [D.s (.ints .u64 (bif cP.mM (M6.val a+M6.val b)then M6.dg (M6.val a+M6.val b)else [])),D.s (.sc (.int .i64 (bif cP.mM (M6.val a+M6.val b)then 0 else 5)))]:=by
 intro k
 induction k with
 |zero =>
  intro i pre c hi hp hd h0 h1 hv;have bJA:i=a.length:=by omega
  subst bJA;have hs:(pre ++ bXR (0+1) 0).set a.length c=pre ++ [c]:=by rw[zG hp];simp
  have Rt:M6.val (pre ++ [c])=M6.val a+M6.val b:=by
   rw[M6.nV,hp,hv,M6.dS (bVO _),M6.dS (by omega)]
  rw[Hs,aL,aU,bZL,hs,Rt,gP ⟨M6.nZ hd (by omega),by simp;omega⟩]
 |succ k ih =>
  intro i pre c hi hp hd h0 h1 hv;have g1:=ha.get i;have g2:=hb.get i;rw[step ha hb hp (by omega) hl h0 h1];refine ih (i+1) _ _ (by omega) (by simp[hp]) (M6.nZ hd (by omega)) (by omega) (by omega) ?_;rw[M6.nV,M6.dR,M6.dR,hp,cAN,cAR];generalize a.getD i 0=x at *;generalize b.getD i 0=y at *;generalize 18446744073709551616^i=B at *;have e:18446744073709551616*((x+y+c)/18446744073709551616).toNat+((x+y+c)%18446744073709551616).toNat=c.toNat+x.toNat+y.toNat:=by omega
  have e2:B*(18446744073709551616*((x+y+c)/18446744073709551616).toNat)+B*((x+y+c)%18446744073709551616).toNat=B*c.toNat+B*x.toNat+B*y.toNat:=by
   rw[<-cAO,e,cAO,cAO]
  omega
theorem bOV{a b:List Int}(ha:M6.cY a)(hb:M6.cY b)(hl:a.length<=8192)(aTR:b.length<=a.length):J5 a b=some [D.s (.ints .u64 (bif cP.mM (M6.val a+M6.val b)then M6.dg (M6.val a+M6.val b)else [])),D.s (.sc (.int .i64 (bif cP.mM (M6.val a+M6.val b)then 0 else 5)))]:=by
 rw[Xm,wrap_i64,if_pos ⟨by omega,by omega,by omega⟩,show((a.length:Int)+1).toNat=0+(a.length+1)from by omega];have:=L ha hb hl aTR a.length 0 [] 0 (by omega) rfl M6.oZ (by omega) (by omega) (by simp[M6.val]);rw[bZR]at this;rw[show 0+(a.length+1)=a.length+1 from by omega]at this ⊢;exact this
def sp(a b:List Int):Prop×List D:=(M6.cR a/\M6.cR b/\a.length<=8192/\b.length<=8192,[.s (.ints .u64 (bif cP.mM (M6.val a+M6.val b)then M6.dg (M6.val a+M6.val b)else [])),.s (.sc (.int .i64 (bif cP.mM (M6.val a+M6.val b)then 0 else 5)))])
theorem spec:gT E f100 aE (pI .u64) (pI .u64) sp:=by
 rintro a b ⟨ha,hb,h1,h2⟩;refine(start a b).trans ?_;rw[gP,gP,gN.nM ha h1,gN.nM hb h2,bXO,bF,bF,gU]
 by_cases hl:a.length<b.length
 ·rw[aP,bOV hb.kW ha.kW h2 (by omega),cBR];rfl
 ·rw[aL,bOV ha.kW hb.kW h1 (by omega)];rfl
def aJ:dK:=orc2 (pI .u64) (pI .u64) sp
theorem ok:OK 100 aJ:=(eZ E aE (aA gN.ok (aA cP.ok aD)) func100).mT rfl spec
end uF
namespace Am
def E:=mE [(147,Ak.aJ)] 47 [] [(7,[5,6,7])] []
def aE:=bd f101
theorem aX:Nk E aE:=nk
def L7 a b c:=qV E f101 aE 7 [iM a,iM b,bP c]
theorem start a b:aH E f101 aE [D.s (ints u64 a),D.s (ints u64 b)]=letI B:=M6.dg (M6.val b);letI A:=(↑(M6.dg (M6.val a)).length:Int);aO (M6.cY a/\a.length<=1099511627776) (aO (M6.cY b/\b.length<=1099511627776) (aB (A !=(B.length:Int)) (aB (decide (A<(B.length:Int))) (some [D.s (sc (int i64 (-1:Int)))]) (some [D.s (sc (int i64 1))])) (Am.L7 (M6.dg (M6.val a)) B (i64.wrap (A-(1:Int)))))):=eJ aX
theorem wW a b c:L7 a b c=aB (decide (0<=c)) (if 0<=c/\c<(a.length:Int)then if 0<=c/\c<(b.length:Int)then aB (a.getD c.toNat 0 !=b.getD c.toNat 0) (if 0<=c/\c<(a.length:Int)then if 0<=c/\c<(b.length:Int)then aB (decide (a.getD c.toNat 0<b.getD c.toNat 0)) (some [D.s (sc (int i64 (-1:Int)))]) (some [D.s (sc (int i64 1))])else none else none) (Am.L7 a b (i64.wrap (c-1)))else none else none) (some [D.s (sc (int i64 0))]):=lJ aX
def sp(a b:List Int):Prop×List D:=(M6.cY a/\M6.cY b/\a.length<=1099511627776/\b.length<=1099511627776,[.s (.sc (.int .i64 (lB (M6.val a) (M6.val b))))])
theorem L{a b:List Int}(ha:M6.cY a)(hb:M6.cY b)(hl:a.length=b.length)(hm:a.length<=4398046511104):∀n:Nat,n<=a.length->L7 a b ((n:Int)-1)=some [D.s (.sc (.int .i64 (lB (M6.val (a.take n)) (M6.val (b.take n)))))]
 |0,_=>by
  rw[wW,aL];simp[lB,M6.val]
 |n+1,h=>by
  have e:(((n+1:Nat):Int)-1)=(n:Int):=by omega
  rw[e,wW,aP,aU,aU,aU,aU,bZL,wrap_i64,L ha hb hl hm n (by omega)];have h1:=ha.get n;have h2:=hb.get n;have l1:=M6.iN ha n;have l2:=M6.iN hb n;rw[M6.dR,M6.dR];generalize a.getD n 0=x at *;generalize b.getD n 0=y at *;generalize M6.val (a.take n)=u at *;generalize M6.val (b.take n)=v at *;generalize 18446744073709551616^n=B at *
  by_cases aVL:x<y
  ·rw[nC,aP aVL];have:B*x.toNat+B<=B*y.toNat:=by
    have:B*(x.toNat+1)<=B*y.toNat:=bYC _ (by omega);rw[cAO]at this;omega
   unfold lB;rw[aU]
  ·by_cases hyx:y<x
   ·rw[nC,aL aVL];have:B*y.toNat+B<=B*x.toNat:=by
     have:B*(y.toNat+1)<=B*x.toNat:=bYC _ (by omega);rw[cAO]at this;omega
    unfold lB;rw[aW,aU]
   ·have:x=y:=by omega
    subst this;rw[gG rfl,aMV]
theorem spec:gT E f101 aE (pI .u64) (pI .u64) sp:=by
 rintro a b ⟨ha,hb,h1,h2⟩;refine(start a b).trans ?_;have la:=M6.tT ha;have lb:=M6.tT hb;rw[gP ⟨ha,h1⟩,gP ⟨hb,h2⟩];show _=some [D.s (.sc (.int .i64 (lB (M6.val a) (M6.val b))))];have na:=M6.aY (M6.val a);have nb:=M6.aY (M6.val b);have va:=M6.bQ (M6.val a);have vb:=M6.bQ (M6.val b);rw[<-va,<-vb];generalize M6.dg (M6.val a)=x at *;generalize M6.dg (M6.val b)=y at *;have e1:=M6.Iz na;have e2:=M6.Iz nb;rw[e1,e2]
 by_cases hl:x.length=y.length
 ·rw[gG,wrap_i64,L na.kW nb.kW hl (by omega) x.length (bVO _),M6.dS (bVO _),M6.dS (by omega)]
 ·rw[nC]
  by_cases jB:x.length<y.length
  ·have:=M6.uL na.kW nb jB;rw[aP];unfold lB;rw[if_pos this]
  ·have:=M6.uL nb.kW na (by omega);rw[aL];unfold lB;rw[aW,if_pos this]
def aJ:dK:=orc2 (pI .u64) (pI .u64) sp
theorem ok:OK 101 aJ:=(eZ E aE (aA Ak.ok aD) func101).mT rfl spec
end Am
namespace uE
def E:=mE [(144,gN.aJ),(145,cP.aJ),(101,Am.aJ)] 56 [53] [(8,[0,1,6,7,26,27]),(3,[0,1]),(13,[0,1,6,7,8,9,26,27])] [3,13]
def aE:=bd f102
theorem aX:Nk E aE:=nk
def J3 a b:=mD E f102 aE 3 [iM a,iM b]
def L8 a b (c:Nat) (d:List Int) e f g:=qV E f102 aE 8 [iM a,iM b,Ck 2 c 22 d,dC e,bP f,bP g]
def Ql a b (c:Nat) (d:List Int) e f g h i:=mD E f102 aE 13 [iM a,iM b,Ck 2 c 22 d,dC e,bP f,dC g,bP h,bP i]
theorem start a b:aH E f102 aE [D.s (ints u64 a),D.s (ints u64 b)]=letI A:=some [D.s (sc (slice none 0 0)),D.s (sc (int i64 2))];aO (a.length<=1099511627776) (aB (!gN.oQ a) A (aO (b.length<=1099511627776) (aB (!gN.oQ b) A (uE.J3 a b)))):=eJ aX
theorem gU a b:J3 a b=letI A:=(a.length:Int);aO (M6.cY a/\M6.cY b/\a.length<=1099511627776/\b.length<=1099511627776) (aB (decide (lB (M6.val a) (M6.val b)<0)) (some [D.s (sc (slice none 0 0)),D.s (sc (int i64 3))]) (if 0<=A/\A<=A/\A<=(8796093022208:Int)then uE.L8 a b A.toNat (bXR A.toNat (0:Int)) 0 A 0 else none)):=cJ aX
theorem Hs a b c d e f g:L8 a b c d e f g=aB (decide (g<f)) (aB (decide (g<(b.length:Int))) (if 0<=g/\g<(b.length:Int)then uE.Ql a b c d e g (b.getD g.toNat 0) f g else none) (uE.Ql a b c d e g 0 f g)) (aO (M6.cY d/\d.length<=1099511627776) (some [D.s (ints u64 (bif cP.mM (M6.val d)then M6.dg (M6.val d)else [])),D.s (sc (int i64 (bif cP.mM (M6.val d)then(0:Int)else(5:Int))))])):=lJ aX
theorem yF a b c d e f g h i:Ql a b c d e f g h i=if 0<=f/\f<(a.length:Int)then aO (0<=a.getD f.toNat 0/\0<=g/\g<18446744073709551616/\0<=e/\e<=1) (if 0<=f/\f<(c:Int)then uE.L8 a b c (d.set f.toNat ((a.getD f.toNat 0-g-e)%18446744073709551616)) (if a.getD f.toNat 0<g+e then(1:Int)else(0:Int)) h (i64.wrap (i+1))else none)else none:=cJ aX
theorem step{a b pre:List Int}{o:Int}{i k:Nat}(ha:M6.cY a)(hb:M6.cY b)(hp:pre.length=i)(hi:i<a.length)(hl:a.length<=8192)(h0:0<=o)(h1:o<=1) :
  L8 a b (i+(k+1)) (pre ++ bXR (k+1) 0) o a.length i=L8 a b ((i+1)+k) ((pre ++ [(a.getD i 0-b.getD i 0-o)%18446744073709551616]) ++ bXR k 0) (if a.getD i 0<b.getD i 0+o then 1 else 0) a.length ((i+1:Nat):Int):=by
 have g1:=ha.get i;have g2:=hb.get i;have hJ:∀y:Int,0<=y->y<18446744073709551616->Ql a b (i+(k+1)) (pre ++ bXR (k+1) 0) o i y a.length i=L8 a b ((i+1)+k) ((pre ++ [(a.getD i 0-y-o)%18446744073709551616]) ++ bXR k 0) (if a.getD i 0<y+o then 1 else 0) a.length ((i+1:Nat):Int):=by
  intro y hy bHP;rw[yF,aU,bZL,gP ⟨g1.1,hy,bHP,h0,h1⟩,aU,zG hp,wrap_i64,show i+(k+1)=(i+1)+k from by omega];rfl
 rw[Hs,aP]
 by_cases h:i<b.length
 ·rw[aP,aU,bZL,hJ _ g2.1 g2.2]
 ·rw[aL,hJ 0 (by omega) (by omega),M6.getD_none (a:=b) (by omega)]
theorem L{a b:List Int}(ha:M6.cY a)(hb:M6.cY b)(hl:a.length<=8192)(Jd:b.length<=a.length)(aTR:M6.val b<=M6.val a):∀(k i:Nat) (pre:List Int) (o:Int),i+k=a.length->pre.length=i->M6.cY pre->0<=o->o<=1 ->
  M6.val pre+M6.val (b.take i)=M6.val (a.take i)+18446744073709551616^i*o.toNat ->
  L8 a b (i+k) (pre ++ bXR k 0) o a.length i=some [D.s (.ints .u64 (M6.dg (M6.val a-M6.val b))),D.s (.sc (.int .i64 0))]:=by
 intro k
 induction k with
 |zero =>
  intro i pre o hi hp hd h0 h1 hv;have bQR:=M6.dT hd;rw[hp]at bQR;rw[M6.dS (by omega),M6.dS (by omega)]at hv;have:o=0:=by
   by_cases ho:o=0
   ·exact ho
   ·exfalso;have:o=1:=by omega
    subst this;rw[show(1:Int).toNat=1 from rfl,Nat.mul_one]at hv;omega
  subst this;simp only[cCZ,cCG,bWM]at hv;have hlen:=M6.tT hd;have Nn:cP.mM (M6.val pre)=true:=decide_eq_true (by omega);rw[Hs,aL,cBW,cAX,gP ⟨hd,by omega⟩,Nn,cond_true,cond_true,show M6.val pre=M6.val a-M6.val b from by omega]
 |succ k ih =>
  intro i pre o hi hp hd h0 h1 hv;have g1:=ha.get i;have g2:=hb.get i;rw[step ha hb hp (by omega) hl h0 h1];refine ih (i+1) _ _ (by omega) (by simp[hp]) (M6.nZ hd (by omega)) (by split <;> omega) (by split <;> omega) ?_;rw[M6.nV,M6.dR,M6.dR,hp,cAN,cAR];generalize a.getD i 0=x at *;generalize b.getD i 0=y at *;have e:((x-y-o)%18446744073709551616).toNat+y.toNat+o.toNat=x.toNat+18446744073709551616*(if x<y+o then 1 else 0:Int).toNat:=by split <;> omega
  generalize 18446744073709551616^i=B at *;have e2:=congrArg (B*·) e;simp only[cAO]at e2;omega
def sp(a b:List Int):Prop×List D:=(M6.cR a/\M6.cR b/\a.length<=8192/\b.length<=8192,[.s (.ints .u64 (M6.dg (M6.val a-M6.val b))),.s (.sc (.int .i64 (if M6.val a<M6.val b then 3 else 0)))])
theorem spec:Mt E f102 aE (pI .u64) (pI .u64) sp:=by
 rintro a b ⟨ha,hb,h1,h2⟩;have e:=start a b;rw[gP,gP,gN.nM ha h1,gN.nM hb h2,bXO,bF,bF,gU,gP ⟨ha.kW,hb.kW,by omega,by omega⟩]at e;unfold sp;simp only
 by_cases hc:M6.val a<M6.val b
 ·rw[aP (by unfold lB;rw[if_pos hc];omega)]at e;rw[if_pos hc,show M6.val a-M6.val b=0 from by omega,M6.cK];exact⟨_,e,.cons (yO.nil _) (iD.refl _)⟩
 ·have Jd:b.length<=a.length:=by
   rcases bWE a.length b.length with h |h
   ·have:=M6.uL ha.kW hb h;omega
   ·exact h
  have:=L ha.kW hb.kW h1 Jd (by omega) a.length 0 [] 0 (by omega) rfl M6.oZ (by omega) (by omega) (by simp[M6.val]);rw[aL (by unfold lB;rw[if_neg hc];split <;> omega),if_pos ⟨by omega,by omega,by omega⟩,bZL]at e;rw[bZR,show 0+a.length=a.length from by omega]at this;rw[if_neg hc];exact⟨_,e.trans this,iD.refl _⟩
def aJ:dK:=orc2 (pI .u64) (pI .u64) sp
theorem ok:OK 102 aJ:=(eZ E aE (aA gN.ok (aA cP.ok (aA Am.ok aD))) func102).aHQ rfl spec
end uE
namespace Fa
def E:=mE [(96,fH.aJ),(100,uF.aJ),(101,Am.aJ),(102,uE.aJ),(99,An.aJ)] 62 [36,59] [(3,[2,3,4]),(8,[2,3,4])] [3,8]
def aE:=bd f49
theorem aX:Nk E aE:=nk
def J3 a b c d e:=mD E f49 aE 3 [dM 0 27 [cU a,fU b],dM 1 27 [cU c,fU d],dM 2 27 [cU e,sc (slice none 0 0)]]
def J8 a b c d e:=mD E f49 aE 8 [dM 0 27 [cU a,fU b],dM 1 27 [cU c,fU d],dM 2 27 [cU e,sc (slice none 0 0)]]
theorem start a b c d:aH E f49 aE [D.agg [sc (bool a),ints u64 b],D.agg [sc (bool c),ints u64 d]]=letI A:=some [D.agg [sc (bool false),sc (slice none 0 0)],D.s (sc (int i64 2))];aO (b.length<=1099511627776) (aB (!fH.nR (a,b)) A (aO (d.length<=1099511627776) (aB (!fH.nR (c,d)) A (Fa.J3 a b c d false)))):=eJ aX
theorem gU a b c d e:J3 a b c d e=letI F:=M6.val b+M6.val d;letI B:=bif cP.mM F then(0:Int)else(5:Int);letI A:=bif cP.mM F then M6.dg F else [];letI C:=bif B==0 then zs a (M6.val A)else(0:Int);aB (a==c) (aO (M6.cR b/\M6.cR d/\b.length<=8192/\d.length<=8192) (aO (M6.cR A/\A.length<=1099511627776) (some [D.agg [sc (bool (isNeg C)),ints u64 (M6.dg C.natAbs)],D.s (sc (int i64 B))]))) (aO (M6.cY b/\M6.cY d/\b.length<=1099511627776/\d.length<=1099511627776) (aB (decide (lB (M6.val b) (M6.val d)<0)) (Fa.J8 c d a b e) (Fa.J8 a b c d e))):=cJ aX
theorem yP a b c d e:J8 a b c d e=letI B:=M6.dg (M6.val b-M6.val d);letI A:=bif (if M6.val b<M6.val d then(3:Int)else(0:Int))==0 then zs a (M6.val B)else(0:Int);aO (M6.cR b/\M6.cR d/\b.length<=8192/\d.length<=8192) (aO (M6.cR B/\B.length<=1099511627776) (some [D.agg [sc (bool (isNeg A)),ints u64 (M6.dg A.natAbs)],D.s (sc (int i64 (if M6.val b<M6.val d then(3:Int)else(0:Int))))])):=cJ aX
theorem aCN(n:Nat):cP.mM n=fit n:=Bd
def sp(x y:Bool×List Int):Prop×List D:=(gL x/\gL y,wE (fit (wv x+wv y).natAbs) (wv x+wv y))
theorem spec:gT E f49 aE oD oD sp:=by
 rintro x y ⟨hx,hy⟩;refine(start x.1 x.2 y.1 y.2).trans ?_;have l1:=hx.len;have l2:=hy.len;have f1:=fH.kU hx;have f2:=fH.kU hy;have b1:=hx.bl;have b2:=hy.bl;obtain⟨p,a⟩:=x;obtain⟨q,b⟩:=y;have n1:M6.cR a:=hx.1;have n2:M6.cR b:=hy.1
 try dsimp only at *
 unfold sp
 try dsimp only
 rw[gP,f1,bXO,bF,gP,f2,bXO,bF,gU];have one:∀(s:Bool) (m n:Nat),n<=m->bl m<=524288->some [D.agg [S.sc (.bool (isNeg (bif (if m<n then(3:Int)else 0)==0 then zs s (M6.val (M6.dg (m-n)))else 0))),S.ints .u64 (M6.dg (bif (if m<n then(3:Int)else 0)==0 then zs s (M6.val (M6.dg (m-n)))else 0).natAbs)],D.s (S.sc (.int .i64 (if m<n then 3 else 0)))]=some (wE (fit (zs s (m-n)).natAbs) (zs s (m-n))):=by
  intro s m n h hb;have:fit (zs s (m-n)).natAbs=true:=by
   rw[lP];exact decide_eq_true (bWK (fY (cCH _ _)) hb)
  rw[aW,this,show((0:Int)==0)=true from rfl,cond_true,M6.bQ];rfl
 by_cases he:p=q
 ·subst he;have hs:wv (p,a)+wv (p,b)=zs p (M6.val a+M6.val b):=by
   unfold wv zs;cases p <;> simp <;> omega
  rw[aXQ (by simp),gP ⟨n1,n2,l1,l2⟩,gP (Ja (fun h=>by rw[aCN]at h;exact xO h)),Ij,aCN,hs,lP]
 ·rw[Sx (by simpa using he),gP ⟨n1.kW,n2.kW,by omega,by omega⟩]
  by_cases hc:M6.val b<=M6.val a
  ·have hs:wv (p,a)+wv (q,b)=zs p (M6.val a-M6.val b):=by
    unfold wv zs;cases p <;> cases q <;> simp_all <;> omega
   have l3:=fL (n:=M6.val a-M6.val b) (k:=8192) (bWK (fY (cCH _ _)) b1);rw[aL (by have:=aDY.2 hc;omega),yP,gP ⟨n1,n2,l1,l2⟩,gP ⟨M6.aY _,by omega⟩,hs,one _ _ _ hc b1]
  ·have hs:wv (p,a)+wv (q,b)=zs q (M6.val b-M6.val a):=by
    unfold wv zs;cases p <;> cases q <;> simp_all <;> omega
   have l3:=fL (n:=M6.val b-M6.val a) (k:=8192) (bWK (fY (cCH _ _)) b2);rw[aP (by have:=(not_congr aDY).2 hc;omega),yP,gP ⟨n2,n1,l2,l1⟩,gP ⟨M6.aY _,by omega⟩,hs,one _ _ _ (by omega) b2]
def aJ:dK:=orc2 oD oD sp
theorem ok:OK 49 aJ:=(eZ E aE (aA fH.ok (aA uF.ok (aA Am.ok (aA uE.ok (aA An.ok aD))))) func49).mT rfl spec
end Fa
namespace aNG
def E:=mE [] 14 [] [] []
def aE:=bd f136
theorem aX:Nk E aE:=nk
theorem start a:aH E f136 aE [D.s (sc (int u64 a))]=letI A:=gA BinOp.and u64 a (u64.wrap ((0:Int)-a))*285870213051353865;aB (a==0) (some [D.s (sc (int i64 64))]) (if 0<=u64.wrap A/288230376151711744/\u64.wrap A/288230376151711744<(64:Int)then some [D.s (sc (int i64 (i64.wrap ([(0:Int),(1:Int),(56:Int),(2:Int),(57:Int),(49:Int),(28:Int),(3:Int),(61:Int),(58:Int),(42:Int),(50:Int),(38:Int),(29:Int),(17:Int),(4:Int),(62:Int),(47:Int),(59:Int),(36:Int),(45:Int),(43:Int),(51:Int),(22:Int),(53:Int),(39:Int),(33:Int),(30:Int),(24:Int),(18:Int),(12:Int),(5:Int),(63:Int),(55:Int),(48:Int),(27:Int),(60:Int),(41:Int),(37:Int),(16:Int),(46:Int),(35:Int),(44:Int),(21:Int),(52:Int),(32:Int),(23:Int),(11:Int),(54:Int),(26:Int),(40:Int),(15:Int),(34:Int),(20:Int),(31:Int),(10:Int),(25:Int),(14:Int),(19:Int),(9:Int),(13:Int),(8:Int),(7:Int),(6:Int)].getD (u64.wrap A/288230376151711744).toNat 0))))]else none):=eJ aX
def aSL:List Int:=[0,1,56,2,57,49,28,3,61,58,42,50,38,29,17,4,62,47,59,36,45,43,51,22,53,39,33,30,24,18,12,5,63,55,48,27,60,41,37,16,46,35,44,21,52,32,23,11,54,26,40,15,34,20,31,10,25,14,19,9,13,8,7,6]
theorem Qx:(bXB 64).all (fun k=>aSL.getD (((2^k*285870213051353865%18446744073709551616:Nat):Int)/288230376151711744).toNat 0==(k:Int))=true:=by kernel_rfl
theorem Qw{k:Nat}(h:k<64):aSL.getD (((2^k*285870213051353865%18446744073709551616:Nat):Int)/288230376151711744).toNat 0=(k:Int):=eq_of_beq (List.all_eq_true.1 Qx k (List.mem_range.2 h))
def sp(a:Int):Prop×List D:=(0<=a/\a<18446744073709551616,[.s (.sc (.int .i64 (if a=0 then 64 else(tz a.toNat:Int))))])
theorem spec:jE E f136 aE (pN .u64) sp:=by
 rintro a ⟨h1,h2⟩;refine(start a).trans ?_;show _=some [D.s (.sc (.int .i64 (if a=0 then 64 else(tz a.toNat:Int))))]
 by_cases hz:a=0
 ·rw[cO hz,if_pos hz]
 ·have jB:tz a.toNat<64:=by
   have:=Jo (n:=a.toNat) (by omega);rcases bWE (tz a.toNat) 64 with h |h
   ·exact h
   ·have h3:2^64<=2^tz a.toNat:=bYP (by omega) h;omega
  have ew:u64.wrap (0-a)=18446744073709551616-a:=by rw[fJ];omega
  have el:gA .and .u64 a (u64.wrap (0-a))=((2^tz a.toNat:Nat):Int):=by
   rw[ew,Xe h1 h2 (by omega) (by omega),Vj 64 a.toNat (18446744073709551616-a).toNat (by omega) (by omega) (by omega)]
  have em:u64.wrap (((2^tz a.toNat:Nat):Int)*285870213051353865)=((2^tz a.toNat*285870213051353865%18446744073709551616:Nat):Int):=by
   rw[fJ];generalize 2^tz a.toNat=p;omega
  have ht:=Qw jB;have hm:2^tz a.toNat*285870213051353865%18446744073709551616<18446744073709551616:=bXW _ (by omega);rw[bN hz,if_neg hz,el,em];generalize 2^tz a.toNat*285870213051353865%18446744073709551616=q at *;rw[if_pos ⟨by omega,by omega⟩];have e3:([0,1,56,2,57,49,28,3,61,58,42,50,38,29,17,4,62,47,59,36,45,43,51,22,53,39,33,30,24,18,12,5,63,55,48,27,60,41,37,16,46,35,44,21,52,32,23,11,54,26,40,15,34,20,31,10,25,14,19,9,13,8,7,6]:List Int)=aSL:=rfl;rw[e3,ht,wrap_i64]
def aJ:dK:=orc1 (pN .u64) sp
theorem ok:OK 136 aJ:=(eZ E aE aD func136).pU rfl spec
end aNG
namespace Dd
def E:=mE [(136,aNG.aJ)] 23 [] [(2,[0,5,6])] []
def aE:=bd f103
theorem aX:Nk E aE:=nk
def L2 a b c:=qV E f103 aE 2 [iM a,bP b,bP c]
theorem start a:aH E f103 aE [D.s (ints u64 a)]=Dd.L2 a (a.length:Int) 0:=eJ aX
theorem lN a b c:L2 a b c=aB (decide (c<b)) (if 0<=c/\c<(a.length:Int)then aB (a.getD c.toNat 0 !=(0:Int)) (if 0<=c/\c<(a.length:Int)then aO (0<=a.getD c.toNat 0/\a.getD c.toNat 0<(18446744073709551616:Int)) (some [D.s (sc (int i64 (i64.wrap (i64.wrap ((64:Int)*c)+if a.getD c.toNat 0=(0:Int)then(64:Int)else(↑(tz (a.getD c.toNat 0).toNat):Int)))))])else none) (Dd.L2 a b (i64.wrap (c+1)))else none) (some [D.s (sc (int i64 0))]):=lJ aX
def sp(a:List Int):Prop×List D:=(M6.cY a/\a.length<=1099511627776,[.s (.sc (.int .i64 (tz (M6.val a):Nat)))])
theorem L{a:List Int}(ha:M6.cY a)(hl:a.length<=1099511627776):∀(d i:Nat),i+d=a.length->L2 a a.length i=some [D.s (.sc (.int .i64 (if M6.val (a.drop i)=0 then 0 else(((64*i+tz (M6.val (a.drop i)):Nat)):Int))))]:=by
 intro d
 induction d with
 |zero =>
  intro i hi;rw[lN,aL,cBE (by omega)];rfl
 |succ d ih =>
  intro i hi;have g:=ha.get i;have hv:=M6.jM (a:=a) i;have bSO:=ih (i+1) (by omega);rw[lN,aP,aU,bZL,aU,gP g,wrap_i64 (n:=(i:Int)+1),wrap_i64 (n:=64*(i:Int)),show(i:Int)+1=((i+1:Nat):Int)from by omega,bSO];generalize a.getD i 0=x at *;rw[hv]
  by_cases hz:x=0
  ·subst hz;rw[gG rfl];simp only[cCZ,bVQ]
   by_cases aKK:M6.val (a.drop (i+1))=0
   ·rw[if_pos aKK,aU]
   ·have:=Qr aKK 64;rw[show(2:Nat)^64=18446744073709551616 from rfl]at this;rw[if_neg aKK,aW,this];congr 5;omega
  ·have ht:=Jo (n:=x.toNat) (by omega);have bEZ:tz x.toNat<64:=by
    rcases bWE (tz x.toNat) 64 with h |h
    ·exact h
    ·have h3:2^64<=2^tz x.toNat:=bYP (by omega) h;omega
   have:=aHY (r:=x.toNat) (k:=64) (n:=M6.val (a.drop (i+1))) (by omega) (by omega);rw[show(2:Nat)^64=18446744073709551616 from rfl]at this;rw[nC hz,if_neg hz,aW,this,wrap_i64];congr 5
theorem spec:jE E f103 aE (pI .u64) sp:=by
 rintro a ⟨ha,hl⟩;refine(start a).trans ?_;have:=L ha hl a.length 0 (by omega);rw[show(0:Int)=((0:Nat):Int)from rfl,this,cCE];show _=some [D.s (.sc (.int .i64 (tz (M6.val a):Nat)))]
 by_cases hz:M6.val a=0
 ·rw[if_pos hz,hz];simp[tz]
 ·rw[if_neg hz];congr 5;omega
def aJ:dK:=orc1 (pI .u64) sp
theorem ok:OK 103 aJ:=(eZ E aE (aA aNG.ok aD) func103).pU rfl spec
end Dd
namespace Ez
def E:=mE [(144,gN.aJ),(145,cP.aJ)] 73 [70] [(10,[0,6,7,8,29,30])] []
def aE:=bd f104
theorem aX:Nk E aE:=nk
def He a b c (d:Nat) (e:List Int) f g:=qV E f104 aE 10 [iM a,bP b,bP c,Ck 3 d 22 e,bP f,bP g]
theorem start a b:aH E f104 aE [D.s (ints u64 a),D.s (sc (int i64 b))]=letI G:=b.tdiv 64;letI C:=sc (slice none 0 0);letI A:=(a.length:Int);letI B:=A-i64.wrap G;letI F:=i64.wrap B;aB (decide (b<0)) (some [D.s C,D.s (sc (int i64 1))]) (aO (a.length<=1099511627776) (aB (!gN.oQ a) (some [D.s C,D.s (sc (int i64 2))]) (aB (decide (A<=i64.wrap G)) (some [D.s C,D.s (sc (int i64 0))]) (if 0<=i64.wrap B/\i64.wrap B<=i64.wrap B/\i64.wrap B<=8796093022208 then Ez.He a (i64.wrap G) (b.tmod 64) F.toNat (bXR F.toNat (0:Int)) (F.toNat:Int) 0 else none)))):=eJ aX
theorem qQ a b c d e f g:He a b c d e f g=letI C:=(a.length:Int);letI B:=i64.wrap (b+g)+1;letI A:=e.set g.toNat (a.getD (i64.wrap (b+g)).toNat 0/(↑((2:Nat)^min c.toNat 64):Int));aB (decide (g<f)) (if 0<=i64.wrap (b+g)/\i64.wrap (b+g)<C then if c<0 then none else if 0<=g/\g<(d:Int)then aB (decide (i64.wrap B<C)) (if 0<=g/\g<(d:Int)then if 0<=i64.wrap B/\i64.wrap B<C then if i64.wrap ((63:Int)-c)<0 then none else if 0<=g/\g<(d:Int)then Ez.He a b c d (A.set g.toNat (gA BinOp.or u64 (A.getD g.toNat 0) (u64.wrap (u64.wrap (a.getD (i64.wrap B).toNat 0*(2:Int))*(↑((2:Nat)^min (i64.wrap ((63:Int)-c)).toNat 64):Int))))) f (i64.wrap (g+1))else none else none else none) (Ez.He a b c d A f (i64.wrap (g+1)))else none else none) (aO (M6.cY e/\e.length<=1099511627776) (some [D.s (ints u64 (bif cP.mM (M6.val e)then M6.dg (M6.val e)else [])),D.s (sc (int i64 (bif cP.mM (M6.val e)then(0:Int)else(5:Int))))])):=lJ aX
theorem Zs(a:List Int)(q i:Nat):(a.drop q).getD i 0=a.getD (q+i) 0:=by
 simp[cAP,bWB]
theorem high{x k:Nat}(h:k<64):x*2^(64-k)%18446744073709551616=2^(64-k)*(x%2^k):=by
 rw[show(18446744073709551616:Nat)=2^(64-k)*2^k from by rw[<-cAQ,show 64-k+k=64 from by omega],cAM x,Nat.mul_mod_mul_left]
theorem step{a P:List Int}{q k i r:Nat}(ha:M6.cY a)(hP:P.length=i)(hk:k<64)(hl:a.length<=8192)(hr:q+i+(r+1)=a.length) :
  He a q k (a.length-q) (P ++ bXR (r+1) 0) ((a.length-q:Nat):Int) i =
   He a q k (a.length-q) ((P ++ [(((a.getD (q+i) 0).toNat/2^k+2^(64-k)*((a.getD (q+i+1) 0).toNat%2^k):Nat):Int)]) ++ bXR r 0) ((a.length-q:Nat):Int) ((i+1:Nat):Int):=by
 have g:=ha.get (q+i);have g1:=ha.get (q+i+1);have w1:i64.wrap ((q:Int)+i)=((q+i:Nat):Int):=by rw[wrap_i64];omega
 have w2:i64.wrap (((q+i:Nat):Int)+1)=((q+i+1:Nat):Int):=by rw[wrap_i64];omega
 have w3:i64.wrap (63-(k:Int))=((63-k:Nat):Int):=by rw[wrap_i64];omega
 have m1:min k 64=k:=by omega
 have m2:min (63-k) 64=63-k:=by omega
 have aTG:(a.getD (q+i) 0)/((2^k:Nat):Int)=(((a.getD (q+i) 0).toNat/2^k:Nat):Int):=by
  obtain⟨x,hx⟩:=cAS g.1;rw[hx,bZL,cBO]
 have Zj:(a.getD (q+i) 0).toNat/2^k<2^(64-k):=by
  apply cBG;rw[<-cAQ,show k+(64-k)=64 from by omega];omega
 rw[qQ,aP,w1,if_pos ⟨by omega,by omega⟩,aW,if_pos ⟨by omega,by omega⟩,w2,w3,wrap_i64 (n:=(i:Int)+1),
  bZL,bZL,bZL,bZL,bZL,m1,m2,cAU,Fl hP,Gh hP,aTG]
 by_cases hn:q+i+1<a.length
 ·rw[aP,if_pos ⟨by omega,by omega⟩,if_pos ⟨by omega,by omega⟩,aW,if_pos ⟨by omega,by omega⟩,Fl hP];have hw:u64.wrap (u64.wrap (a.getD (q+i+1) 0*2)*((2^(63-k):Nat):Int))=((2^(64-k)*((a.getD (q+i+1) 0).toNat%2^k):Nat):Int):=by
   obtain⟨x,hx⟩:=cAS g1.1;have aGZ:u64.wrap ((x:Int)*2)=((x*2%18446744073709551616:Nat):Int):=by rw[fJ];omega
   have bQV:∀p:Nat,u64.wrap (((x*2%18446744073709551616:Nat):Int)*(p:Int))=((x*2*p%18446744073709551616:Nat):Int):=by
    intro p;rw[fJ,<-cBP,show(18446744073709551616:Int)=((18446744073709551616:Nat):Int)from rfl,<-cCX,Nat.mul_mod,Nat.mod_mod,<-Nat.mul_mod]
   rw[hx,aGZ,bQV,bZL,<-high hk,show 64-k=(63-k)+1 from by omega,cAN,cAR,cAM 2]
  have hh:2^(64-k)*((a.getD (q+i+1) 0).toNat%2^k)<18446744073709551616:=by rw[<-high hk];exact bXW _ (by omega)
  have bOH:2^(64-k)<=2^64:=gO;have bBO:gA .or .u64 (((a.getD (q+i) 0).toNat/2^k:Nat):Int) ((2^(64-k)*((a.getD (q+i+1) 0).toNat%2^k):Nat):Int)=(((a.getD (q+i) 0).toNat/2^k+2^(64-k)*((a.getD (q+i+1) 0).toNat%2^k):Nat):Int):=by
   have:=Fv (n:=(a.getD (q+i+1) 0).toNat%2^k) Zj;rw[<-this];generalize 2^(64-k)*((a.getD (q+i+1) 0).toNat%2^k)=Y at *;generalize (a.getD (q+i) 0).toNat/2^k=X at *;generalize 2^(64-k)=p at *;rw[Uy (by omega) (by omega) (by omega) (by omega),bZL,bZL]
  rw[hw,bBO,bXJ,cCF];rfl
 ·rw[aL,M6.getD_none (a:=a) (n:=q+i+1) (by omega),show((0:Int).toNat%2^k)=0 from Nat.zero_mod _,cCG,bWM,bXJ,cCF];rfl
theorem L{a:List Int}{q k:Nat}(ha:M6.cR a)(hl:a.length<=8192)(hq:q<a.length)(hk:k<64):∀(r i:Nat) (P:List Int),q+i+r=a.length->P.length=i->M6.cY P ->
  2^k*M6.val P+(a.getD q 0).toNat%2^k=M6.val ((a.drop q).take i)+18446744073709551616^i*((a.getD (q+i) 0).toNat%2^k) ->
  He a q k (a.length-q) (P ++ bXR r 0) ((a.length-q:Nat):Int) i=some [D.s (.ints .u64 (M6.dg (M6.val (a.drop q)/2^k))),D.s (.sc (.int .i64 0))]:=by
 intro r;have bBK:0<2^k:=cX
 induction r with
 |zero =>
  intro i P hi hP hd hv;rw[M6.getD_none (a:=a) (n:=q+i) (by omega),show((0:Int).toNat%2^k)=0 from Nat.zero_mod _,cCG,bWM,M6.dS (by rw[bZO];omega)]at hv;have bMN:M6.val P=M6.val (a.drop q)/2^k:=by
   rw[<-hv,Nat.mul_add_div bBK,cBI (bXW _ bBK),bWM]
  have Nn:cP.mM (M6.val (a.drop q)/2^k)=true:=by
   refine decide_eq_true ?_;rw[<-bMN];have:=M6.tT hd;omega
  rw[cBW,cAX,qQ,aL,gP ⟨hd,by omega⟩,bMN,Nn];rfl
 |succ r ih =>
  intro i P hi hP hd hv;have g:=ha.kW.get (q+i);have Zj:(a.getD (q+i) 0).toNat/2^k<2^(64-k):=by
   apply cBG;rw[<-cAQ,show k+(64-k)=64 from by omega];omega
  have aMH:2^(64-k)*2^k=18446744073709551616:=by rw[<-cAQ,show 64-k+k=64 from by omega]
  have hs:(a.getD (q+i) 0).toNat/2^k+2^(64-k)*((a.getD (q+i+1) 0).toNat%2^k)<18446744073709551616:=by
   have hm:(a.getD (q+i+1) 0).toNat%2^k<2^k:=bXW _ bBK;have h3:2^(64-k)*((a.getD (q+i+1) 0).toNat%2^k+1)<=2^(64-k)*2^k:=bYC _ hm;rw[aMH,cAO]at h3;omega
  rw[step ha.kW hP hk hl (by omega)];refine ih (i+1) _ (by omega) (by simp[hP]) (M6.nZ hd ⟨Int.natCast_nonneg _,by have:=Int.ofNat_lt.2 hs;exact this⟩) ?_;rw[M6.nV,hP,M6.dR,Zs,bZL,<-Nat.add_assoc q i 1,cAO,cCJ,hv];have hx:=cAT (a.getD (q+i) 0).toNat (2^k);generalize (a.getD (q+i) 0).toNat=x at *;generalize (a.getD (q+i+1) 0).toNat%2^k=y at *;generalize M6.val ((a.drop q).take i)=v at *;have e1:2^k*(18446744073709551616^i*(x/2^k+2^(64-k)*y))=18446744073709551616^i*(2^k*(x/2^k))+18446744073709551616^(i+1)*y:=by
   rw[cAN];generalize (18446744073709551616^i)=B;rw[Nat.mul_left_comm,cAO,<-cAR (2^k) (2^(64-k)),cAM (2^k) (2^(64-k)),aMH,cAO,cAR B]
  rw[e1];have e2:18446744073709551616^i*x=18446744073709551616^i*(2^k*(x/2^k))+18446744073709551616^i*(x%2^k):=by rw[<-cAO,hx]
  rw[e2];omega
def sp(a:List Int)(n:Int):Prop×List D:=(M6.cR a/\a.length<=8192/\0<=n/\n<4611686018427387904,[.s (.ints .u64 (M6.dg (M6.val a/2^n.toNat))),.s (.sc (.int .i64 0))])
theorem spec:Mt E f104 aE (pI .u64) (pN .i64) sp:=by
 rintro a n ⟨ha,hl,h0,h1⟩;have e:=start a n;have eq:n/64=((n.toNat/64:Nat):Int):=by omega
 have ek:n%64=((n.toNat%64:Nat):Int):=by omega
 rw[aL,gP,gN.nM ha hl,bXO,bF,aIK h0,aIG h0,wrap_i64 (n:=n/64),eq,ek]at e;unfold sp;simp only;rw[Kk,<-cCA];generalize hqq:n.toNat/64=q at *;have hk:n.toNat%64<64:=bXW _ (by omega);generalize n.toNat%64=k at *
 by_cases hz:a.length<=q
 ·have hv:M6.val a/18446744073709551616^q=0:=cBI (bWL (M6.dT ha.kW) (bYP (by omega) hz));rw[aP]at e;rw[hv,Nat.zero_div,M6.cK];exact⟨_,e,.cons (yO.nil _) (iD.refl _)⟩
 ·have hval:M6.val a/18446744073709551616^q=M6.val (a.drop q):=by
   rw[M6.iZ a (n:=q) (by omega),cCS _ _ (cX),cBI (M6.iN ha.kW _),bVQ]
  have w:i64.wrap ((a.length:Int)-(q:Int))=((a.length-q:Nat):Int):=by rw[wrap_i64];omega
  rw[aL,w,if_pos ⟨by omega,by omega,by omega⟩,bZL]at e;have:=L (q:=q) (k:=k) ha hl (by omega) hk (a.length-q) 0 [] (by omega) rfl M6.oZ (by simp[M6.val]);rw[hval];exact⟨_,e.trans this,iD.refl _⟩
def aJ:dK:=orc2 (pI .u64) (pN .i64) sp
theorem ok:OK 104 aJ:=(eZ E aE (aA gN.ok (aA cP.ok aD)) func104).aHQ rfl spec
end Ez
namespace iY
def E:=mE [(96,fH.aJ),(103,Dd.aJ),(104,Ez.aJ)] 55 [] [(8,[1,2,4,6])] [8]
def aE:=bd f50
theorem aX:Nk E aE:=nk
def J8 a b c d e f:=mD E f50 aE 8 [bP a,dM 1 27 [cU b,fU c],dM 2 29 [cU d,sc (slice none 0 0),cV e],bP f]
theorem start a c b:aH E f50 aE [D.agg [sc (bool a),ints u64 c],D.s (sc (int i64 b))]=letI G:=bool false;letI F:=int i64 0;letI C:=slice none 0 0;letI B:=(↑(tz (M6.val c)):Int);letI A:=some [D.agg [sc G,sc C,sc F],D.s (sc (int i64 5))];aO (c.length<=1099511627776) (aB (!fH.nR (a,c)) (some [D.agg [sc G,sc C,sc F],D.s (sc (int i64 2))]) (aB ((c.length:Int)==(0:Int)) (some [D.agg [sc G,sc C,sc F],D.s (sc F)]) (aO (M6.cY c/\c.length<=1099511627776) (aB (decide (1048576<b)) A (aB (decide (b<(-1572864:Int))) A (aB (decide (i64.wrap (b+B)<(-1048576:Int))) A (aB (decide (1048576<i64.wrap (b+B))) A (iY.J8 b a c false 0 B)))))))):=eJ aX
theorem yP a b c d e f:J8 a b c d e f=aO (M6.cR c/\c.length<=8192/\0<=f/\f<4611686018427387904) (some [D.agg [sc (bool b),ints u64 (M6.dg (M6.val c/(2:Nat)^f.toNat)),sc (int i64 (i64.wrap (a+f)))],D.s (sc (int i64 0))]):=cJ aX
def sp(x:Bool×List Int)(e:Int):Prop×List D:=(gL x/\-9223372036854775808<=e/\e<9223372036854775808,dE (gY (wv x) e) (aN (wv x) e))
theorem sO(p:Int×Int):iD [D.agg [.sc (.bool false),.sc (.slice none 0 0),.sc (.int .i64 0)],.s (.sc (.int .i64 5))] (dE false p):=by
 refine .cons ?_ (iD.refl _);show yO _ (M.dD (0,0));unfold dD;rw[show((0,0):Int×Int).1.natAbs=0 from rfl,M6.cK];exact yO.agg (.cons (Da.refl _) (.cons (Da.nil _) (yH.refl _)))
theorem spec:Mt E f50 aE oD (pN .i64) sp:=by
 rintro x e ⟨hw,h1,h2⟩;have s:=start x.1 x.2 e;have hl:=hw.len;have hf:=fH.kU hw;have hb:=hw.bl;obtain⟨b,a⟩:=x;have hn:M6.cR a:=hw.1
 try dsimp only at *
 unfold sp
 try dsimp only
 rw[gP,hf,bXO,bF]at s;have aLH:=iG (b,a)
 try dsimp only at aLH
 by_cases hz:a.length=0
 ·have hv:=(M6.dZ hn).1 hz;have aFA:wv (b,a)=0:=by omega
  rw[cO]at s;refine⟨_,s,?_⟩;rw[aFA];refine .cons ?_ (iD.refl _);show yO _ (M.dD (0,0));unfold dD;rw[show((0,0):Int×Int).1.natAbs=0 from rfl,M6.cK];exact yO.agg (.cons (Da.refl _) (.cons (Da.nil _) (yH.refl _)))
 ·have hv:M6.val a≠0:=fun h=>hz ((M6.dZ hn).2 h)
  have aFA:wv (b,a)≠0:=by omega
  have ht:=Dj hv;have hs:=tM _ hv;have yS:∀p:Bool,(p=(decide (-1048576<=e+(tz (M6.val a):Nat))&&decide (e+(tz (M6.val a):Nat)<=1048576)))->gY (wv (b,a)) e=p:=by
   intro p hp;unfold gY;rw[aLH,decide_eq_false aFA,bXP,hp]
  rw[bN,gP ⟨hn.kW,by omega⟩]at s
  by_cases c1:1048576<e
  ·rw[aP c1]at s;rw[yS false (by rw[decide_eq_false (show ¬(e+(tz (M6.val a):Nat)<=1048576) by omega),cBA])];exact⟨_,s,sO _⟩
  ·rw[aL c1]at s
   by_cases c2:e < -1572864
   ·rw[aP c2]at s;rw[yS false (by rw[decide_eq_false (show ¬(-1048576<=e+(tz (M6.val a):Nat)) by omega),cAV])];exact⟨_,s,sO _⟩
   ·have w:i64.wrap (e+(tz (M6.val a):Int))=e+(tz (M6.val a):Int):=wrap_i64;rw[aL c2,w]at s
    by_cases c3:e+(tz (M6.val a):Int) < -1048576
    ·rw[aP c3]at s;rw[yS false (by rw[decide_eq_false (show ¬(-1048576<=e+(tz (M6.val a):Nat)) by omega),cAV])];exact⟨_,s,sO _⟩
    ·rw[aL c3]at s
     by_cases c4:1048576<e+(tz (M6.val a):Int)
     ·rw[aP c4]at s;rw[yS false (by rw[decide_eq_false (show ¬(e+(tz (M6.val a):Nat)<=1048576) by omega),cBA])];exact⟨_,s,sO _⟩
     ·rw[aL c4,yP,gP ⟨hn,hl,by omega,by omega⟩,w,bZL]at s;rw[yS true (by rw[decide_eq_true (show(e+(tz (M6.val a):Nat)<=1048576) by omega),decide_eq_true (show(-1048576<=e+(tz (M6.val a):Nat)) by omega)];rfl)];refine⟨_,s,?_⟩;have:aN (wv (b,a)) e=(zs b (M6.val a/2^tz (M6.val a)),e+(tz (M6.val a):Nat)):=by
       unfold aN;rw[if_neg aFA,aLH];have:=aUA (b:=b) (bYO (n:=tz (M6.val a)) (show 0<2 by decide)) hs.1;rw[<-this];rfl
      rw[this];have hq:M6.val a/2^tz (M6.val a)≠0:=by omega
      show iD _ [M.dD (zs b (M6.val a/2^tz (M6.val a)),e+(tz (M6.val a):Nat)),_];unfold dD
      try dsimp only
      rw[Qn,lP,decide_eq_true hq,Bool.and_true];exact iD.refl _
def aJ:dK:=orc2 oD (pN .i64) sp
theorem ok:OK 50 aJ:=(eZ E aE (aA fH.ok (aA Dd.ok (aA Ez.ok aD))) func50).aHQ rfl spec
end iY
namespace bI
def E:=mE [(45,lO.aJ),(46,mB.aJ),(47,Fb.aJ),(48,Ao.aJ),(49,Fa.aJ),(50,iY.aJ)] 79 [44,67,76] [(7,[2,3,4]),(12,[4,6,7,9])] [7,12]
def aE:=bd f13
theorem aX:Nk E aE:=nk
def J7 a b c d e f g h:=mD E f13 aE 7 [dM 0 29 [cU a,fU b,cV c],dM 1 29 [cU d,fU e,cV f],dM 2 29 [cU g,sc (slice none 0 0),cV h]]
def aYG a b c d e f g:=mD E f13 aE 12 [dM 0 29 [cU a,sc (slice none 0 0),cV b],bP c,dM 2 27 [cU d,fU e],dM 3 27 [cU f,fU g]]
theorem start a b c d e f:aH E f13 aE [D.agg [sc (bool a),ints u64 b,sc (int i64 c)],D.agg [sc (bool d),ints u64 e,sc (int i64 f)]]=aO (aQ (a,b,c)) (aO (aQ (d,e,f)) (aO True (aB ((b.length:Int)==(0:Int)) (aO (e.length<=1099511627776) (some [D.agg [sc (bool d),ints u64 e,sc (int i64 f)],D.s (sc (int i64 0))])) (aO True (aB ((e.length:Int)==(0:Int)) (aO (b.length<=1099511627776) (some [D.agg [sc (bool a),ints u64 b,sc (int i64 c)],D.s (sc (int i64 0))])) (bI.J7 a b c d e f false 0)))))):=eJ aX
theorem Na a b c d e f g h:J7 a b c d e f g h=letI G:=i64.wrap (c-if f<c then f else c);letI I:=M6.val b*(2:Nat)^G.toNat;letI F:=i64.wrap (f-if f<c then f else c);letI H:=M6.val e*(2:Nat)^F.toNat;letI C:=some [D.agg [sc (bool false),sc (slice none 0 0),sc (int i64 0)],D.s (sc (int i64 5))];letI B:=bif fit H then wv (d,e)*(↑((2:Nat)^F.toNat):Int)else(0:Int);letI A:=bif fit I then wv (a,b)*(↑((2:Nat)^G.toNat):Int)else(0:Int);aO (gL (a,b)/\0<=i64.wrap (c-if f<c then f else c)/\i64.wrap (c-if f<c then f else c)<4611686018427387904) (aO (gL (d,e)/\0<=i64.wrap (f-if f<c then f else c)/\i64.wrap (f-if f<c then f else c)<4611686018427387904) (aB ((bif fit I then(0:Int)else(5:Int)) !=0) C (aB ((bif fit H then(0:Int)else(5:Int)) !=0) C (bI.aYG g h (if f<c then f else c) (isNeg A) (M6.dg A.natAbs) (isNeg B) (M6.dg B.natAbs))))):=cJ aX
theorem aAT a b c d e f g:aYG a b c d e f g=letI G:=wv (d,e)+wv (f,g);letI F:=bif fit G.natAbs then(0:Int)else(5:Int);letI C:=bif fit G.natAbs then wv (d,e)+wv (f,g)else(0:Int);letI A:=(isNeg C,M6.dg C.natAbs);letI B:=bif gY (wv A) c then aN (wv A) c else((0:Int),(0:Int));aO (gL (d,e)/\gL (f,g)) (aB (F !=0) (some [D.agg [sc (bool false),sc (slice none 0 0),sc (int i64 0)],D.s (sc (int i64 F))]) (aO (gL A/\(-9223372036854775808:Int)<=c/\c<9223372036854775808) (some [D.agg [sc (bool (isNeg B.fst)),ints u64 (M6.dg B.fst.natAbs),sc (int i64 B.snd)],D.s (sc (int i64 (bif gY (wv A) c then(0:Int)else(5:Int))))]))):=cJ aX
def gR(p q:Int×Int):Int:=if q.2<p.2 then q.2 else p.2
def mY(p q:Int×Int):Int:=p.1*((2^(p.2-gR p q).toNat:Nat):Int)
def mW(p q:Int×Int):Int:=q.1*((2^(q.2-gR p q).toNat:Nat):Int)
def nD(p q:Int×Int):Int×Int:=if p.1=0 then q else if q.1=0 then p else aN (mY p q+mW p q) (gR p q)
def jW(p q:Int×Int):Bool:=decide (p.1=0)||(decide (q.1=0)||(fit (mY p q).natAbs&&(fit (mW p q).natAbs&&(fit (mY p q+mW p q).natAbs&&gY (mY p q+mW p q) (gR p q)))))
def sp(x y:gE):Prop×List D:=(aQ x/\aQ y,dE (jW (dv x) (dv y)) (nD (dv x) (dv y)))
theorem spec:Mt E f13 aE iX iX sp:=by
 rintro x y ⟨hx,hy⟩;have s:=start x.1 x.2.1 x.2.2 y.1 y.2.1 y.2.2;have dx:=hx.dD;have dy:=hy.dD;have lx:=hx.len;have ly:=hy.len;have rx:=hx.2.1;have ry:=hy.2.1;have zx:=M6.dZ hx.Hv;have zy:=M6.dZ hy.Hv;have wx:=hx.Dh;have wy:=hy.Dh;obtain⟨b,a,e⟩:=x;obtain⟨c,d,f⟩:=y
 try dsimp only at *
 unfold sp
 try dsimp only
 have ax:=iG (b,a);have ay:=iG (c,d)
 try dsimp only at ax ay
 rw[gP hx,gP hy,gP trivial]at s
 by_cases h0:a.length=0
 ·have hw:(dv (b,a,e)).1=0:=by have:=zx.1 h0;show wv (b,a)=0;omega
  rw[cO,gP]at s;refine⟨_,s,?_⟩;unfold jW nD;rw[decide_eq_true hw,cAW,if_pos hw];show iD _ [M.dD (dv (c,d,f)),_];rw[dy];exact iD.refl _
 ·have hw:(dv (b,a,e)).1≠0:=by have:M6.val a≠0:=fun h=>h0 (zx.2 h);show wv (b,a)≠0;omega
  rw[bN,gP trivial]at s
  by_cases g0:d.length=0
  ·have hv:(dv (c,d,f)).1=0:=by have:=zy.1 g0;show wv (c,d)=0;omega
   rw[cO,gP]at s;refine⟨_,s,?_⟩;unfold jW nD;rw[decide_eq_false hw,bXP,decide_eq_true hv,cAW,if_neg hw,if_pos hv];show iD _ [M.dD (dv (b,a,e)),_];rw[dx];exact iD.refl _
  ·have hv:(dv (c,d,f)).1≠0:=by have:M6.val d≠0:=fun h=>g0 (zy.2 h);show wv (c,d)≠0;omega
   have i1:gR (dv (b,a,e)) (dv (c,d,f))<=e/\gR (dv (b,a,e)) (dv (c,d,f))<=f/\-1048576<=gR (dv (b,a,e)) (dv (c,d,f)):=by
    unfold gR dv
    try dsimp only
    split <;> omega
   have u1:i64.wrap (e-gR (dv (b,a,e)) (dv (c,d,f)))=e-gR (dv (b,a,e)) (dv (c,d,f)):=wrap_i64;have u2:i64.wrap (f-gR (dv (b,a,e)) (dv (c,d,f)))=f-gR (dv (b,a,e)) (dv (c,d,f)):=wrap_i64;have e1:(if f<e then f else e)=gR (dv (b,a,e)) (dv (c,d,f)):=rfl;have f1:M6.val a*2^(e-gR (dv (b,a,e)) (dv (c,d,f))).toNat=(mY (dv (b,a,e)) (dv (c,d,f))).natAbs:=by
    show _=(wv (b,a)*_).natAbs;rw[cBB,ax,cBF];rfl
   have f2:M6.val d*2^(f-gR (dv (b,a,e)) (dv (c,d,f))).toNat=(mW (dv (b,a,e)) (dv (c,d,f))).natAbs:=by
    show _=(wv (c,d)*_).natAbs;rw[cBB,ay,cBF];rfl
   have f3:wv (b,a)*((2^(e-gR (dv (b,a,e)) (dv (c,d,f))).toNat:Nat):Int)=mY (dv (b,a,e)) (dv (c,d,f)):=rfl;have f4:wv (c,d)*((2^(f-gR (dv (b,a,e)) (dv (c,d,f))).toNat:Nat):Int)=mW (dv (b,a,e)) (dv (c,d,f)):=rfl;rw[bN,Na,e1,u1,u2]at s
   try dsimp only at s
   rw[f1,f2,f3,f4,gP ⟨wx,by omega,by omega⟩,gP ⟨wy,by omega,by omega⟩]at s;have ao:jW (dv (b,a,e)) (dv (c,d,f))=(fit (mY (dv (b,a,e)) (dv (c,d,f))).natAbs&&(fit (mW (dv (b,a,e)) (dv (c,d,f))).natAbs&&(fit (mY (dv (b,a,e)) (dv (c,d,f))+mW (dv (b,a,e)) (dv (c,d,f))).natAbs&&gY (mY (dv (b,a,e)) (dv (c,d,f))+mW (dv (b,a,e)) (dv (c,d,f))) (gR (dv (b,a,e)) (dv (c,d,f)))))):=by
    unfold jW;rw[decide_eq_false hw,bXP,decide_eq_false hv,bXP]
   have ad:nD (dv (b,a,e)) (dv (c,d,f))=aN (mY (dv (b,a,e)) (dv (c,d,f))+mW (dv (b,a,e)) (dv (c,d,f))) (gR (dv (b,a,e)) (dv (c,d,f))):=by
    unfold nD;rw[if_neg hw,if_neg hv]
   rw[ao,ad];generalize mY (dv (b,a,e)) (dv (c,d,f))=X at *;generalize mW (dv (b,a,e)) (dv (c,d,f))=Y at *;generalize gR (dv (b,a,e)) (dv (c,d,f))=k at *;cases c1:fit X.natAbs with
   |false =>
    rw[c1,cond_false,nC]at s;rw[cAV];exact⟨_,s,iY.sO _⟩
   |true =>
    rw[c1,cond_true,gG rfl]at s;cases c2:fit Y.natAbs with
    |false =>
     rw[c2,cond_false,nC]at s;rw[cAV,cBA];exact⟨_,s,iY.sO _⟩
    |true =>
     rw[c2,cond_true,gG rfl,aAT,gP ⟨fT (xO c1),fT (xO c2)⟩]at s
     try dsimp only[cond_true]at s
     rw[nA,nA]at s;cases c3:fit (X+Y).natAbs with
     |false =>
      rw[c3]at s
      try dsimp only[cond_false]at s
      rw[nC]at s;rw[cAV,cBA,cBA];exact⟨_,s,iY.sO _⟩
     |true =>
      rw[c3]at s
      try dsimp only[cond_true]at s
      rw[gG rfl,gP ⟨fT (xO c3),by omega,by omega⟩,nA]at s;rw[bYQ,bYQ,bYQ];exact⟨_,s,iD.refl _⟩
def aJ:dK:=orc2 iX iX sp
theorem ok:OK 13 aJ:=(eZ E aE (aA lO.ok (aA mB.ok (aA Fb.ok (aA Ao.ok (aA Fa.ok (aA iY.ok aD)))))) func13).aHQ rfl spec
end bI
namespace jQ
def E:=mE [(45,lO.aJ),(46,mB.aJ),(47,Fb.aJ)] 45 [] [(7,[1,2,4])] [7]
def aE:=bd f56
theorem aX:Nk E aE:=nk
def J7 a b c d e f:=mD E f56 aE 7 [bP a,dM 1 29 [cU b,fU c,cV d],dM 2 29 [cU e,sc (slice none 0 0),cV f]]
theorem start a c d b:aH E f56 aE [D.agg [sc (bool a),ints u64 c,sc (int i64 d)],D.s (sc (int i64 b))]=letI B:=int i64 0;letI A:=some [D.agg [sc (bool false),sc (slice none 0 0),sc B],D.s (sc (int i64 5))];aO (aQ (a,c,d)) (aO True (aB ((c.length:Int)==(0:Int)) (some [D.agg [sc (bool false),sc (slice none 0 0),sc B],D.s (sc B)]) (aB (decide (2097152<b)) A (aB (decide (b<(-2097152:Int))) A (aB (decide (1048576<i64.wrap (d+b))) A (aB (decide (i64.wrap (d+b)<(-1048576:Int))) A (jQ.J7 b a c d false 0))))))):=eJ aX
theorem Na a b c d e f:J7 a b c d e f=aO (c.length<=1099511627776) (some [D.agg [sc (bool b),ints u64 c,sc (int i64 (i64.wrap (d+a)))],D.s (sc (int i64 0))]):=cJ aX
def Ng(p:Int×Int)(n:Int):Int×Int:=if p.1=0 then(0,0)else(p.1,p.2+n)
def Fm(p:Int×Int)(n:Int):Bool:=decide (p.1=0)||(decide (-1048576<=p.2+n)&&decide (p.2+n<=1048576))
def sp(x:gE)(n:Int):Prop×List D:=(aQ x/\-9223372036854775808<=n/\n<9223372036854775808,dE (Fm (dv x) n) (Ng (dv x) n))
theorem spec:Mt E f56 aE iX (pN .i64) sp:=by
 rintro x n ⟨h,h1,h2⟩;have hl:=h.len;have hd:=h.dD;have hr:=h.2.1;have s:=start x.1 x.2.1 x.2.2 n;obtain⟨b,a,e⟩:=x
 try dsimp only at *
 unfold sp
 try dsimp only
 have hz:=M6.dZ h.Hv;have ha:=iG (b,a)
 try dsimp only at ha hz
 rw[gP h,gP trivial]at s
 by_cases h0:a.length=0
 ·have hw:(dv (b,a,e)).1=0:=by have:=hz.1 h0;show wv (b,a)=0;omega
  rw[cO]at s;refine⟨_,s,?_⟩;unfold Fm Ng;rw[decide_eq_true hw,cAW,if_pos hw];refine .cons ?_ (iD.refl _);show yO _ (M.dD (0,0));unfold M.dD;rw[show((0,0):Int×Int).1.natAbs=0 from rfl,M6.cK];exact yO.agg (.cons (Da.refl _) (.cons (Da.nil _) (yH.refl _)))
 ·have hw:(dv (b,a,e)).1≠0:=by have:M6.val a≠0:=fun h=>h0 (hz.2 h);show wv (b,a)≠0;omega
  have yS:∀p:Bool,(p=(decide (-1048576<=e+n)&&decide (e+n<=1048576)))->Fm (dv (b,a,e)) n=p:=by
   intro p hp;unfold Fm;rw[decide_eq_false hw,bXP,hp];rfl
  rw[bN]at s
  by_cases c1:2097152<n
  ·rw[aP c1]at s;rw[yS false (by rw[decide_eq_false (show ¬(e+n<=1048576) by omega),cBA])];exact⟨_,s,iY.sO _⟩
  ·rw[aL c1]at s
   by_cases c2:n < -2097152
   ·rw[aP c2]at s;rw[yS false (by rw[decide_eq_false (show ¬(-1048576<=e+n) by omega),cAV])];exact⟨_,s,iY.sO _⟩
   ·have w:i64.wrap (e+n)=e+n:=wrap_i64;rw[aL c2,w]at s
    by_cases c3:1048576<e+n
    ·rw[aP c3]at s;rw[yS false (by rw[decide_eq_false (show ¬(e+n<=1048576) by omega),cBA])];exact⟨_,s,iY.sO _⟩
    ·rw[aL c3]at s
     by_cases c4:e+n < -1048576
     ·rw[aP c4]at s;rw[yS false (by rw[decide_eq_false (show ¬(-1048576<=e+n) by omega),cAV])];exact⟨_,s,iY.sO _⟩
     ·rw[aL c4,Na]at s
      try dsimp only at s
      rw[gP,w]at s;rw[yS true (by rw[decide_eq_true (show(e+n<=1048576) by omega),decide_eq_true (show(-1048576<=e+n) by omega)];rfl)];refine⟨_,s,?_⟩;unfold Ng;rw[if_neg hw];have hc:=h.Dh.cells;show iD _ [M.dD (wv (b,a),e+n),_];unfold M.dD
      try dsimp only
      rw[hc.1,hc.2];exact iD.refl _
def aJ:dK:=orc2 iX (pN .i64) sp
theorem ok:OK 56 aJ:=(eZ E aE (aA lO.ok (aA mB.ok (aA Fb.ok aD))) func56).aHQ rfl spec
end jQ
namespace aNO
def E:=mE [(106,rY.aJ)] 11 [] [] []
def aE:=bd f207
theorem aX:Nk E aE:=nk
theorem start a b:aH E f207 aE [D.agg [sc (bool a),ints u64 b]]=aO (M6.cY b/\b.length<=1099511627776) (aB ((↑(bl (M6.val b)):Int)==(0:Int)) (some [D.s (sc (int i64 0))]) (aB a (some [D.s (sc (int i64 (-1:Int)))]) (some [D.s (sc (int i64 1))]))):=eJ aX
def sp(x:Bool×List Int):Prop×List D:=(gL x,[.s (.sc (.int .i64 (lH (wv x) 0)))])
theorem spec:jE E f207 aE oD sp:=by
 intro x h;refine(start x.1 x.2).trans ?_;have h:gL x:=h;have hl:=h.len;obtain⟨h1,h2,h3⟩:=h;unfold sp;simp only;rw[gP ⟨h1.kW,by omega⟩]
 by_cases hz:M6.val x.2=0
 ·rw[hz,Sv,cO (a:=((0:Nat):Int)) (b:=0) rfl];cases hx:x.1 with
  |true=>exact(h2 hx hz).elim
  |false=>rw[Fe hx,hz];rfl
 ·have:=pD hz;rw[bN];cases hx:x.1 with
  |true=>rw[bT,Qp hx];unfold lH;rw[aU]
  |false=>rw[bF,Fe hx];unfold lH;rw[aW,aU]
def aJ:dK:=orc1 oD sp
theorem ok:OK 207 aJ:=(eZ E aE (aA rY.ok aD) func207).pU rfl spec
end aNO
namespace aNW
def E:=mE [(106,rY.aJ)] 11 [] [] []
def aE:=bd f234
theorem aX:Nk E aE:=nk
theorem start a b c:aH E f234 aE [D.agg [sc (bool a),ints u64 b,sc (int i64 c)]]=aO (M6.cY b/\b.length<=1099511627776) (some [D.s (sc (int i64 (i64.wrap (i64.wrap (c+(↑(bl (M6.val b)):Int))-1))))]):=eJ aX
def sp(x:gE):Prop×List D:=(aQ x,[.s (.sc (.int .i64 (x.2.2+(bl (M6.val x.2.1):Nat)-1)))])
theorem spec:jE E f234 aE iX sp:=by
 intro x h;have h:aQ x:=h;have hl:=h.len;have hb:=h.Dh.bl;refine(start x.1 x.2.1 x.2.2).trans ?_;have he:=h.2.1
 try dsimp only at hb
 rw[gP ⟨h.Hv.kW,by omega⟩,wrap_i64 (n:=x.2.2+_),wrap_i64];rfl
def aJ:dK:=orc1 iX sp
theorem ok:OK 234 aJ:=(eZ E aE (aA rY.ok aD) func234).pU rfl spec
end aNW
namespace aNX
def E:=mE [(234,aNW.aJ),(98,kN.aJ),(101,Am.aJ)] 54 [53] [] []
def aE:=bd f208
theorem aX:Nk E aE:=nk
theorem start a b c d e f:aH E f208 aE [D.agg [sc (bool a),ints u64 b,sc (int i64 c)],D.agg [sc (bool d),ints u64 e,sc (int i64 f)]]=letI H:=(↑(bl (M6.val e)):Int);letI G:=(↑(bl (M6.val b)):Int);letI F:=i64.wrap (c-if f<c then f else c);letI C:=i64.wrap (f-if f<c then f else c);letI B:=bif kN.jL (M6.val e) C.toNat then M6.dg (M6.val e*(2:Nat)^C.toNat)else [];letI A:=bif kN.jL (M6.val b) F.toNat then M6.dg (M6.val b*(2:Nat)^F.toNat)else [];aO (aQ (a,b,c)) (aO (aQ (d,e,f)) (aB (decide (c+G-(1:Int)<f+H-(1:Int))) (some [D.s (sc (int i64 (-1:Int)))]) (aB (decide (f+H-(1:Int)<c+G-(1:Int))) (some [D.s (sc (int i64 1))]) (aO (M6.cR b/\b.length<=8192/\0<=i64.wrap (c-if f<c then f else c)/\i64.wrap (c-if f<c then f else c)<4611686018427387904) (aO (M6.cR e/\e.length<=8192/\0<=i64.wrap (f-if f<c then f else c)/\i64.wrap (f-if f<c then f else c)<4611686018427387904) (aO (M6.cY A/\M6.cY B/\A.length<=1099511627776/\B.length<=1099511627776) (some [D.s (sc (int i64 (lB (M6.val A) (M6.val B))))]))))))):=eJ aX
def sp(x y:gE):Prop×List D:=((aQ x/\aQ y)/\x.2.1.length≠0/\y.2.1.length≠0,[.s (.sc (.int .i64 (lB (bI.mY (dv x) (dv y)).natAbs (bI.mW (dv x) (dv y)).natAbs)))])
theorem spec:gT E f208 aE iX iX sp:=by
 rintro x y ⟨⟨hx,hy⟩,h0,g0⟩;refine(start x.1 x.2.1 x.2.2 y.1 y.2.1 y.2.2).trans ?_;have lx:=hx.len;have ly:=hy.len;have nx:=hx.Hv;have ny:=hy.Hv;have bx:=hx.Dh.bl;have bVE:=hy.Dh.bl
 have rx:=hx.2.1;have ry:=hy.2.1;obtain⟨b,a,e⟩:=x;obtain⟨c,d,f⟩:=y
 try dsimp only at *
 unfold sp
 try dsimp only
 have ax:=iG (b,a);have ay:=iG (c,d)
 try dsimp only at ax ay
 have vx:M6.val a≠0:=fun h=>h0 ((M6.dZ nx).2 h)
 have vy:M6.val d≠0:=fun h=>g0 ((M6.dZ ny).2 h)
 rw[gP hx,gP hy];have i1:bI.gR (dv (b,a,e)) (dv (c,d,f))<=e/\bI.gR (dv (b,a,e)) (dv (c,d,f))<=f/\-1048576<=bI.gR (dv (b,a,e)) (dv (c,d,f))/\(bI.gR (dv (b,a,e)) (dv (c,d,f))=e\/bI.gR (dv (b,a,e)) (dv (c,d,f))=f):=by
  unfold bI.gR dv
  try dsimp only
  split <;> omega
 have u1:i64.wrap (e-bI.gR (dv (b,a,e)) (dv (c,d,f)))=e-bI.gR (dv (b,a,e)) (dv (c,d,f)):=wrap_i64;have u2:i64.wrap (f-bI.gR (dv (b,a,e)) (dv (c,d,f)))=f-bI.gR (dv (b,a,e)) (dv (c,d,f)):=wrap_i64;have e1:(if f<e then f else e)=bI.gR (dv (b,a,e)) (dv (c,d,f)):=rfl;have f1:(bI.mY (dv (b,a,e)) (dv (c,d,f))).natAbs=M6.val a*2^(e-bI.gR (dv (b,a,e)) (dv (c,d,f))).toNat:=by
  show(wv (b,a)*_).natAbs=_;rw[cBB,ax,cBF];rfl
 have f2:(bI.mW (dv (b,a,e)) (dv (c,d,f))).natAbs=M6.val d*2^(f-bI.gR (dv (b,a,e)) (dv (c,d,f))).toNat:=by
  show(wv (c,d)*_).natAbs=_;rw[cBB,ay,cBF];rfl
 rw[f1,f2,e1,u1,u2];generalize bI.gR (dv (b,a,e)) (dv (c,d,f))=k at *;have m1:bl (M6.val a*2^(e-k).toNat)=(e-k).toNat+bl (M6.val a):=by rw[cAM,xW vx]
 have m2:bl (M6.val d*2^(f-k).toNat)=(f-k).toNat+bl (M6.val d):=by rw[cAM,xW vy]
 have lt:∀m n:Nat,bl m<bl n->m<n:=fun m n h=>Nat.lt_of_not_le fun hc=>by have:=fY hc;omega
 by_cases c1:e+(bl (M6.val a):Int)-1<f+(bl (M6.val d):Int)-1
 ·have:=lt (M6.val a*2^(e-k).toNat) (M6.val d*2^(f-k).toNat) (by rw[m1,m2];omega);rw[aP c1];unfold lB;rw[if_pos this]
 ·rw[aL c1]
  by_cases c2:f+(bl (M6.val d):Int)-1<e+(bl (M6.val a):Int)-1
  ·have:=lt (M6.val d*2^(f-k).toNat) (M6.val a*2^(e-k).toNat) (by rw[m1,m2];omega);rw[aP c2];unfold lB;rw[aW,if_pos this]
  ·have o1:kN.jL (M6.val a) (e-k).toNat=true:=by
    unfold kN.jL;rw[decide_eq_true (show bl (M6.val a)+(e-k).toNat<=524288 by omega),cBQ]
   have o2:kN.jL (M6.val d) (f-k).toNat=true:=by
    unfold kN.jL;rw[decide_eq_true (show bl (M6.val d)+(f-k).toNat<=524288 by omega),cBQ]
   have k1:=fL (n:=M6.val a*2^(e-k).toNat) (k:=8192) (by rw[m1];omega);have k2:=fL (n:=M6.val d*2^(f-k).toNat) (k:=8192) (by rw[m2];omega);rw[aL c2,gP ⟨nx,lx,by omega,by omega⟩,gP ⟨ny,ly,by omega,by omega⟩,o1,o2,cond_true,cond_true,gP ⟨M6.lG _,M6.lG _,by omega,by omega⟩,M6.bQ,M6.bQ]
def aJ:dK:=orc2 iX iX sp
theorem ok:OK 208 aJ:=(eZ E aE (aA aNW.ok (aA kN.ok (aA Am.ok aD))) func208).mT rfl spec
end aNX
namespace Ih
def E:=mE [(45,lO.aJ),(207,aNO.aJ),(208,aNX.aJ)] 38 [] [(3,[2,3])] [3]
def aE:=bd f158
theorem aX:Nk E aE:=nk
def J3 a b c d e f:=mD E f158 aE 3 [dM 0 29 [cU a,fU b,cV c],dM 1 29 [cU d,fU e,cV f]]
theorem start a b c d e f:aH E f158 aE [D.agg [sc (bool a),ints u64 b,sc (int i64 c)],D.agg [sc (bool d),ints u64 e,sc (int i64 f)]]=aO (aQ (a,b,c)) (aO (aQ (d,e,f)) (Ih.J3 a b c d e f)):=eJ aX
theorem gU a b c d e f:J3 a b c d e f=letI B:=wv (a,b);letI A:=sc (int i64 0);aO (gL (a,b)) (aO (gL (d,e)) (aB (decide (lH B 0<lH (wv (d,e)) 0)) (some [D.s (sc (int i64 (-1:Int))),D.s A]) (aB (decide (lH (wv (d,e)) 0<lH B 0)) (some [D.s (sc (int i64 1)),D.s A]) (aB (lH B 0==(0:Int)) (some [D.s A,D.s A]) (aO ((aQ (a,b,c)/\aQ (d,e,f))/\b.length≠0/\e.length≠0) (some [D.s (sc (int i64 (i64.wrap (lH B 0*lB (bI.mY (dv (a,b,c)) (dv (d,e,f))).natAbs (bI.mW (dv (a,b,c)) (dv (d,e,f))).natAbs)))),D.s A])))))):=cJ aX
def sp(x y:gE):Prop×List D:=(aQ x/\aQ y,[.s (.sc (.int .i64 (lH (bI.mY (dv x) (dv y)) (bI.mW (dv x) (dv y))))),.s (.sc (.int .i64 0))])
theorem bGL(z:Int)(P:Nat)(h:0<P):(0<z->0<z*(P:Int))/\(z<0->z*(P:Int)<0)/\(z=0->z*(P:Int)=0) :=
 ⟨fun hz=>Int.mul_pos hz (by omega),fun hz=>Int.mul_neg_of_neg_of_pos hz (by omega),fun hz=>by rw[hz,cBC]⟩
theorem cz(z:Int):(0<z/\lH z 0=1)\/(z<0/\lH z 0=-1)\/(z=0/\lH z 0=0):=by
 unfold lH
 by_cases h:z<0
 ·rw[if_pos h];omega
 ·rw[if_neg h]
  by_cases h':0<z
  ·rw[if_pos h'];omega
  ·rw[if_neg h'];omega
theorem spec:gT E f158 aE iX iX sp:=by
 rintro x y ⟨hx,hy⟩;refine(start x.1 x.2.1 x.2.2 y.1 y.2.1 y.2.2).trans ?_;have wx:=hx.Dh;have wy:=hy.Dh;have nx:=hx.Hv;have ny:=hy.Hv;obtain⟨b,a,e⟩:=x;obtain⟨c,d,f⟩:=y
 try dsimp only at *
 unfold sp
 try dsimp only
 have ax:=iG (b,a);have ay:=iG (c,d)
 try dsimp only at ax ay
 have zx:=M6.dZ nx;have zy:=M6.dZ ny;have sX:(0<wv (b,a)->0<bI.mY (dv (b,a,e)) (dv (c,d,f)))/\(wv (b,a)<0->bI.mY (dv (b,a,e)) (dv (c,d,f))<0)/\(wv (b,a)=0->bI.mY (dv (b,a,e)) (dv (c,d,f))=0):=bGL _ _ (bYO (by decide));have sY:(0<wv (c,d)->0<bI.mW (dv (b,a,e)) (dv (c,d,f)))/\(wv (c,d)<0->bI.mW (dv (b,a,e)) (dv (c,d,f))<0)/\(wv (c,d)=0->bI.mW (dv (b,a,e)) (dv (c,d,f))=0):=bGL _ _ (bYO (by decide));rw[gP hx,gP hy,gU,gP wx,gP wy];have guard:wv (b,a)≠0->wv (c,d)≠0->(aQ (b,a,e)/\aQ (c,d,f))/\a.length≠0/\d.length≠0:=fun h1 h2=>⟨⟨hx,hy⟩,fun h=>h1 (by have:=zx.1 h;omega),fun h=>h2 (by have:=zy.1 h;omega)⟩
 generalize bI.mY (dv (b,a,e)) (dv (c,d,f))=X at *;generalize bI.mW (dv (b,a,e)) (dv (c,d,f))=Y at *;have aXO:∀n:Int,lH X Y=n->some [D.s (.sc (.int .i64 n)),D.s (.sc (.int .i64 0))]=some [D.s (.sc (.int .i64 (lH X Y))),D.s (.sc (.int .i64 0))]:=fun n h=>by rw[h]
 rcases cz (wv (b,a))with ⟨h1,c1⟩ |⟨h1,c1⟩ |⟨h1,c1⟩ <;> rcases cz (wv (c,d))with ⟨h2,c2⟩ |⟨h2,c2⟩ |⟨h2,c2⟩ <;> rw[c1,c2]
 ·rw[aL,aL,bN,gP (guard (by omega) (by omega))];have:=sX.1 h1;have:=sY.1 h2;refine(congrArg (fun n=>some [D.s (.sc (.int .i64 n)),D.s (.sc (.int .i64 0))]) ?_);unfold lB lH;split <;> split <;> (try split) <;> (try split) <;> first |rfl |omega
 ·rw[aL,aP];refine aXO _ ?_;have:=sX.1 h1;have:=sY.2.1 h2;unfold lH;rw[aW,aU]
 ·rw[aL,aP];refine aXO _ ?_;have:=sX.1 h1;have:=sY.2.2 h2;unfold lH;rw[aW,aU]
 ·rw[aP];refine aXO _ ?_;have:=sX.2.1 h1;have:=sY.1 h2;unfold lH;rw[aU]
 ·rw[aL,aL,bN,gP (guard (by omega) (by omega))];have:=sX.2.1 h1;have:=sY.2.1 h2;refine(congrArg (fun n=>some [D.s (.sc (.int .i64 n)),D.s (.sc (.int .i64 0))]) ?_);unfold lB lH;split <;> split <;> (try split) <;> (try split) <;> first |rfl |omega
 ·rw[aP];refine aXO _ ?_;have:=sX.2.1 h1;have:=sY.2.2 h2;unfold lH;rw[aU]
 ·rw[aP];refine aXO _ ?_;have:=sX.2.2 h1;have:=sY.1 h2;unfold lH;rw[aU]
 ·rw[aL,aP];refine aXO _ ?_;have:=sX.2.2 h1;have:=sY.2.1 h2;unfold lH;rw[aW,aU]
 ·rw[aL,aL,cO rfl];refine aXO _ ?_;have:=sX.2.2 h1;have:=sY.2.2 h2;unfold lH;rw[aW,aW]
def aJ:dK:=orc2 iX iX sp
theorem ok:OK 158 aJ:=(eZ E aE (aA lO.ok (aA aNO.ok (aA aNX.ok aD))) func158).mT rfl spec
end Ih
end W
namespace M
open Go AI W
def p2(n:Int):Int:=((2^n.toNat:Nat):Int)
theorem Kn(n:Int):0<p2 n:=by unfold p2;have:=bYO (n:=n.toNat) (show 0<2 by decide);omega
theorem sL{m n:Int}(hm:0<=m)(hn:0<=n):p2 (m+n)=p2 m*p2 n:=by
 unfold p2;rw[Int.toNat_add hm hn,cAQ,cBP]
theorem Cq(k:Nat):p2 (k:Int)=((2^k:Nat):Int):=by unfold p2;rw[bZL]
theorem aCI:p2 0=1:=rfl
theorem aJI:p2 1=2:=rfl
theorem fC(e:Int):aN 0 e=(0,0):=by unfold aN;rw[if_pos rfl]
theorem dX{z e:Int}:(aN z e).1=0↔z=0:=by
 constructor
 ·intro h;unfold aN at h
  by_cases hz:z=0
  ·exact hz
  ·rw[if_neg hz]at h;dsimp only at h;have hs:=(tM z.natAbs (by omega)).1;have hd:((2^tz z.natAbs:Nat):Int)∣z:=Int.ofNat_dvd_left.2 (cCI hs);have:=cDC hd;rw[h,cBC]at this;omega
 ·rintro rfl;rw[fC]
theorem lE{z e:Int}(hz:z≠0):z=(aN z e).1*p2 (tz z.natAbs:Nat)/\(aN z e).2=e+(tz z.natAbs:Nat):=by
 unfold aN;rw[if_neg hz];dsimp only;have hs:=(tM z.natAbs (by omega)).1;have hd:((2^tz z.natAbs:Nat):Int)∣z:=Int.ofNat_dvd_left.2 (cCI hs);rw[Cq,cDC hd];exact⟨rfl,rfl⟩
theorem Bb(z e:Int){k:Int}(hk:0<=k):aN (z*p2 k) e=aN z (e+k):=by
 obtain⟨n,rfl⟩:=cAS hk;rw[Cq]
 by_cases hz:z=0
 ·subst hz;rw[cBC,fC,fC]
 ·have hp:0<2^n:=bYO (by decide);have hn:z*((2^n:Nat):Int)≠0:=cDD hz (by omega);have ht:tz (z*((2^n:Nat):Int)).natAbs=n+tz z.natAbs:=by
   rw[cBB,cBF,cAM,Qr (by omega)]
  unfold aN;rw[if_neg hz,if_neg hn,ht,cAQ,cBP,cBN z,Int.mul_ediv_mul_of_pos _ _ (by omega)];congr 1;omega
theorem Pf{p:Int×Int}(h0:p.1=0->p.2=0)(h1:p.1≠0->p.1%2=1):aN p.1 p.2=p:=by
 unfold aN
 by_cases hz:p.1=0
 ·rw[if_pos hz];exact Prod.ext hz.symm (h0 hz).symm
 ·rw[if_neg hz,yW (by have:=h1 hz;omega)];refine Prod.ext ?_ ?_
  ·show p.1/((2^0:Nat):Int)=p.1;rw[Nat.pow_zero];omega
  ·show p.2+((0:Nat):Int)=p.2;omega
theorem jK.same{p:Int×Int}(h:jK p):aN p.1 p.2=p:=Pf h.2.2.1 h.2.2.2
theorem Dv{z e:Int}(h:(aN z e).1≠0):(aN z e).1%2=1:=by
 have hz:z≠0:=fun hz=>h (dX.2 hz)
 have hs:=(tM z.natAbs (by omega));have hv:=(lE (e:=e) hz).1;have ha:z.natAbs=(aN z e).1.natAbs*2^tz z.natAbs:=by
  rw[Cq]at hv;have:=congrArg Int.natAbs hv;rwa [cBB,cBF]at this
 have:z.natAbs/2^tz z.natAbs=(aN z e).1.natAbs:=by
  have hp:0<2^tz z.natAbs:=bYO (by decide);generalize tz z.natAbs=t at *;rw[ha,Nat.mul_div_cancel _ hp]
 rw[this]at hs;omega
theorem Cr{z e:Int}(h:(aN z e).1=0):(aN z e).2=0:=by rw[dX.1 h,fC]
theorem uH{z e G:Int}(hz:z≠0)(h:G<=e):(aN z e).1*p2 ((aN z e).2-G)=z*p2 (e-G):=by
 obtain⟨h1,h2⟩:=lE (e:=e) hz;rw[h2];have:e+(tz z.natAbs:Int)-G=(tz z.natAbs:Int)+(e-G):=by omega
 rw[this,sL (by omega) (by omega),<-cAZ,<-h1]
theorem Yy{z e G:Int}(h:G<=e):(aN z e).1*p2 ((aN z e).2-G)=z*p2 (e-G):=by
 by_cases hz:z=0
 ·subst hz;rw[fC,cBC,cBC]
 ·exact uH hz h
theorem qT{z e:Int}(hz:z≠0):e<=(aN z e).2:=by have:=(lE (e:=e) hz).2;omega
theorem aJQ(z e:Int):aN (-z) e=(-(aN z e).1,(aN z e).2):=by
 by_cases hz:z=0
 ·subst hz;rw[Int.neg_zero,fC];rfl
 ·have h:=lE (e:=e) hz;unfold aN;rw[if_neg hz,aW,cCC];have hs:=(tM z.natAbs (by omega)).1;have hd:((2^tz z.natAbs:Nat):Int)∣z:=Int.ofNat_dvd_left.2 (cCI hs);rw[Int.neg_ediv_of_dvd hd]
theorem aBV(z e n:Int):jQ.Ng (aN z e) n=aN z (e+n):=by
 unfold jQ.Ng
 by_cases hz:z=0
 ·subst hz;rw[fC,fC];rfl
 ·rw[if_neg (fun h=>hz (dX.1 h))];unfold aN;rw[if_neg hz,if_neg hz];dsimp only;congr 1;omega
theorem Rm{p q:Int×Int}:bI.gR p q<=p.2/\bI.gR p q<=q.2:=by unfold bI.gR;split <;> omega
theorem Er{a E b F G:Int}(h1:G<=E)(h2:G<=F):bI.nD (aN a E) (aN b F)=aN (a*p2 (E-G)+b*p2 (F-G)) G:=by
 unfold bI.nD
 by_cases ha:a=0
 ·subst ha;rw[if_pos (by rw[fC]),cBC,Int.zero_add,Bb _ _ (by omega),show G+(F-G)=F by omega]
 ·rw[if_neg (fun h=>ha (dX.1 h))]
  by_cases hb:b=0
  ·subst hb;rw[if_pos (by rw[fC]),cBC,Int.add_zero,Bb _ _ (by omega),show G+(E-G)=E by omega]
  ·rw[if_neg (fun h=>hb (dX.1 h))];have ga:=uH (e:=E) ha h1;have gb:=uH (e:=F) hb h2;have la:=qT (e:=E) ha;have lb:=qT (e:=F) hb;have hm:=Rm (p:=aN a E) (q:=aN b F);have hg:G<=bI.gR (aN a E) (aN b F):=by unfold bI.gR;split <;> omega
   rw[<-ga,<-gb];unfold bI.mY bI.mW;generalize bI.gR (aN a E) (aN b F)=m at *;generalize aN a E=p at *;generalize aN b F=q at *;have e1:p2 (p.2-G)=p2 (p.2-m)*p2 (m-G):=by rw[<-sL (by omega) (by omega)];congr 1;omega
   have e2:p2 (q.2-G)=p2 (q.2-m)*p2 (m-G):=by rw[<-sL (by omega) (by omega)];congr 1;omega
   rw[e1,e2,<-cAZ,<-cAZ,<-Int.add_mul,Bb _ _ (by omega),show G+(m-G)=m by omega];rfl
theorem gQ{z e:Int}(h1:-1048576<=e)(h2:e+(bl z.natAbs:Int)<=1048577):gY z e=true:=by
 unfold gY
 by_cases hz:z=0
 ·rw[decide_eq_true hz,cAW]
 ·have:=Dj (n:=z.natAbs) (by omega);rw[decide_eq_true (show -1048576<=e+(tz z.natAbs:Int) by omega),decide_eq_true (show e+(tz z.natAbs:Int)<=1048576 by omega),bYQ,cBQ]
theorem Kq(z e:Int):(aN z e).1.natAbs<=z.natAbs:=by
 unfold aN;split
 ·simp
 ·exact uB (bYO (by decide))
theorem gM{z e:Int}(hi:gY z e=true)(hf:bl z.natAbs<=524288):jK (aN z e):=by
 refine⟨bWK (fY (Kq z e)) hf,?_,Cr,Dv⟩
 by_cases hz:z=0
 ·subst hz;rw[fC];exact⟨by show(-1048576:Int)<=0;omega,by show(0:Int)<=1048576;omega⟩
 ·rw[(lE hz).2];unfold gY at hi;rw[decide_eq_false hz,bXP,bVU]at hi;exact⟨of_decide_eq_true hi.1,of_decide_eq_true hi.2⟩
theorem aAM(z n:Int):(z*p2 n).natAbs=z.natAbs*2^n.toNat:=by
 rw[cBB];rfl
theorem Bl{a E b F G:Int}(h1:G<=E)(h2:G<=F)(h3:-1048576<=G)(f1:bl (a*p2 (E-G)).natAbs<=524287)(f2:bl (b*p2 (F-G)).natAbs<=524287)(f3:G<=524288) :
  bI.jW (aN a E) (aN b F)=true:=by
 unfold bI.jW
 by_cases ha:a=0
 ·rw[decide_eq_true (dX.2 ha),cAW]
 ·by_cases hb:b=0
  ·rw[decide_eq_true (dX.2 hb),cAW,cBQ]
  ·have ga:=uH (e:=E) ha h1;have gb:=uH (e:=F) hb h2;have la:=qT (e:=E) ha;have lb:=qT (e:=F) hb;have hm:=Rm (p:=aN a E) (q:=aN b F);have hg:G<=bI.gR (aN a E) (aN b F):=by unfold bI.gR;split <;> omega
   rw[<-ga]at f1;rw[<-gb]at f2;have inner:∀(p:Int×Int) (m:Int),G<=m->m<=p.2->bl (p.1*p2 (p.2-G)).natAbs<=524287->p.1≠0->bl (p.1*p2 (p.2-m)).natAbs+(m-G).toNat<=524287:=by
    intro p m h1 h2 h3 hp;have e1:p2 (p.2-G)=p2 (m-G)*p2 (p.2-m):=by rw[<-sL (by omega) (by omega)];congr 1;omega
    rw[e1,cBN (p2 (m-G)),<-cAZ,aAM,cAM,xW (by
     have:=Kn (p.2-m);have:=cDD hp (show p2 (p.2-m)≠0 by omega);omega)]at h3
    omega
   have i1:=inner _ _ hg hm.1 f1 (fun h=>ha (dX.1 h));have i2:=inner _ _ hg hm.2 f2 (fun h=>hb (dX.1 h));have x1:bl (bI.mY (aN a E) (aN b F)).natAbs+(bI.gR (aN a E) (aN b F)-G).toNat<=524287:=i1;have x2:bl (bI.mW (aN a E) (aN b F)).natAbs+(bI.gR (aN a E) (aN b F)-G).toNat<=524287:=i2;generalize bI.mY (aN a E) (aN b F)=X at *;generalize bI.mW (aN a E) (aN b F)=Y at *;have x3:bl (X+Y).natAbs<=max (bl X.natAbs) (bl Y.natAbs)+1:=bWK (fY (cDF _ _)) (Bk _ _);have hi:gY (X+Y) (bI.gR (aN a E) (aN b F))=true:=gQ (by omega) (by omega);have yes:∀n,bl n<=524288->fit n=true:=fun n h=>decide_eq_true h
   rw[decide_eq_false (fun h=>ha (dX.1 h)),decide_eq_false (fun h=>hb (dX.1 h)),hi,yes _ (by omega),yes _ (by omega),yes _ (by omega)];rfl
theorem Uo{z e n:Int}(h1:-1048576<=e+n)(h2:e+n+(bl z.natAbs:Int)<=1048577):jQ.Fm (aN z e) n=true:=by
 unfold jQ.Fm
 by_cases hz:z=0
 ·rw[decide_eq_true (dX.2 hz),cAW]
 ·have:=Dj (n:=z.natAbs) (by omega);have h3:=(lE (e:=e) hz).2;rw[decide_eq_false (fun h=>hz (dX.1 h)),decide_eq_true (by omega),decide_eq_true (by omega)];rfl
theorem Ab{z:Int}{b k:Nat}{n:Int}(h:bl z.natAbs<=b)(hn:n<=k):bl (z*p2 n).natAbs<=b+k:=by
 rw[aAM];refine cZ.2 ?_;rw[cAQ];exact Nat.mul_lt_mul_of_lt_of_le (cZ.1 h) (bYP (by decide) (by omega)) (bYO (by decide))
theorem aAF{x y:Int}{n:Nat}(h1:bl x.natAbs<=n)(h2:bl y.natAbs<=n):bl (x+y).natAbs<=n+1:=by
 have:=bWK (fY (cDF x y)) (Bk _ _);omega
theorem aXP{z:Int}{n:Nat}(h:bl z.natAbs<=n)(k:Int):bl (z/p2 k).natAbs<=n:=bWK (fY (uB (bYO (by decide)))) h
theorem aNC{z:Int}{n:Nat}(h:bl z.natAbs<=n):bl (-z).natAbs<=n:=by rwa [cCC]
theorem Gs:bl (1:Int).natAbs<=1:=cZ.2 (by decide)
theorem Bv{R:Type}(V:Int×Int)(k:Bool->List Int->Int->Option R):(aC (isNeg V.1) fun b=>aC (M6.dg V.1.natAbs) fun l=>aC V.2 fun e=>k b l e)=k (isNeg V.1) (M6.dg V.1.natAbs) V.2:=rfl
theorem vl{α R:Type}(x:α)(k:α->Option R):aC x k=k x:=rfl
end M
namespace AI
open Go Go.RowKit
def allB:Nat->(Nat->Bool)->Bool
 |0,_=>true
 |n+1,f=>f n&&allB n f
theorem Xg{f:Nat->Bool}:∀{n:Nat},allB n f=true->∀i,i<n->f i=true
 |0,_,i,hi=>absurd hi (by omega)
 |n+1,h,i,hi=>by
  simp only[allB,bVU]at h
  by_cases hc:i=n
  ·subst hc;exact h.1
  ·exact Xg h.2 i (by omega)
def pR{β:Type}(p:SPar β)(d:β):kM (Nat×(Nat->β)) where
 put x:=.rows p.n x.1 fun i=>p.put (x.2 i)
 get
  | .rows sz n g=>if sz=p.n/\allB n (fun i=>(p.get (g i)).isSome)=true then some (n,fun i=>(p.get (g i)).getD d)else none
  |_=>none
 le:=by
  intro dd x h
  match dd,h with
  | .rows sz n g,h =>
   dsimp only at h;split at h
   ·rename_i hc;cases h;obtain⟨rfl,zW⟩:=hc;rintro Y w v ⟨A,c,hv,hle,Ec⟩;refine⟨A,c,hv,hle,fun i hi=>?_⟩;obtain⟨h1,b,off,hA,h2⟩:=Ec i hi;have hs:=Xg zW i hi;obtain⟨y,hy⟩:=Option.isSome_iff_exists.1 hs;obtain⟨a1,a2,a3⟩:=p.le hy;dsimp only;rw[hy];refine⟨a2,b,off,hA,fun j s hj=>?_⟩;obtain⟨s0,Xv⟩:=bB (l:=g i) (i:=j) (by have:=aT hj;simp only[Option.getD_some]at this;omega);obtain⟨b1,b2,u,hu,hr⟩:=h2 j s0 Xv;exact⟨b1,b2,u,hu,a3 j s0 s Xv hj Y w u hr⟩
   ·cases h
def pFn(id:FuncId):kM Unit where
 put _:=.s (.sc (.func (.func id) #[] #[]))
 get
  | .s (.sc (.func (.func g) ⟨[]⟩ ⟨[]⟩))=>if g=id then some ()else none
  |_=>none
 le:=by
  intro dd x h;split at h
  ·split at h
   ·rename_i hg;subst hg;exact Cj.refl _
   ·cases h
  ·cases h
end AI
end Go.Proofs.YtplagoepbghhpaaGreatDoor
end
