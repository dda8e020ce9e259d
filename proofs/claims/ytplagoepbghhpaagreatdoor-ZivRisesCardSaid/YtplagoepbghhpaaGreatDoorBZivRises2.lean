/- Contracts. -/
import Derived.KernelRfl
import Derived.Laws.Externs
import Derived.Test.YtplagoepbghhpaaGreatDoorProg
import Derived.Shelf.SlGeneric
import Derived.Ground.SlgnProg
import Derived.Shelf.SlicesE.Clone
import Derived.Test.YtplagoepbghhpaaGreatDoorBZivRises1
set_option linter.unusedVariables false
set_option linter.unusedSimpArgs false
noncomputable section
open Go.IntKind(i8 i16 i32 i64 u8 u16 u32 u64)
open Go.Proofs.Tryz
open List renaming replicate->cAW,mem_append->bZW,getD_eq_getElem?_getD->cDW,length_take->cBJ,replicate_succ->cEB,length_cons->cCE,append_assoc->cAO,drop_eq_nil_of_le->cEI,cons_append->cAM,append_nil->cER,getLast?_cons_cons->cEV,take_succ_eq_append_getElem->cEW,getElem?_eq_none->cAP,drop_eq_getElem_cons->cEY,replicate_zero->cEZ,getElem?_map->bYX,take_length->cFF,drop_zero->cFG,range->cAG,singleton_append->cFH,mapM_cons->cAC,mem_cons_self->bZA,mem_cons_of_mem->bZE,getElem?_take_of_lt->bYY,mem_of_getElem?->bZC,nodup_cons->cDH,mem_cons->cAB,length_drop->cCT,getElem?_drop->bZG,mem_of_mem_take->cFQ,mem_of_mem_drop->cFR,replicate_succ'->cFS,take_append_drop->cFT,getElem?_eq_getElem->bZK,getLast?_append->cFU,take_of_length_le->cFV,mem_or_eq_of_mem_set->cFW,drop_set->cFX,set_append_right->cFZ,set_cons_zero->cGA,nil_append->cCW
open Int renaming toNat_natCast->cCQ,eq_ofNat_of_zero_le->cDX,natAbs_mul->cEG,zero_mul->cEH,natAbs_natCast->cEJ,natCast_ediv->cEO,natCast_mul->cEP,mul_assoc->cFA,natAbs_neg->cFE,ediv_eq_zero_of_lt->cGB,natCast_emod->cGD,toNat_zero->cGF,ediv_mul_cancel->cGJ,mul_ne_zero->cGK,natAbs_add_le->cGN
open Nat renaming mul_comm->cDR,beq->bYU,pow_succ->cDS,le_refl->bYT,mul_add->cDT,pow_add->cDU,mul_assoc->cDV,pow_pos->cBT,mod_lt->cBB,lt_or_ge->bZJ,eq_of_beq_eq_true->bZI,ble->bYW,le_of_ble_eq_true->cAR,add_zero->bZR,mul_le_mul_left->cBH,div_add_mod->cDZ,pow_le_pow_right->cBU,add_assoc->cCK,zero_add->bYV,strongRecOn->cEE,lt_of_lt_of_le->bZQ,le_trans->bZP,exists_eq_add_of_le->bZY,div_lt_of_lt_mul->cEL,div_eq_of_lt->cEM,div_div_eq_div_mul->cEN,blt->bZF,add_comm->cES,beq_refl->cDA,zero_le->cEU,min_eq_left->cEX,sub_self->cCY,lt_of_le_of_lt->cFC,pow_mul->cFD,mul_zero->cFI,sub_le->cFJ,dvd_of_mod_eq_zero->cFK,mul_pos->cFM,add_right_comm->cFO,add_mul_div_left->cFY,pow_lt_pow_right->cGC,mul_left_comm->cGI
open Option renaming bind_some->cAL,isSome_or->cET
open Rat renaming le_trans->cDY,le_of_lt->cEA,mul_pos->cEK,le_refl->cFB,natCast_mul->cFL
open Bool renaming true_and->cBV,not_true->cAT,false_and->cEC,true_or->cED,false_or->cAU,and_eq_true->bYZ,and_false->cEF,or_true->cEQ,or_eq_true->cAF,not_eq_true'->cAD
namespace Go.Proofs.YtplagoepbghhpaaGreatDoor
namespace AI
open Go Go.RowKit
theorem pM{P:Program}{f:FuncId}{fn:Func}{c:Code}(hf:P.funcs[f]?=some fn)(hb:fn.body=some c)(hn:(fn.name== "runtime.NumGoroutine")=false):pE P f:=by
 intro vs w;have aHS:¬fn.name= "runtime.NumGoroutine":=by simpa using hn
 simp[callFunc,hf,hb,aHS]
theorem Rr{α β:Type}{P:Program}{w:World}{f:α->Sem β}{g:α->β}:∀{l:List α},(∀x∈l,(f x).run P w=.ok (g x) w)->(l.mapM f).run P w=.ok (l.map g) w
 | [],_=>rfl
 |x :: l,h=>by
  rw[cAC,Sem.run_bind,h x (bZA ..),Result.andThen_ok,Sem.run_bind,Rr fun y hy=>h y (bZE _ hy)];rfl
theorem aMN{α β:Type}{P:Program}{w:World}{f:α->Sem β}{g:α->β}{arr:Array α}(h:∀x∈arr.toList,(f x).run P w=.ok (g x) w) :
  (arr.mapM f).run P w=.ok (arr.toList.map g).toArray w:=by
 rw[Array.mapM_eq_mapM_toList,map_eq_pure_bind,Sem.run_bind,Rr h];rfl
section
variable {P:Program} {E:Env} {X:Nat->Prop} {w0:Old} {ρ:Nat->Nat} {al:Nat->Prop} {st:St} {a:Act} {w:World}
def ownOf(st:St):ResultVar->Option Nat
 | .tmp t=>match st.fr t with
  | .v (.one (.buf i _))=>some i
  | .v (.one (.view i _ _))=>some i
  |_=>none
 | .cell _ _=>none
def Hl(a:Act):ResultVar->Sem Value
 | .tmp t=>pure (a.tmps.getD t undef)
 | .cell d t=>do loadVar t (<-asAddr (a.tmps.getD d undef))
def Good(E:Env)(X:Nat->Prop)(base:Nat)(st:St)(ρ:Nat->Nat)(w:World)(r:ResultVar)(v:Value):D->Prop
 | .own e k ns=>∃i,ownOf st r=some i/\(∃b,st.hp i=some b)/\Su base w (ρ i) e k ns v
 | .back i off n=>i∈E.io/\∀blk k ns,st.hp i=some blk->blk.cont=.ints k ns->aCT w (ρ i) ns.length off n v
 |d=>mI (XO X ρ st.hp) w d v
theorem aAW(hT:oS P E.T)(h:jJ E X w0 ρ al st.fr st.hp a w){r:ResultVar}{d:D}(hd:resD E st r=some d) :
  ∃v,(Hl a r).run P w=.ok v w/\Good E X w0.w.heap.size st ρ w r v d:=by
 cases r with
 |tmp t =>
  have hr:=h.fr t;refine⟨_,rfl,?_⟩;unfold resD at hd;simp only at hd;split at hd
  ·rename_i cs hf;cases hd;rw[hf]at hr;exact hr
  ·rename_i x hf;cases hd;rw[hf]at hr;exact hr
  ·rename_i i n hf;cases Hz:bZF i E.n0 with
   |true=>rw[Hz]at hd;cases hd
   |false =>
   rw[Hz]at hd;simp only[cond_false]at hd;have Hz:E.n0<=i:=by
    have:¬i<E.n0:=fun h=>by
     have h2:bZF i E.n0=true:=by rw[Nat.blt_eq];exact h
     rw[h2]at Hz;cases Hz
    omega
   split at hd
   ·rename_i e k ns hb;cases hd;rw[hf]at hr;obtain⟨cap,hv,hle,hc,_⟩:=hr;obtain⟨e1,e2,e3⟩:=hc _ k ns hb rfl;obtain⟨hw,arr,hg,Up⟩:=h.blk i _ hb;have hs:cap<=arr.size:=by unfold lV at e3;rw[hg]at e3;exact e3
    refine⟨i,by simp[ownOf,hf],⟨_,hb⟩,arr,cap,by rw[<-e1];exact hv,hw.new Hz,hg,by omega,hs,e2,Up.2⟩
   ·cases hd
  ·rename_i i off n hf;rw[hf]at hr;obtain⟨o',cap,hv,Dh,hA,hA0,hc⟩:=hr;cases Nt:E.io.elem i with
   |true =>
    rw[Nt]at hd;simp only[cond_true]at hd;cases hd;exact⟨by simpa using Nt,fun blk k ns hb hk=>⟨o',cap,hv,Dh,hA,hA0,hc blk k ns hb hk⟩⟩
   |false =>
   rw[Nt]at hd;simp only[cond_false]at hd;cases Hz:bZF i E.n0 with
   |true=>rw[Hz]at hd;cases hd
   |false =>
   rw[Hz]at hd;simp only[cond_false]at hd;have Hz:E.n0<=i:=by
    have:¬i<E.n0:=fun h=>by
     have h2:bZF i E.n0=true:=by rw[Nat.blt_eq];exact h
     rw[h2]at Hz;cases Hz
    omega
   split at hd
   ·rename_i e k ns hb;cases hd;obtain⟨e1,e2,e3⟩:=hc _ k ns hb rfl;obtain⟨hw,arr,hg,Up⟩:=h.blk i _ hb;have hs:cap<=arr.size:=by unfold lV at e3;rw[hg]at e3;exact e3
    have hl:(ns.take n).length=n:=by rw[cBJ];omega
    refine⟨i,by simp[ownOf,hf],⟨_,hb⟩,arr,cap,by rw[hl,<-hA0 rfl];exact hv,hw.new Hz,hg,by rw[hl];exact Dh,hs,e2,fun j m hj=>Up.2 j m ?_⟩;have aBR:j<n:=by have:=aU hj;omega
    rw[bYY aBR]at hj;exact hj
   ·cases hd
  ·cases hd
 |cell t ty =>
  have hr:=h.fr t;unfold resD at hd;simp only at hd;split at hd
  ·rename_i i off ti hf yE;rw[hf]at hr;have hr:a.tmps.getD t undef=.pointer (some ⟨ρ i,off,none⟩):=hr;split at hd
   ·rename_i e cs hb;obtain⟨_,arr,hg,Up⟩:=h.blk i _ hb;have hl:∀x,partOf ti cs off=some x->∃v,(Hl a (.cell t ty)).run P w=.ok v w/\Gt ρ st.hp (XO X ρ st.hp) w x v/\refsV x=[]:=by
     intro x hx;obtain⟨v,h1,h2,h3⟩:=Li (P:=P) (hT ty ti yE) (b:=ρ i) (off:=0) (cs:=cs) (fun j s hs=>by
      obtain⟨u,hu,hr⟩:=Up.2 j s hs;exact⟨u,by rw[cell_of_row w (ρ i) _ arr e (0,0) hg];simpa using hu,hr⟩) hx (ρ:=ρ) (hp':=st.hp)
     rw[bYV]at h1;refine⟨v,?_,h2,h3⟩;unfold Hl;rw[Sem.run_bind,hr];simpa [asAddr] using h1
    split at hd
    ·rename_i Ok hx;cases hd;obtain⟨v,h1,h2,_⟩:=hl _ hx;exact⟨v,h1,h2⟩
    ·rename_i x hx;cases hd;obtain⟨v,h1,h2,_⟩:=hl _ hx;exact⟨v,h1,h2⟩
    ·cases hd
   ·cases hd
  ·cases hd
theorem Ax{α β:Type}{f:α->Option β}:∀{l:List α} {ys:List β},l.mapM f=some ys->ys.length=l.length/\∀(i:Nat) (x:α),l[i]?=some x->∃y,ys[i]?=some y/\f x=some y
 | [],ys,h=>by simp at h;subst h;simp
 |x :: l,ys,h=>by
  rw[cAC]at h;cases hx:f x with
  |none=>rw[hx]at h;cases h
  |some y =>
   cases hl:l.mapM f with
   |none=>rw[hx,hl]at h;cases h
   |some ys' =>
    rw[hx,hl]at h;cases h;obtain⟨h1,h2⟩:=Ax hl;refine⟨by simp[h1],fun i x' hi=>?_⟩
    match i with
    |0=>simp at hi;subst hi;exact⟨y,rfl,hx⟩
    |i+1=>simp at hi;obtain⟨y',e1,e2⟩:=h2 i x' hi;exact⟨y',by simpa using e1,e2⟩
theorem Mw:∀{l:List ResultVar} {j:Nat} {r:ResultVar} {i:Nat},l[j]?=some r->ownOf st r=some i->i∈ownIds st l
 | [],j,r,i,h,_=>by simp at h
 |r0 :: l,0,r,i,h,ho=>by
  simp at h;subst h;cases r0 with
  |cell=>cases ho
  |tmp t =>
   simp only[ownOf]at ho;split at ho
   ·rename_i i' n hf;cases ho;simp[ownIds,hf]
   ·rename_i i' o' n hf;cases ho;simp[ownIds,hf]
   ·cases ho
 |r0 :: l,j+1,r,i,h,ho=>by
  have:=Mw (l:=l) (j:=j) (by simpa using h) ho;cases r0 with
  |cell=>exact this
  |tmp t=>simp only[ownIds];exact List.mem_append_right _ this
theorem Cr:∀{xs ys:List Nat},nodup (xs ++ ys)=true->nodup ys=true/\∀x∈xs,x ∉ ys
 | [],ys,h=>⟨h,by simp⟩
 |x :: xs,ys,h=>by
  simp only[cAM,nodup,bYZ]at h;obtain⟨h1,h2⟩:=Cr h.2;refine⟨h1,fun y hy=>?_⟩;rcases List.mem_cons.1 hy with rfl |hy
  ·intro hm;have:(xs ++ ys).elem y=true:=by simp[hm]
   rw[this]at h;simp at h
  ·exact h2 y hy
theorem Mx:∀{l:List ResultVar} {j j':Nat} {r r':ResultVar} {i:Nat},nodup (ownIds st l)=true->l[j]?=some r->l[j']?=some r'->ownOf st r=some i->ownOf st r'=some i->j=j'
 | [],j,j',r,r',i,_,h,_,_,_=>by simp at h
 |r0 :: l,j,j',r,r',i,hn,h,h',ho,aJR=>by
  have zU:nodup (ownIds st l)=true:=by
   cases r0 with
   |cell=>exact hn
   |tmp t=>simp only[ownIds]at hn;exact(Cr hn).1
  have aFJ:∀r1,ownOf st r0=some i->∀k:Nat,l[k]?=some r1->ownOf st r1=some i->False:=by
   intro r1 h0 k hk h1;have hm:=Mw hk h1;cases r0 with
   |cell=>cases h0
   |tmp t =>
    simp only[ownOf]at h0;split at h0
    ·rename_i i' n hf;cases h0;simp only[ownIds,hf]at hn;exact(Cr hn).2 i (by simp) hm
    ·rename_i i' o' n hf;cases h0;simp only[ownIds,hf]at hn;exact(Cr hn).2 i (by simp) hm
    ·cases h0
  match j,j' with
  |0,0=>rfl
  |0,j'+1=>simp at h h';subst h;exact(aFJ r' ho j' h' aJR).elim
  |j+1,0=>simp at h h';subst h';exact(aFJ r aJR j h ho).elim
  |j+1,j'+1=>simp at h h';exact congrArg (·+1) (Mx zU h h' ho aJR)
theorem Oy:∀{ds:List D} {i t:Nat},(∃d,ds[t]?=some d/\argFrI i ds t=argAt (i+t) d)\/argFrI i ds t=.any
 | [],_,_=>.inr (by simp[argFrI])
 |d :: _,_,0=>.inl ⟨d,rfl,rfl⟩
 |_ :: ds,i,t+1=>by
  rcases Oy (ds:=ds) (i:=i+1) (t:=t)with ⟨d,h1,h2⟩ |h
  ·exact .inl ⟨d,by simpa using h1,by rw[show i+(t+1)=i+1+t by omega];exact h2⟩
  ·exact .inr h
theorem Sp:∀{ds:List D} {i j:Nat} {b:kQ},argHp i ds j=some b->i<=j/\∃e k ns off n,ds[j-i]?=some (.io e k ns off n)/\b=⟨e,.ints k ns⟩
 | [],_,_,_,h=>by cases h
 |d :: ds,i,j,b,h=>by
  have tail:argHp (i+1) ds j=some b->i<=j/\∃e k ns off n,(d :: ds)[j-i]?=some (.io e k ns off n)/\b=⟨e,.ints k ns⟩:=by
   intro h;obtain⟨h1,e,k,ns,off,n,h2,h3⟩:=Sp h;exact⟨by omega,e,k,ns,off,n,by rw[show j-i=(j-(i+1))+1 by omega];simpa using h2,h3⟩
  cases d with
  |io e k ns off n =>
   simp only[argHp]at h;cases hb:bYU j i with
   |true =>
    rw[hb]at h;have:=bZI hb;subst this;cases h;exact⟨bYT _,e,k,ns,off,n,by simp,rfl⟩
   |false=>rw[hb]at h;exact tail h
  |s=>exact tail h
  |rows=>exact tail h
  |agg=>exact tail h
  |own=>exact tail h
  |back=>exact tail h
theorem Zi:∀{ds:List D} {i t:Nat} {e:TypeId} {k:IntKind} {ns:List Int} {off n:Nat},ds[t]?=some (.io e k ns off n)->argHp i ds (i+t)=some ⟨e,.ints k ns⟩
 | [],_,_,_,_,_,_,_,h=>by simp at h
 |d :: ds,i,0,e,k,ns,off,n,h=>by
  simp at h;subst h;simp[argHp]
 |d :: ds,i,t+1,e,k,ns,off,n,h=>by
  have ih:=Zi (i:=i+1) (ds:=ds) (t:=t) (by simpa using h);rw[show i+1+t=i+(t+1) by omega]at ih;cases d with
  |io e' k' nV bDG n' =>
   simp only[argHp];rw[show bYU (i+(t+1)) i=false from by
    cases hb:bYU (i+(t+1)) i with
    |false=>rfl
    |true=>have:=bZI hb;omega]
   exact ih
  |s=>exact ih
  |rows=>exact ih
  |agg=>exact ih
  |own=>exact ih
  |back=>exact ih
theorem aEJ{Y:Nat->Prop}{w:World}{g:Nat->Nat}{i:Nat}{v:Value}{d:D}(hn:Ft d=false)(h:aGT Y w g i v d):mI Y w d v:=by
 cases d with
 |io=>cases hn
 |s x=>exact h
 |rows a b c=>exact h
 |agg cs=>exact h
 |own a b c=>exact h
 |back=>exact h
end
theorem oneOf(vs:List Value):(if h:vs.toArray.size=1 then vs.toArray[0]else Value.tuple vs.toArray)=resV vs:=by
 match vs with
 | []=>simp[resV]
 | [v]=>simp[resV]
 |_ :: _ :: _=>simp[resV]
theorem fn_core{P:Program}{E:Env}(hT:oS P E.T)(hC:kO P E)(hm:P.follows .mixedOrders=true){f:FuncId}{fn:Func}{c:Code}(hf:P.funcs[f]?=some fn)(hb:fn.body=some c)(bEQ:E.nt=fn.ntmps)
  {ds rs js:List D} (hle:ds.length<=fn.ntmps) (he:aI E fn c ds=some (rs ++ js)) (aNH:js.length=E.io.length) (kD:∀i,i∈E.io->i<E.n0)
  (aBS:∀(i:Nat) (d:D),ds[i]?=some d->Ft d=true->i∈E.io) (Bg:∀i,i∈E.io->∃e k ns off n,ds[i]?=some (.io e k ns off n))
  {Y:Nat->Prop} {w:World} {vs:List Value} {g0:Nat->Nat} (hY:∀b,Y b->b<w.heap.size) (hG:GlobOk E.glob Y w) (hlen:ds.length=vs.length)
  (hargs:∀(i:Nat) (d:D) (v:Value),ds[i]?=some d->vs[i]?=some v->aGT Y w g0 i v d) (bFG:∀i j,i∈E.io->j∈E.io->g0 i=g0 j->i=j) :
  Calls P f vs.toArray w fun e w'=>∃tF,e=.returned (resV tF)/\En (Ei E.io g0) w w'/\Vz Y w.heap.size w' E.io js g0 rs tF/\∀(j i:Nat) (d:D),E.io[j]?=some i->js[j]?=some d->Wl w' (g0 i) d:=by
 refine calls_of_wp hf hb ?_;have bMZ:∀i e k ns off n,ds[i]?=some (.io e k ns off n)->Y (g0 i)/\∃v,vs[i]?=some v/\bBC w (g0 i) e k ns off n v:=by
  intro i e k ns off n hi;obtain⟨v,hv⟩:=bD (l:=vs) (i:=i) (by have:=aU hi;omega);have:=hargs i _ v hi hv;exact⟨this.1,v,hv,this.2⟩
 have bMW:∀b,Ei E.io g0 b->Y b:=by
  rintro b ⟨i,hi,rfl⟩;obtain⟨e,k,ns,off,n,h⟩:=Bg i hi;exact(bMZ i e k ns off n h).1
 obtain⟨w0,aHO⟩:∃w0:Old,w0=⟨w,Ei E.io g0,g0,fun b hb=>hY b (bMW b hb)⟩:=⟨_,rfl⟩;have aHN:w0.w=w:=by rw[aHO]
 have aMX:w0.M=Ei E.io g0:=by rw[aHO]
 have bDV:w0.g=g0:=by rw[aHO]
 have bEL:∀j b,argHp 0 ds j=some b->j∈E.io/\∃e k ns off n,ds[j]?=some (.io e k ns off n)/\b=⟨e,.ints k ns⟩:=by
  intro j b hj;obtain⟨_,e,k,ns,off,n,h1,h2⟩:=Sp hj;rw[Nat.sub_zero]at h1;exact⟨aBS j _ h1 rfl,e,k,ns,off,n,h1,h2⟩
 have aBL:jJ E (fun b=>Y b/\¬Ei E.io g0 b) w0 g0 (fun i=>i<E.n0) (Zj ds) (argHp 0 ds) { tmps:=vs.toArray ++ Array.replicate (fn.ntmps-vs.toArray.size) undef,defers:=[] } w:=by
  have hx:∀b,XO (fun b=>Y b/\¬Ei E.io g0 b) g0 (argHp 0 ds) b->Y b:=by
   rintro b (h |⟨i,bl,h,rfl⟩)
   ·exact h.1
   ·exact bMW _ ⟨i,(bEL i bl h).1,rfl⟩
  have hl:iJ Y w (XO (fun b=>Y b/\¬Ei E.io g0 b) g0 (argHp 0 ds)) w:=⟨bYT _,fun b _ h=>⟨rfl,fun h'=>h (hx b h')⟩⟩;have vQ:∀t,(∃d,ds[t]?=some d/\Zj ds t=argAt t d)\/Zj ds t=.any:=by
   intro t;have:=Oy (ds:=ds) (i:=0) (t:=t);rw[bYV]at this;exact this
  refine { fr:=?_,sz:=by simp[bEQ];omega,nod:=rfl,blk:=?_,inj:=?_,alh:=?_,alr:=?_,below:=by rw[aHN];exact Kept.refl _ _,x0:=?_,glob:=?_,mg:=?_,al0:=fun _ h=>h,wL:=fun _ _=>by rw[bDV] }
  ·intro t;rcases vQ t with ⟨d,h1,h2⟩ |h
   ·rw[h2];have ht:=aU h1;obtain⟨v,hv⟩:=bD (l:=vs) (i:=t) (by omega);have e:(vs.toArray ++ Array.replicate (fn.ntmps-vs.toArray.size) undef).getD t undef=v:=by
     rw[Array.getD_eq_getD_getElem?,Array.getElem?_append_left (by simp;omega)];simp[hv]
    rw[e];cases hd:Ft d with
    |false =>
     have hr:=(aEJ hd (hargs t d v h1 hv)).later hl;cases d with
     |io=>cases hd
     |own e k ns=>exact hr
     |s x=>exact hr
     |rows a b c=>exact hr
     |agg cs=>exact hr
     |back=>exact hr.elim
    |true =>
     cases d with
     |io e' k ns off n =>
      obtain⟨_,v',Nm,⟨o',cap,h3,h4,h5,h6,h7⟩,_⟩:=bMZ t _ _ _ _ _ h1;rw[hv]at Nm;cases Nm;refine⟨o',cap,h3,h4,h5,h6,fun blk k1 Zw rW Kb=>?_⟩;have:=Zi (i:=0) h1;rw[bYV]at this;rw[this]at rW;cases rW;cases Kb;exact h7
     |own=>cases hd
     |s=>cases hd
     |rows=>cases hd
     |agg=>cases hd
     |back=>cases hd
   ·rw[h];trivial
  ·intro id b hb;obtain⟨h1,e,k,ns,off,n,h2,rfl⟩:=bEL id b hb;obtain⟨_,v,_,_,h3⟩:=bMZ id _ _ _ _ _ h2;exact⟨.inr ⟨kD id h1,by rw[aMX];exact⟨id,h1,rfl⟩⟩,h3⟩
  ·intro id Zx b b' h1 h2 h3;exact bFG id Zx (bEL id b h1).1 (bEL Zx b' h2).1 h3
  ·intro id b h1;exact kD id (bEL id b h1).1
  ·intro t i hi;rcases vQ t with ⟨d,h1,h2⟩ |h
   ·rw[h2]at hi;cases d with
    |io e' k ns off n =>
     simp[argAt,refs,refsV,refsL]at hi;subst hi;exact kD _ (aBS _ _ h1 rfl)
    |own=>cases hi
    |s=>cases hi
    |rows=>cases hi
    |agg=>cases hi
    |back=>cases hi
   ·rw[h]at hi;cases hi
  ·rintro b ⟨h1,h2⟩ (hm |hm)
   ·rw[aHN]at hm;have:=hY b h1;omega
   ·rw[aMX]at hm;exact h2 hm
  ·rw[aHN];intro g k ns hg;obtain⟨h1,h2,h3⟩:=hG g k ns hg;exact⟨h1,fun h=>h2 h.1,h3.later ⟨bYT _,fun b _ hb=>⟨rfl,fun h=>hb h.1⟩⟩⟩
  ·intro g q hg hm;rw[aMX]at hm;obtain⟨k,ns⟩:=q;exact(hG g k ns hg).2.1 (bMW _ hm)
 have bWK:∀b,Y b->(Y b/\¬Ei E.io g0 b)\/Ei E.io g0 b:=fun b hb=>by
  by_cases h:Ei E.io g0 b
  ·exact .inr h
  ·exact .inl ⟨hb,h⟩
 unfold aI at he;refine aCG hT hC hm _ c _ _ _ g0 _ w aBL he ?_;intro ex st ρ a' w' hK hs;have bLW:(∃i,ex=.exit i)\/(nodup (ownIds st fn.results.toList)=true/\fn.results.toList.mapM (resD E st)=some rs/\E.io.mapM (bDP st)=some js):=by
  have zU:(bif nodup (ownIds st fn.results.toList)then(match E.io with
  | []=>fn.results.toList.mapM (resD E st)
  |p :: ps=>match fn.results.toList.mapM (resD E st),(p :: ps).mapM (bDP st)with
   |some rs,some is=>some (rs ++ is)
   |_,_=>none)else none)=some (rs ++ js)->(nodup (ownIds st fn.results.toList)=true/\fn.results.toList.mapM (resD E st)=some rs/\E.io.mapM (bDP st)=some js):=by
   intro hK;cases hn:nodup (ownIds st fn.results.toList)with
   |false=>rw[hn]at hK;cases hK
   |true =>
    rw[hn]at hK;simp only[cond_true]at hK;refine⟨rfl,?_⟩
    match Nt:E.io,hK with
    | [],hK =>
     rw[Nt]at aNH;have:js=[]:=List.eq_nil_of_length_eq_zero aNH;subst this;rw[cER]at hK;exact⟨hK,rfl⟩
    |p :: ps,hK =>
     simp only at hK;split at hK
     ·rename_i aRT js' h1 h2;have bLM:=(Ax h2).1;rw[Nt]at aNH;have:=List.append_inj' (Option.some.inj hK) (by rw[bLM,aNH]);rw[h1,h2,this.1,this.2];exact⟨rfl,rfl⟩
     ·cases hK
  cases ex with
  |exit i=>exact .inl ⟨i,rfl⟩
  |normal=>exact .inr (zU hK)
  |ret=>exact .inr (zU hK)
 rcases bLW with ⟨i,rfl⟩ |⟨hn,bEG,bVD⟩
 ·cases hK
 have key:a'.defers=[]/\∃v,(results fn a'.tmps).run P w'=.ok v w'/\∃tF,Ending.returned v=.returned (resV tF)/\En (Ei E.io g0) w w'/\Vz Y w.heap.size w' E.io js g0 rs tF/\∀(j i:Nat) (d:D),E.io[j]?=some i->js[j]?=some d->Wl w' (g0 i) d:=by
  refine⟨hs.nod,?_⟩;obtain⟨bFB,aWK⟩:=Ax bEG
  let X':Nat->Prop:=fun b=>Y b/\¬Ei E.io g0 b
  let aZO (r:ResultVar) (d:D) (v:Value):Prop:=(Hl a' r).run P w'=.ok v w'/\Good E X' w.heap.size st ρ w' r v d
  have hex:∀r,∃v,∀d,resD E st r=some d->aZO r d v:=by
   intro r;cases hd:resD E st r with
   |none=>exact⟨undef,fun d h=>by cases h⟩
   |some d =>
    obtain⟨v,h1,h2⟩:=aAW hT hs hd;rw[aHN]at h2;exact⟨v,fun d' h=>by cases h;exact⟨h1,h2⟩⟩
  obtain⟨g,bVQ⟩:=Classical.axiomOfChoice hex;have hg:∀r d,r∈fn.results.toList->resD E st r=some d->aZO r d (g r):=fun r d _ hd=>bVQ r d hd
  have gR:(fn.results.mapM (Hl a')).run P w'=.ok (fn.results.toList.map g).toArray w' :=
   aMN fun r hr=>by
    obtain⟨i,hi⟩:=List.mem_iff_getElem?.1 hr;obtain⟨d,_,hd⟩:=aWK i r hi;exact(hg r d hr hd).1
  have Ul:(results fn a'.tmps).run P w'=.ok (resV (fn.results.toList.map g)) w':=by
   have e:results fn a'.tmps=(fn.results.mapM (Hl a') >>= fun vs=>pure (if h:vs.size=1 then vs[0]else Value.tuple vs)):=by
    unfold results;congr 1
   rw[e,Sem.run_bind,gR,Result.andThen_ok,Sem.run_pure];congr 1;exact oneOf _
  have Nr:=hs.below;rw[aHN]at Nr;have bEB:En (Ei E.io g0) w w':=⟨Nr.os,Nr.tape,Nr.output,Nr.size,fun b hb hM=>Nr.block b (fun hm=>by
   rcases hm with hm |hm
   ·rw[aHN]at hm;omega
   ·rw[aMX]at hm;exact hM hm),fun b hM=>Nr.room b (by rw[aMX];exact hM)⟩
  have aNI:∀(j i:Nat) (d:D),E.io[j]?=some i->js[j]?=some d->∃e k ns,d=.io e k ns 0 0/\st.hp i=some ⟨e,.ints k ns⟩/\ρ i=g0 i:=by
   intro j i d hj hd;obtain⟨_,h2⟩:=Ax bVD;obtain⟨d',h3,h4⟩:=h2 j i hj;rw[hd]at h3;cases h3;unfold bDP at h4;split at h4
   ·rename_i e k ns hb;cases h4;refine⟨e,k,ns,rfl,hb,?_⟩;have:=hs.wL i (kD i (bZC hj));rw[bDV]at this;exact this
   ·cases h4
  have bWL:∀b,Y b->XO X' ρ st.hp b:=by
   intro b hb;rcases bWK b hb with h |⟨i,hi,rfl⟩
   ·exact .inl h
   ·obtain⟨j,hj⟩:=List.mem_iff_getElem?.1 hi;obtain⟨d,hd⟩:=bD (l:=js) (i:=j) (by have:=aU hj;omega);obtain⟨e,k,ns,_,h1,h2⟩:=aNI j i d hj hd;exact .inr ⟨i,_,h1,h2⟩
  refine⟨_,Ul,_,rfl,bEB,?_,?_⟩
  ·have bQL:∀(i:Nat) (d:D),rs[i]?=some d->∃r,fn.results.toList[i]?=some r/\resD E st r=some d/\aZO r d (g r):=by
    intro i d hi;obtain⟨r,hr⟩:=bD (l:=fn.results.toList) (i:=i) (by have:=aU hi;omega);obtain⟨d',h1,h2⟩:=aWK i r hr;rw[hi]at h1;cases h1;exact⟨r,hr,h2,hg r d (bZC hr) h2⟩
   let blk (i:Nat):Nat:=match fn.results.toList[i]? with
    |some r=>match ownOf st r with
     |some j=>ρ j
     |none=>0
    |none=>0
   have tP:∀(i:Nat) (d:D),rs[i]?=some d->kX d=true->∃r j b,fn.results.toList[i]?=some r/\ownOf st r=some j/\st.hp j=some b/\blk i=ρ j:=by
    intro i d hi ho;obtain⟨r,h1,h2,h3⟩:=bQL i d hi;cases d with
    |own e k ns =>
     obtain⟨_,j,h4,⟨b,h5⟩,_⟩:=h3;exact⟨r,j,b,h1,h4,h5,by simp only[blk,h1,h4]⟩
    |_=>cases ho
   refine⟨blk,by simp[bFB],?_,?_⟩
   ·intro i j d d' hi hj ho aJR Ct;obtain⟨r,k,b,h1,h2,h3,h4⟩:=tP i d hi ho;obtain⟨r',k',b',Yl,aNY,bNG,bNF⟩:=tP j d' hj aJR;rw[h4,bNF]at Ct;have:=hs.inj k k' b b' h3 bNG Ct;subst this;exact Mx hn h1 Yl h2 aNY
   ·intro i d v hi hv;obtain⟨r,h1,h2,h3⟩:=bQL i d hi;have e:v=g r:=by
     rw[bYX,h1]at hv;exact(Option.some.inj hv).symm
    subst e;have hl:iJ (XO X' ρ st.hp) w' (fun b=>Y b\/∃(j:Nat) (d':D),rs[j]?=some d'/\kX d'=true/\blk j=b) w':=by
     refine⟨bYT _,fun b _ hx=>⟨rfl,fun hb=>hx ?_⟩⟩;rcases hb with hb |⟨j,d',hj,ho,rfl⟩
     ·exact bWL b hb
     ·obtain⟨r',k,b',_,_,h5,h6⟩:=tP j d' hj ho;exact .inr ⟨k,b',h5,h6.symm⟩
    cases d with
    |own e k ns =>
     obtain⟨_,j,h4,_,h5⟩:=h3;have:blk i=ρ j:=by simp only[blk,h1,h4]
     show Su _ _ (blk i) _ _ _ _;rw[this];exact h5
    |s x=>exact mI.later hl (d:=.s x) h3.2
    |rows sz n fr=>exact mI.later hl (d:=.rows sz n fr) h3.2
    |agg cs=>exact mI.later hl (d:=.agg cs) h3.2
    |io=>exact h3.2.elim
    |back p off n =>
     obtain⟨_,h4,h5⟩:=h3;obtain⟨j,hj⟩:=List.mem_iff_getElem?.1 h4;obtain⟨d,hd⟩:=bD (l:=js) (i:=j) (by have:=aU hj;omega);obtain⟨e,k,ns,rfl,h6,h7⟩:=aNI j p d hj hd;have:=h5 _ k ns h6 rfl;rw[h7]at this;exact⟨j,e,k,ns,hj,hd,this⟩
  ·intro j i d hj hd;obtain⟨e,k,ns,rfl,h1,h2⟩:=aNI j i d hj hd;have:=(hs.blk i _ h1).2;rw[h2]at this;exact this
 cases ex with
 |normal=>exact key
 |ret=>exact key
 |exit i=>cases hK
theorem En.below{M:Nat->Prop}(hM:∀b,¬M b){w w':World}(h:En M w w'):Below w.heap.size w w':=⟨h.os,h.tape,h.output,h.size,fun k hk=>h.block k hk (hM k)⟩
theorem fn_contract{P:Program}{E:Env}(hT:oS P E.T)(hC:kO P E)(hm:P.follows .mixedOrders=true){f:FuncId}{fn:Func}{c:Code}(hf:P.funcs[f]?=some fn)(hb:fn.body=some c)(bEQ:E.nt=fn.ntmps)(Nt:E.io=[])
  {ds rs:List D} (hle:ds.length<=fn.ntmps) (he:aI E fn c ds=some rs):Contract P E.glob f ds rs:=by
 intro Y w vs hY hG hlen hargs;have Aa:∀(i:Nat) (d:D),ds[i]?=some d->Ft d=false:=by
  intro i d hi;obtain⟨v,hv⟩:=bD (l:=vs) (i:=i) (by have:=aU hi;omega);have:=hargs i d v hi hv;cases d with
  |io=>exact this.elim
  |s=>rfl
  |rows=>rfl
  |agg=>rfl
  |own=>rfl
  |back=>rfl
 have:=fn_core hT hC hm hf hb bEQ (rs:=rs) (js:=[]) hle (by rw[cER];exact he) (by rw[Nt];rfl) (by rw[Nt];intro i hi;cases hi) (fun i d hi hd=>by rw[Aa i d hi]at hd;cases hd) (by rw[Nt];intro i hi;cases hi) (g0:=fun _=>0) hY hG hlen (fun i d v hi hv=>Ox (Aa i d hi) (hargs i d v hi hv)) (by rw[Nt];intro i j hi;cases hi);refine this.mono ?_;rintro e w' ⟨tF,h1,h2,⟨g,h3,h4,h5⟩,_⟩;refine⟨tF,h1,h2.below (fun b=>by rintro ⟨i,hi,_⟩;rw[Nt]at hi;cases hi),g,h3,h4,fun i d v hi hv=>?_⟩;have:=h5 i d v hi hv;cases d with
 |own e k ns=>exact this
 |s x=>exact this
 |rows a b c=>exact this
 |agg cs=>exact this
 |io=>exact this
 |back p off n =>
  obtain⟨j,e,k,ns,h6,_⟩:=this;rw[Nt]at h6;simp at h6
theorem Qi{P:Program}{E:Env}(hT:oS P E.T)(hC:kO P E)(hm:P.follows .mixedOrders=true){f:FuncId}{fn:Func}{c:Code}(hf:P.funcs[f]?=some fn)(hb:fn.body=some c)(bEQ:E.nt=fn.ntmps)(kD:∀i,i∈E.io->i<E.n0)
  {ds rs js:List D} (hle:ds.length<=fn.ntmps) (he:aI E fn c ds=some (rs ++ js)) (aNH:js.length=E.io.length) (hL:aWS E.io ds js) (aBS:∀(i:Nat) (d:D),ds[i]?=some d->Ft d=true->i∈E.io):pP P E.glob f E.io ds rs js:=by
 refine⟨aNH,hL,fun Y w vs g hY hG hlen hargs Bf=>?_⟩;refine fn_core hT hC hm hf hb bEQ hle he aNH kD aBS (fun i hi=>?_) hY hG hlen hargs Bf;obtain⟨j,hj⟩:=List.mem_iff_getElem?.1 hi;obtain⟨e,k,ns,off,n,_,_,_,h1,_⟩:=hL j i hj;exact⟨e,k,ns,off,n,h1⟩
def kindOf(P:Program):TypeDesc->Option TK
 | .bool=>some .bool
 | .int k=>some (.int k)
 | .float k=>some (.float k)
 | .slice e=>some (.slice e)
 | .string=>some .str
 | .struct fields=>(fields.toList.mapM fun(f:Field)=>match P.info? f.type,P.underlying f.type with
  |some fi,some fd=>some (f.offset,fi.size,tN fd)
  |_,_=>none).map .struct
 | .array len e=>match P.info? e,P.underlying e with
  |some ei,some ed=>some (.arr len ei.size (tN ed))
  |_,_=>none
 |_=>some .other
def tiOf(P:Program)(t:TypeId):Option TI:=match P.info? t,P.underlying t with
 |some i,some d=>match i.zero,kindOf P d with
  |some z,some k=>some ⟨i.size,i.bytes,z.cells.toList,k⟩
  |_,_=>none
 |_,_=>none
def aXD(ti:TI):Bool:=bYU ti.zero.length ti.size&&ti.zero.all fun v=>v.oneCell'
theorem aHK{P:Program}{d:TypeDesc}{k:TK}(h:kindOf P d=some k):Pk P k d:=by
 unfold kindOf at h;split at h
 ·cases h;rfl
 ·cases h;rfl
 ·cases h;rfl
 ·cases h;rfl
 ·cases h;rfl
 ·rename_i fields;cases hm:(fields.toList.mapM fun(f:Field)=>match P.info? f.type,P.underlying f.type with
   |some fi,some fd=>some (f.offset,fi.size,tN fd)
   |_,_=>none)with
  |none=>rw[hm]at h;cases h
  |some fs =>
   rw[hm]at h;cases h;obtain⟨h1,h2⟩:=Ax hm;refine⟨fields,rfl,by simpa using h1,fun i f hf=>?_⟩;obtain⟨y,e1,e2⟩:=h2 i f (by simpa using hf);split at e2
   ·rename_i fi fd bIB bVS;cases e2;exact⟨fi,fd,bIB,bVS,e1⟩
   ·cases e2
 ·rename_i len e;split at h
  ·rename_i ei ed bWA bIC;cases h;exact⟨e,ei,ed,rfl,bWA,rfl,bIC,rfl⟩
  ·cases h
 ·rename_i h1 h2 h3 h4 h5 h6 h7;cases h;show tN d=false;cases d <;> first |rfl | (exfalso;exact h6 _ rfl) | (exfalso;exact h7 _ _ rfl)
def eqChk(P:Program)(t:TypeId)(ti:TI):Bool:=match yK ti with
 |some ks=>(match P.underlying t with
  |some (.struct fields)=>!P.stoodInHeld t&&(eqChkF P 0 fields.toList ks&&!P.eqGuardType P.depth t)
  |_=>false)
 |none=>true
theorem aOK{P:Program}{t:TypeId}{ti:TI}(h:eqChk P t ti=true)(ks:List EK)(hk:yK ti=some ks):bBE P t ks:=by
 unfold eqChk at h;rw[hk]at h;simp only at h;split at h
 ·rename_i fields hf;simp only[bYZ,cAD]at h;exact⟨fields,hf,h.1,h.2.1,h.2.2⟩
 ·cases h
theorem aKN{P:Program}{t:TypeId}{ti:TI}(h:tiOf P t=some ti)(hk:aXD ti=true)(hq:eqChk P t ti=true):Bp P t ti:=by
 have heq:=aOK hq;unfold tiOf at h;split at h
 ·rename_i i d hi hd;split at h
  ·rename_i z k hz bVA;cases h;unfold aXD at hk;simp only[bYZ]at hk;exact { i:=⟨i,hi,rfl,rfl,z,hz,rfl⟩,zl:=bZI hk.1,zo:=fun v hv=>List.all_eq_true.1 hk.2 v hv,d:=⟨d,hd,aHK bVA⟩,eq:=heq }
  ·cases h
 ·cases h
def tlook{α:Type}:List (Nat×α)->Nat->Option α
 | [],_=>none
 |p :: r,t=>bif bYU p.1 t then some p.2 else tlook r t
theorem xG{α:Type}:∀{l:List (Nat×α)} {t:Nat} {x:α},tlook l t=some x->(t,x)∈l
 | [],t,x,h=>by cases h
 |p :: r,t,x,h=>by
  simp only[tlook]at h;cases hb:bYU p.1 t with
  |true =>
   rw[hb]at h;cases h;have:=bZI hb;subst this;exact bZA ..
  |false=>rw[hb]at h;exact bZE _ (xG h)
theorem aRE{P:Program}(Ly:List (Nat×TI))(h:Ly.map (fun p=>tiOf P p.1)=Ly.map fun p=>some p.2)(hk:(Ly.all fun p=>aXD p.2)=true)(hq:(Ly.all fun p=>eqChk P p.1 p.2)=true):oS P (tlook Ly):=by
 intro t ti ht;have hm:=xG ht;have h1:tiOf P t=some ti:=by
  have:=List.map_inj_left.1 h (t,ti) hm;exact this
 exact aKN h1 (List.all_eq_true.1 hk (t,ti) hm) (List.all_eq_true.1 hq (t,ti) hm)
end AI
namespace AI
open Go Go.RowKit
theorem rJ{R:Type}(E:Env)(draw:Bool)(ops:Array Oper)(base:Nat):∀(rest:List Oper) (i:Nat) (oV:List Rec) (st:St) (K:St->Option R),
  opsK E draw ops base rest i oV st K=(opsK E draw ops base rest i oV st some).bind K
 | [],i,oV,st,K=>rfl
 |o :: rest,i,oV,st,K=>by
  unfold opsK;cases (jI E.nt o&&(!draw||yU i o))with
  |false=>rfl
  |true =>
   simp only[cond_true];split
   ·rw[pU,pU];cases qV E (base+8*i) o (evA E st.fr) st.hp with
    |none=>rfl
    |some p =>
     simp only[cAL];cases (!draw||oV.all fun r=>indep ops r i o (uK o (evA E st.fr) p.2) (p.2.map (·.1)))with
     |false=>rfl
     |true=>exact rJ E draw ops base rest (i+1) _ _ K
   ·split
    ·split
     ·rename_i want _ _ d _ _ b _;cases b with
      |true =>
       simp only[cond_true];cases (true==want)with
       |true =>
        simp only[cond_true];rw[pU,pU];cases qV E (base+8*i) o (evA E (Ck st.fr d (Df (.bool true)))) st.hp with
        |none=>rfl
        |some p =>
         simp only[cAL];cases (!draw||oV.all fun r=>indep ops r i o (uK o (evA E (Ck st.fr d (Df (.bool true)))) p.2) (p.2.map (·.1)))with
         |false=>rfl
         |true=>exact rJ E draw ops base rest (i+1) _ _ K
       |false =>
        simp only[cond_false];cases (!draw||oV.all fun r=>indep ops r i o [] [])with
        |false=>rfl
        |true=>exact rJ E draw ops base rest (i+1) _ _ K
      |false =>
       simp only[cond_false];cases (false==want)with
       |true =>
        simp only[cond_true];rw[pU,pU];cases qV E (base+8*i) o (evA E (Ck st.fr d (Df (.bool false)))) st.hp with
        |none=>rfl
        |some p =>
         simp only[cAL];cases (!draw||oV.all fun r=>indep ops r i o (uK o (evA E (Ck st.fr d (Df (.bool false)))) p.2) (p.2.map (·.1)))with
         |false=>rfl
         |true=>exact rJ E draw ops base rest (i+1) _ _ K
       |false =>
        simp only[cond_false];cases (!draw||oV.all fun r=>indep ops r i o [] [])with
        |false=>rfl
        |true=>exact rJ E draw ops base rest (i+1) _ _ K
     ·cases (!draw||oV.all fun r=>indep ops r i o [] [])with
      |false=>rfl
      |true=>exact rJ E draw ops base rest (i+1) _ _ K
     ·rfl
    ·rfl
section
variable (n0:Nat) (keep:List Nat) (f:St->Option (Ex×St))
def runs:Nat->List KV->Option (Ex×St)
 |0,_=>none
 |n+1,l=>(f (mk n0 keep l)).bind fun p=>match p.1 with
  | .normal=>runs n (canon n0 keep p.2)
  | .exit i=>some (.exit i,p.2)
  | .ret=>some (.ret,p.2)
theorem Hj:∀(n k:Nat) (l:List KV) (p:Ex×St),runs n0 keep f n l=some p->runs n0 keep f (n+k) l=some p
 |0,_,_,_,h=>by cases h
 |n+1,k,l,p,h=>by
  rw[cFO];simp only[runs]at h ⊢;cases hf:f (mk n0 keep l)with
  |none=>rw[hf]at h;cases h
  |some q =>
   rw[hf]at h;simp only[cAL]at h ⊢;obtain⟨ex,st⟩:=q;cases ex with
   |normal=>exact Hj n k _ p h
   |exit i=>exact h
   |ret=>exact h
theorem Mn{n m:Nat}{l:List KV}{p q:Ex×St}(h:runs n0 keep f n l=some p)(h':runs n0 keep f m l=some q):p=q:=by
 have h1:=Hj n0 keep f n m l p h;have h2:=Hj n0 keep f m n l q h';rw[cES m n,h1]at h2;exact Option.some.inj h2
open Classical in
def aJM (l:List KV):Option (Ex×St):=if h:∃p,∃n,runs n0 keep f n l=some p then some (Classical.choose h)else none
theorem Nf{n:Nat}{l:List KV}{p:Ex×St}(h:runs n0 keep f n l=some p):aJM n0 keep f l=some p:=by
 unfold aJM;have hex:∃p,∃n,runs n0 keep f n l=some p:=⟨p,n,h⟩;rw[dif_pos hex];obtain⟨m,hm⟩:=Classical.choose_spec hex;rw[Mn n0 keep f hm h]
theorem Tz{l:List KV}{p:Ex×St}(h:aJM n0 keep f l=some p):∃n,runs n0 keep f n l=some p:=by
 unfold aJM at h;split at h
 ·rename_i hex;cases h;exact Classical.choose_spec hex
 ·cases h
theorem aXZ(l:List KV):aJM n0 keep f l=(f (mk n0 keep l)).bind fun p=>match p.1 with
  | .normal=>aJM n0 keep f (canon n0 keep p.2)
  | .exit i=>some (.exit i,p.2)
  | .ret=>some (.ret,p.2):=by
 cases hf:f (mk n0 keep l)with
 |none =>
  cases hl:aJM n0 keep f l with
  |none=>rfl
  |some p =>
   obtain⟨n,hn⟩:=Tz n0 keep f hl;cases n with
   |zero=>cases hn
   |succ n=>simp only[runs,hf]at hn;cases hn
 |some q =>
  obtain⟨ex,st⟩:=q;simp only[cAL];cases ex with
  |normal =>
   simp only;cases hl:aJM n0 keep f (canon n0 keep st)with
   |some p =>
    obtain⟨n,hn⟩:=Tz n0 keep f hl;exact Nf n0 keep f (n:=n+1) (by simp only[runs,hf,cAL];exact hn)
   |none =>
    cases bHZ:aJM n0 keep f l with
    |none=>rfl
    |some p =>
     obtain⟨n,hn⟩:=Tz n0 keep f bHZ;cases n with
     |zero=>cases hn
     |succ n =>
      simp only[runs,hf,cAL]at hn;rw[Nf n0 keep f hn]at hl;cases hl
  |exit i=>exact Nf n0 keep f (n:=1) (by simp only[runs,hf,cAL])
  |ret=>exact Nf n0 keep f (n:=1) (by simp only[runs,hf,cAL])
def aJX{R:Type}(K:Ex->St->Option R)(rec:List KV->Option R)(l:List KV):Option R :=
 (f (mk n0 keep l)).bind fun p=>match p.1 with
  | .normal=>rec (canon n0 keep p.2)
  | .exit i=>K (.exit i) p.2
  | .ret=>K .ret p.2
theorem vE{R:Type}(K:Ex->St->Option R):∀(n:Nat) (l:List KV),iter (aJX n0 keep f K) n l=(runs n0 keep f n l).bind fun p=>K p.1 p.2
 |0,_=>rfl
 |n+1,l=>by
  simp only[iter,aJX,runs];cases f (mk n0 keep l)with
  |none=>rfl
  |some q =>
   obtain⟨ex,st⟩:=q;simp only[cAL];cases ex with
   |normal=>exact vE K n _
   |exit i=>rfl
   |ret=>rfl
theorem Uv{R:Type}(K:Ex->St->Option R)(l:List KV):fix (aJX n0 keep f K) l=(aJM n0 keep f l).bind fun p=>K p.1 p.2:=by
 cases hl:aJM n0 keep f l with
 |none =>
  unfold fix;rw[dif_neg]
  ·rfl
  ·rintro ⟨r,n,h⟩;rw[vE]at h;cases hr:runs n0 keep f n l with
   |none=>rw[hr]at h;cases h
   |some p=>rw[Nf n0 keep f hr]at hl;cases hl
 |some p =>
  obtain⟨n,hn⟩:=Tz n0 keep f hl;simp only[cAL];cases hK:K p.1 p.2 with
  |some r =>
   unfold fix;have hex:∃r,∃n,iter (aJX n0 keep f K) n l=some r:=⟨r,n,by rw[vE,hn];exact hK⟩;rw[dif_pos hex];obtain⟨m,hm⟩:=Classical.choose_spec hex;rw[vE]at hm;cases hr:runs n0 keep f m l with
   |none=>rw[hr]at hm;cases hm
   |some q =>
    rw[hr,Mn n0 keep f hr hn]at hm;simp only[cAL]at hm;rw[hK]at hm;exact hm.symm
  |none =>
   unfold fix;rw[dif_neg];rintro ⟨r,m,h⟩;rw[vE]at h;cases hr:runs n0 keep f m l with
   |none=>rw[hr]at h;cases h
   |some q =>
    rw[hr,Mn n0 keep f hr hn]at h;simp only[cAL]at h;rw[hK]at h;cases h
theorem aTT{R:Type}(K:Ex->St->Option R)(l:List KV):fix (aJX n0 keep f K) l=aJX n0 keep f K (fix (aJX n0 keep f K)) l:=by
 rw[Uv,aXZ];unfold aJX;cases f (mk n0 keep l)with
 |none=>rfl
 |some q =>
  obtain⟨ex,st⟩:=q;simp only[cAL];cases ex with
  |normal=>exact(Uv n0 keep f K _).symm
  |exit i=>rfl
  |ret=>rfl
end
def condSt(c:Operand)(st:St):Option (Bool×St):=match c with
 | .tmp s=>match st.fr s with
  | .v (.one (.s (.sc (.bool t))))=>some (t,⟨Ck st.fr s (Df (.bool t)),st.hp,st.n⟩)
  |_=>none
 | .const (.bool t)=>some (t,st)
 |_=>none
theorem Yy{R:Type}(E:Env)(c:Operand)(a b:Code)(st:St)(K:Ex->St->Option R):evalCode E (.cond c a b) st K=(condSt c st).bind fun p=>bif p.1 then evalCode E a p.2 K else evalCode E b p.2 K:=by
 cases c with
 |tmp s =>
  simp only[evalCode,condSt];split
  ·rename_i t h;simp only[h,cAL];cases t <;> rfl
  ·rename_i h;split
   ·rename_i t h';exact(h t h').elim
   ·rfl
 |const v=>cases v <;> simp only[evalCode,condSt] <;> rfl
 |_=>simp only[evalCode,condSt];rfl
theorem evalCode_bind(E:Env)(c:Code):∃f:St->Option (Ex×St),∀(st:St) {R:Type} (K:Ex->St->Option R),evalCode E c st K=(f st).bind fun p=>K p.1 p.2:=by
 induction c with
 |skip=>exact⟨fun st=>some (.normal,st),fun st R K=>rfl⟩
 |label l=>exact⟨fun st=>some (.normal,st),fun st R K=>rfl⟩
 |exit id=>exact⟨fun st=>some (.exit id,st),fun st R K=>rfl⟩
 |ret=>exact⟨fun st=>some (.ret,st),fun st R K=>rfl⟩
 |region id ops draw =>
  refine⟨fun st=>(opsK E draw ops st.n ops.toList 0 [] st some).bind fun gD=>some (.normal,⟨gD.fr,gD.hp,st.n+8*ops.size⟩),fun st R K=>?_⟩;unfold evalCode;rw[rJ];simp only[];cases opsK E draw ops st.n ops.toList 0 [] st some <;> rfl
 |seq a b Bc Bb =>
  obtain⟨f,hf⟩:=Bc;obtain⟨g,hg⟩:=Bb;refine⟨fun st=>(f st).bind fun p=>match p.1 with
   | .normal=>match E.cut (keyOf b)with
    |some keep=>g (mk E.n0 keep (canon E.n0 keep p.2))
    |none=>g p.2
   | .exit i=>some (.exit i,p.2)
   | .ret=>some (.ret,p.2),fun st R K=>?_⟩
  unfold evalCode;rw[hf];simp only[];cases f st with
  |none=>rfl
  |some q =>
   obtain⟨ex,gD⟩:=q;cases ex with
   |normal =>
    simp only[cAL];cases E.cut (keyOf b)with
    |none=>exact hg gD K
    |some keep=>exact hg _ K
   |exit i=>rfl
   |ret=>rfl
 |cond cd a b Bc Bb =>
  obtain⟨f,hf⟩:=Bc;obtain⟨g,hg⟩:=Bb;refine⟨fun st=>(condSt cd st).bind fun p=>bif p.1 then f p.2 else g p.2,fun st R K=>?_⟩;rw[Yy];simp only[];cases condSt cd st with
  |none=>rfl
  |some p =>
   obtain⟨t,gD⟩:=p;cases t with
   |true=>exact hf _ K
   |false=>exact hg _ K
 |block id c ih =>
  obtain⟨f,hf⟩:=ih;refine⟨fun st=>(f st).bind fun p=>match p.1 with
   | .normal=>some (.normal,p.2)
   | .exit i=>bif bYU i id then some (.normal,p.2)else some (.exit i,p.2)
   | .ret=>some (.ret,p.2),fun st R K=>?_⟩
  unfold evalCode;rw[hf];simp only[];cases f st with
  |none=>rfl
  |some q =>
   obtain⟨ex,gD⟩:=q;cases ex with
   |normal=>rfl
   |exit i =>
    simp only[cAL];cases bYU i id <;> rfl
   |ret=>rfl
 |loop c ih =>
  obtain⟨f,hf⟩:=ih;have hG:∀{R:Type} (keep:List Nat) (K:Ex->St->Option R),(fun(rec:List KV->Option R) l=>evalCode E c (mk E.n0 keep l) fun ex gD=>match ex with
    | .normal=>rec (canon E.n0 keep gD)
    | .exit i=>K (.exit i) gD
    | .ret=>K .ret gD)=aJX E.n0 keep f K:=by
   intro R keep K;funext rec l;rw[hf];unfold aJX;cases f (mk E.n0 keep l)with
   |none=>rfl
   |some q=>obtain⟨ex,gD⟩:=q;cases ex <;> rfl
  refine⟨fun st=>match E.roll (keyOf c)with
   |some n=>runs E.n0 (E.keep (keyOf c)) f n (canon E.n0 (E.keep (keyOf c)) st)
   |none=>aJM E.n0 (E.keep (keyOf c)) f (canon E.n0 (E.keep (keyOf c)) st),fun st R K=>?_⟩
  simp only[evalCode];cases E.roll (keyOf c)with
  |some n=>exact(congrArg (fun G=>iter G n (canon E.n0 (E.keep (keyOf c)) st)) (hG _ K)).trans (vE _ _ _ _ _ _)
  |none=>exact(congrArg (fun G=>fix G (canon E.n0 (E.keep (keyOf c)) st)) (hG _ K)).trans (Uv _ _ _ _ _)
 |rangeFunc f ps x y _ _=>exact⟨fun _=>none,fun st R K=>rfl⟩
 |scope c ih =>
  obtain⟨f,hf⟩:=ih;exact⟨f,fun st R K=>by unfold evalCode;exact hf st K⟩
 |goto l=>exact⟨fun _=>none,fun st R K=>rfl⟩
 |refuse bOI=>exact⟨fun _=>none,fun st R K=>rfl⟩
theorem aSV{R:Type}(E:Env)(keep:List Nat)(c:Code)(K:Ex->St->Option R)(l:List KV) :
  fix (roundOf (evalCode E) E.n0 keep c K) l=roundOf (evalCode E) E.n0 keep c K (fix (roundOf (evalCode E) E.n0 keep c K)) l:=by
 obtain⟨f,hf⟩:=evalCode_bind E c;have hG:roundOf (evalCode E) E.n0 keep c K=aJX E.n0 keep f K:=by
  funext rec l;unfold roundOf;rw[hf];unfold aJX;cases f (mk E.n0 keep l)with
  |none=>rfl
  |some q=>obtain⟨ex,gD⟩:=q;cases ex <;> rfl
 rw[hG];exact aTT E.n0 keep f K l
def Hv(E:Env)(fn:Func)(c:Code)(key:Nat)(l:List KV):Option (List D) :=
 match findLoop E key c (rY E fn)with
 |some (b,K)=>fix (roundOf (evalCode E) E.n0 (E.keep key) b K) l
 |none=>none
def Tq(E:Env)(fn:Func)(c:Code)(key:Nat)(l:List KV):Option (List D) :=
 match findLoop E key c (rY E fn)with
 |some (b,K)=>roundOf (evalCode E) E.n0 (E.keep key) b K (fix (roundOf (evalCode E) E.n0 (E.keep key) b K)) l
 |none=>none
theorem aHJ(E:Env)(fn:Func)(c:Code)(key:Nat)(l:List KV):Hv E fn c key l=Tq E fn c key l:=by
 unfold Hv Tq;cases findLoop E key c (rY E fn)with
 |none=>rfl
 |some p=>exact aSV E _ p.1 p.2 l
def cutAt(E:Env)(fn:Func)(c:Code)(key:Nat)(l:List KV):Option (List D) :=
 match fK E key c (rY E fn),E.cut key with
 |some (b,K),some keep=>Cy key l fun l=>evalCode E b (mk E.n0 keep l) K
 |_,_=>none
def Vf(E:Env)(fn:Func)(c:Code)(key:Nat)(l:List KV):Option (List D) :=
 match fK E key c (rY E fn),E.cut key with
 |some (b,K),some keep=>evalCode E b (mk E.n0 keep l) K
 |_,_=>none
theorem aOZ(E:Env)(fn:Func)(c:Code)(key:Nat)(l:List KV):cutAt E fn c key l=Vf E fn c key l:=by
 unfold cutAt Vf Cy;rfl
end AI
namespace AI
open Go Go.RowKit
theorem Contract.of{P:Program}{G:Nat->Option (IntKind×List Int)}{f:FuncId}{ds ds' rs:List D}(h:Contract P G f ds' rs)(hl:ds.length=ds'.length)
  (hd:∀(i:Nat) (d d':D),ds[i]?=some d->ds'[i]?=some d'->∀(Y:Nat->Prop) (w:World) (v:Value),mI Y w d v->mI Y w d' v):Contract P G f ds rs:=by
 intro Y w vs hY hG hlen hargs;refine h Y w vs hY hG (by omega) fun i d' v hi hv=>?_
 obtain⟨d,Af⟩:=bD (l:=ds) (i:=i) (by have:=aU hi;omega);exact hd i d d' Af hi Y w v (hargs i d v Af hv)
def dI(k:IntKind):D->Option (List Int)
 | .s (.ints k' ns)=>if _h:k=k' then some ns else none
 | .s (.sc (.slice none 0 0))=>some []
 |_=>none
def dN(k:IntKind):D->Option Int
 | .s (.sc (.int k' n))=>if _h:k=k' then some n else none
 |_=>none
def dB:D->Option Bool
 | .s (.sc (.bool b))=>some b
 |_=>none
def Dw(d d':D):Prop:=∀(Y:Nat->Prop) (w:World) (v:Value),mI Y w d v->mI Y w d' v
theorem Dw.refl(d:D):Dw d d:=fun _ _ _ h=>h
theorem bGR{k:IntKind}{d:D}{ns:List Int}(h:dI k d=some ns):Dw d (.s (.ints k ns)):=by
 intro Y w v hr;unfold dI at h;split at h
 ·split at h
  ·rename_i hk;cases h;subst hk;exact hr
  ·cases h
 ·cases h;obtain⟨rfl,_⟩:=hr;exact⟨none,0,rfl,bYT _,fun i n hn=>by simp at hn⟩
 ·cases h
theorem bGQ{k:IntKind}{d:D}{n:Int}(h:dN k d=some n):d=.s (.sc (.int k n)):=by
 unfold dN at h;split at h
 ·split at h
  ·rename_i hk;cases h;subst hk;rfl
  ·cases h
 ·cases h
theorem bGP{k:IntKind}{d:D}{n:Int}(h:dN k d=some n):Dw d (.s (.sc (.int k n))):=by rw[bGQ h];exact Dw.refl _
theorem bGU{d:D}{b:Bool}(h:dB d=some b):d=.s (.sc (.bool b)):=by
 unfold dB at h;split at h
 ·cases h;rfl
 ·cases h
theorem bGT{d:D}{b:Bool}(h:dB d=some b):Dw d (.s (.sc (.bool b))):=by rw[bGU h];exact Dw.refl _
theorem Contract.bJQ{P:Program}{G:Nat->Option (IntKind×List Int)}{f:FuncId}{d d':D}{rs:List D}(h:Contract P G f [d'] rs)(hd:Dw d d'):Contract P G f [d] rs :=
 h.of rfl fun i x x' hx Ae=>by
  match i with
  |0=>simp at hx Ae;subst hx;subst Ae;exact hd
  |i+1=>simp at hx
theorem Contract.bJP{P:Program}{G:Nat->Option (IntKind×List Int)}{f:FuncId}{d d' e e':D}{rs:List D}(h:Contract P G f [d',e'] rs)(hd:Dw d d')(he:Dw e e'):Contract P G f [d,e] rs :=
 h.of rfl fun i x x' hx Ae=>by
  match i with
  |0=>simp at hx Ae;subst hx;subst Ae;exact hd
  |1=>simp at hx Ae;subst hx;subst Ae;exact he
  |i+2=>simp at hx
theorem Contract.bOO{P:Program}{G:Nat->Option (IntKind×List Int)}{f:FuncId}{d d' e e' g g':D}{rs:List D}(h:Contract P G f [d',e',g'] rs)(hd:Dw d d')(he:Dw e e')(hg:Dw g g'):Contract P G f [d,e,g] rs :=
 h.of rfl fun i x x' hx Ae=>by
  match i with
  |0=>simp at hx Ae;subst hx;subst Ae;exact hd
  |1=>simp at hx Ae;subst hx;subst Ae;exact he
  |2=>simp at hx Ae;subst hx;subst Ae;exact hg
  |i+3=>simp at hx
theorem Contract.bON{P:Program}{G:Nat->Option (IntKind×List Int)}{f:FuncId}{d d' e e' g g' k k':D}{rs:List D}(h:Contract P G f [d',e',g',k'] rs)(hd:Dw d d')(he:Dw e e')(hg:Dw g g')(hk:Dw k k'):Contract P G f [d,e,g,k] rs :=
 h.of rfl fun i x x' hx Ae=>by
  match i with
  |0=>simp at hx Ae;subst hx;subst Ae;exact hd
  |1=>simp at hx Ae;subst hx;subst Ae;exact he
  |2=>simp at hx Ae;subst hx;subst Ae;exact hg
  |3=>simp at hx Ae;subst hx;subst Ae;exact hk
  |i+4=>simp at hx
abbrev dK:=List D->Option (Prop×List D)
def lO(P:Program)(G:Nat->Option (IntKind×List Int))(f:FuncId)(o:dK):Prop :=
 ∀ds g rs,o ds=some (g,rs)->g->Contract P G f ds rs/\pE P f
def callsOf(Ly:List (Nat×dK))(f:FuncId)(ds:List D):Option (Prop×List D):=match tlook Ly f with
 |some o=>o ds
 |none=>none
theorem mV{P:Program}{E:Env}(Ly:List (Nat×dK))(hC:E.C=callsOf Ly)(h:∀p∈Ly,lO P E.glob p.1 p.2)
  (hx:∀f vs g rs,E.ext f vs=some (g,rs)->g->(∀v∈rs,v.oneCell'=true)/\∀w,(callFunc f vs.toArray).run P w=.ok (.value (resV rs)) w) (hF:E.ioF=(fun _=>[]):=by rfl):kO P E:=by
 refine⟨fun f ds g rs _ he hg=>?_,fun f p ps ds g rs he=>(by rw[hF]at he;cases he),hx⟩;rw[hC]at he;unfold callsOf at he;split at he
 ·rename_i o ho;exact h _ (xG ho) ds g rs he hg
 ·cases he
theorem aD{P:Program}{G:Nat->Option (IntKind×List Int)}:∀p∈([]:List (Nat×dK)),lO P G p.1 p.2:=fun _ h=>by cases h
theorem aA{P:Program}{G:Nat->Option (IntKind×List Int)}{f:Nat}{o:dK}{Ly:List (Nat×dK)}(h:lO P G f o)(ht:∀p∈Ly,lO P G p.1 p.2):∀p∈(f,o) :: Ly,lO P G p.1 p.2:=by
 intro p hp;rcases List.mem_cons.1 hp with rfl |hp
 ·exact h
 ·exact ht p hp
def qZ(P:Program)(G:Nat->Option (IntKind×List Int))(f:FuncId)(o:dK):Prop :=
 ∀ds g rs,o ds=some (g,rs)->g->(∃Hk js,rs=Hk ++ js/\pP P G f [0] ds Hk js)/\pE P f
def sO(aRI:List (Nat×dK))(r:FuncId->List D->Option (Prop×List D))(f:FuncId)(ds:List D):Option (Prop×List D):=match tlook aRI f with
 |some o=>o ds
 |none=>r f ds
def Qc(aRI:List (Nat×dK))(f:FuncId):List Nat:=match tlook aRI f with
 |some _=>[0]
 |none=>[]
theorem mW{P:Program}{E:Env}(aRI Ly:List (Nat×dK))(hC:E.C=sO aRI (callsOf Ly))(hF:E.ioF=Qc aRI)(hi:∀p∈aRI,qZ P E.glob p.1 p.2)(h:∀p∈Ly,lO P E.glob p.1 p.2)
  (hx:∀f vs g rs,E.ext f vs=some (g,rs)->g->(∀v∈rs,v.oneCell'=true)/\∀w,(callFunc f vs.toArray).run P w=.ok (.value (resV rs)) w):kO P E:=by
 refine⟨fun f ds g rs h0 he hg=>?_,fun f p ps ds g rs h0 he hg=>?_,hx⟩
 ·rw[hF]at h0;rw[hC]at he;unfold Qc at h0;unfold sO at he;cases ht:tlook aRI f with
  |some o=>rw[ht]at h0;cases h0
  |none =>
   rw[ht]at he;simp only at he;unfold callsOf at he;split at he
   ·rename_i o ho;exact h _ (xG ho) ds g rs he hg
   ·cases he
 ·rw[hF]at h0;rw[hC]at he;unfold Qc at h0;unfold sO at he;cases ht:tlook aRI f with
  |none=>rw[ht]at h0;cases h0
  |some o =>
   rw[ht]at h0 he;simp only at h0 he;cases h0;obtain⟨⟨Hk,js,h1,h2⟩,h3⟩:=hi _ (xG ht) ds g rs he hg;exact⟨Hk,js,h1,h2,h3⟩
theorem yQ{P:Program}{G:Nat->Option (IntKind×List Int)}:∀p∈([]:List (Nat×dK)),qZ P G p.1 p.2:=fun _ h=>by cases h
theorem nG{P:Program}{G:Nat->Option (IntKind×List Int)}{f:Nat}{o:dK}{Ly:List (Nat×dK)}(h:qZ P G f o)(ht:∀p∈Ly,qZ P G p.1 p.2):∀p∈(f,o) :: Ly,qZ P G p.1 p.2:=by
 intro p hp;rcases List.mem_cons.1 hp with rfl |hp
 ·exact h
 ·exact ht p hp
theorem pP.bST{P:Program}{G:Nat->Option (IntKind×List Int)}{f:FuncId}{d:D}{ds ds' rs js:List D}(h:pP P G f [0] (d :: ds') rs js)(hl:ds.length=ds'.length)
  (hd:∀(i:Nat) (x x':D),ds[i]?=some x->ds'[i]?=some x'->Ft x=false/\Ft x'=false/\Dw x x'):pP P G f [0] (d :: ds) rs js:=by
 refine⟨h.len,fun j i hj=>?_,fun Y w vs g hY hG hlen hargs Bf=>?_⟩
 ·obtain⟨e,k,ns,off,n,e',k',nV,h1,h2,h3⟩:=h.io j i hj;have hi:i=0:=by
   match j with
   |0=>simp at hj;exact hj.symm
   |j+1=>simp at hj
  subst hi;exact⟨e,k,ns,off,n,e',k',nV,by simpa using h1,h2,h3⟩
 ·refine h.run Y w vs g hY hG (by simp at hlen ⊢;omega) (fun i x' v hi hv=>?_) Bf
  match i with
  |0=>exact hargs 0 x' v (by simpa using hi) hv
  |i+1 =>
   have hi:ds'[i]?=some x':=by simpa using hi
   obtain⟨x,hx⟩:=bD (l:=ds) (i:=i) (by have:=aU hi;omega);obtain⟨h1,h2,h3⟩:=hd i x x' hx hi;exact Ox h2 (h3 Y w v (aEJ h1 (hargs (i+1) x v (by simpa using hx) hv)))
def aGS(P:Program)(ext:FuncId->List Value->Option (Prop×List Value)):Prop:=∀f vs g rs,ext f vs=some (g,rs)->g->(∀v∈rs,v.oneCell'=true)/\∀w,(callFunc f vs.toArray).run P w=.ok (.value (resV rs)) w
end AI
namespace AI
open Go Go.RowKit
section
variable {R:Type} (E:Env) (J L:Nat->List KV->Option R)
def evalJ:Code->St->(Ex->St->Option R)->Option R
 | .skip,st,K=>K .normal st
 | .label _,st,K=>K .normal st
 | .region _ ops draw,st,K=>opsK E draw ops st.n ops.toList 0 [] st fun gD=>K .normal ⟨gD.fr,gD.hp,st.n+8*ops.size⟩
 | .seq a b,st,K=>evalJ a st fun ex gD=>match ex with
  | .normal=>match E.cut (keyOf b)with
   |some keep=>J (keyOf b) (canon E.n0 keep gD)
   |none=>evalJ b gD K
  | .exit i=>K (.exit i) gD
  | .ret=>K .ret gD
 | .cond c a b,st,K=>match c with
  | .tmp s=>match st.fr s with
   | .v (.one (.s (.sc (.bool t))))=>aB t (evalJ a ⟨Ck st.fr s (Df (.bool true)),st.hp,st.n⟩ K) (evalJ b ⟨Ck st.fr s (Df (.bool false)),st.hp,st.n⟩ K)
   |_=>none
  | .const (.bool t)=>aB t (evalJ a st K) (evalJ b st K)
  |_=>none
 | .block id c,st,K=>evalJ c st fun ex gD=>match ex with
  | .normal=>K .normal gD
  | .exit i=>bif bYU i id then K .normal gD else K (.exit i) gD
  | .ret=>K .ret gD
 | .exit id,st,K=>K (.exit id) st
 | .ret,st,K=>K .ret st
 | .loop c,st,_=>L (keyOf c) (canon E.n0 (E.keep (keyOf c)) st)
 | .scope c,st,K=>evalJ c st K
 |_,_,_=>none
def aED(b:Code)(K:Ex->St->Option R)(ex:Ex)(gD:St):Option R:=match ex with
 | .normal=>match E.cut (keyOf b)with
  |some keep=>J (keyOf b) (canon E.n0 keep gD)
  |none=>evalJ E J L b gD K
 | .exit i=>K (.exit i) gD
 | .ret=>K .ret gD
def Ug(c:Code)(K:Ex->St->Option R)(ex:Ex)(gD:St):Option R:=match ex with
 | .normal=>L (keyOf c) (canon E.n0 (E.keep (keyOf c)) gD)
 | .exit i=>K (.exit i) gD
 | .ret=>K .ret gD
def findLoopJ(key:Nat):Code->(Ex->St->Option R)->Option (Code×(Ex->St->Option R))
 | .seq a b,K=>(findLoopJ key a (aED E J L b K)).or (findLoopJ key b K)
 | .cond _ a b,K=>(findLoopJ key a K).or (findLoopJ key b K)
 | .block id c,K=>findLoopJ key c (Ou id K)
 | .loop c,K=>bif bYU (keyOf c) key then some (c,K)else findLoopJ key c (Ug E L c K)
 | .scope c,K=>findLoopJ key c K
 |_,_=>none
def lL(key:Nat):Code->(Ex->St->Option R)->Option (Code×(Ex->St->Option R))
 | .seq a b,K=>bif bYU (keyOf b) key then some (b,K)else(lL key a (aED E J L b K)).or (lL key b K)
 | .cond _ a b,K=>(lL key a K).or (lL key b K)
 | .block id c,K=>lL key c (Ou id K)
 | .loop c,K=>lL key c (Ug E L c K)
 | .scope c,K=>lL key c K
 |_,_=>none
end
def loopKeys:Code->List Nat
 | .seq a b=>loopKeys a ++ loopKeys b
 | .cond _ a b=>loopKeys a ++ loopKeys b
 | .block _ c=>loopKeys c
 | .loop c=>keyOf c :: loopKeys c
 | .scope c=>loopKeys c
 |_=>[]
def gO(E:Env):Code->List Nat
 | .seq a b=>(match E.cut (keyOf b)with |some _=>[keyOf b] |none=>[]) ++ (gO E a ++ gO E b)
 | .cond _ a b=>gO E a ++ gO E b
 | .block _ c=>gO E c
 | .loop c=>gO E c
 | .scope c=>gO E c
 |_=>[]
theorem nodup_iff:∀{xs:List Nat},nodup xs=true↔xs.Nodup
 | []=>by simp[nodup]
 |x :: xs=>by
  have ih:=nodup_iff (xs:=xs);simp only[nodup,bYZ,cAD,cDH,ih];constructor
  ·rintro ⟨h1,h2⟩;refine⟨fun hm=>?_,h2⟩;have:xs.elem x=true:=List.elem_eq_true_of_mem hm;rw[this]at h1;cases h1
  ·rintro ⟨h1,h2⟩;refine⟨?_,h2⟩;cases hb:xs.elem x with
   |false=>rfl
   |true=>exact(h1 (List.mem_of_elem_eq_true hb)).elim
section
variable {R:Type} (E:Env)
theorem sL(key:Nat):∀(c:Code) (K:Ex->St->Option R),(findLoop E key c K).isSome=true↔key∈loopKeys c:=by
 intro c
 induction c with
 |seq a b Bc Bb =>
  intro K;simp only[findLoop,loopKeys,bZW,cET,cAF,Bc,Bb]
 |cond cd a b Bc Bb =>
  intro K;simp only[findLoop,loopKeys,bZW,cET,cAF,Bc,Bb]
 |block id c ih=>intro K;simp only[findLoop,loopKeys,ih]
 |scope c ih=>intro K;simp only[findLoop,loopKeys,ih]
 |loop c ih =>
  intro K;simp only[findLoop,loopKeys,cAB];cases hb:bYU (keyOf c) key with
  |true=>simp[(bZI hb)]
  |false =>
   have:key≠keyOf c:=fun h=>by subst h;rw[cDA]at hb;cases hb
   simp only[cond_false,ih,this,false_or]
 |_=>intro K;simp[findLoop,loopKeys]
theorem uU{key:Nat}:∀{c:Code},key∈gO E c->(E.cut key).isSome=true:=by
 intro c
 induction c with
 |seq a b Bc Bb =>
  intro h;simp only[gO,bZW]at h;rcases h with h |h |h
  ·split at h
   ·rename_i keep hk;simp at h;subst h;rw[hk];rfl
   ·cases h
  ·exact Bc h
  ·exact Bb h
 |cond cd a b Bc Bb =>
  intro h;simp only[gO,bZW]at h;exact h.elim Bc Bb
 |block id c ih=>intro h;exact ih h
 |scope c ih=>intro h;exact ih h
 |loop c ih=>intro h;exact ih h
 |_=>intro h;simp[gO]at h
theorem uR{key:Nat}(hk:(E.cut key).isSome=true):∀(c:Code) (K:Ex->St->Option R),(fK E key c K).isSome=true↔key∈gO E c:=by
 intro c
 induction c with
 |seq a b Bc Bb =>
  intro K;simp only[fK,gO,bZW];cases hb:bYU (keyOf b) key with
  |true =>
   have:=bZI hb;subst this;cases hc:E.cut (keyOf b)with
   |none=>rw[hc]at hk;cases hk
   |some x=>simp
  |false =>
   have hn:key≠keyOf b:=fun h=>by subst h;rw[cDA]at hb;cases hb
   simp only[cond_false,cET,cAF,Bc,Bb];constructor
   ·intro h;exact .inr h
   ·rintro (h |h)
    ·split at h
     ·simp at h;exact(hn h).elim
     ·cases h
    ·exact h
 |cond cd a b Bc Bb =>
  intro K;simp only[fK,gO,bZW,cET,cAF,Bc,Bb]
 |block id c ih=>intro K;simp only[fK,gO,ih]
 |scope c ih=>intro K;simp only[fK,gO,ih]
 |loop c ih=>intro K;simp only[fK,gO,ih]
 |_=>intro K;simp[fK,gO]
theorem Kz{α:Type}{x y:Option α}(h:x.isSome=true):x.or y=x:=by cases x <;> simp_all
theorem Fm{α:Type}{x y:Option α}(h:¬x.isSome=true):x.or y=y:=by cases x <;> simp_all
structure Sub(c0:Code)(K0:Ex->St->Option R)(c:Code)(K:Ex->St->Option R):Prop where
 lp:∀key,key∈loopKeys c->findLoop E key c0 K0=findLoop E key c K
 ct:∀key,key∈gO E c->fK E key c0 K0=fK E key c K
 dl:(loopKeys c).Nodup
 dc:(gO E c).Nodup
variable {E} {c0:Code} {K0:Ex->St->Option R}
theorem Sub.seq1{a b:Code}{K:Ex->St->Option R}(h:Sub E c0 K0 (.seq a b) K):Sub E c0 K0 a (aAS E b K):=by
 have hl:=h.dl;have hc:=h.dc;simp only[loopKeys]at hl;simp only[gO]at hc;refine⟨fun key hk=>?_,fun key hk=>?_,(List.nodup_append.1 hl).1,(List.nodup_append.1 (List.nodup_append.1 hc).2.1).1⟩
 ·rw[h.lp key (by simp only[loopKeys,bZW];exact .inl hk),findLoop];exact Kz ((sL E key a _).2 hk)
 ·rw[h.ct key (by simp only[gO,bZW];exact .inr (.inl hk)),fK];have hs:=uU E hk;cases hb:bYU (keyOf b) key with
  |true =>
   exfalso;have:=bZI hb;subst this;cases hx:E.cut (keyOf b)with
   |none=>rw[hx]at hs;cases hs
   |some x =>
    rw[hx]at hc;exact(List.nodup_append.1 hc).2.2 (keyOf b) (by simp) (keyOf b) (List.mem_append.2 (.inl hk)) rfl
  |false =>
   simp only[cond_false];exact Kz ((uR E hs a _).2 hk)
theorem Sub.aAT{a b:Code}{K:Ex->St->Option R}(h:Sub E c0 K0 (.seq a b) K):Sub E c0 K0 b K:=by
 have hl:=h.dl;have hc:=h.dc;simp only[loopKeys]at hl;simp only[gO]at hc;refine⟨fun key hk=>?_,fun key hk=>?_,(List.nodup_append.1 hl).2.1,(List.nodup_append.1 (List.nodup_append.1 hc).2.1).2.1⟩
 ·rw[h.lp key (by simp only[loopKeys,bZW];exact .inr hk),findLoop];refine Fm fun hx=>?_
  exact(List.nodup_append.1 hl).2.2 key ((sL E key a _).1 hx) key hk rfl
 ·rw[h.ct key (by simp only[gO,bZW];exact .inr (.inr hk)),fK];have hs:=uU E hk;cases hb:bYU (keyOf b) key with
  |true =>
   exfalso;have:=bZI hb;subst this;cases hx:E.cut (keyOf b)with
   |none=>rw[hx]at hs;cases hs
   |some x =>
    rw[hx]at hc;exact(List.nodup_append.1 hc).2.2 (keyOf b) (by simp) (keyOf b) (List.mem_append.2 (.inr hk)) rfl
  |false =>
   simp only[cond_false];refine Fm fun hx=>?_
   exact(List.nodup_append.1 (List.nodup_append.1 hc).2.1).2.2 key ((uR E hs a _).1 hx) key hk rfl
theorem Sub.Za{cd:Operand}{a b:Code}{K:Ex->St->Option R}(h:Sub E c0 K0 (.cond cd a b) K):Sub E c0 K0 a K:=by
 have hl:=h.dl;have hc:=h.dc;simp only[loopKeys]at hl;simp only[gO]at hc;refine⟨fun key hk=>?_,fun key hk=>?_,(List.nodup_append.1 hl).1,(List.nodup_append.1 hc).1⟩
 ·rw[h.lp key (by simp only[loopKeys,bZW];exact .inl hk),findLoop];exact Kz ((sL E key a _).2 hk)
 ·rw[h.ct key (by simp only[gO,bZW];exact .inl hk),fK];exact Kz ((uR E (uU E hk) a _).2 hk)
theorem Sub.Yz{cd:Operand}{a b:Code}{K:Ex->St->Option R}(h:Sub E c0 K0 (.cond cd a b) K):Sub E c0 K0 b K:=by
 have hl:=h.dl;have hc:=h.dc;simp only[loopKeys]at hl;simp only[gO]at hc;refine⟨fun key hk=>?_,fun key hk=>?_,(List.nodup_append.1 hl).2.1,(List.nodup_append.1 hc).2.1⟩
 ·rw[h.lp key (by simp only[loopKeys,bZW];exact .inr hk),findLoop];refine Fm fun hx=>?_
  exact(List.nodup_append.1 hl).2.2 key ((sL E key a _).1 hx) key hk rfl
 ·rw[h.ct key (by simp only[gO,bZW];exact .inr hk),fK];refine Fm fun hx=>?_
  exact(List.nodup_append.1 hc).2.2 key ((uR E (uU E hk) a _).1 hx) key hk rfl
theorem Sub.block{id:Nat}{c:Code}{K:Ex->St->Option R}(h:Sub E c0 K0 (.block id c) K):Sub E c0 K0 c (Ou id K) :=
 ⟨fun key hk=>h.lp key hk,fun key hk=>h.ct key hk,h.dl,h.dc⟩
theorem Sub.scope{c:Code}{K:Ex->St->Option R}(h:Sub E c0 K0 (.scope c) K):Sub E c0 K0 c K :=
 ⟨fun key hk=>h.lp key hk,fun key hk=>h.ct key hk,h.dl,h.dc⟩
theorem Sub.loop{c:Code}{K:Ex->St->Option R}(h:Sub E c0 K0 (.loop c) K):Sub E c0 K0 c (Rq E c K):=by
 have hl:=h.dl;simp only[loopKeys,cDH]at hl;refine⟨fun key hk=>?_,fun key hk=>h.ct key hk,hl.2,h.dc⟩;rw[h.lp key (by simp only[loopKeys,cAB];exact .inr hk),findLoop];cases hb:bYU (keyOf c) key with
 |true=>have:=bZI hb;subst this;exact(hl.1 hk).elim
 |false=>rfl
def Nd(E:Env)(c0:Code)(K0:Ex->St->Option R)(key:Nat)(l:List KV):Option R :=
 match findLoop E key c0 K0 with
 |some (b,K)=>fix (roundOf (evalCode E) E.n0 (E.keep key) b K) l
 |none=>none
def Qp(E:Env)(c0:Code)(K0:Ex->St->Option R)(key:Nat)(l:List KV):Option R :=
 match fK E key c0 K0,E.cut key with
 |some (b,K),some keep=>Cy key l fun l=>evalCode E b (mk E.n0 keep l) K
 |_,_=>none
theorem Sub.aMO{c:Code}{K:Ex->St->Option R}(h:Sub E c0 K0 (.loop c) K)(l:List KV):Nd E c0 K0 (keyOf c) l=fix (roundOf (evalCode E) E.n0 (E.keep (keyOf c)) c K) l:=by
 unfold Nd;rw[h.lp (keyOf c) (by simp[loopKeys]),findLoop,cDA];rfl
theorem Sub.aPA{a b:Code}{K:Ex->St->Option R}(h:Sub E c0 K0 (.seq a b) K){keep:List Nat}(hk:E.cut (keyOf b)=some keep)(l:List KV):Qp E c0 K0 (keyOf b) l=evalCode E b (AI.mk E.n0 keep l) K:=by
 unfold Qp;rw[h.ct (keyOf b) (by simp[gO,hk]),fK,cDA,hk];rfl
theorem Fz(hr:∀k,E.roll k=none):∀(c:Code) (K:Ex->St->Option R),Sub E c0 K0 c K->∀st,evalJ E (Qp E c0 K0) (Nd E c0 K0) c st K=evalCode E c st K:=by
 intro c
 induction c with
 |seq a b Bc Bb =>
  intro K h st;simp only[evalJ];have e:(fun(ex:Ex) (gD:St)=>match ex with
   | .normal=>match E.cut (keyOf b)with
    |some keep=>Qp E c0 K0 (keyOf b) (canon E.n0 keep gD)
    |none=>evalJ E (Qp E c0 K0) (Nd E c0 K0) b gD K
   | .exit i=>K (.exit i) gD
   | .ret=>K .ret gD)=aAS E b K:=by
   funext ex gD;unfold aAS;cases ex with
   |normal =>
    cases hk:E.cut (keyOf b)with
    |some keep=>simp only[];rw[h.aPA hk];rfl
    |none=>simp only[];exact Bb K h.aAT gD
   |exit i=>rfl
   |ret=>rfl
  rw[e,Bc _ h.seq1 st];rfl
 |cond cd a b Bc Bb =>
  intro K h st;simp only[evalJ,evalCode];have ha:=Bc K h.Za;have hb:=Bb K h.Yz;simp only[ha,hb];rfl
 |block id c ih =>
  intro K h st;exact ih _ h.block st
 |loop c ih =>
  intro K h st;simp only[evalJ,evalCode,hr];rw[h.aMO]
 |region id ops draw=>intro K h st;rfl
 |skip=>intro K h st;rfl
 |label l=>intro K h st;rfl
 |exit i=>intro K h st;rfl
 |ret=>intro K h st;rfl
 |rangeFunc f ps x y _ _=>intro K h st;rfl
 |scope c ih=>intro K h st;exact ih _ h.scope st
 |goto l=>intro K h st;rfl
 |refuse bOI=>intro K h st;rfl
theorem Xc(hr:∀k,E.roll k=none){a b:Code}{K:Ex->St->Option R}(h:Sub E c0 K0 (.seq a b) K):aED E (Qp E c0 K0) (Nd E c0 K0) b K=aAS E b K:=by
 funext ex gD;unfold aED aAS;cases ex with
 |normal =>
  cases hk:E.cut (keyOf b)with
  |some keep=>simp only[];rw[h.aPA hk];rfl
  |none=>simp only[];exact Fz hr b K h.aAT gD
 |exit i=>rfl
 |ret=>rfl
theorem Ht{c:Code}{K:Ex->St->Option R}(h:Sub E c0 K0 (.loop c) K):Ug E (Nd E c0 K0) c K=Rq E c K:=by
 funext ex gD;unfold Ug Rq;cases ex with
 |normal=>exact h.aMO _
 |exit i=>rfl
 |ret=>rfl
theorem Uw(hr:∀k,E.roll k=none)(key:Nat):∀(c:Code) (K:Ex->St->Option R),Sub E c0 K0 c K->findLoopJ E (Qp E c0 K0) (Nd E c0 K0) key c K=findLoop E key c K:=by
 intro c
 induction c with
 |seq a b Bc Bb =>
  intro K h;rw[findLoopJ,findLoop,Xc hr h,Bc _ h.seq1,Bb _ h.aAT]
 |cond cd a b Bc Bb =>
  intro K h;rw[findLoopJ,findLoop,Bc _ h.Za,Bb _ h.Yz]
 |block id c ih=>intro K h;rw[findLoopJ,findLoop,ih _ h.block]
 |scope c ih=>intro K h;rw[findLoopJ,findLoop,ih _ h.scope]
 |loop c ih=>intro K h;rw[findLoopJ,findLoop,Ht h,ih _ h.loop]
 |_=>intro K h;rfl
theorem Yn(hr:∀k,E.roll k=none)(key:Nat):∀(c:Code) (K:Ex->St->Option R),Sub E c0 K0 c K->lL E (Qp E c0 K0) (Nd E c0 K0) key c K=fK E key c K:=by
 intro c
 induction c with
 |seq a b Bc Bb =>
  intro K h;rw[lL,fK,Xc hr h,Bc _ h.seq1,Bb _ h.aAT]
 |cond cd a b Bc Bb =>
  intro K h;rw[lL,fK,Bc _ h.Za,Bb _ h.Yz]
 |block id c ih=>intro K h;rw[lL,fK,ih _ h.block]
 |scope c ih=>intro K h;rw[lL,fK,ih _ h.scope]
 |loop c ih=>intro K h;rw[lL,fK,Ht h,ih _ h.loop]
 |_=>intro K h;rfl
theorem Sub.bAK:∀(c:Code) (K:Ex->St->Option R),Sub E c0 K0 c K->∀{key:Nat} {b:Code} {K':Ex->St->Option R},findLoop E key c K=some (b,K')->key=keyOf b/\Sub E c0 K0 (.loop b) K':=by
 intro c
 induction c with
 |seq a b Bc Bb =>
  intro K h key b' K' hf;rw[findLoop]at hf;rcases Option.or_eq_some_iff.1 hf with hf |⟨_,hf⟩
  ·exact Bc _ h.seq1 hf
  ·exact Bb _ h.aAT hf
 |cond cd a b Bc Bb =>
  intro K h key b' K' hf;rw[findLoop]at hf;rcases Option.or_eq_some_iff.1 hf with hf |⟨_,hf⟩
  ·exact Bc _ h.Za hf
  ·exact Bb _ h.Yz hf
 |block id c ih=>intro K h key b' K' hf;exact ih _ h.block hf
 |scope c ih=>intro K h key b' K' hf;exact ih _ h.scope hf
 |loop c ih =>
  intro K h key b' K' hf;rw[findLoop]at hf;cases hb:bYU (keyOf c) key with
  |true =>
   rw[hb]at hf;cases hf;exact⟨(bZI hb).symm,h⟩
  |false=>rw[hb]at hf;exact ih _ h.loop hf
 |_=>intro K h key b' K' hf;simp[findLoop]at hf
theorem Sub.bGX:∀(c:Code) (K:Ex->St->Option R),Sub E c0 K0 c K->∀{key:Nat} {b:Code} {K':Ex->St->Option R},fK E key c K=some (b,K')->Sub E c0 K0 b K':=by
 intro c
 induction c with
 |seq a b Bc Bb =>
  intro K h key b' K' hf;rw[fK]at hf;cases hb:bYU (keyOf b) key with
  |true=>rw[hb]at hf;cases hf;exact h.aAT
  |false =>
   rw[hb]at hf;rcases Option.or_eq_some_iff.1 hf with hf |⟨_,hf⟩
   ·exact Bc _ h.seq1 hf
   ·exact Bb _ h.aAT hf
 |cond cd a b Bc Bb =>
  intro K h key b' K' hf;rw[fK]at hf;rcases Option.or_eq_some_iff.1 hf with hf |⟨_,hf⟩
  ·exact Bc _ h.Za hf
  ·exact Bb _ h.Yz hf
 |block id c ih=>intro K h key b' K' hf;exact ih _ h.block hf
 |scope c ih=>intro K h key b' K' hf;exact ih _ h.scope hf
 |loop c ih=>intro K h key b' K' hf;exact ih _ h.loop hf
 |_=>intro K h key b' K' hf;simp[fK]at hf
end
def yP(E:Env)(c:Code):Bool:=nodup (loopKeys c)&&nodup (gO E c)
theorem sub_self{E:Env}{c:Code}{K:Ex->St->Option (List D)}(h:yP E c=true):Sub E c K c K:=by
 unfold yP at h;rw[bYZ,nodup_iff,nodup_iff]at h;exact⟨fun _ _=>rfl,fun _ _=>rfl,h.1,h.2⟩
section
variable (E:Env) (fn:Func) (c:Code)
def aLH(J L:Nat->List KV->Option (List D))(ds:List D):Option (List D) :=
 evalJ E J L c ⟨Zj ds,argHp 0 ds,E.n0⟩ (rY E fn)
def aAV(J L:Nat->List KV->Option (List D))(key:Nat)(l:List KV):Option (List D) :=
 match findLoopJ E J L key c (rY E fn)with
 |some (b,K)=>evalJ E J L b (mk E.n0 (E.keep key) l) fun ex gD=>match ex with
  | .normal=>L key (canon E.n0 (E.keep key) gD)
  | .exit i=>K (.exit i) gD
  | .ret=>K .ret gD
 |none=>none
def aZX(J L:Nat->List KV->Option (List D))(key:Nat)(l:List KV):Option (List D) :=
 match lL E J L key c (rY E fn),E.cut key with
 |some (b,K),some keep=>evalJ E J L b (mk E.n0 keep l) K
 |_,_=>none
end
variable {E:Env} {fn:Func} {c:Code}
theorem Oi:cutAt E fn c=Qp E c (rY E fn):=by
 funext key l;unfold cutAt Qp;cases fK E key c (rY E fn) <;> cases E.cut key <;> rfl
theorem Hu:Hv E fn c=Nd E c (rY E fn):=by
 funext key l;unfold Hv Nd;cases findLoop E key c (rY E fn) <;> rfl
theorem aPB(E:Env)(fn:Func)(c:Code):∃f:Nat->List KV->Option (List D),f=cutAt E fn c:=⟨_,rfl⟩
def mU(E:Env)(fn:Func)(c:Code):Nat->List KV->Option (List D):=Classical.choose (aPB E fn c)
theorem aCE:mU E fn c=cutAt E fn c:=Classical.choose_spec (aPB E fn c)
theorem aMP(E:Env)(fn:Func)(c:Code):∃f:Nat->List KV->Option (List D),f=Hv E fn c:=⟨_,rfl⟩
def tM(E:Env)(fn:Func)(c:Code):Nat->List KV->Option (List D):=Classical.choose (aMP E fn c)
theorem aBH:tM E fn c=Hv E fn c:=Classical.choose_spec (aMP E fn c)
theorem aOH(hr:E.roll=fun _=>none)(h:yP E c=true)(ds:List D):aI E fn c ds=aLH E fn c (mU E fn c) (tM E fn c) ds:=by
 rw[aCE,aBH,Oi,Hu];exact(Fz (c0:=c) (K0:=rY E fn) (fun k=>by rw[hr]) c (rY E fn) (sub_self h) _).symm
theorem aMQ(hr:E.roll=fun _=>none)(h:yP E c=true)(key:Nat)(l:List KV):tM E fn c key l=aAV E fn c (mU E fn c) (tM E fn c) key l:=by
 rw[aCE,aBH,aHJ,Oi,Hu];unfold Tq aAV;have hs:=sub_self (K:=rY E fn) h;have e:=Uw (c0:=c) (K0:=rY E fn) (fun k=>by rw[hr]) key c (rY E fn) hs;rw[e];cases hf:findLoop E key c (rY E fn)with
 |none=>rfl
 |some p =>
  obtain⟨b,K⟩:=p;simp only[];obtain⟨rfl,hb⟩:=Sub.bAK c (rY E fn) hs hf;have e2:(fun(ex:Ex) (gD:St)=>match ex with
   | .normal=>Nd E c (rY E fn) (keyOf b) (canon E.n0 (E.keep (keyOf b)) gD)
   | .exit i=>K (.exit i) gD
   | .ret=>K .ret gD)=Rq E b K:=Ht hb
  rw[e2];exact(Fz (c0:=c) (K0:=rY E fn) (fun k=>by rw[hr]) b _ hb.loop _).symm
theorem aUG(hr:E.roll=fun _=>none)(h:yP E c=true)(key:Nat)(l:List KV):mU E fn c key l=aZX E fn c (mU E fn c) (tM E fn c) key l:=by
 rw[aCE,aBH,aOZ,Oi,Hu];unfold Vf aZX;have hs:=sub_self (K:=rY E fn) h;have e:=Yn (c0:=c) (K0:=rY E fn) (fun k=>by rw[hr]) key c (rY E fn) hs;rw[e];cases hf:fK E key c (rY E fn)with
 |none=>rfl
 |some p =>
  obtain⟨b,K⟩:=p;cases hc:E.cut key with
  |none=>rfl
  |some keep=>exact(Fz (c0:=c) (K0:=rY E fn) (fun k=>by rw[hr]) b _ (Sub.bGX c _ hs hf) _).symm
def Nk(E:Env)(c:Code):Prop:=(E.roll=fun _=>none)/\yP E c=true
theorem nk{E:Env}{c:Code}(h:yP E c=true:=by kernel_rfl)(hr:E.roll=fun _=>none:=by rfl):Nk E c:=⟨hr,h⟩
section
variable {E:Env} {fn:Func} {c:Code} {key:Nat} {l:List KV} {ds:List D} {r:Option (List D)} (h:Nk E c)
include h
theorem eJ(e:aLH E fn c (mU E fn c) (tM E fn c) ds=r:=by kernel_rfl):aI E fn c ds=r:=(aOH h.1 h.2 ds).trans e
theorem lJ(e:aAV E fn c (mU E fn c) (tM E fn c) key l=r:=by kernel_rfl):tM E fn c key l=r:=(aMQ h.1 h.2 key l).trans e
theorem cJ(e:aZX E fn c (mU E fn c) (tM E fn c) key l=r:=by kernel_rfl):mU E fn c key l=r:=(aUG h.1 h.2 key l).trans e
end
end AI
namespace AI
open Go Go.RowKit
structure lB(α:Type) where
 put:α->D
 get:D->Option α
 le:∀{d x},get d=some x->Dw d (put x)
def pI(k:IntKind):lB (List Int):=⟨fun a=>.s (.ints k a),dI k,bGR⟩
def pN(k:IntKind):lB Int:=⟨fun n=>.s (.sc (.int k n)),dN k,bGP⟩
def dIO(e:TypeId)(k:IntKind):D->Option (List Int×Nat×Nat)
 | .io e' k' ns off n=>if _h:e=e'/\k=k' then some (ns,off,n)else none
 |_=>none
theorem Ve{e:TypeId}{k:IntKind}{d:D}{x:List Int×Nat×Nat}(h:dIO e k d=some x):d=.io e k x.1 x.2.1 x.2.2:=by
 unfold dIO at h;split at h
 ·split at h
  ·rename_i hk;obtain⟨rfl,rfl⟩:=hk;cases h;rfl
  ·cases h
 ·cases h
def Fl(e:TypeId)(k:IntKind):lB (List Int×Nat×Nat):=⟨fun x=>.io e k x.1 x.2.1 x.2.2,dIO e k,fun h=>by rw[Ve h];exact Dw.refl _⟩
def pB:lB Bool:=⟨fun b=>.s (.sc (.bool b)),dB,bGT⟩
def dF(k:FloatKind):D->Option Nat
 | .s (.sc (.float k' b))=>if _h:k=k' then some b else none
 |_=>none
theorem bGS{k:FloatKind}{d:D}{n:Nat}(h:dF k d=some n):Dw d (.s (.sc (.float k n))):=by
 unfold dF at h;split at h
 ·split at h
  ·rename_i hk;cases h;subst hk;exact Dw.refl _
  ·cases h
 ·cases h
def pF(k:FloatKind):lB Nat:=⟨fun b=>.s (.sc (.float k b)),dF k,bGS⟩
class aIY{α:Type}(p:lB α):Prop where
 no:∀{d x},p.get d=some x->Ft d=false/\Ft (p.put x)=false
instance {k:IntKind}:aIY (pI k):=⟨fun {d x} h=>⟨by cases d <;> first |rfl | (simp[pI,dI]at h),rfl⟩⟩
instance {k:IntKind}:aIY (pN k):=⟨fun {d x} h=>⟨by cases d <;> first |rfl | (simp[pN,dN]at h),rfl⟩⟩
instance:aIY pB:=⟨fun {d x} h=>⟨by cases d <;> first |rfl | (simp[pB,dB]at h),rfl⟩⟩
structure SPar(α:Type) where
 n:Nat
 put:α->List S
 get:List S->Option α
 le:∀{d x},get d=some x->d.length=n/\(put x).length=n/\∀(i:Nat) (s s':S),d[i]?=some s->(put x)[i]?=some s'->∀X w v,oT X w s v->oT X w s' v
def bHL{α:Type}(p:lB α)(put:α->S)(h:∀x,p.put x=.s (put x)):SPar α where
 n:=1
 put x:=[put x]
 get
  | [s]=>p.get (.s s)
  |_=>none
 le:=by
  intro d x hd
  match d,hd with
  | [s],hd =>
   refine⟨rfl,rfl,fun i s1 s2 h1 h2=>?_⟩
   match i with
   |0 =>
    simp at h1 h2;subst h1;subst h2;intro X w v hr;have:=p.le hd X w v hr;rw[h]at this;exact this
   |i+1=>simp at h1
def sI(k:IntKind):SPar (List Int):=bHL (pI k) (fun a=>.ints k a) fun _=>rfl
def sN(k:IntKind):SPar Int:=bHL (pN k) (fun n=>.sc (.int k n)) fun _=>rfl
def sB:SPar Bool:=bHL pB (fun b=>.sc (.bool b)) fun _=>rfl
def SPar.pair{α β:Type}(p:SPar α)(q:SPar β):SPar (α×β) where
 n:=p.n+q.n
 put x:=p.put x.1 ++ q.put x.2
 get d:=match p.get (d.take p.n),q.get (d.drop p.n)with
  |some a,some b=>some (a,b)
  |_,_=>none
 le:=by
  intro d x h;split at h
  ·rename_i a b ha hb;cases h;obtain⟨a1,a2,a3⟩:=p.le ha;obtain⟨b1,b2,b3⟩:=q.le hb;simp only[cBJ,cCT]at a1 b1;have bNX:(p.put (a,b).fst).length=p.n:=a2;refine⟨by omega,by simp[a2,b2],fun i s s' h1 h2=>?_⟩
   by_cases hi:i<p.n
   ·rw[List.getElem?_append_left (by rw[bNX];exact hi)]at h2;exact a3 i s s' (by rw[bYY hi];exact h1) h2
   ·rw[List.getElem?_append_right (by rw[bNX];omega),bNX]at h2;exact b3 (i-p.n) s s' (by rw[bZG,show p.n+(i-p.n)=i from by omega];exact h1) h2
  ·cases h
def pG{α:Type}(p:SPar α):lB α where
 put x:=.agg (p.put x)
 get
  | .agg cs=>p.get cs
  |_=>none
 le:=by
  intro d x h
  match d,h with
  | .agg cs,h =>
   obtain⟨h1,h2,h3⟩:=p.le h;rintro Y w v ⟨arr,rfl,hl,hr⟩;refine⟨arr,rfl,by omega,fun i s u hs hu=>?_⟩;obtain⟨s0,Uk⟩:=bD (l:=cs) (i:=i) (by have:=aU hs;omega);exact h3 i s0 s Uk hs Y w u (hr i s0 u Uk hu)
def Ag(d d':D):Prop:=(d'=d)\/(kX d'=false/\((∃e k ns,d=.own e k ns/\d'=.s (.ints k ns))\/(kX d=false/\Dw d d')))
theorem Ag.refl(d:D):Ag d d:=.inl rfl
theorem Ag.own(e:TypeId)(k:IntKind)(ns:List Int):Ag (.own e k ns) (.s (.ints k ns)):=.inr ⟨rfl,.inl ⟨e,k,ns,rfl,rfl⟩⟩
theorem Ag.nil(k:IntKind):Ag (.s (.sc (.slice none 0 0))) (.s (.ints k [])) :=
 .inr ⟨rfl,.inr ⟨rfl,fun Y w v h=>by obtain⟨rfl,_⟩:=h;exact⟨none,0,rfl,bYT _,fun i n hn=>by simp at hn⟩⟩⟩
def Ep(s s':S):Prop:=∀X w v,oT X w s v->oT X w s' v
theorem Ep.refl(s:S):Ep s s:=fun _ _ _ h=>h
theorem Ep.nil(k:IntKind):Ep (.sc (.slice none 0 0)) (.ints k []):=fun X w v h=>by
 obtain⟨rfl,_⟩:=h;exact⟨none,0,rfl,bYT _,fun i n hn=>by simp at hn⟩
inductive zN:List S->List S->Prop where
 |nil:zN [] []
 |cons {s s':S} {l l':List S}:Ep s s'->zN l l'->zN (s :: l) (s' :: l')
theorem zN.refl:∀l,zN l l
 | []=>.nil
 |s :: l=>.cons (Ep.refl s) (zN.refl l)
theorem zN.len{l l':List S}(h:zN l l'):l.length=l'.length:=by induction h with |nil=>rfl |cons _ _ ih=>simp[ih]
theorem zN.at{l l':List S}(h:zN l l'):∀{i:Nat} {s s':S},l[i]?=some s->l'[i]?=some s'->Ep s s':=by
 induction h with
 |nil=>intro i s s' h;simp at h
 |cons hs _ ih =>
  intro i s s' h1 h2;cases i with
  |zero=>simp at h1 h2;subst h1;subst h2;exact hs
  |succ i=>simp at h1 h2;exact ih h1 h2
theorem Ag.agg{l l':List S}(h:zN l l'):Ag (.agg l) (.agg l') :=
 .inr ⟨rfl,.inr ⟨rfl,fun Y w v hv=>by
  obtain⟨arr,rfl,hl,hr⟩:=hv;refine⟨arr,rfl,by rw[<-h.len];exact hl,fun i s u hs hu=>?_⟩;obtain⟨s0,Uk⟩:=bD (l:=l) (i:=i) (by have:=aU hs;rw[h.len];exact this);exact h.at Uk hs Y w u (hr i s0 u Uk hu)⟩⟩
inductive iQ:List D->List D->Prop where
 |nil:iQ [] []
 |cons {s s':D} {l l':List D}:Ag s s'->iQ l l'->iQ (s :: l) (s' :: l')
theorem iQ.refl:∀l,iQ l l
 | []=>.nil
 |s :: l=>.cons (Ag.refl s) (iQ.refl l)
theorem iQ.len{l l':List D}(h:iQ l l'):l.length=l'.length:=by induction h with |nil=>rfl |cons _ _ ih=>simp[ih]
theorem iQ.at{l l':List D}(h:iQ l l'):∀{i:Nat} {s s':D},l[i]?=some s->l'[i]?=some s'->Ag s s':=by
 induction h with
 |nil=>intro i s s' h;simp at h
 |cons hs _ ih =>
  intro i s s' h1 h2;cases i with
  |zero=>simp at h1 h2;subst h1;subst h2;exact hs
  |succ i=>simp at h1 h2;exact ih h1 h2
theorem Contract.less{P:Program}{G:Nat->Option (IntKind×List Int)}{f:FuncId}{ds rs aRT:List D}(h:Contract P G f ds rs)(hr:iQ rs aRT):Contract P G f ds aRT:=by
 intro Y w vs hY hG hlen hargs;refine(h Y w vs hY hG hlen hargs).mono ?_;rintro e w' ⟨tF,he,hb,g,hl,Bf,Ul⟩;have tP:∀{i:Nat} {d d':D},rs[i]?=some d->aRT[i]?=some d'->kX d'=true->d'=d:=by
  intro i d d' h1 h2 ho;rcases hr.at h1 h2 with h3 |⟨h3,_⟩
  ·exact h3
  ·rw[h3]at ho;cases ho
 have vQ:∀{i:Nat} {d':D},aRT[i]?=some d'->∃d,rs[i]?=some d:=fun {i d'} h=>bD (l:=rs) (i:=i) (by have:=aU h;rw[hr.len];exact this)
 have aHP:∀b,(Y b\/∃(j:Nat) (d':D),aRT[j]?=some d'/\kX d'=true/\g j=b)->(Y b\/∃(j:Nat) (d':D),rs[j]?=some d'/\kX d'=true/\g j=b):=by
  rintro b (hb |⟨j,d',h1,h2,h3⟩)
  ·exact .inl hb
  ·obtain⟨d,hd⟩:=vQ h1;have:=tP hd h1 h2;subst this;exact .inr ⟨j,d',hd,h2,h3⟩
 refine⟨tF,he,hb,g,by rw[<-hr.len];exact hl,?_,?_⟩
 ·intro i j d d' h1 h2 h3 h4 h5;obtain⟨e1,aFN⟩:=vQ h1;obtain⟨e2,aTH⟩:=vQ h2;have q1:=tP aFN h1 h3;have q2:=tP aTH h2 h4;subst q1;subst q2;exact Bf i j _ _ aFN aTH h3 h4 h5
 ·intro i d' v h1 hv;obtain⟨d,hd⟩:=vQ h1;have bID:=Ul i d v hd hv;have aYR:∀(X:Nat->Prop),(∀b,X b->(Y b\/∃(j:Nat) (d':D),rs[j]?=some d'/\kX d'=true/\g j=b))->iJ (fun b=>Y b\/∃(j:Nat) (d':D),rs[j]?=some d'/\kX d'=true/\g j=b) w' X w' :=
   fun X hX=>⟨bYT _,fun b _ hn=>⟨rfl,fun hx=>hn (hX b hx)⟩⟩
  have bPO:∀{x:D},kX x=false->mI (fun b=>Y b\/∃(j:Nat) (d':D),rs[j]?=some d'/\kX d'=true/\g j=b) w' x v->mI (fun b=>Y b\/∃(j:Nat) (d':D),aRT[j]?=some d'/\kX d'=true/\g j=b) w' x v :=
   fun _ hx=>hx.later (aYR _ aHP)
  have bES:∀{x:D},kX x=false->(match x with
   | .own e k ns=>Su w.heap.size w' (g i) e k ns v
   |d=>mI (fun b=>Y b\/∃(j:Nat) (d':D),rs[j]?=some d'/\kX d'=true/\g j=b) w' d v)->mI (fun b=>Y b\/∃(j:Nat) (d':D),rs[j]?=some d'/\kX d'=true/\g j=b) w' x v:=by
   intro x hx hm;cases x with
   |own e k ns=>cases hx
   |s x=>exact hm
   |rows a b c=>exact hm
   |agg cs=>exact hm
   |io=>exact hm
   |back=>exact hm
  have aFQ:∀{x:D},kX x=false->mI (fun b=>Y b\/∃(j:Nat) (d':D),aRT[j]?=some d'/\kX d'=true/\g j=b) w' x v->(match x with
   | .own e k ns=>Su w.heap.size w' (g i) e k ns v
   |d=>mI (fun b=>Y b\/∃(j:Nat) (d':D),aRT[j]?=some d'/\kX d'=true/\g j=b) w' d v):=by
   intro x hx hm;cases x with
   |own e k ns=>cases hx
   |s x=>exact hm
   |rows a b c=>exact hm
   |agg cs=>exact hm
   |io=>exact hm
   |back=>exact hm
  rcases hr.at hd h1 with rfl |⟨h3,⟨e0,k,ns,rfl,rfl⟩ |⟨h4,h5⟩⟩
  ·cases aWA:kX d' with
   |true =>
    cases d' with
    |own e k ns=>exact bID
    |s x=>cases aWA
    |io=>cases aWA
    |back=>cases aWA
    |rows a b c=>cases aWA
    |agg cs=>cases aWA
   |false=>exact aFQ aWA (bPO aWA (bES aWA bID))
  ·obtain⟨arr,cap,aBK,hbg,hh,aBM,hn1b,aTC,Up⟩:=bID;refine⟨_,_,aBK,aBM,fun j n hj=>⟨g i,0,rfl,?_,?_,?_⟩⟩
   ·exact(Array.getElem?_eq_some_iff.1 hh).1
   ·rintro (hy |⟨j',d',q1,q2,q3⟩)
    ·have:=hY _ hy;omega
    ·obtain⟨d2,bCB⟩:=vQ q1;have:=tP bCB q1 q2;subst this;have:=Bf j' i _ _ bCB hd q2 rfl q3;subst this;rw[h1]at q1;cases q1;cases q2
   ·rw[cell_of_row w' (g i) _ arr e0 (0,0) hh];simpa using Up j n hj
  ·exact aFQ h3 (h5 _ _ _ (bPO h4 (bES h4 bID)))
def orc0(r:Prop×List D):dK
 | []=>some r
 |_=>none
def orc1{α:Type}(p:lB α)(f:α->Prop×List D):dK
 | [a]=>match p.get a with
  |some x=>some (f x)
  |none=>none
 |_=>none
def orc2{α β:Type}(p:lB α)(q:lB β)(f:α->β->Prop×List D):dK
 | [a,b]=>match p.get a,q.get b with
  |some x,some y=>some (f x y)
  |_,_=>none
 |_=>none
def orc3{α β γ:Type}(p:lB α)(q:lB β)(r:lB γ)(f:α->β->γ->Prop×List D):dK
 | [a,b,c]=>match p.get a,q.get b,r.get c with
  |some x,some y,some z=>some (f x y z)
  |_,_,_=>none
 |_=>none
def orc4{α β γ δ:Type}(p:lB α)(q:lB β)(r:lB γ)(s:lB δ)(f:α->β->γ->δ->Prop×List D):dK
 | [a,b,c,d]=>match p.get a,q.get b,r.get c,s.get d with
  |some x,some y,some z,some u=>some (f x y z u)
  |_,_,_,_=>none
 |_=>none
structure uB(P:Program)(E:Env)(f:FuncId)(fn:Func)(c:Code):Prop where
 ty:oS P E.T
 calls:kO P E
 mix:P.follows .mixedOrders=true
 fnc:P.funcs[f]?=some fn
 body:fn.body=some c
 nt:E.nt=fn.ntmps
 has:pE P f
 io:E.io=[]
theorem aID{P:Program}{E:Env}{f:FuncId}{fn:Func}{c:Code}(ty:oS P E.T)(mix:P.follows .mixedOrders=true)(calls:kO P E)(hf:P.funcs[f]?=some fn)(hb:fn.body=some c)(nt:E.nt=fn.ntmps)(hn:(fn.name== "runtime.NumGoroutine")=false)(io:E.io=[]:=by rfl):uB P E f fn c :=
 ⟨ty,calls,mix,hf,hb,nt,pM hf hb hn,io⟩
structure mZ(P:Program)(E:Env)(f:FuncId)(fn:Func)(c:Code):Prop where
 ty:oS P E.T
 calls:kO P E
 mix:P.follows .mixedOrders=true
 fnc:P.funcs[f]?=some fn
 body:fn.body=some c
 nt:E.nt=fn.ntmps
 has:pE P f
 io:E.io=[0]
 n0:E.n0=1
theorem xC{P:Program}{E:Env}{f:FuncId}{fn:Func}{c:Code}(ty:oS P E.T)(mix:P.follows .mixedOrders=true)(calls:kO P E)(hf:P.funcs[f]?=some fn)(hb:fn.body=some c)(nt:E.nt=fn.ntmps)(hn:(fn.name== "runtime.NumGoroutine")=false)(io:E.io=[0])(n0:E.n0=1):mZ P E f fn c :=
 ⟨ty,calls,mix,hf,hb,nt,pM hf hb hn,io,n0⟩
variable {P:Program} {E:Env} {f:FuncId} {fn:Func} {c:Code}
theorem uB.bJO(h:uB P E f fn c){r:Prop×List D}(hs:r.1->aI E fn c []=some r.2):lO P E.glob f (orc0 r):=by
 intro ds g rs hd hg;unfold orc0 at hd;split at hd
 ·cases hd;exact⟨fn_contract h.ty h.calls h.mix h.fnc h.body h.nt h.io (cEU _) (hs hg),h.has⟩
 ·cases hd
theorem uB.qB{α:Type}(h:uB P E f fn c){p:lB α}{g:α->Prop×List D}(hn:bYW 1 fn.ntmps=true)(hs:∀x,(g x).1->aI E fn c [p.put x]=some (g x).2):lO P E.glob f (orc1 p g):=by
 intro ds q rs hd hg;unfold orc1 at hd;split at hd
 ·split at hd
  ·rename_i x hx;have hd:=Option.some.inj hd;have e1:q=(g x).1:=by rw[hd]
   have e2:rs=(g x).2:=by rw[hd]
   subst e1;subst e2;exact⟨(fn_contract (ds:=[p.put x]) h.ty h.calls h.mix h.fnc h.body h.nt h.io (cAR hn) (hs x hg)).bJQ (p.le hx),h.has⟩
  ·cases hd
 ·cases hd
theorem uB.nF{α β:Type}(h:uB P E f fn c){p:lB α}{p':lB β}{g:α->β->Prop×List D}(hn:bYW 2 fn.ntmps=true)(hs:∀x y,(g x y).1->aI E fn c [p.put x,p'.put y]=some (g x y).2):lO P E.glob f (orc2 p p' g):=by
 intro ds q rs hd hg;unfold orc2 at hd;split at hd
 ·split at hd
  ·rename_i x y hx hy;have hd:=Option.some.inj hd;have e1:q=(g x y).1:=by rw[hd]
   have e2:rs=(g x y).2:=by rw[hd]
   subst e1;subst e2;exact⟨(fn_contract (ds:=[p.put x,p'.put y]) h.ty h.calls h.mix h.fnc h.body h.nt h.io (cAR hn) (hs x y hg)).bJP (p.le hx) (p'.le hy),h.has⟩
  ·cases hd
 ·cases hd
theorem uB.zR{α β γ:Type}(h:uB P E f fn c){p:lB α}{p':lB β}{Tx:lB γ}{g:α->β->γ->Prop×List D}(hn:bYW 3 fn.ntmps=true)(hs:∀x y z,(g x y z).1->aI E fn c [p.put x,p'.put y,Tx.put z]=some (g x y z).2):lO P E.glob f (orc3 p p' Tx g):=by
 intro ds q rs hd hg;unfold orc3 at hd;split at hd
 ·split at hd
  ·rename_i x y z hx hy hz;have hd:=Option.some.inj hd;have e1:q=(g x y z).1:=by rw[hd]
   have e2:rs=(g x y z).2:=by rw[hd]
   subst e1;subst e2;exact⟨(fn_contract (ds:=[p.put x,p'.put y,Tx.put z]) h.ty h.calls h.mix h.fnc h.body h.nt h.io (cAR hn) (hs x y z hg)).bOO (p.le hx) (p'.le hy) (Tx.le hz),h.has⟩
  ·cases hd
 ·cases hd
theorem uB.aME{α β γ δ:Type}(h:uB P E f fn c){p:lB α}{p':lB β}{Tx:lB γ}{p3:lB δ}{g:α->β->γ->δ->Prop×List D}(hn:bYW 4 fn.ntmps=true)(hs:∀x y z u,(g x y z u).1->aI E fn c [p.put x,p'.put y,Tx.put z,p3.put u]=some (g x y z u).2):lO P E.glob f (orc4 p p' Tx p3 g):=by
 intro ds q rs hd hg;unfold orc4 at hd;split at hd
 ·split at hd
  ·rename_i x y z u hx hy hz hu;have hd:=Option.some.inj hd;have e1:q=(g x y z u).1:=by rw[hd]
   have e2:rs=(g x y z u).2:=by rw[hd]
   subst e1;subst e2;exact⟨(fn_contract (ds:=[p.put x,p'.put y,Tx.put z,p3.put u]) h.ty h.calls h.mix h.fnc h.body h.nt h.io (cAR hn) (hs x y z u hg)).bON (p.le hx) (p'.le hy) (Tx.le hz) (p3.le hu),h.has⟩
  ·cases hd
 ·cases hd
theorem mZ.bJL(h:mZ P E f fn c){e:TypeId}{k:IntKind}{x:List Int×Nat×Nat}{ds ds' rs:List D}{nV:List Int}(hn:1+ds'.length<=fn.ntmps)
  (hs:aI E fn c ((Fl e k).put x :: ds')=some (rs ++ [.io e k nV 0 0])) (hl:nV.length=x.1.length) (bCA:ds.length=ds'.length)
  (hd:∀(i:Nat) (y y':D),ds[i]?=some y->ds'[i]?=some y'->Ft y=false/\Ft y'=false/\Dw y y'):pP P E.glob f [0] ((Fl e k).put x :: ds) rs [.io e k nV 0 0]:=by
 have Aa:∀(i:Nat) (d:D),ds'[i]?=some d->Ft d=false:=fun i d hi=>by
  obtain⟨y,hy⟩:=bD (l:=ds) (i:=i) (by have:=aU hi;omega);exact(hd i y d hy hi).2.1
 have:=Qi h.ty h.calls h.mix h.fnc h.body h.nt (fun i hi=>by rw[h.io]at hi;rw[h.n0];simp at hi;omega) (ds:=(Fl e k).put x :: ds') (by simp;omega) hs (by rw[h.io];rfl)
  (by
   rw[h.io];intro j i hj
   match j with
   |0 =>
    simp at hj;subst hj;exact⟨e,k,x.1,x.2.1,x.2.2,e,k,nV,rfl,rfl,hl⟩
   |j+1=>simp at hj)
  (by
   rw[h.io];intro i d hi Nt
   match i with
   |0=>simp
   |i+1=>rw[Aa i d (by simpa using hi)]at Nt;cases Nt)
 rw[h.io]at this;exact this.bST bCA hd
theorem mZ.qB(h:mZ P E f fn c){e:TypeId}{k:IntKind}{g:List Int×Nat×Nat->Prop×List D}(hn:bYW 1 fn.ntmps=true)(hs:∀x,(g x).1->aI E fn c [(Fl e k).put x]=some (g x).2/\∃rs nV,(g x).2=rs ++ [.io e k nV 0 0]/\nV.length=x.1.length):qZ P E.glob f (orc1 (Fl e k) g):=by
 intro ds q rs hd hg;unfold orc1 at hd;split at hd
 ·rename_i d1;split at hd
  ·rename_i x hx;have hd:=Option.some.inj hd;have e1:q=(g x).1:=by rw[hd]
   have e2:rs=(g x).2:=by rw[hd]
   subst e1;subst e2;obtain⟨h1,Hk,nV,h2,h3⟩:=hs x hg;rw[h2]at h1 ⊢;refine⟨⟨Hk,_,rfl,?_⟩,h.has⟩;have e3:=Ve (show dIO e k d1=some x from hx);rw[e3];exact h.bJL (x:=x) (ds':=[]) (by have:=cAR hn;simp;omega) h1 h3 rfl fun i a b ha hb=>by simp at ha
  ·cases hd
 ·cases hd
theorem mZ.nF{α:Type}(h:mZ P E f fn c){e:TypeId}{k:IntKind}{p:lB α}[hp:aIY p]{g:List Int×Nat×Nat->α->Prop×List D}(hn:bYW 2 fn.ntmps=true)(hs:∀x y,(g x y).1->aI E fn c [(Fl e k).put x,p.put y]=some (g x y).2/\∃rs nV,(g x y).2=rs ++ [.io e k nV 0 0]/\nV.length=x.1.length):qZ P E.glob f (orc2 (Fl e k) p g):=by
 intro ds q rs hd hg;unfold orc2 at hd;split at hd
 ·rename_i d1 d2;split at hd
  ·rename_i x y hx hy;have hd:=Option.some.inj hd;have e1:q=(g x y).1:=by rw[hd]
   have e2:rs=(g x y).2:=by rw[hd]
   subst e1;subst e2;obtain⟨h1,Hk,nV,h2,h3⟩:=hs x y hg;rw[h2]at h1 ⊢;refine⟨⟨Hk,_,rfl,?_⟩,h.has⟩;have e3:=Ve (show dIO e k d1=some x from hx);rw[e3];refine h.bJL (x:=x) (ds':=[p.put y]) (by have:=cAR hn;simp;omega) h1 h3 rfl fun i a b ha hb=>?_
   match i with
   |0=>simp at ha hb;subst ha;subst hb;exact⟨(hp.no hy).1,(hp.no hy).2,p.le hy⟩
   |i+1=>simp at ha
  ·cases hd
 ·cases hd
theorem mZ.zR{α β:Type}(h:mZ P E f fn c){e:TypeId}{k:IntKind}{p:lB α}[hp:aIY p]{p':lB β}[hp':aIY p']{g:List Int×Nat×Nat->α->β->Prop×List D}(hn:bYW 3 fn.ntmps=true)(hs:∀x y z,(g x y z).1->aI E fn c [(Fl e k).put x,p.put y,p'.put z]=some (g x y z).2/\∃rs nV,(g x y z).2=rs ++ [.io e k nV 0 0]/\nV.length=x.1.length):qZ P E.glob f (orc3 (Fl e k) p p' g):=by
 intro ds q rs hd hg;unfold orc3 at hd;split at hd
 ·rename_i d1 d2 d3;split at hd
  ·rename_i x y z hx hy hz;have hd:=Option.some.inj hd;have e1:q=(g x y z).1:=by rw[hd]
   have e2:rs=(g x y z).2:=by rw[hd]
   subst e1;subst e2;obtain⟨h1,Hk,nV,h2,h3⟩:=hs x y z hg;rw[h2]at h1 ⊢;refine⟨⟨Hk,_,rfl,?_⟩,h.has⟩;have e3:=Ve (show dIO e k d1=some x from hx);rw[e3];refine h.bJL (x:=x) (ds':=[p.put y,p'.put z]) (by have:=cAR hn;simp;omega) h1 h3 rfl fun i a b ha hb=>?_
   match i with
   |0=>simp at ha hb;subst ha;subst hb;exact⟨(hp.no hy).1,(hp.no hy).2,p.le hy⟩
   |1=>simp at ha hb;subst ha;subst hb;exact⟨(hp'.no hz).1,(hp'.no hz).2,p'.le hz⟩
   |i+2=>simp at ha
  ·cases hd
 ·cases hd
theorem uB.bCQ{α:Type}(h:uB P E f fn c){p:lB α}{g:α->Prop×List D}(hn:bYW 1 fn.ntmps=true)(hs:∀x,(g x).1->∃rs,aI E fn c [p.put x]=some rs/\iQ rs (g x).2):lO P E.glob f (orc1 p g):=by
 intro ds q rs hd hg;unfold orc1 at hd;split at hd
 ·split at hd
  ·rename_i x hx;have hd:=Option.some.inj hd;have e1:q=(g x).1:=by rw[hd]
   have e2:rs=(g x).2:=by rw[hd]
   subst e1;subst e2;obtain⟨Tp,he,hle⟩:=hs x hg;exact⟨((fn_contract (ds:=[p.put x]) h.ty h.calls h.mix h.fnc h.body h.nt h.io (cAR hn) he).bJQ (p.le hx)).less hle,h.has⟩
  ·cases hd
 ·cases hd
theorem uB.aQO{α β:Type}(h:uB P E f fn c){p:lB α}{p':lB β}{g:α->β->Prop×List D}(hn:bYW 2 fn.ntmps=true)(hs:∀x y,(g x y).1->∃rs,aI E fn c [p.put x,p'.put y]=some rs/\iQ rs (g x y).2):lO P E.glob f (orc2 p p' g):=by
 intro ds q rs hd hg;unfold orc2 at hd;split at hd
 ·split at hd
  ·rename_i x y hx hy;have hd:=Option.some.inj hd;have e1:q=(g x y).1:=by rw[hd]
   have e2:rs=(g x y).2:=by rw[hd]
   subst e1;subst e2;obtain⟨Tp,he,hle⟩:=hs x y hg;exact⟨((fn_contract (ds:=[p.put x,p'.put y]) h.ty h.calls h.mix h.fnc h.body h.nt h.io (cAR hn) he).bJP (p.le hx) (p'.le hy)).less hle,h.has⟩
  ·cases hd
 ·cases hd
theorem uB.bIZ{α β γ:Type}(h:uB P E f fn c){p:lB α}{p':lB β}{Tx:lB γ}{g:α->β->γ->Prop×List D}(hn:bYW 3 fn.ntmps=true)(hs:∀x y z,(g x y z).1->∃rs,aI E fn c [p.put x,p'.put y,Tx.put z]=some rs/\iQ rs (g x y z).2):lO P E.glob f (orc3 p p' Tx g):=by
 intro ds q rs hd hg;unfold orc3 at hd;split at hd
 ·split at hd
  ·rename_i x y z hx hy hz;have hd:=Option.some.inj hd;have e1:q=(g x y z).1:=by rw[hd]
   have e2:rs=(g x y z).2:=by rw[hd]
   subst e1;subst e2;obtain⟨Tp,he,hle⟩:=hs x y z hg;exact⟨((fn_contract (ds:=[p.put x,p'.put y,Tx.put z]) h.ty h.calls h.mix h.fnc h.body h.nt h.io (cAR hn) he).bOO (p.le hx) (p'.le hy) (Tx.le hz)).less hle,h.has⟩
  ·cases hd
 ·cases hd
def aFV(f:FuncId)(g:List Value->Option (Prop×List Value))(r:FuncId->List Value->Option (Prop×List Value)):FuncId->List Value->Option (Prop×List Value):=fun f' vs=>bif bYU f' f then g vs else r f' vs
def aFU:FuncId->List Value->Option (Prop×List Value):=fun _ _=>none
theorem aCA:aGS P aFU:=fun _ _ _ _ h=>by cases h
structure aWT(P:Program)(f:FuncId)(e:Array Value->Sem Value):Prop where
 run:∀(args:Array Value) (w:World),(callFunc f args).run P w=((e args).run P w).andThen fun v w'=>.ok (.value v) w'
theorem Yp{f:FuncId}{g:List Value->Option (Prop×List Value)}{r:FuncId->List Value->Option (Prop×List Value)}{e:Array Value->Sem Value}(hf:aWT P f e)
  (hg:∀vs q rs,g vs=some (q,rs)->q->(∀v∈rs,v.oneCell'=true)/\∀w,(e vs.toArray).run P w=.ok (resV rs) w) (hr:aGS P r):aGS P (aFV f g r):=by
 intro f' vs q rs h hq;unfold aFV at h;cases hb:bYU f' f with
 |true =>
  rw[hb]at h;have:=bZI hb;subst this;obtain⟨h1,h2⟩:=hg vs q rs h hq;exact⟨h1,fun w=>by rw[hf.run,h2];rfl⟩
 |false=>rw[hb]at h;exact hr f' vs q rs h hq
def gAdd:List Value->Option (Prop×List Value)
 | [.int .u64 x,.int .u64 y,.int .u64 c]=>some ((0<=x/\0<=y/\0<=c/\c<=1),[.int .u64 ((x+y+c)%18446744073709551616),.int .u64 ((x+y+c)/18446744073709551616)])
 |_=>none
theorem aTR(vs:List Value)(q:Prop)(rs:List Value)(h:gAdd vs=some (q,rs))(hq:q):(∀v∈rs,v.oneCell'=true)/\∀w,(add64Entry vs.toArray).run P w=.ok (resV rs) w:=by
 unfold gAdd at h;split at h
 ·cases h;obtain⟨h1,h2,h3,h4⟩:=hq;exact⟨by simp[Value.oneCell'],fun w=>run_add64 _ _ _ h1 h2 h3 h4 w⟩
 ·cases h
def yG:Array Value->Sem Value:=fun args=>do
 let (x,y,b) <-Extern.MathBitsCarry.three "Sub64" args
 pure (Extern.MathBitsCarry.pair ((x+Extern.MathBitsCarry.m64-y-b)%Extern.MathBitsCarry.m64) (if x<y+b then 1 else 0))
theorem aGY(x y c:Int)(hx:0<=x)(hy:0<=y)(bKG:y<18446744073709551616)(bFV:0<=c)(hc:c<=1)(w:World) :
  (yG #[.int .u64 x,.int .u64 y,.int .u64 c]).run P w =
   .ok (.tuple #[.int .u64 ((x-y-c)%18446744073709551616),.int .u64 (if x<y+c then 1 else 0)]) w:=by
 have key:∀k:Nat,k<=1->(yG #[.int .u64 x,.int .u64 y,.int .u64 (k:Int)]).run P w =
   .ok (Extern.MathBitsCarry.pair ((x.toNat+Extern.MathBitsCarry.m64-y.toNat-k)%Extern.MathBitsCarry.m64) (if x.toNat<y.toNat+k then 1 else 0)) w:=by
  intro k hk;have:k=0\/k=1:=by omega
  rcases this with rfl |rfl <;> rfl
 obtain⟨k,rfl⟩:=cDX bFV;rw[key k (by omega)];obtain⟨X,rfl⟩:=cDX hx;obtain⟨Y,rfl⟩:=cDX hy;simp only[Extern.MathBitsCarry.pair,Extern.MathBitsCarry.m64,cCQ];have e1:Int.ofNat ((X+2^64-Y-k)%2^64)=((X:Int)-Y-k)%18446744073709551616:=by
  show((((X+2^64-Y-k)%2^64:Nat)):Int)=_;omega
 have e2:Int.ofNat (if X<Y+k then 1 else 0)=if(X:Int)<Y+k then 1 else 0:=by
  show(((if X<Y+k then 1 else 0:Nat)):Int)=_;split <;> split <;> omega
 rw[e1,e2]
def aZP:List Value->Option (Prop×List Value)
 | [.int .u64 x,.int .u64 y,.int .u64 c]=>some ((0<=x/\0<=y/\y<18446744073709551616/\0<=c/\c<=1),[.int .u64 ((x-y-c)%18446744073709551616),.int .u64 (if x<y+c then 1 else 0)])
 |_=>none
theorem aTQ(vs:List Value)(q:Prop)(rs:List Value)(h:aZP vs=some (q,rs))(hq:q):(∀v∈rs,v.oneCell'=true)/\∀w,(yG vs.toArray).run P w=.ok (resV rs) w:=by
 unfold aZP at h;split at h
 ·cases h;obtain⟨h1,h2,h3,h4,h5⟩:=hq;exact⟨by simp[Value.oneCell'],fun w=>aGY _ _ _ h1 h2 h3 h4 h5 w⟩
 ·cases h
theorem Yq{f:FuncId}{fn:Func}{e:Array Value->Sem Value}(hf:P.funcs[f]?=some fn)(bEV:(fn.name== "runtime.NumGoroutine")=false)
  (hb:fn.body.isNone=true) (hn:Extern.findNext fn=none) (he:Extern.find fn=some e):aWT P f e:=⟨fun args w=>run_callFunc_extern hf bEV hb hn he args w⟩
end AI
namespace M
open Go
def val:List Int->Nat
 | []=>0
 |d :: r=>d.toNat+4294967296*val r
def dg(n:Nat):List Int:=if h:n=0 then []else((n%4294967296:Nat):Int) :: dg (n/4294967296)
termination_by n
decreasing_by omega
def dJ(a:List Int):Prop:=∀d∈a,0<=d/\d<4294967296
def cV(a:List Int):Prop:=a=dg (val a)
theorem cT:dg 0=[]:=by rw[dg];rfl
theorem qH{n:Nat}(h:n≠0):dg n=((n%4294967296:Nat):Int) :: dg (n/4294967296):=by rw[dg,dif_neg h]
theorem bZ(n:Nat):val (dg n)=n:=by
 induction n using cEE with
 |_ n ih =>
  by_cases h:n=0
  ·subst h;rw[cT];rfl
  ·rw[qH h,val,ih _ (by omega)];have:=cDZ n 4294967296;omega
theorem qG:dJ []:=fun _ h=>by cases h
theorem nH{d:Int}{r:List Int}:dJ (d :: r)↔(0<=d/\d<4294967296)/\dJ r:=by
 unfold dJ;simp
theorem rZ{a b:List Int}:dJ (a ++ b)↔dJ a/\dJ b:=by
 unfold dJ;simp only[bZW];exact⟨fun h=>⟨fun d hd=>h d (.inl hd),fun d hd=>h d (.inr hd)⟩,fun h d hd=>hd.elim (h.1 d) (h.2 d)⟩
theorem dJ.take{a:List Int}(h:dJ a)(n:Nat):dJ (a.take n):=fun d hd=>h d (cFQ hd)
theorem dJ.drop{a:List Int}(h:dJ a)(n:Nat):dJ (a.drop n):=fun d hd=>h d (cFR hd)
theorem lS(n:Nat):dJ (cAW n 0):=fun d hd=>by rw[(List.mem_replicate.1 hd).2];omega
theorem mF(n:Nat):dJ (dg n):=by
 induction n using cEE with
 |_ n ih =>
  by_cases h:n=0
  ·subst h;rw[cT];exact qG
  ·rw[qH h];exact nH.2 ⟨by omega,ih _ (by omega)⟩
theorem aZ(n:Nat):cV (dg n):=by unfold cV;rw[bZ]
theorem cV.lM{a:List Int}(h:cV a):dJ a:=by rw[h];exact mF _
theorem kA:∀(a b:List Int),val (a ++ b)=val a+4294967296^a.length*val b
 | [],b=>by simp[val]
 |d :: a,b=>by
  simp only[cAM,val,kA a b,cCE,cDS];rw[cDT,<-cDV,cDR 4294967296 (4294967296^a.length)];omega
theorem dW:∀{a:List Int},dJ a->val a<4294967296^a.length
 | [],_=>by simp[val]
 |d :: a,h=>by
  obtain⟨h1,h2⟩:=nH.1 h;have:=dW h2;simp only[val,cCE,cDS];have:d.toNat<4294967296:=by omega
  have:4294967296*val a+4294967296<=4294967296^a.length*4294967296:=by
   rw[cDR (4294967296^a.length)];have:4294967296*(val a+1)<=4294967296*4294967296^a.length:=cBH _ (by omega);omega
  omega
theorem kR:∀n,val (cAW n 0)=0
 |0=>rfl
 |n+1=>by simp[cEB,val,kR n]
theorem Ic:∀{a:List Int},dJ a->∃k,a=dg (val a) ++ cAW k 0
 | [],_=>⟨0,by simp[val,cT]⟩
 |d :: a,h=>by
  obtain⟨h1,h2⟩:=nH.1 h;obtain⟨k,hk⟩:=Ic h2
  by_cases hz:d.toNat+4294967296*val a=0
  ·have hd:d=0:=by omega
   have hv:val a=0:=by omega
   rw[hv,cT]at hk;refine⟨k+1,?_⟩;simp only[val];rw[hz,cT,hd,hk];simp[cEB]
  ·refine⟨k,?_⟩;simp only[val];rw[qH hz];have e1:(d.toNat+4294967296*val a)%4294967296=d.toNat:=by omega
   have e2:(d.toNat+4294967296*val a)/4294967296=val a:=by omega
   rw[e1,e2,cAM,<-hk];congr 1;omega
theorem Le:cV []:=by unfold cV;simp[val,cT]
theorem Hp{a:List Int}(h:dJ a)(ht:∀d,a.getLast?=some d->d≠0):cV a:=by
 obtain⟨k,hk⟩:=Ic h;cases k with
 |zero=>unfold cV;simpa using hk
 |succ k =>
  exfalso;refine ht 0 ?_ rfl;rw[hk,cFS,<-cAO];simp
theorem cV.top{a:List Int}(h:cV a){d:Int}(hd:a.getLast?=some d):d≠0:=by
 have key:∀n,∀d,(dg n).getLast?=some d->d≠0:=by
  intro n
  induction n using cEE with
  |_ n ih =>
   intro d hd
   by_cases hn:n=0
   ·subst hn;rw[cT]at hd;cases hd
   ·rw[qH hn]at hd
    by_cases hq:n/4294967296=0
    ·rw[hq,cT]at hd;simp at hd;omega
    ·refine ih (n/4294967296) (by omega) d ?_;rw[qH hq]at hd ⊢;rwa [cEV]at hd
 rw[h]at hd;exact key _ d hd
theorem Xo{d:Int}{a:List Int}(h:cV (d :: a)):cV a:=by
 have hd:=h.lM;refine Hp (nH.1 hd).2 fun e he=>h.top ?_
 cases a with
 |nil=>cases he
 |cons x r=>rwa [cEV]
theorem eI {n k : Nat} (h : n < 4294967296 ^ k) : (dg n).length ≤ k := by
  induction k generalizing n with
  | zero => have : n = 0 := by simpa using h
            subst this; rw [cT]; exact bYT _
  | succ k ih =>
    by_cases hn : n = 0
    · subst hn; rw [cT]; simp
    · rw [qH hn, cCE]
      have := ih (n := n / 4294967296) (by rw [cDS] at h; exact cEL (by rw [cDR]; exact h))
      omega
theorem xL{n:Nat}:n<4294967296^(dg n).length:=by
 have:=dW (mF n);rwa [bZ]at this
theorem Ay{n m:Nat}(h:n<=m):(dg n).length<=(dg m).length:=eI (cFC h xL)
theorem uP{a:List Int}(h:dJ a):(dg (val a)).length<=a.length:=eI (dW h)
theorem Cu{n k:Nat}(h:k<(dg n).length):4294967296^k<=n:=by
 rcases bZJ n (4294967296^k)with h1 |h1
 ·have:=eI h1;omega
 ·exact h1
theorem nJ{a:List Int}{n:Nat}(h:n<a.length):val (a.take (n+1))=val (a.take n)+4294967296^n*(a.getD n 0).toNat:=by
 rw[cEW h,kA,cBJ,cEX (by omega)];simp[val,cDW,h]
theorem jR(a:List Int){n:Nat}(h:n<=a.length):val a=val (a.take n)+4294967296^n*val (a.drop n):=by
 have e:=kA (a.take n) (a.drop n);rw[cFT,cBJ,cEX h]at e;exact e
theorem Oc{a:List Int}{n:Nat}(h:n<a.length):a.getD n 0∈a:=by
 rw[cDW,bZK h];simp
theorem dJ.get{a:List Int}(h:dJ a)(n:Nat):0<=a.getD n 0/\a.getD n 0<4294967296:=by
 rcases bZJ n a.length with hn |hn
 ·exact h _ (Oc hn)
 ·rw[cDW,cAP hn];simp
theorem getLast_take{a:List Int}{n:Nat}(h:n<a.length):(a.take (n+1)).getLast?=some (a.getD n 0):=by
 rw[cEW h,cFU];simp[cDW,h]
theorem zG{w:Int}(h:0<=w)(h':w<18446744073709551616):AI.gN .and .u64 w 4294967295=w%4294967296:=by
 obtain⟨n,rfl⟩:=cDX h;rw[AI.xX];unfold AI.bitsI0;simp only;have e:(BitVec.ofInt u64.bits (n:Int) &&& BitVec.ofInt u64.bits 4294967295).toNat=n%4294967296:=by
  show(BitVec.ofInt 64 (n:Int) &&& BitVec.ofInt 64 4294967295).toNat=_;rw[BitVec.toNat_and];have e1:(BitVec.ofInt 64 (n:Int)).toNat=n:=by simp;omega
  have e2:(BitVec.ofInt 64 4294967295).toNat=2^32-1:=by decide
  rw[e1,e2,Nat.and_two_pow_sub_one_eq_mod]
 rw[e,wrap_u64];omega
section
variable {R:Type} {x y:Option R}
theorem aQ{p:Prop}[Decidable p](h:p:=by omega):AI.aB (decide p) x y=x:=by simp only[AI.aB,decide_eq_true h,cond_true]
theorem aL{p:Prop}[Decidable p](h:¬p:=by omega):AI.aB (decide p) x y=y:=by simp only[AI.aB,decide_eq_false h,cond_false]
theorem cD{a b:Int}(h:a=b:=by omega):AI.aB (a==b) x y=x:=by subst h;simp[AI.aB]
theorem bJ{a b:Int}(h:a≠b:=by omega):AI.aB (a==b) x y=y:=by rw[beq_eq_false_iff_ne.2 h];rfl
theorem nZ{a b:Int}(h:a≠b:=by omega):AI.aB (a !=b) x y=x:=by rw[bne_iff_ne.2 h];rfl
theorem gF{a b:Int}(h:a=b:=by omega):AI.aB (a !=b) x y=y:=by subst h;simp[AI.aB]
theorem bT:AI.aB true x y=x:=rfl
theorem bF:AI.aB false x y=y:=rfl
theorem bAJ{b:Bool}(h:b=true):AI.aB b x y=x:=by rw[h];rfl
theorem Vm{b:Bool}(h:b=false):AI.aB b x y=y:=by rw[h];rfl
theorem gP{g:Prop}(h:g:=by omega):AI.aO g x=x:=AI.aTP h
end
def lY(a b:Nat):Int:=if a<b then -1 else if b<a then 1 else 0
theorem getD_none{a:List Int}{n:Nat}(h:a.length<=n):a.getD n 0=0:=by
 rw[cDW,cAP h];rfl
theorem dV{a:List Int}{n:Nat}(h:a.length<=n):val (a.take n)=val a:=by rw[cFV h]
theorem dT{a:List Int}(n:Nat):val (a.take (n+1))=val (a.take n)+4294967296^n*(a.getD n 0).toNat:=by
 rcases bZJ n a.length with h |h
 ·exact nJ h
 ·rw[dV (by omega),dV h,getD_none h];simp
theorem jA{a:List Int}(h:dJ a)(n:Nat):val (a.take n)<4294967296^n:=by
 have:=dW (h.take n);exact bZQ this (cBU (by omega) (by rw[cBJ];omega))
theorem oU{a:List Int}{d:Int}:val (a ++ [d])=val a+4294967296^a.length*d.toNat:=by
 rw[kA];simp[val]
theorem oX{a:List Int}{d:Int}(h:dJ a)(hd:0<=d/\d<4294967296):dJ (a ++ [d]):=by
 rw[rZ,nH];exact⟨h,hd,qG⟩
theorem Lg{a:List Int}(h:cV a):dg (val a)=a:=h.symm
theorem vM{a b:List Int}(ha:dJ a)(hb:cV b)(h:a.length<b.length):val a<val b:=by
 have h1:=dW ha;have h2:4294967296^a.length<=val b:=Cu (by rw[<-hb];exact h);omega
theorem eF{a:List Int}(ha:cV a):a.length=0↔val a=0:=by
 constructor
 ·intro h;have:a=[]:=List.length_eq_zero_iff.1 h;subst this;rfl
 ·intro h;rw[ha,h,cT];rfl
theorem jE{n:Nat}:(dg n).length=0↔n=0:=by rw[eF (aZ n),bZ]
theorem pC{a:List Int}(h:dJ a){n:Nat}{d:Int}(hd:0<=d/\d<4294967296):dJ (a.set n d):=by
 intro x hx;rcases cFW hx with h1 |h1
 ·exact h x h1
 ·subst h1;exact hd
theorem yF{a:List Int}{n:Nat}(h:n<a.length)(d:Int):val ((a.set n d).drop n)=d.toNat+4294967296*val (a.drop (n+1)):=by
 have e:(a.set n d).drop n=d :: a.drop (n+1):=by
  rw[cEY (by simpa using h)];simp[cFX]
 rw[e];rfl
theorem kJ{a:List Int}(n:Nat):val (a.drop n)=(a.getD n 0).toNat+4294967296*val (a.drop (n+1)):=by
 rcases bZJ n a.length with h |h
 ·rw[cEY h];simp[val,cDW,h]
 ·rw[cEI h,cEI (by omega),getD_none h];rfl
theorem aPJ(u v k:Nat):lY (u+k) (v+k)=lY u v:=by
 unfold lY;simp only[Nat.add_lt_add_iff_right]
end M
namespace M
open Go
def bl(n:Nat):Nat:=if n=0 then 0 else n.log2+1
theorem Vk:bl 0=0:=rfl
theorem wP(n:Nat):n<2^bl n:=by
 unfold bl;split
 ·omega
 ·exact Nat.lt_log2_self
theorem Zd{n:Nat}(h:n≠0):2^(bl n-1)<=n:=by
 unfold bl;rw[if_neg h];exact Nat.log2_self_le h
theorem dG{n k:Nat}:bl n<=k↔n<2^k:=by
 constructor
 ·intro h;exact bZQ (wP n) (cBU (by omega) h)
 ·intro h
  by_cases hn:n=0
  ·subst hn;exact cEU _
  ·rcases bZJ k (bl n)with h1 |h1
   ·exfalso;have h2:=Zd hn;have h3:2^k<=2^(bl n-1):=iC;omega
   ·exact h1
theorem rN{n k:Nat}:k<bl n↔2^k<=n:=by
 have:=@dG n k;omega
theorem qJ{n:Nat}(h:n≠0):0<bl n:=by rw[rN];simp;omega
theorem aWQ{n k:Nat}(h:2^k<=n)(h':n<2^(k+1)):bl n=k+1:=by
 have:=dG.2 h';have:=rN.2 h;omega
theorem Im{r k t:Nat}(hr:r<2^k)(ht:t≠0):bl (r+2^k*t)=k+bl t:=by
 have hp:=qJ ht;have e:k+bl t=(k+(bl t-1))+1:=by omega
 rw[e];apply aWQ
 ·rw[cDU];have:=cBH (2^k) (Zd ht);omega
 ·have h1:=wP t;have h2:2^k*(t+1)<=2^k*2^bl t:=cBH _ h1;rw[<-cDU]at h2;rw[cDT]at h2;have e2:k+(bl t-1)+1=k+bl t:=by omega
  rw[e2];omega
theorem zD{k t:Nat}(ht:t≠0):bl (2^k*t)=k+bl t:=by
 have:=Im (r:=0) (k:=k) (t:=t) (cZ) ht;rwa [bYV]at this
theorem gM{a b:Nat}(h:a<=b):bl a<=bl b:=dG.2 (cFC h (wP b))
theorem bDC(k:Nat):4294967296^k=2^(32*k):=by rw[cFD]
theorem Xw{n k:Nat}(h:n<2^k):(dg n).length<=k/32+1:=by
 apply eI;rw[bDC];exact bZQ h (iC)
theorem oF{a:List Int}(h:dJ a)(n:Nat):val (a.drop n)=val a/4294967296^n:=by
 rcases Nat.le_or_ge n a.length with hn |hn
 ·rw[jR a hn,cFY _ _ (cZ),cEM (jA h n),bYV]
 ·rw[cEI hn,cEM]
  ·rfl
  ·exact bZQ (dW h) (cBU (by omega) hn)
end M
namespace M6
open Go
def val:List Int->Nat
 | []=>0
 |d :: r=>d.toNat+18446744073709551616*val r
def dg(n:Nat):List Int:=if h:n=0 then []else((n%18446744073709551616:Nat):Int) :: dg (n/18446744073709551616)
termination_by n
decreasing_by omega
def dJ(a:List Int):Prop:=∀d∈a,0<=d/\d<18446744073709551616
def cV(a:List Int):Prop:=a=dg (val a)
theorem cT:dg 0=[]:=by rw[dg];rfl
theorem qH{n:Nat}(h:n≠0):dg n=((n%18446744073709551616:Nat):Int) :: dg (n/18446744073709551616):=by rw[dg,dif_neg h]
theorem bZ(n:Nat):val (dg n)=n:=by
 induction n using cEE with
 |_ n ih =>
  by_cases h:n=0
  ·subst h;rw[cT];rfl
  ·rw[qH h,val,ih _ (by omega)];have:=cDZ n 18446744073709551616;omega
theorem qG:dJ []:=fun _ h=>by cases h
theorem nH{d:Int}{r:List Int}:dJ (d :: r)↔(0<=d/\d<18446744073709551616)/\dJ r:=by
 unfold dJ;simp
theorem rZ{a b:List Int}:dJ (a ++ b)↔dJ a/\dJ b:=by
 unfold dJ;simp only[bZW];exact⟨fun h=>⟨fun d hd=>h d (.inl hd),fun d hd=>h d (.inr hd)⟩,fun h d hd=>hd.elim (h.1 d) (h.2 d)⟩
theorem dJ.take{a:List Int}(h:dJ a)(n:Nat):dJ (a.take n):=fun d hd=>h d (cFQ hd)
theorem dJ.drop{a:List Int}(h:dJ a)(n:Nat):dJ (a.drop n):=fun d hd=>h d (cFR hd)
theorem lS(n:Nat):dJ (cAW n 0):=fun d hd=>by rw[(List.mem_replicate.1 hd).2];omega
theorem mF(n:Nat):dJ (dg n):=by
 induction n using cEE with
 |_ n ih =>
  by_cases h:n=0
  ·subst h;rw[cT];exact qG
  ·rw[qH h];exact nH.2 ⟨by omega,ih _ (by omega)⟩
theorem aZ(n:Nat):cV (dg n):=by unfold cV;rw[bZ]
theorem cV.lM{a:List Int}(h:cV a):dJ a:=by rw[h];exact mF _
theorem kA:∀(a b:List Int),val (a ++ b)=val a+18446744073709551616^a.length*val b
 | [],b=>by simp[val]
 |d :: a,b=>by
  simp only[cAM,val,kA a b,cCE,cDS];rw[cDT,<-cDV,cDR 18446744073709551616 (18446744073709551616^a.length)];omega
theorem dW:∀{a:List Int},dJ a->val a<18446744073709551616^a.length
 | [],_=>by simp[val]
 |d :: a,h=>by
  obtain⟨h1,h2⟩:=nH.1 h;have:=dW h2;simp only[val,cCE,cDS];have:d.toNat<18446744073709551616:=by omega
  have:18446744073709551616*val a+18446744073709551616<=18446744073709551616^a.length*18446744073709551616:=by
   rw[cDR (18446744073709551616^a.length)];have:18446744073709551616*(val a+1)<=18446744073709551616*18446744073709551616^a.length:=cBH _ (by omega);omega
  omega
theorem kR:∀n,val (cAW n 0)=0
 |0=>rfl
 |n+1=>by simp[cEB,val,kR n]
theorem Ic:∀{a:List Int},dJ a->∃k,a=dg (val a) ++ cAW k 0
 | [],_=>⟨0,by simp[val,cT]⟩
 |d :: a,h=>by
  obtain⟨h1,h2⟩:=nH.1 h;obtain⟨k,hk⟩:=Ic h2
  by_cases hz:d.toNat+18446744073709551616*val a=0
  ·have hd:d=0:=by omega
   have hv:val a=0:=by omega
   rw[hv,cT]at hk;refine⟨k+1,?_⟩;simp only[val];rw[hz,cT,hd,hk];simp[cEB]
  ·refine⟨k,?_⟩;simp only[val];rw[qH hz];have e1:(d.toNat+18446744073709551616*val a)%18446744073709551616=d.toNat:=by omega
   have e2:(d.toNat+18446744073709551616*val a)/18446744073709551616=val a:=by omega
   rw[e1,e2,cAM,<-hk];congr 1;omega
theorem Le:cV []:=by unfold cV;simp[val,cT]
theorem Hp{a:List Int}(h:dJ a)(ht:∀d,a.getLast?=some d->d≠0):cV a:=by
 obtain⟨k,hk⟩:=Ic h;cases k with
 |zero=>unfold cV;simpa using hk
 |succ k =>
  exfalso;refine ht 0 ?_ rfl;rw[hk,cFS,<-cAO];simp
theorem cV.top{a:List Int}(h:cV a){d:Int}(hd:a.getLast?=some d):d≠0:=by
 have key:∀n,∀d,(dg n).getLast?=some d->d≠0:=by
  intro n
  induction n using cEE with
  |_ n ih =>
   intro d hd
   by_cases hn:n=0
   ·subst hn;rw[cT]at hd;cases hd
   ·rw[qH hn]at hd
    by_cases hq:n/18446744073709551616=0
    ·rw[hq,cT]at hd;simp at hd;omega
    ·refine ih (n/18446744073709551616) (by omega) d ?_;rw[qH hq]at hd ⊢;rwa [cEV]at hd
 rw[h]at hd;exact key _ d hd
theorem Xo{d:Int}{a:List Int}(h:cV (d :: a)):cV a:=by
 have hd:=h.lM;refine Hp (nH.1 hd).2 fun e he=>h.top ?_
 cases a with
 |nil=>cases he
 |cons x r=>rwa [cEV]
theorem eI {n k : Nat} (h : n < 18446744073709551616 ^ k) : (dg n).length ≤ k := by
  induction k generalizing n with
  | zero => have : n = 0 := by simpa using h
            subst this; rw [cT]; exact bYT _
  | succ k ih =>
    by_cases hn : n = 0
    · subst hn; rw [cT]; simp
    · rw [qH hn, cCE]
      have := ih (n := n / 18446744073709551616) (by rw [cDS] at h; exact cEL (by rw [cDR]; exact h))
      omega
theorem xL{n:Nat}:n<18446744073709551616^(dg n).length:=by
 have:=dW (mF n);rwa [bZ]at this
theorem Ay{n m:Nat}(h:n<=m):(dg n).length<=(dg m).length:=eI (cFC h xL)
theorem uP{a:List Int}(h:dJ a):(dg (val a)).length<=a.length:=eI (dW h)
theorem Cu{n k:Nat}(h:k<(dg n).length):18446744073709551616^k<=n:=by
 rcases bZJ n (18446744073709551616^k)with h1 |h1
 ·have:=eI h1;omega
 ·exact h1
theorem nJ{a:List Int}{n:Nat}(h:n<a.length):val (a.take (n+1))=val (a.take n)+18446744073709551616^n*(a.getD n 0).toNat:=by
 rw[cEW h,kA,cBJ,cEX (by omega)];simp[val,cDW,h]
theorem jR(a:List Int){n:Nat}(h:n<=a.length):val a=val (a.take n)+18446744073709551616^n*val (a.drop n):=by
 have e:=kA (a.take n) (a.drop n);rw[cFT,cBJ,cEX h]at e;exact e
theorem Oc{a:List Int}{n:Nat}(h:n<a.length):a.getD n 0∈a:=by
 rw[cDW,bZK h];simp
theorem dJ.get{a:List Int}(h:dJ a)(n:Nat):0<=a.getD n 0/\a.getD n 0<18446744073709551616:=by
 rcases bZJ n a.length with hn |hn
 ·exact h _ (Oc hn)
 ·rw[cDW,cAP hn];simp
theorem getLast_take{a:List Int}{n:Nat}(h:n<a.length):(a.take (n+1)).getLast?=some (a.getD n 0):=by
 rw[cEW h,cFU];simp[cDW,h]
theorem getD_none{a:List Int}{n:Nat}(h:a.length<=n):a.getD n 0=0:=by
 rw[cDW,cAP h];rfl
theorem dV{a:List Int}{n:Nat}(h:a.length<=n):val (a.take n)=val a:=by rw[cFV h]
theorem dT{a:List Int}(n:Nat):val (a.take (n+1))=val (a.take n)+18446744073709551616^n*(a.getD n 0).toNat:=by
 rcases bZJ n a.length with h |h
 ·exact nJ h
 ·rw[dV (by omega),dV h,getD_none h];simp
theorem jA{a:List Int}(h:dJ a)(n:Nat):val (a.take n)<18446744073709551616^n:=by
 have:=dW (h.take n);exact bZQ this (cBU (by omega) (by rw[cBJ];omega))
theorem oU{a:List Int}{d:Int}:val (a ++ [d])=val a+18446744073709551616^a.length*d.toNat:=by
 rw[kA];simp[val]
theorem oX{a:List Int}{d:Int}(h:dJ a)(hd:0<=d/\d<18446744073709551616):dJ (a ++ [d]):=by
 rw[rZ,nH];exact⟨h,hd,qG⟩
theorem Lg{a:List Int}(h:cV a):dg (val a)=a:=h.symm
theorem vM{a b:List Int}(ha:dJ a)(hb:cV b)(h:a.length<b.length):val a<val b:=by
 have h1:=dW ha;have h2:18446744073709551616^a.length<=val b:=Cu (by rw[<-hb];exact h);omega
theorem eF{a:List Int}(ha:cV a):a.length=0↔val a=0:=by
 constructor
 ·intro h;have:a=[]:=List.length_eq_zero_iff.1 h;subst this;rfl
 ·intro h;rw[ha,h,cT];rfl
theorem jE{n:Nat}:(dg n).length=0↔n=0:=by rw[eF (aZ n),bZ]
theorem pC{a:List Int}(h:dJ a){n:Nat}{d:Int}(hd:0<=d/\d<18446744073709551616):dJ (a.set n d):=by
 intro x hx;rcases cFW hx with h1 |h1
 ·exact h x h1
 ·subst h1;exact hd
theorem yF{a:List Int}{n:Nat}(h:n<a.length)(d:Int):val ((a.set n d).drop n)=d.toNat+18446744073709551616*val (a.drop (n+1)):=by
 have e:(a.set n d).drop n=d :: a.drop (n+1):=by
  rw[cEY (by simpa using h)];simp[cFX]
 rw[e];rfl
theorem kJ{a:List Int}(n:Nat):val (a.drop n)=(a.getD n 0).toNat+18446744073709551616*val (a.drop (n+1)):=by
 rcases bZJ n a.length with h |h
 ·rw[cEY h];simp[val,cDW,h]
 ·rw[cEI h,cEI (by omega),getD_none h];rfl
end M6
namespace M
open Go AI
def zs(b:Bool)(n:Nat):Int:=bif b then -(n:Int)else n
def zv(x:Bool×List Int):Int:=zs x.1 (val x.2)
def bIU(x:Bool×List Int):Prop:=cV x.2/\(x.1=true->val x.2≠0)/\x.2.length<=549755813888
def isNeg(z:Int):Bool:=match z with
 | .negSucc _=>true
 | .ofNat _=>false
theorem oI{z:Int}:isNeg z=true↔z<0:=by cases z <;> simp[isNeg] <;> omega
theorem jB{z:Int}:isNeg z=false↔0<=z:=by cases z <;> simp[isNeg] <;> omega
theorem Sx(b:Bool)(n:Nat):isNeg (zs b n)=(b&&decide (n≠0)):=by
 unfold zs;cases b with
 |false=>simp only[cond_false,cEC];exact jB.2 (by omega)
 |true =>
  simp only[cond_true,cBV]
  by_cases h:n=0
  ·subst h;rfl
  ·rw[decide_eq_true h];exact oI.2 (by omega)
theorem mB(b:Bool)(n:Nat):(zs b n).natAbs=n:=by
 unfold zs;cases b <;> simp
theorem bIU.cells{x:Bool×List Int}(h:bIU x):isNeg (zv x)=x.1/\dg (zv x).natAbs=x.2:=by
 obtain⟨h1,h2,h3⟩:=h;unfold zv;rw[Sx,mB,<-h1];refine⟨?_,rfl⟩;cases hx:x.1 with
 |false=>rfl
 |true=>rw[decide_eq_true (h2 hx)];rfl
theorem bIU.len{x:Bool×List Int}(h:bIU x):x.2.length<=549755813888:=h.2.2
def mG(a b:Int):Int:=if a<b then -1 else if b<a then 1 else 0
theorem aGH{a b:Nat}:0<=lY a b↔b<=a:=by unfold lY;split <;> (try split) <;> omega
theorem Da(a b:Nat):bl (a+b)<=max (bl a) (bl b)+1:=by
 rw[dG,cDS];have h1:=wP a;have h2:=wP b;have h3:2^bl a<=2^max (bl a) (bl b):=iC;have h4:2^bl b<=2^max (bl a) (bl b):=iC;omega
theorem Sn(a b:Nat):bl (a*b)<=bl a+bl b:=by
 rw[dG,cDU];exact Nat.mul_lt_mul'' (wP a) (wP b)
theorem Hw{n k:Nat}(h:bl n<=k):(dg n).length<=k/32+1:=Xw (dG.1 h)
abbrev K6:=Int×Int×Int×Int×Int×Int
def kf(w:Bool):K6:=bif w then(9223372036854775808,53,-1074,971,9218868437227405312,9221120237041090561)else(2147483648,24,-149,104,2139095040,2143289345)
def kP(k:K6):Nat:=k.2.1.toNat
def kH(k:K6):Nat:=2^(kP k-1)
end M
namespace M
open Go
theorem Zl{a b:Int}(ha:0<=a)(bIG:a<18446744073709551616)(hb:0<=b)(pW:b<18446744073709551616):AI.gN .and .u64 a b=((a.toNat &&& b.toNat:Nat):Int):=by
 obtain⟨n,rfl⟩:=cDX ha;obtain⟨m,rfl⟩:=cDX hb;rw[AI.xX];unfold AI.bitsI0;simp only;have e:(BitVec.ofInt u64.bits (n:Int) &&& BitVec.ofInt u64.bits (m:Int)).toNat=n &&& m:=by
  show(BitVec.ofInt 64 (n:Int) &&& BitVec.ofInt 64 (m:Int)).toNat=_;rw[BitVec.toNat_and];have e1:(BitVec.ofInt 64 (n:Int)).toNat=n:=by simp;omega
  have e2:(BitVec.ofInt 64 (m:Int)).toNat=m:=by simp;omega
  rw[e1,e2]
 have hle:n &&& m<=n:=Nat.and_le_left;rw[e,wrap_u64];rfl
theorem Xk{a b:Int}(ha:0<=a)(bIG:a<18446744073709551616)(hb:0<=b)(pW:b<18446744073709551616):AI.gN .or .u64 a b=((a.toNat |||b.toNat:Nat):Int):=by
 obtain⟨n,rfl⟩:=cDX ha;obtain⟨m,rfl⟩:=cDX hb;rw[AI.xX];unfold AI.bitsI0;simp only;have e:(BitVec.ofInt u64.bits (n:Int) |||BitVec.ofInt u64.bits (m:Int)).toNat=n |||m:=by
  show(BitVec.ofInt 64 (n:Int) |||BitVec.ofInt 64 (m:Int)).toNat=_;rw[BitVec.toNat_or];have e1:(BitVec.ofInt 64 (n:Int)).toNat=n:=by simp;omega
  have e2:(BitVec.ofInt 64 (m:Int)).toNat=m:=by simp;omega
  rw[e1,e2]
 have kD:n |||m<2^64:=Nat.or_lt_two_pow (by omega) (by omega);rw[e,wrap_u64];rfl
def tz:Nat->Nat
 |0=>0
 |n+1=>if(n+1)%2=1 then 0 else tz ((n+1)/2)+1
termination_by n=>n
decreasing_by omega
theorem Ah{n:Nat}(h:n%2=1):tz n=0:=by
 cases n with
 |zero=>omega
 |succ n=>rw[tz,if_pos h]
theorem Fa{n:Nat}(h0:n≠0)(h:n%2=0):tz n=tz (n/2)+1:=by
 cases n with
 |zero=>omega
 |succ n=>rw[tz,aP]
theorem uJ:∀n,n≠0->n%2^tz n=0/\(n/2^tz n)%2=1:=by
 intro n
 induction n using cEE with
 |_ n ih =>
  intro h0
  by_cases h:n%2=1
  ·rw[Ah h];simp[Nat.mod_one];exact h
  ·rw[Fa h0 (by omega)];obtain⟨h1,h2⟩:=ih (n/2) (by omega) (by omega);have e:2^(tz (n/2)+1)=2*2^tz (n/2):=by rw[cDS];omega
   rw[e];refine⟨?_,by rw[<-cEN];exact h2⟩;have h3:=cDZ (n/2) (2^tz (n/2));rw[h1]at h3;generalize tz (n/2)=t at *;have h4:n=2*2^t*(n/2/2^t):=by rw[cDV];omega
   generalize n/2/2^t=q at *;rw[h4];exact Nat.mul_mod_right _ _
theorem Lu{n:Nat}(h:n≠0):2^tz n<=n:=by
 obtain⟨h1,h2⟩:=uJ n h;have h3:=cDZ n (2^tz n);rw[h1]at h3;generalize 2^tz n=p at *;generalize n/p=q at *;have:p*1<=p*q:=cBH _ (by omega);omega
theorem Td{n:Nat}(h:n≠0):∀k,tz (2^k*n)=k+tz n
 |0=>by simp
 |k+1=>by
  have hp:0<2^k:=cZ;have h0:2^k*n≠0:=Nat.mul_ne_zero (by omega) h;have e:2^(k+1)*n=2*(2^k*n):=by rw[cDS,cDR (2^k) 2,cDV]
  rw[e,Fa (by omega) (by omega),Nat.mul_div_cancel_left _ (by omega),Td h k];omega
theorem aKM{r k n:Nat}(hr:r<2^k)(h:r≠0):tz (r+2^k*n)=tz r:=by
 induction k generalizing r n with
 |zero=>simp at hr;omega
 |succ k ih =>
  have e:2^(k+1)*n=2*(2^k*n):=by rw[cDS,cDR (2^k) 2,cDV]
  rw[e];rw[cDS]at hr
  by_cases ho:r%2=1
  ·rw[Ah ho,Ah (by omega)]
  ·rw[Fa (by omega) (by omega),Fa h (by omega),show(r+2*(2^k*n))/2=r/2+2^k*n from by omega,ih (by omega) (by omega)]
theorem Xy(a b:Nat):a &&& b=2*(a/2 &&& b/2)+(if a%2=1/\b%2=1 then 1 else 0):=by
 have h1:(a &&& b)/2=a/2 &&& b/2:=Nat.and_div_two;have h2:(a &&& b)%2=1↔a%2=1/\b%2=1:=Nat.and_mod_two_eq_one;rw[<-h1];split
 ·rename_i h;have:=h2.2 h;omega
 ·rename_i h;have:¬(a &&& b)%2=1:=fun hh=>h (h2.1 hh)
  omega
theorem Ni:∀(p m:Nat),m<2^p->m &&& (2^p-1-m)=0
 |0,m,h=>by simp at h;subst h;rfl
 |p+1,m,h=>by
  rw[cDS]at h ⊢;rw[Xy,show(2^p*2-1-m)/2=2^p-1-m/2 from by omega,Ni p (m/2) (by omega),aP]
theorem Xx:∀(p a b:Nat),a+b=2^p->a≠0->b≠0->a &&& b=2^tz a
 |0,a,b,h,ha,hb=>by simp at h;omega
 |p+1,a,b,h,ha,hb=>by
  rw[cDS]at h;rw[Xy]
  by_cases ho:a%2=1
  ·rw[Ah ho,show b/2=2^p-1-a/2 from by omega,Ni p (a/2) (by omega),aW]
  ·rw[Fa ha (by omega),Xx p (a/2) (b/2) (by omega) (by omega) (by omega),aP,cDS,cDR,bZR]
theorem Ap{pre:List Int}{i k:Nat}(h:pre.length=i)(v:Int):(pre ++ cAW (k+1) 0).set i v=(pre ++ [v]) ++ cAW k 0:=by
 subst h;rw[cFZ _ _ (bYT _),cCY,cEB,cGA,cAO];rfl
theorem Ia{pre:List Int}{i:Nat}(h:pre.length=i)(v:Int)(r:List Int):(pre ++ v :: r).getD i 0=v:=by
 subst h;simp[cDW]
theorem Hh{pre:List Int}{i:Nat}(h:pre.length=i)(v u:Int)(r:List Int):(pre ++ v :: r).set i u=pre ++ u :: r:=by
 subst h;rw[cFZ _ _ (bYT _),cCY,cGA]
theorem Ho{c n k:Nat}(h:c<2^k):c |||2^k*n=c+2^k*n:=by
 rw[Nat.or_comm,<-Nat.two_pow_add_eq_or_of_lt h,cES]
theorem Rj(k:Nat):18446744073709551616^k=2^(64*k):=by rw[cFD]
theorem gA{n k:Nat}(h:bl n<=64*k):(M6.dg n).length<=k:=by
 apply M6.eI;rw[Rj,<-dG];exact h
theorem zE{a:List Int}(h:M6.dJ a){n:Nat}(hn:a.length<=n):bl (M6.val a)<=64*n:=by
 rw[dG,<-Rj];exact bZQ (M6.dW h) (cBU (by omega) hn)
theorem aMH{x:List Int}(h:M6.cV x):(M6.dg (M6.val x)).length=x.length:=by rw[<-h]
theorem aKZ{n:Int}(h:0<=n):n.tdiv 64=n/64:=Int.tdiv_eq_ediv_of_nonneg h
theorem aKV{n:Int}(h:0<=n):n.tmod 64=n%64:=Int.tmod_eq_emod_of_nonneg h
theorem Ms(n:Nat):2^n=18446744073709551616^(n/64)*2^(n%64):=by
 rw[Rj,<-cDU];congr 1;omega
theorem Hf(x k:Nat)(h:k<64):x*2^k=18446744073709551616*(x/2^(64-k))+x*2^k%18446744073709551616:=by
 have e:(18446744073709551616:Nat)=2^(64-k)*2^k:=by rw[<-cDU,show 64-k+k=64 from by omega]
 have h1:x*2^k/18446744073709551616=x/2^(64-k):=by
  rw[e,Nat.mul_div_mul_right _ _ (cZ)]
 have:=cDZ (x*2^k) 18446744073709551616;rw[h1]at this;omega
theorem Kn(x k:Nat)(h:k<64):x*2^k%18446744073709551616=2^k*(x%2^(64-k)):=by
 have e:(18446744073709551616:Nat)=2^(64-k)*2^k:=by rw[<-cDU,show 64-k+k=64 from by omega]
 rw[e,Nat.mul_mod_mul_right,cDR]
end M
namespace W
open Go AI
abbrev Te(k:IntKind)(b:Nat):TI:={size:=1,bytes:=b,zero:=[.int k 0],kind:=.int k}
abbrev bBI(e:Nat):TI:={size:=1,bytes:=24,zero:=[.slice none 0 0],kind:=.slice e}
abbrev zZ(n b:Nat)(z:List Value)(f:List (Nat×Nat×Bool)):TI:={size:=n,bytes:=b,zero:=z,kind:=.struct f}
abbrev mM(k:IntKind):Value:=.int k 0
def Ly:List (Nat×TI):=[
 (2,Te .i64 8),
 (3,Te .i64 8),
 (4,{ size:=1,bytes:=1,zero:=[.bool false],kind:=TK.bool }),
 (5,Te .u8 1),
 (6,Te .u8 1),
 (7,zZ 4 24 [mM .i64,mM .i64,.bool false,mM .u8] [(0,1,false),(1,1,false),(2,1,false),(3,1,false)]),
 (8,zZ 4 24 [mM .i64,mM .i64,.bool false,mM .u8] [(0,1,false),(1,1,false),(2,1,false),(3,1,false)]),
 (9,{ size:=1,bytes:=16,zero:=[Value.string ByteArray.empty],kind:=TK.str }),
 (10,{ size:=1,bytes:=16,zero:=[Value.string ByteArray.empty],kind:=TK.str }),
 (11,{ size:=1,bytes:=16,zero:=[Value.string ByteArray.empty],kind:=TK.str }),
 (12,Te .u64 8),
 (18,zZ 1 8 [.pointer none] [(0,1,false)]),
 (19,zZ 1 8 [.pointer none] [(0,1,false)]),
 (21,Te .i32 4),
 (22,Te .u64 8),
 (25,bBI 22),
 (26,zZ 2 32 [.bool false,.slice none 0 0] [(0,1,false),(1,1,false)]),
 (27,zZ 2 32 [.bool false,.slice none 0 0] [(0,1,false),(1,1,false)]),
 (28,zZ 3 40 [.bool false,.slice none 0 0,mM .i64] [(0,2,true),(2,1,false)]),
 (29,zZ 3 40 [.bool false,.slice none 0 0,mM .i64] [(0,2,true),(2,1,false)]),
 (30,Te .i64 8),
 (33,Te .i64 8),
 (42,Te .i64 8),
 (43,zZ 6 80 [.bool false,.slice none 0 0,mM .i64,.bool false,.slice none 0 0,mM .i64] [(0,3,true),(3,3,true)]),
 (44,zZ 6 80 [.bool false,.slice none 0 0,mM .i64,.bool false,.slice none 0 0,mM .i64] [(0,3,true),(3,3,true)]),
 (46,{ size:=1,bytes:=8,zero:=[Value.nilFunc],kind:=TK.other }),
 (51,bBI 3),
 (55,zZ 6 48 [mM .i64,mM .i64,mM .i64,mM .u64,mM .i64,mM .i64] [(0,1,false),(1,1,false),(2,1,false),(3,1,false),(4,1,false),(5,1,false)]),
 (56,zZ 6 48 [mM .i64,mM .i64,mM .i64,mM .u64,mM .i64,mM .i64] [(0,1,false),(1,1,false),(2,1,false),(3,1,false),(4,1,false),(5,1,false)]),
 (57,bBI 56),
 (61,zZ 3 24 [mM .u64,.bool false,mM .i64] [(0,1,false),(1,1,false),(2,1,false)]),
 (62,zZ 3 24 [mM .u64,.bool false,mM .i64] [(0,1,false),(1,1,false),(2,1,false)]),
 (66,zZ 6 48 [mM .u64,mM .i64,mM .i64,mM .i64,mM .u64,mM .u64] [(0,1,false),(1,1,false),(2,1,false),(3,1,false),(4,1,false),(5,1,false)]),
 (67,zZ 6 48 [mM .u64,mM .i64,mM .i64,mM .i64,mM .u64,mM .u64] [(0,1,false),(1,1,false),(2,1,false),(3,1,false),(4,1,false),(5,1,false)]),
 (71,Te .u32 4),
 (83,zZ 4 32 [mM .i64,mM .i64,mM .i64,mM .u64] [(0,1,false),(1,1,false),(2,1,false),(3,1,false)]),
 (84,zZ 4 32 [mM .i64,mM .i64,mM .i64,mM .u64] [(0,1,false),(1,1,false),(2,1,false),(3,1,false)]),
 (97,zZ 3 24 [mM .i64,mM .i64,mM .i64] [(0,1,false),(1,1,false),(2,1,false)]),
 (98,zZ 3 24 [mM .i64,mM .i64,mM .i64] [(0,1,false),(1,1,false),(2,1,false)]),
 (107,zZ 2 16 [mM .i64,.bool false] [(0,1,false),(1,1,false)]),
 (108,zZ 2 16 [mM .i64,.bool false] [(0,1,false),(1,1,false)]),
 (122,Te .i64 8),
 (127,{ size:=1,bytes:=8,zero:=[Value.nilFunc],kind:=TK.other }),
 (128,zZ 2 16 [mM .i64,Value.nilFunc] [(0,1,false),(1,1,false)]),
 (129,zZ 2 16 [mM .i64,Value.nilFunc] [(0,1,false),(1,1,false)]),
 (139,Te .u64 8),
 (164,Te .i64 8),
 (178,bBI 71),
 (179,zZ 2 32 [.bool false,.slice none 0 0] [(0,1,false),(1,1,false)]),
 (180,zZ 2 32 [.bool false,.slice none 0 0] [(0,1,false),(1,1,false)]),
 (191,zZ 0 0 [] []),
 (192,zZ 0 0 [] []),
 (196,zZ 1 1 [.bool false] [(0,1,false)]),
 (197,zZ 1 1 [.bool false] [(0,1,false)]),
 (199,zZ 1 1 [.bool false] [(0,1,false)]),
 (200,zZ 3 40 [.bool false,.slice none 0 0,mM .i64] [(0,3,true)]),
 (201,zZ 3 40 [.bool false,.slice none 0 0,mM .i64] [(0,3,true)]),
 (211,Te .i64 8),
 (218,bBI 29),
 (223,bBI 44),
 (241,{ size:=64,bytes:=64,zero:=(cAW 64 (mM .u8)),kind:=TK.arr 64 1 false }),
 (295,{ size:=1,bytes:=16,zero:=[Value.nilIface],kind:=TK.other }),
 (298,{ size:=4,bytes:=96,zero:=[.slice none 0 0,.slice none 0 0,.slice none 0 0,.slice none 0 0],kind:=TK.arr 4 1 false }),
 (311,{ size:=0,bytes:=0,zero:=[],kind:=TK.arr 0 1 false }),
 (312,zZ 0 0 [] [(0,0,true)]),
 (313,zZ 0 0 [] [(0,0,true)]),
 (315,Te .u8 1),
 (316,Te .u8 1),
 (319,Te .i32 4),
 (320,Te .i32 4),
 (321,zZ 11 48 [mM .u64,mM .u64,mM .u32,mM .u8,mM .u8,mM .u8,mM .u8,Value.nilFunc,.pointer none,mM .i32,mM .i32] [(0,1,false),(1,1,false),(2,1,false),(3,1,false),(4,1,false),(5,1,false),(6,1,false),(7,1,false),(8,1,false),(9,1,false),(10,1,false)]),
 (322,zZ 11 48 [mM .u64,mM .u64,mM .u32,mM .u8,mM .u8,mM .u8,mM .u8,Value.nilFunc,.pointer none,mM .i32,mM .i32] [(0,1,false),(1,1,false),(2,1,false),(3,1,false),(4,1,false),(5,1,false),(6,1,false),(7,1,false),(8,1,false),(9,1,false),(10,1,false)])]
theorem sT:oS prog (tlook Ly):=aRE Ly (by kernel_rfl) (by kernel_rfl) (by kernel_rfl)
def ext:FuncId->List Value->Option (Prop×List Value):=(aFV 148 aZP (aFV 146 gAdd aFU))
theorem oR:aGS prog ext:=(Yp (Yq (P:=prog) (f:=148) (fn:=f148) (e:=yG) func148 rfl rfl (by kernel_rfl) (by kernel_rfl)) aTQ (Yp (Yq (P:=prog) (f:=146) (fn:=f146) (e:=add64Entry) func146 rfl rfl (by kernel_rfl) (by kernel_rfl)) aTR aCA))
def globs(g:Nat):Option (IntKind×List Int):=bif bYU g 0 then some (.u8,[0,1,56,2,57,49,28,3,61,58,42,50,38,29,17,4,62,47,59,36,45,43,51,22,53,39,33,30,24,18,12,5,63,55,48,27,60,41,37,16,46,35,44,21,52,32,23,11,54,26,40,15,34,20,31,10,25,14,19,9,13,8,7,6])else(none)
def base:Env:={ T:=tlook Ly,C:=fun _ _=>none,ext:=ext,glob:=globs,nt:=0,own:=[],keep:=fun _=>[],roll:=fun _=>none,cut:=fun _=>none }
theorem mixed:prog.follows .mixedOrders=true:=by kernel_rfl
abbrev OK(n:Nat)(o:dK):Prop:=lO prog base.glob n o
theorem fJ(E:Env)(c:Code){n:FuncId}{f:Func}{t:List (Nat×dK)}(h:∀p∈t,lO prog base.glob p.1 p.2)(hf:prog.funcs[n]?=some f)(hb:f.body=some c:=by exact rfl)(hn:(f.name== "runtime.NumGoroutine")=false:=by exact rfl)(hE:E={ base with C:=callsOf t,nt:=f.ntmps,own:=E.own,keep:=E.keep,cut:=E.cut,wide:=E.wide }:=by exact rfl):uB prog E n f c:=by
 have hg:E.glob=base.glob:=by rw[hE]
 exact aID (by rw[hE];exact sT) mixed (mV t (by rw[hE]) (by rw[hg];exact h) (by rw[hE];exact oR) (by rw[hE];rfl)) hf hb (by rw[hE]) hn (by rw[hE];rfl)
abbrev gW:TypeId:=22
end W
namespace AI
open Go Go.RowKit
theorem Contract.bSS{P:Program}{G:Nat->Option (IntKind×List Int)}{f:FuncId}{d d' e e' g g' k k' l l':D}{rs:List D}(h:Contract P G f [d',e',g',k',l'] rs)(hd:Dw d d')(he:Dw e e')(hg:Dw g g')(hk:Dw k k')(hl:Dw l l'):Contract P G f [d,e,g,k,l] rs :=
 h.of rfl fun i x x' hx Ae=>by
  match i with
  |0=>simp at hx Ae;subst hx;subst Ae;exact hd
  |1=>simp at hx Ae;subst hx;subst Ae;exact he
  |2=>simp at hx Ae;subst hx;subst Ae;exact hg
  |3=>simp at hx Ae;subst hx;subst Ae;exact hk
  |4=>simp at hx Ae;subst hx;subst Ae;exact hl
  |i+5=>simp at hx
def orc5{α β γ δ ε:Type}(p:lB α)(q:lB β)(r:lB γ)(s:lB δ)(t:lB ε)(f:α->β->γ->δ->ε->Prop×List D):dK
 | [a,b,c,d,e]=>match p.get a,q.get b,r.get c,s.get d,t.get e with
  |some x,some y,some z,some u,some v=>some (f x y z u v)
  |_,_,_,_,_=>none
 |_=>none
variable {P:Program} {E:Env} {f:FuncId} {fn:Func} {c:Code}
theorem uB.bJN{α β γ δ ε:Type}(h:uB P E f fn c){p:lB α}{p':lB β}{Tx:lB γ}{p3:lB δ}{p4:lB ε}{g:α->β->γ->δ->ε->Prop×List D}(hn:bYW 5 fn.ntmps=true)(hs:∀x y z u v,(g x y z u v).1->aI E fn c [p.put x,p'.put y,Tx.put z,p3.put u,p4.put v]=some (g x y z u v).2):lO P E.glob f (orc5 p p' Tx p3 p4 g):=by
 intro ds q rs hd hg;unfold orc5 at hd;split at hd
 ·split at hd
  ·rename_i x y z u v hx hy hz hu hv;have hd:=Option.some.inj hd;have e1:q=(g x y z u v).1:=by rw[hd]
   have e2:rs=(g x y z u v).2:=by rw[hd]
   subst e1;subst e2;exact⟨(fn_contract (ds:=[p.put x,p'.put y,Tx.put z,p3.put u,p4.put v]) h.ty h.calls h.mix h.fnc h.body h.nt h.io (cAR hn) (hs x y z u v hg)).bSS (p.le hx) (p'.le hy) (Tx.le hz) (p3.le hu) (p4.le hv),h.has⟩
  ·cases hd
 ·cases hd
end AI
namespace M
open Go AI
def wv(x:Bool×List Int):Int:=zs x.1 (M6.val x.2)
def gY(x:Bool×List Int):Prop:=M6.cV x.2/\(x.1=true->M6.val x.2≠0)/\x.2.length<=8192
def wD(z:Int):D:=.agg [.sc (.bool (isNeg z)),.ints .u64 (M6.dg z.natAbs)]
def fit(n:Nat):Bool:=decide (bl n<=524288)
theorem iT(x:Bool×List Int):(wv x).natAbs=M6.val x.2:=mB _ _
theorem Ta{x:Bool×List Int}(h:x.1=true):wv x=-(M6.val x.2:Int):=by unfold wv zs;rw[h];rfl
theorem Gz{x:Bool×List Int}(h:x.1=false):wv x=(M6.val x.2:Int):=by unfold wv zs;rw[h];rfl
theorem gY.cells{x:Bool×List Int}(h:gY x):isNeg (wv x)=x.1/\M6.dg (wv x).natAbs=x.2:=by
 obtain⟨h1,h2,h3⟩:=h;unfold wv;rw[Sx,mB,<-h1];refine⟨?_,rfl⟩;cases hx:x.1 with
 |false=>rfl
 |true=>rw[decide_eq_true (h2 hx)];rfl
theorem gY.len{x:Bool×List Int}(h:gY x):x.2.length<=8192:=h.2.2
theorem bCS(b:Bool)(n:Nat):wD (zs b n)=.agg [.sc (.bool (b&&decide (n≠0))),.ints .u64 (M6.dg n)]:=by
 unfold wD;rw[Sx,mB]
theorem nW(z:Int):wv (isNeg z,M6.dg z.natAbs)=z:=by
 unfold wv zs;simp only[M6.bZ];cases h:isNeg z with
 |true=>have:=oI.1 h;simp only[cond_true];omega
 |false=>have:=jB.1 h;simp only[cond_false];omega
theorem gI{z:Int}(h:bl z.natAbs<=524288):gY (isNeg z,M6.dg z.natAbs):=by
 refine⟨M6.aZ _,fun hn=>?_,gA (k:=8192) (by omega)⟩;rw[M6.bZ];have:=oI.1 hn;omega
theorem aCM{n:Nat}(h:(M6.dg n).length<=8192):bl n<=524288:=by
 have:=zE (M6.mF n) h;rw[M6.bZ]at this;omega
theorem gY.bl{x:Bool×List Int}(h:gY x):bl (M6.val x.2)<=524288:=by
 have:=zE h.1.lM h.len;omega
def wE(ok:Bool)(z:Int):List D:=[wD (bif ok then z else 0),.s (.sc (.int .i64 (bif ok then 0 else 5)))]
theorem Kk(neg ok:Bool)(n:Nat):[D.agg [.sc (.bool (isNeg (bif (bif ok then(0:Int)else 5)==0 then zs neg (M6.val (bif ok then M6.dg n else []))else 0))),.ints .u64 (M6.dg (bif (bif ok then(0:Int)else 5)==0 then zs neg (M6.val (bif ok then M6.dg n else []))else 0).natAbs)],D.s (.sc (.int .i64 (bif ok then 0 else 5)))]=wE ok (zs neg n):=by
 cases ok with
 |true=>rw[cond_true,cond_true,show((0:Int)==0)=true from rfl,cond_true,M6.bZ];rfl
 |false=>rfl
theorem Lh{ok:Bool}{n:Nat}(h:ok=true->bl n<=524288):M6.cV (bif ok then M6.dg n else [])/\(bif ok then M6.dg n else []).length<=1099511627776:=by
 cases ok with
 |true=>have:=gA (n:=n) (k:=8192) (by have:=h rfl;omega);exact⟨M6.aZ _,by rw[cond_true];omega⟩
 |false=>exact⟨M6.Le,by simp⟩
theorem Cs{n:Nat}:decide ((M6.dg n).length<=8192)=fit n:=by
 unfold fit
 by_cases h:bl n<=524288
 ·rw[decide_eq_true h,decide_eq_true (gA (k:=8192) (by omega))]
 ·rw[decide_eq_false h,decide_eq_false (fun hl=>h (aCM hl))]
theorem yR{n:Nat}(h:fit n=true):bl n<=524288:=of_decide_eq_true h
end M
namespace M
open Go AI
abbrev gQ:=Bool×List Int×Int
def aR(x:gQ):Prop:=gY (x.1,x.2.1)/\(-1048576<=x.2.2/\x.2.2<=1048576)/\(M6.val x.2.1=0->x.2.2=0)/\(M6.val x.2.1≠0->M6.val x.2.1%2=1)
def dv(x:gQ):Int×Int:=(wv (x.1,x.2.1),x.2.2)
def dD(p:Int×Int):D:=.agg [.sc (.bool (isNeg p.1)),.ints .u64 (M6.dg p.1.natAbs),.sc (.int .i64 p.2)]
def dE(ok:Bool)(p:Int×Int):List D:=[dD (bif ok then p else(0,0)),.s (.sc (.int .i64 (bif ok then 0 else 5)))]
def aN(z e:Int):Int×Int:=if z=0 then(0,0)else(z/((2^tz z.natAbs:Nat):Int),e+(tz z.natAbs:Nat))
def iF(z e:Int):Bool:=decide (z=0)||(decide (-1048576<=e+(tz z.natAbs:Nat))&&decide (e+(tz z.natAbs:Nat)<=1048576))
theorem aR.Ez{x:gQ}(h:aR x):gY (x.1,x.2.1):=h.1
theorem aR.len{x:gQ}(h:aR x):x.2.1.length<=8192:=h.1.len
theorem aR.Jy{x:gQ}(h:aR x):M6.cV x.2.1:=h.1.1
theorem aR.dD{x:gQ}(h:aR x):M.dD (dv x)=.agg [.sc (.bool x.1),.ints .u64 x.2.1,.sc (.int .i64 x.2.2)]:=by
 have:=h.Ez.cells;unfold M.dD dv;dsimp only at *;rw[this.1,this.2]
theorem Ey{b:Bool}{n:Nat}:zs b n=0↔n=0:=by
 have:=mB b n;omega
theorem aWV{b:Bool}{n q:Nat}(hq:0<q)(h:n%q=0):zs b n/(q:Int)=zs b (n/q):=by
 have hd:=cDZ n q;have e:n=q*(n/q):=by omega
 cases b with
 |false =>
  show((n:Nat):Int)/(q:Int)=((n/q:Nat):Int);rw[cEO]
 |true =>
  show -(n:Int)/(q:Int)=-((n/q:Nat):Int);have e1:-(n:Int)=(q:Int)*(-((n/q:Nat):Int)):=by rw[Int.mul_neg,<-cEP,<-e]
  rw[e1,Int.mul_ediv_cancel_left _ (by omega)]
theorem Fb{n:Nat}(h:n≠0):tz n<bl n:=by
 have h1:=Lu h;exact rN.2 h1
def kE(p:Int×Int):Prop:=bl p.1.natAbs<=524288/\(-1048576<=p.2/\p.2<=1048576)/\(p.1=0->p.2=0)/\(p.1≠0->p.1%2=1)
theorem dX(p:Int×Int):dv (isNeg p.1,M6.dg p.1.natAbs,p.2)=p:=by
 unfold dv;dsimp only;rw[nW]
theorem dP{p:Int×Int}(h:kE p):aR (isNeg p.1,M6.dg p.1.natAbs,p.2):=by
 obtain⟨h1,h2,h3,h4⟩:=h;refine⟨gI h1,h2,fun hz=>h3 ?_,fun hz=>?_⟩
 ·dsimp only at hz;rw[M6.bZ]at hz;omega
 ·dsimp only at hz ⊢;rw[M6.bZ]at hz ⊢;have:=h4 (by omega);omega
theorem aR.wL{x:gQ}(h:aR x):kE (dv x):=by
 obtain⟨h1,h2,h3,h4⟩:=h;have ha:=iT (x.1,x.2.1);dsimp only at ha;refine⟨?_,h2,fun hz=>h3 ?_,fun hz=>?_⟩
 ·show bl (wv _).natAbs<=_;rw[ha];exact h1.bl
 ·have hz:wv (x.1,x.2.1)=0:=hz;omega
 ·have hz:wv (x.1,x.2.1)≠0:=hz;have:=h4 (by omega);show wv (x.1,x.2.1)%2=1;omega
theorem kE.neg{p:Int×Int}(h:kE p):kE (-p.1,p.2):=by
 obtain⟨h1,h2,h3,h4⟩:=h;refine⟨by dsimp only;rwa [cFE],h2,fun hz=>h3 (by dsimp only at hz;omega),fun hz=>?_⟩;have:=h4 (by dsimp only at hz;omega);dsimp only;omega
theorem bXR{z:Int}{m n:Nat}(hm:bl z.natAbs<=m)(hn:bl z.natAbs<=n):z/((2^m:Nat):Int)=z/((2^n:Nat):Int):=by
 have one:∀k,bl z.natAbs<=k->z/((2^k:Nat):Int)=if z<0 then -1 else 0:=by
  intro k hk;have h:=dG.1 hk;have hp:0<2^k:=cBT (by decide);generalize 2^k=q at *
  by_cases hz:z<0
  ·rw[if_pos hz];have e:z=(q+z)+(q:Int)*(-1):=by omega
   rw[e,Int.add_mul_ediv_left _ _ (by omega),cGB (by omega) (by omega)];rfl
  ·rw[if_neg hz,cGB (by omega) (by omega)]
 rw[one m hm,one n hn]
theorem uT{z:Int}{q:Nat}(hq:0<q):(z/(q:Int)).natAbs<=z.natAbs:=by
 have h:=Int.mul_ediv_add_emod z (q:Int);have h1:=Int.emod_nonneg z (show(q:Int)≠0 by omega);have h2:=Int.emod_lt_of_pos z (show 0<(q:Int) by omega)
 by_cases hz:0<=z
 ·have h3:0<=z/(q:Int):=Int.ediv_nonneg hz (by omega);have h4:z/(q:Int)<=z:=Int.ediv_le_self _ hz;omega
 ·have h3:z/(q:Int)<0:=Int.ediv_neg_of_neg_of_pos (by omega) (by omega);have h4:(q:Int)*(z/(q:Int)+1)<=1*(z/(q:Int)+1):=Int.mul_le_mul_of_nonpos_right (by omega) (by omega);rw[Int.mul_add]at h4;omega
end M
open Go.Value(int bool slice)
open AI.S(sc ints)
namespace W
open Go AI M
def mE(t:List (Nat×dK))(n:Nat)(o:List Nat)(k:List (Nat×List Nat))(c:List Nat):Env:={({base with C:=callsOf t})with nt:=n,own:=o,keep:=fun j=>(tlook k j).getD [],cut:=fun j=>bif c.elem j then tlook k j else none}
noncomputable def bd(f:Func):Code:=f.body.getD .skip
def vA(s:S):KV:=(A.v (V.one (L.s s)),none)
def iZ(l:List Int):KV:=vA (S.ints .u64 l)
def vaI3(l:List Int):KV:=vA (S.ints .u32 l)
def cA(n:Int):KV:=vA (S.sc (.int .i64 n))
def cY(n:Int):KV:=vA (S.sc (.int .u64 n))
def Jv(b:Bool):KV:=vA (S.sc (.bool b))
def dR(i e:Nat)(c:List S):KV:=(A.v (V.one (L.ptr i 0)),some ⟨e,.cells c⟩)
def dC(n:Int):S:=S.sc (.int .i64 n)
def aAK(n:Int):S:=S.sc (.int .u64 n)
def cX(b:Bool):S:=S.sc (.bool b)
def gJ(l:List Int):S:=S.ints .u64 l
def vaJ_(l:List Int):S:=S.ints .u32 l
def Dx(i n e:Nat)(l:List Int):KV:=(A.v (V.one (L.buf i n)),some ⟨e,.ints .u64 l⟩)
abbrev jL{α:Type}(E:Env)(f:Func)(c:Code)(p:lB α)(g:α→Prop×List D):Prop:=∀x,(g x).1→aI E f c [p.put x]=some (g x).2
abbrev hI{α β:Type}(E:Env)(f:Func)(c:Code)(p:lB α)(q:lB β)(g:α→β→Prop×List D):Prop:=∀x y,(g x y).1→aI E f c [p.put x,q.put y]=some (g x y).2
abbrev pO{α β γ:Type}(E:Env)(f:Func)(c:Code)(p:lB α)(q:lB β)(r:lB γ)(g:α→β→γ→Prop×List D):Prop:=∀x y z,(g x y z).1→aI E f c [p.put x,q.put y,r.put z]=some (g x y z).2
abbrev Pd{α β γ δ:Type}(E:Env)(f:Func)(c:Code)(p:lB α)(q:lB β)(r:lB γ)(t:lB δ)(g:α→β→γ→δ→Prop×List D):Prop:=∀x y z u,(g x y z u).1→aI E f c [p.put x,q.put y,r.put z,t.put u]=some (g x y z u).2
abbrev aPW{α:Type}(E:Env)(f:Func)(c:Code)(p:lB α)(g:α→Prop×List D):Prop:=∀x,(g x).1→∃rs,aI E f c [p.put x]=some rs∧iQ rs (g x).2
abbrev Qx{α β:Type}(E:Env)(f:Func)(c:Code)(p:lB α)(q:lB β)(g:α→β→Prop×List D):Prop:=∀x y,(g x y).1→∃rs,aI E f c [p.put x,q.put y]=some rs∧iQ rs (g x y).2
abbrev bAO{α β γ:Type}(E:Env)(f:Func)(c:Code)(p:lB α)(q:lB β)(r:lB γ)(g:α→β→γ→Prop×List D):Prop:=∀x y z,(g x y z).1→∃rs,aI E f c [p.put x,q.put y,r.put z]=some rs∧iQ rs (g x y z).2
abbrev zQ:=pG (.pair sB (.pair (sI .u64) (.pair (sN .i64) (.pair sB (.pair (sI .u64) (sN .i64))))))
abbrev jO:=pG (.pair sB (.pair (sI .u64) (sN .i64)))
abbrev pZt:=pG (.pair sB (sI .u32))
abbrev oZ:=pG (.pair sB (sI .u64))
namespace iB
def E:=mE [] 20 [] [] []
def aF:=bd f144
theorem aX:Nk E aF:=nk
theorem start a:aI E f144 aF [D.s (ints u64 a)]=letI A:=(a.length:Int);letI B:=A-(1:Int);aB (decide (A<=(8192:Int))) (aB (A==(0:Int)) (some [D.s (sc (bool true))]) (if 0<=i64.wrap B/\i64.wrap B<A then some [D.s (sc (bool (a.getD (i64.wrap B).toNat 0 !=(0:Int))))]else none)) (some [D.s (sc (bool false))]):=eJ aX
def pT(a:List Int):Bool:=decide (a.length<=8192)&&(a.length==0||a.getD (a.length-1) 0 !=0)
theorem oJ{a:List Int}(h:M6.cV a)(hl:a.length<=8192):pT a=true:=by
 unfold pT;rw[decide_eq_true hl,cBV]
 by_cases hz:a.length=0
 ·simp[hz]
 ·have:=M6.getLast_take (a:=a) (n:=a.length-1) (by omega);rw[show a.length-1+1=a.length from by omega,cFF]at this;have:=h.top this;have e1:(a.getD (a.length-1) 0 !=0)=true:=by simpa using this
  rw[e1,cEQ]
def sp(a:List Int):Prop×List D:=(a.length<=1099511627776,[.s (.sc (.bool (pT a)))])
theorem spec:jL E f144 aF (pI .u64) sp:=by
 intro a h;have hl:a.length<=1099511627776:=h;refine(start a).trans ?_;show _=some [D.s (.sc (.bool (pT a)))];unfold pT
 by_cases h1:a.length<=8192
 ·rw[aQ,decide_eq_true h1,cBV]
  by_cases hz:a.length=0
  ·rw[cD];simp[hz]
  ·have e:((a.length:Int)-1).toNat=a.length-1:=by omega
   rw[bJ,wrap_i64 (n:=(a.length:Int)-1),aW,e];simp[hz]
 ·rw[aL,decide_eq_false h1];rfl
def aJ:dK:=orc1 (pI .u64) sp
theorem ok:OK 144 aJ:=(fJ E aF aD func144).qB rfl spec
end iB
namespace fW
def E:=mE [(144,iB.aJ)] 17 [] [] []
def aF:=bd f96
theorem aX:Nk E aF:=nk
theorem start a b:aI E f96 aF [D.agg [sc (bool a),ints u64 b]]=aO (b.length<=1099511627776) (aB (iB.pT b) (aB a (some [D.s (sc (bool !(b.length:Int)==(0:Int)))]) (some [D.s (sc (bool true))])) (some [D.s (sc (bool false))])):=eJ aX
def oN(x:Bool×List Int):Bool:=iB.pT x.2&&!(x.1&&((x.2.length:Int)==0))
theorem lK{x:Bool×List Int}(h:gY x):oN x=true:=by
 unfold oN;rw[iB.oJ h.1 h.len,cBV];cases hx:x.1 with
 |false=>rfl
 |true =>
  have:=h.2.1 hx;have hz:x.2.length≠0:=fun hl=>this ((M6.eF h.1).1 hl)
  rw[cBV,beq_eq_false_iff_ne.2 (by omega)];rfl
def sp(x:Bool×List Int):Prop×List D:=(x.2.length<=1099511627776,[.s (.sc (.bool (oN x)))])
theorem spec:jL E f96 aF oZ sp:=by
 intro x h;have hl:x.2.length<=1099511627776:=h;refine(start x.1 x.2).trans ?_;show _=some [D.s (.sc (.bool (oN x)))];unfold oN;rw[gP hl];cases iB.pT x.2 with
 |false=>rfl
 |true=>cases x.1 <;> rfl
def aJ:dK:=orc1 oZ sp
theorem ok:OK 96 aJ:=(fJ E aF (aA iB.ok aD) func96).qB rfl spec
end fW
namespace nA
def E:=mE [] 8 [] [] []
def aF:=bd f46
theorem aX:Nk E aF:=nk
theorem start a b c:aI E f46 aF [D.agg [sc (bool a),ints u64 b,sc (int i64 c)]]=some [D.s (sc (bool ((b.length:Int)==(0:Int))))]:=eJ aX
def sp(x:gQ):Prop×List D:=(True,[.s (.sc (.bool ((x.2.1.length:Int)==0)))])
theorem spec:jL E f46 aF jO sp:=fun x h=>start x.1 x.2.1 x.2.2
def aJ:dK:=orc1 jO sp
theorem ok:OK 46 aJ:=(fJ E aF aD func46).qB rfl spec
end nA
namespace mL
def E:=mE [(96,fW.aJ),(46,nA.aJ)] 29 [] [(3,[1])] [3]
def aF:=bd f45
theorem aX:Nk E aF:=nk
def J3 a b c:=mU E f45 aF 3 [dR 0 29 [cX a,gJ b,dC c]]
theorem start a b c:aI E f45 aF [D.agg [sc (bool a),ints u64 b,sc (int i64 c)]]=letI A:=some [D.s (sc (bool false))];aO (b.length<=1099511627776) (aB (!fW.oN (a,b)) A (aB (decide (c<(-1048576:Int))) A (aB (decide (1048576<c)) A (mL.J3 a b c)))):=eJ aX
theorem iL a b c:J3 a b c=aO True (aB ((b.length:Int)==(0:Int)) (some [D.s (sc (bool (c==0)))]) (if(0:Int)<=(0:Int)/\0<(b.length:Int)then some [D.s (sc (bool (gN BinOp.and u64 (b.getD 0 0) 1==(1:Int))))]else none)):=cJ aX
def sp(x:gQ):Prop×List D:=(aR x,[.s (.sc (.bool true))])
theorem aSM{a:List Int}(h:M6.cV a)(hv:M6.val a%2=1):gN .and .u64 (a.getD 0 0) 1=1:=by
 have g:=h.lM.get 0;rw[Zl g.1 g.2 (by omega) (by omega)];have e:M6.val a=(a.getD 0 0).toNat+18446744073709551616*M6.val (a.drop 1):=by
  have:=M6.kJ (a:=a) 0;rwa [cFG]at this
 have e1:(a.getD 0 0).toNat &&& (1:Int).toNat=(a.getD 0 0).toNat%2:=Nat.and_one_is_mod _;rw[e1];omega
theorem spec:jL E f45 aF jO sp:=by
 intro x h;have h:aR x:=h;have hl:=h.len;have hf:=fW.lK h.Ez;have hn:=h.Jy;obtain⟨b,a,e⟩:=x;obtain⟨hw,he,h0,h1⟩:=h;refine(start b a e).trans ?_
 try dsimp only at *
 unfold sp
 try dsimp only
 rw[gP,hf,cAT,bF,aL,aL,iL,gP trivial]
 try dsimp only
 by_cases hz:a.length=0
 ·rw[cD,h0 ((M6.eF hn).1 hz)];rfl
 ·rw[bJ,if_pos ⟨by omega,by omega⟩,aSM hn (h1 (fun hv=>hz ((M6.eF hn).2 hv)))];rfl
def aJ:dK:=orc1 jO sp
theorem ok:OK 45 aJ:=(fJ E aF (aA fW.ok (aA nA.ok aD)) func45).qB rfl spec
end mL
namespace Clone
def Qb:Go.Shelf.Ren:=⟨fun |41=>97 |n=>n,fun |22=>25 |23=>22 |4=>4 |n=>n,fun |n=>n⟩
theorem Hx:Go.Proofs.SlLaysE0.n41 prog Qb:={
 mixed:=by kernel_rfl
 f41:=⟨f97.name,by decide,func97.trans (congrArg some (by kernel_rfl))⟩
 t4:=Tryz.underlying4
 a4:=Tryz.isAgg4
 z4:=Tryz.sizeOf4
 v4:=Tryz.zeroValue4
 t22:=Tryz.underlying25
 a22:=Tryz.isAgg25
 z22:=Tryz.sizeOf25
 v22:=Tryz.zeroValue25 }
def sp(a:List Int):Prop×List D:=(a.length<=1099511627776,[.s (.ints .u64 a)])
section
open Go.Shelf Go.RowKit Go.Lib
set_option maxHeartbeats 2000000
set_option maxRecDepth 100000
theorem zero{P:Program}{ρ:Ren}(L:SlLaysE0.n41 P ρ)(i0:TypeInfo)(z:Value)(bytes:Nat)(hi:P.info? (ρ.t 23)=some i0)(aHM:i0.zero=some z)(aYC:i0.size=1)(aJO:i0.bytes=bytes)(aFE:z.cells.size=1)
  (z23:∀w,(Go.sizeOf (ρ.t 23)).run P w=.ok 1 w) (a:Addr) (c:Nat) (w:World) :
  Calls P (ρ.f 41) #[.slice (some a) 0 c] w fun e w'=>∃v',e=.returned v'/\w'.ownsRow w.heap.size (ρ.t 23) 1 v' 0 []/\Below w.heap.size w w':=by
 have mixed:=L.mixed;have t4:=L.t4;have a4:=L.a4;have z4:=L.z4;have v4:=L.v4;have t22:=L.t22;have a22:=L.a22;have z22:=L.z22;have v22:=L.v22;have q22:∀(w:World) (a:Option Addr) (n c n' c':Nat),(binOp .eql (ρ.t 22) (.slice a n c) (.slice none n' c')).run P w=.ok (.bool a.isNone) w:=fun w a n c n' c'=>Lib.run_eql_slice_nil w _ _ a n c n' c' L.t22
 have u22:∀w,Sem.run P (underlying (ρ.t 22)) w=.ok (TypeDesc.slice (ρ.t 23)) w:=run_underlying t22;obtain⟨_,_,FG⟩:=L.f41
 go_enter FG,SlBodyN.n41_ntmps ρ
 go_wp2_with (at_builtin;refine wpList_append_own _ rfl _ _ (ρ.t 22) rfl w.heap.size (ρ.t 23) i0 z 1 bytes t22 hi aHM aYC aJO aFE (by decide) _ _ _ rfl (World.ownsRow_made w #[] 0 (bYT _) (cEU _) (by simp)) a 0 c [] rfl rfl (by intro j u hj;simp at hj) (by intro u hu;cases hu) (by unfold maxLen;omega) (by omega) (by simp) ?_)
 intro v' w1 tP bFL bEU
 go_wp2
 go_ret
 exact⟨v',rfl,by simpa using tP,((Below.refl _ w).alloc (bYT _) _).grown bFL (by simp) (by intro k hk;simp[Value.ownBlock]at hk;omega)⟩
end
theorem aLY{X:Nat->Prop}{w:World}{base:Nat}{e:TypeId}{v:Value}{a:List Int}(hX:∀b,X b->b<base)(h:w.ownsRow base e 1 v a.length (a.map (Value.int .u64))):oT X w (.ints .u64 a) v:=by
 obtain⟨_,⟨rfl,h0⟩ |⟨g,cap,cur,rfl,hg,hb,hn,hm,hs,ht⟩⟩:=h
 ·have:a=[]:=List.length_eq_zero_iff.1 h0;subst this;exact⟨none,0,rfl,bYT _,fun i n hn=>by simp at hn⟩
 ·refine⟨some ⟨g,0,none⟩,cap,rfl,hn,fun i n hi=>⟨g,0,rfl,?_,fun hx=>?_,?_⟩⟩
  ·exact(Array.getElem?_eq_some_iff.1 hb).1
  ·have:=hX g hx;omega
  ·have kD:i<a.length:=(List.getElem?_eq_some_iff.1 hi).1;have e1:(cur.toList.take (a.length*1))[i]?=some (Value.int .u64 n):=by
    rw[ht,bYX,hi];rfl
   rw[List.getElem?_take,aW]at e1;simp only[World.cell?,hb,bYV];simpa using e1
theorem aSK{Y:Nat->Prop}{base:Nat}{w:World}{d:D}{v:Value}(hd:kX d=false)(h:mI Y w d v):Wa Y base w [d] [v]:=by
 refine⟨fun _=>0,rfl,fun i j d1 d2 h1 h2 o1 _ _=>?_,fun i d1 v1 h1 h2=>?_⟩
 ·have:d1=d:=by
   match i with
   |0=>simpa using h1.symm
   |i+1=>simp at h1
  rw[this,hd]at o1;cases o1
 ·have h3:d1=d/\v1=v:=by
   match i with
   |0=>exact⟨by simpa using h1.symm,by simpa using h2.symm⟩
   |i+1=>simp at h1
  obtain⟨rfl,rfl⟩:=h3;have e:(fun b=>Y b\/∃(j:Nat) (d':D),[d1][j]?=some d'/\kX d'=true/\(fun _:Nat=>0) j=b)=Y:=by
   funext b;refine propext ⟨fun hh=>?_,.inl⟩;rcases hh with hh |⟨j,d',h4,h5,_⟩
   ·exact hh
   ·match j with
    |0 =>
     have:d'=d1:=by simpa using h4.symm
     rw[this,hd]at h5;cases h5
    |j+1=>simp at h4
  rw[e];cases d1 with
  |own=>cases hd
  |_=>exact h
theorem aPH(a:List Int)(hl:a.length<=1099511627776):Contract prog base.glob 97 [(pI .u64).put a] [.s (.ints .u64 a)]:=by
 intro Y w vs hY hG hlen hargs;obtain⟨v,rfl⟩:∃v,vs=[v]:=by
  match vs,hlen with
  | [v],_=>exact⟨v,rfl⟩
 obtain⟨A,c,rfl,hc,kM⟩:oT Y w (.ints .u64 a) v:=hargs 0 _ _ rfl rfl;have t1:=sT gW _ rfl;obtain⟨i0,hi,hs,bFW,z,hz,Qe⟩:=t1.i;have z23:=fun w=>t1.run_sizeOf (w:=w)
 have fin:∀(e:Ending) (w':World),(∃v',e=.returned v'/\w'.ownsRow w.heap.size gW 1 v' a.length (a.map (Value.int .u64))/\RowKit.Below w.heap.size w w')->∃tF,e=.returned (resV tF)/\RowKit.Below w.heap.size w w'/\Wa Y w.heap.size w' [.s (.ints .u64 a)] tF:=by
  rintro e w' ⟨v',rfl,ho,hb⟩;exact⟨[v'],rfl,hb,aSK rfl (aLY hY ho)⟩
 have aFE:z.cells.size=1:=by
  have:=congrArg List.length Qe;simpa using this
 cases A with
 |none =>
  have ha:a=[]:=by
   cases a with
   |nil=>rfl
   |cons x r=>obtain⟨b,off,h1,_⟩:=kM 0 x rfl;cases h1
  subst ha;refine(AnyE.slices_Clone_nil Hx 0 c w).mono ?_;rintro e w' ⟨rfl,rfl⟩;exact fin _ _ ⟨_,rfl,⟨rfl,.inl ⟨rfl,rfl⟩⟩,RowKit.Below.refl _ _⟩
 |some ad =>
  cases a with
  |nil =>
   refine(zero Hx i0 z _ hi hz hs bFW aFE z23 ad c w).mono ?_;rintro e w' ⟨v',rfl,ho,hb⟩;exact fin _ _ ⟨v',rfl,ho,hb⟩
  |cons x r =>
   obtain⟨b,off,h1,_⟩:=kM 0 x rfl;cases h1;refine(AnyE.slices_Clone Hx i0 z 1 _ hi hz hs bFW aFE (by decide) z23 b off (x :: r).length c ((x :: r).map (Value.int .u64)) w (by simp) (by unfold maxLen;omega) (by show(x :: r).length*8<=_;omega) ?_ ?_).mono ?_
   ·intro j u hj;rw[bYX]at hj;obtain⟨n,hn,rfl⟩:=Option.map_eq_some_iff.1 hj;obtain⟨b',bDG,h2,_,_,h3⟩:=kM j n hn;cases h2;exact h3
   ·intro u hu;obtain⟨n,_,rfl⟩:=List.mem_map.1 hu;rfl
   ·rintro e w' ⟨v',rfl,ho,_,hb⟩;exact fin _ _ ⟨v',rfl,ho,hb⟩
theorem bMN:pE prog 97:=pM func97 rfl rfl
def aJ:dK:=orc1 (pI .u64) sp
theorem ok:lO prog base.glob 97 aJ:=by
 intro ds g rs hd hg;unfold aJ orc1 at hd;split at hd
 ·split at hd
  ·rename_i x hx;have hd:=Option.some.inj hd;have e1:g=(sp x).1:=by rw[hd]
   have e2:rs=(sp x).2:=by rw[hd]
   subst e1;subst e2;exact⟨(aPH x hg).bJQ ((pI .u64).le hx),bMN⟩
  ·cases hd
 ·cases hd
end Clone
namespace Gx
def E:=mE [(97,Clone.aJ)] 10 [] [] []
def aF:=bd f47
theorem aX:Nk E aF:=nk
theorem start a b c:aI E f47 aF [D.agg [sc (bool a),ints u64 b,sc (int i64 c)]]=aO (b.length<=1099511627776) (some [D.agg [sc (bool a),ints u64 b,sc (int i64 c)]]):=eJ aX
def sp(x:gQ):Prop×List D:=(x.2.1.length<=1099511627776,[.agg [.sc (.bool x.1),.ints .u64 x.2.1,.sc (.int .i64 x.2.2)]])
theorem spec:jL E f47 aF jO sp:=fun x h=>(start x.1 x.2.1 x.2.2).trans (gP h)
def aJ:dK:=orc1 jO sp
theorem ok:OK 47 aJ:=(fJ E aF (aA Clone.ok aD) func47).qB rfl spec
end Gx
namespace Bu
def E:=mE [] 21 [] [(2,[0,3])] []
def aF:=bd f147
theorem aX:Nk E aF:=nk
def L2 a b:=tM E f147 aF 2 [iZ a,cA b]
theorem start a:aI E f147 aF [D.s (ints u64 a)]=Bu.L2 a (a.length:Int):=eJ aX
theorem mK a b:L2 a b=letI B:=(a.length:Int);letI A:=ints u64 (List.drop 0 (List.take b.toNat a));aB (decide (0<b)) (if 0<=i64.wrap (b-1)/\i64.wrap (b-1)<B then aB (a.getD (i64.wrap (b-1)).toNat 0==(0:Int)) (Bu.L2 a (i64.wrap (b-1))) (if(0:Int)<=(0:Int)/\0<=b/\b<=B then some [D.s A]else none)else none) (if(0:Int)<=(0:Int)/\0<=b/\b<=B then some [D.s A]else none):=lJ aX
def sp(a:List Int):Prop×List D:=(M6.dJ a/\a.length<=1099511627776,[.s (.ints .u64 (M6.dg (M6.val a)))])
theorem L{xs:List Int}(hd:M6.dJ xs)(hl:xs.length<=4398046511104):∀n:Nat,n<=xs.length->L2 xs n=some [D.s (.ints .u64 (M6.dg (M6.val (xs.take n))))]
 |0,h=>by
  rw[mK,aL,aW];simp[M6.val,M6.cT]
 |n+1,h=>by
  rw[mK];have e:i64.wrap (((n+1:Nat):Int)-1)=(n:Int):=by rw[wrap_i64];omega
  rw[e,aQ,aW,cCQ]
  by_cases hz:xs.getD n 0=0
  ·rw[cD hz,L hd hl n (by omega),M6.nJ (by omega),hz];simp
  ·rw[bJ hz,aW,cCQ,cFG];have:M6.cV (xs.take (n+1)):=M6.Hp (hd.take _) fun d hg=>by
    rw[M6.getLast_take (by omega)]at hg;cases hg;exact hz
   rw[<-this]
theorem spec:jL E f147 aF (pI .u64) sp:=by
 rintro a ⟨hd,hl⟩;refine(start a).trans ?_;rw[L hd (by omega) a.length (bYT _),cFF];rfl
def aJ:dK:=orc1 (pI .u64) sp
theorem ok:OK 147 aJ:=(fJ E aF aD func147).qB rfl spec
end Bu
namespace cU
def E:=mE [(147,Bu.aJ)] 10 [5] [] []
def aF:=bd f145
theorem aX:Nk E aF:=nk
theorem start a:aI E f145 aF [D.s (ints u64 a)]=aO (M6.dJ a/\a.length<=1099511627776) (aB (decide (8192<(↑(M6.dg (M6.val a)).length:Int))) (some [D.s (sc (slice none 0 0)),D.s (sc (int i64 5))]) (some [D.s (ints u64 (M6.dg (M6.val a))),D.s (sc (int i64 0))])):=eJ aX
def nL(n:Nat):Bool:=decide ((M6.dg n).length<=8192)
def sp(a:List Int):Prop×List D:=(M6.dJ a/\a.length<=1099511627776,[.s (.ints .u64 (bif nL (M6.val a)then M6.dg (M6.val a)else [])),.s (.sc (.int .i64 (bif nL (M6.val a)then 0 else 5)))])
theorem spec:aPW E f145 aF (pI .u64) sp:=by
 intro a h;have hl:=M6.uP h.1;have h2:=h.2;have e:=(start a).trans (gP h);unfold sp nL;simp only
 by_cases hc:(M6.dg (M6.val a)).length<=8192
 ·rw[aL]at e;rw[decide_eq_true hc];exact⟨_,e,iQ.refl _⟩
 ·rw[aQ]at e;rw[decide_eq_false hc];exact⟨_,e,.cons (Ag.nil _) (iQ.refl _)⟩
def aJ:dK:=orc1 (pI .u64) sp
theorem ok:OK 145 aJ:=(fJ E aF (aA Bu.ok aD) func145).bCQ rfl spec
end cU
namespace Ca
def aVB:ByteArray:=⟨((cAG 256).map fun n=>UInt8.ofNat (bl n)).toArray⟩
def E:=mE [] 25 [] [(4,[0,2]),(7,[0,2])] [4,7]
def aF:=bd f137
theorem aX:Nk E aF:=nk
def J4 a b:=mU E f137 aF 4 [cY a,cA b]
def J7 a b:=mU E f137 aF 7 [cY a,cA b]
theorem start a:aI E f137 aF [D.s (sc (int u64 a))]=aB (decide (4294967296<=a)) (Ca.J4 (a/4294967296) 32) (Ca.J4 a 0):=eJ aX
theorem Jt a b:J4 a b=aB (decide (65536<=a)) (Ca.J7 (a/65536) (i64.wrap (b+16))) (Ca.J7 a b):=cJ aX
theorem Pl a b:J7 a b=aB (decide (256<=a)) (if 0<=u8.wrap (a/256)/\u8.wrap (a/256)<256 then some [D.s (sc (int i64 (i64.wrap (i64.wrap (b+8)+i64.wrap (Jb aVB (u8.wrap (a/256)))))))]else none) (if 0<=u8.wrap a/\u8.wrap a<256 then some [D.s (sc (int i64 (i64.wrap (b+i64.wrap (Jb aVB (u8.wrap a))))))]else none):=cJ aX
theorem Ti:(cAG 256).all (fun n=>Jb aVB (n:Nat)==(bl n:Nat))=true:=by kernel_rfl
theorem Th{x:Int}(h:0<=x)(h':x<256):Jb aVB x=(bl x.toNat:Nat):=by
 have:=List.all_eq_true.1 Ti x.toNat (List.mem_range.2 (by omega));rw[show((x.toNat:Nat):Int)=x from by omega]at this;exact eq_of_beq this
theorem wrap_u8{x:Int}(h:0<=x)(h':x<256):u8.wrap x=x:=by
 show(if(false&&decide (x%256>=128))=true then x%256-256 else x%256)=x;rw[Int.emod_eq_of_lt h h'];simp
theorem vV{x:Int}{k:Nat}(h:(2:Int)^k<=x):bl x.toNat=k+bl (x/2^k).toNat:=by
 have hp:(0:Int)<2^k:=Int.pow_pos (by omega);have bUN:((2^k:Nat):Int)=2^k:=by rw[Int.natCast_pow];rfl
 obtain⟨n,rfl⟩:=cDX (show 0<=x by omega);rw[<-bUN]at h ⊢;rw[<-cEO,cCQ,cCQ];have h1:=cDZ n (2^k);have h2:=cBB n (cBT (n:=k) (show 0<2 by omega));have h3:n/2^k≠0:=by
  intro h0;have:=(Nat.div_eq_zero_iff_lt (cBT (n:=k) (show 0<2 by omega))).1 h0;omega
 have:=Im h2 h3;rw[show n%2^k+2^k*(n/2^k)=n from by omega]at this;exact this
theorem bRK{x n:Int}(h:0<=x)(h':x<65536)(hn:0<=n)(aHS:n<=1000):J7 x n=some [D.s (.sc (.int .i64 (n+(bl x.toNat:Nat))))]:=by
 rw[Pl]
 by_cases hc:256<=x
 ·have hb:bl (x/256).toNat<=8:=dG.2 (by omega);have hs:=vV (x:=x) (k:=8) (by omega);rw[show((2:Int)^8)=256 from rfl]at hs;rw[aQ hc,wrap_u8 (by omega) (by omega),if_pos ⟨by omega,by omega⟩,Th (by omega) (by omega),wrap_i64 (n:=n+8),wrap_i64 (n:=((bl (x/256).toNat:Nat):Int)) (by omega) (by omega),wrap_i64,hs];congr 5;omega
 ·have hb:bl x.toNat<=8:=dG.2 (by omega);rw[aL hc,wrap_u8 (by omega) (by omega),if_pos ⟨by omega,by omega⟩,Th (by omega) (by omega),wrap_i64 (n:=(bl x.toNat:Int)),wrap_i64]
theorem bRM{x n:Int}(h:0<=x)(h':x<4294967296)(hn:0<=n)(aHS:n<=500):J4 x n=some [D.s (.sc (.int .i64 (n+(bl x.toNat:Nat))))]:=by
 rw[Jt]
 by_cases hc:65536<=x
 ·have hs:=vV (x:=x) (k:=16) (by omega);rw[show((2:Int)^16)=65536 from rfl]at hs;rw[aQ hc,wrap_i64 (n:=n+16),bRK (by omega) (by omega) (by omega) (by omega),hs];congr 5;omega
 ·rw[aL hc,bRK (by omega) (by omega) (by omega) (by omega)]
def sp(a:Int):Prop×List D:=(0<=a/\a<18446744073709551616,[.s (.sc (.int .i64 (bl a.toNat:Nat)))])
theorem spec:jL E f137 aF (pN .u64) sp:=by
 rintro a ⟨h1,h2⟩;refine(start a).trans ?_;show _=some [D.s (.sc (.int .i64 (bl a.toNat:Nat)))]
 by_cases hc:4294967296<=a
 ·have hs:=vV (x:=a) (k:=32) (by omega);rw[show((2:Int)^32)=4294967296 from rfl]at hs;rw[aQ hc,bRM (by omega) (by omega) (by omega) (by omega),hs];congr 5
 ·rw[aL hc,bRM (by omega) (by omega) (by omega) (by omega)];congr 5;omega
def aJ:dK:=orc1 (pN .u64) sp
theorem ok:OK 137 aJ:=(fJ E aF aD func137).qB rfl spec
end Ca
namespace tA
def E:=mE [(147,Bu.aJ),(137,Ca.aJ)] 21 [] [] []
def aF:=bd f106
theorem aX:Nk E aF:=nk
theorem start a:aI E f106 aF [D.s (ints u64 a)]=letI B:=M6.dg (M6.val a);letI A:=(B.length:Int);letI C:=A-(1:Int);letI F:=i64.wrap C;aO (M6.dJ a/\a.length<=1099511627776) (aB (A==(0:Int)) (some [D.s (sc (int i64 0))]) (if 0<=i64.wrap C/\i64.wrap C<A then aO (0<=B.getD F.toNat 0/\B.getD F.toNat 0<(18446744073709551616:Int)) (some [D.s (sc (int i64 (i64.wrap (i64.wrap ((64:Int)*i64.wrap C)+(↑(bl (B.getD F.toNat 0).toNat):Int)))))])else none)):=eJ aX
def sp(a:List Int):Prop×List D:=(M6.dJ a/\a.length<=1099511627776,[.s (.sc (.int .i64 (bl (M6.val a):Nat)))])
theorem Rj(k:Nat):18446744073709551616^k=2^(64*k):=by rw[cFD]
theorem spec:jL E f106 aF (pI .u64) sp:=by
 intro a h;refine(start a).trans ((gP h).trans ?_);show _=some [D.s (.sc (.int .i64 (bl (M6.val a):Nat)))];have hl:=M6.uP h.1;have h2:=h.2;have hn:=M6.aZ (M6.val a);have hv:=M6.bZ (M6.val a);generalize M6.dg (M6.val a)=d at *;rw[<-hv]
 by_cases hz:d.length=0
 ·rw[cD,(M6.eF hn).1 hz];rfl
 ·have hd:=hn.lM.get (d.length-1);have hv:=M6.dT (a:=d) (d.length-1);rw[show d.length-1+1=d.length from by omega,M6.dV (bYT _)]at hv;have ht:d.getD (d.length-1) 0≠0:=by
   have:=M6.getLast_take (a:=d) (n:=d.length-1) (by omega);rw[show d.length-1+1=d.length from by omega,cFF]at this;exact hn.top this
  have hb:bl (d.getD (d.length-1) 0).toNat<=64:=dG.2 (by omega);have e:((d.length:Int)-1).toNat=d.length-1:=by omega
  rw[bJ,wrap_i64 (n:=(d.length:Int)-1),aW,e,gP hd,wrap_i64 (n:=64*((d.length:Int)-1)),wrap_i64,
   hv,Rj,Im (by rw[<-Rj];exact M6.jA hn.lM _) (by omega)]
  congr 5;omega
def aJ:dK:=orc1 (pI .u64) sp
theorem ok:OK 106 aJ:=(fJ E aF (aA Bu.ok (aA Ca.ok aD)) func106).qB rfl spec
end tA
namespace lC
def E:=mE [(144,iB.aJ),(145,cU.aJ),(106,tA.aJ)] 71 [68] [(12,[0,6,7,8,34,35])] []
def aF:=bd f98
theorem aX:Nk E aF:=nk
def bCM a b c (d:Nat) (e:List Int) f g:=tM E f98 aF 12 [iZ a,cA b,cA c,Dx 3 d 22 e,cA f,cA g]
theorem start a b:aI E f98 aF [D.s (ints u64 a),D.s (sc (int i64 b))]=letI C:=(a.length:Int);letI B:=sc (slice none 0 0);letI A:=i64.wrap (i64.wrap (b.tdiv 64)+C)+1;aB (decide (b<0)) (some [D.s B,D.s (sc (int i64 1))]) (aO (a.length<=1099511627776) (aB (!iB.pT a) (some [D.s B,D.s (sc (int i64 2))]) (aB (C==(0:Int)) (some [D.s B,D.s (sc (int i64 0))]) (aO (M6.dJ a/\a.length<=1099511627776) (aB (decide (i64.wrap ((524288:Int)-(↑(bl (M6.val a)):Int))<b)) (some [D.s B,D.s (sc (int i64 5))]) (if 0<=i64.wrap A/\i64.wrap A<=i64.wrap A/\i64.wrap A<=8796093022208 then lC.bCM a (i64.wrap (b.tdiv 64)) (b.tmod 64) (i64.wrap A).toNat (cAW (i64.wrap A).toNat (0:Int)) C 0 else none)))))):=eJ aX
theorem aQH a b c d e f g:bCM a b c d e f g=letI A:=i64.wrap (b+g)+1;aB (decide (g<f)) (if 0<=i64.wrap (b+g)/\i64.wrap (b+g)<(d:Int)then if 0<=g/\g<(a.length:Int)then if c<0 then none else if 0<=i64.wrap (b+g)/\i64.wrap (b+g)<(d:Int)then if 0<=g/\g<(a.length:Int)then if i64.wrap ((63:Int)-c)<0 then none else if 0<=i64.wrap A/\i64.wrap A<(d:Int)then lC.bCM a b c d ((e.set (i64.wrap (b+g)).toNat (gN BinOp.or u64 (e.getD (i64.wrap (b+g)).toNat 0) (u64.wrap (a.getD g.toNat 0*(↑((2:Nat)^min c.toNat 64):Int))))).set (i64.wrap A).toNat (a.getD g.toNat 0/(2:Int)/(↑((2:Nat)^min (i64.wrap ((63:Int)-c)).toNat 64):Int))) f (i64.wrap (g+1))else none else none else none else none else none) (aO (M6.dJ e/\e.length<=1099511627776) (some [D.s (ints u64 (bif cU.nL (M6.val e)then M6.dg (M6.val e)else [])),D.s (sc (int i64 (bif cU.nL (M6.val e)then(0:Int)else(5:Int))))])):=lJ aX
theorem step{a P:List Int}{c:Int}{q k i r:Nat}(ha:M6.dJ a)(hP:P.length=q+i)(hi:i<a.length)(hl:a.length<=8192)(hq:q<=8192)(hk:k<64)(h0:0<=c)(h1:c<((2^k:Nat):Int))(hr:i+(r+1)=a.length) :
  bCM a q k (q+a.length+1) (P ++ c :: cAW (r+1) 0) a.length i =
   bCM a q k (q+a.length+1) ((P ++ [c+(((a.getD i 0).toNat*2^k%18446744073709551616:Nat):Int)]) ++ (((a.getD i 0).toNat/2^(64-k):Nat):Int) :: cAW r 0) a.length ((i+1:Nat):Int):=by
 have g:=ha.get i;have w1:i64.wrap ((q:Int)+i)=((q+i:Nat):Int):=by rw[wrap_i64];omega
 have w2:i64.wrap (((q+i:Nat):Int)+1)=((q+i+1:Nat):Int):=by rw[wrap_i64];omega
 have w3:i64.wrap (63-(k:Int))=((63-k:Nat):Int):=by rw[wrap_i64];omega
 have m1:min k 64=k:=by omega
 have m2:min (63-k) 64=63-k:=by omega
 have bEJ:2^k<2^64:=cGC (by omega) hk;obtain⟨x,hx⟩:=cDX g.1;rw[aQH,aQ,w1,if_pos ⟨by omega,by omega⟩,if_pos ⟨by omega,by omega⟩,aP,if_pos ⟨by omega,by omega⟩,if_pos ⟨by omega,by omega⟩,w3,aP,w2,if_pos ⟨by omega,by omega⟩,
  cCQ,cCQ,cCQ,cCQ,cCQ,m1,m2,Ia hP,Hh hP,wrap_i64 (n:=(i:Int)+1),hx,cCQ]
 have Rv:u64.wrap ((x:Int)*((2^k:Nat):Int))=((x*2^k%18446744073709551616:Nat):Int):=by
  rw[fY,<-cEP,cGD];rfl
 have kD:x*2^k%18446744073709551616<18446744073709551616:=cBB _ (by omega);have bEO:gN .or .u64 c ((x*2^k%18446744073709551616:Nat):Int)=c+((x*2^k%18446744073709551616:Nat):Int):=by
  rw[Xk h0 (by generalize 2^k=p at *;omega) (by omega) (by omega),cCQ,Kn x k hk,Ho (by omega)];omega
 have Qg:(x:Int)/2/((2^(63-k):Nat):Int)=((x/2^(64-k):Nat):Int):=by
  have e:2^(64-k)=2*2^(63-k):=by rw[show 64-k=(63-k)+1 from by omega,cDS,cDR]
  rw[e,<-cEN,cEO,cEO];rfl
 rw[Rv,bEO,Qg];have hs:=Hh (pre:=P ++ [c+((x*2^k%18446744073709551616:Nat):Int)]) (i:=q+i+1) (by simp[hP]) 0 ((x/2^(64-k):Nat):Int) (cAW r 0);rw[cAO,cFH,<-cEB]at hs;rw[hs];rfl
theorem L{a:List Int}{q k:Nat}(ha:M6.cV a)(hl:a.length<=8192)(hq:q<=8192)(hk:k<64)(Pv:cU.nL (M6.val a*2^k*18446744073709551616^q)=true):∀(r i:Nat) (P:List Int) (c:Int),i+r=a.length->P.length=q+i->M6.dJ P->0<=c->c<((2^k:Nat):Int) ->
  M6.val P+18446744073709551616^(q+i)*c.toNat=18446744073709551616^q*(M6.val (a.take i)*2^k) ->
  bCM a q k (q+a.length+1) (P ++ c :: cAW r 0) a.length i=some [D.s (.ints .u64 (M6.dg (M6.val a*2^k*18446744073709551616^q))),D.s (.sc (.int .i64 0))]:=by
 intro r;have bEJ:2^k<2^64:=cGC (by omega) hk
 induction r with
 |zero =>
  intro i P c hi hP hd h0 h1 hv;have aBK:M6.val (P ++ c :: cAW 0 0)=M6.val a*2^k*18446744073709551616^q:=by
   rw[cEZ,M6.oU,hP,hv,M6.dV (by omega),cDR]
  have aWE:M6.dJ (P ++ c :: cAW 0 0):=by
   rw[cEZ];exact M6.oX hd ⟨h0,by generalize 2^k=p at *;omega⟩
  rw[aQH,aL,gP ⟨aWE,by simp;omega⟩,aBK,Pv];rfl
 |succ r ih =>
  intro i P c hi hP hd h0 h1 hv;have g:=ha.lM.get i;rw[step ha.lM hP (by omega) hl hq hk h0 h1 (by omega)];have kD:(a.getD i 0).toNat*2^k%18446744073709551616<18446744073709551616:=cBB _ (by omega);have aBP:=Kn (a.getD i 0).toNat k hk;have aVY:=Hf (a.getD i 0).toNat k hk;have Qg:(a.getD i 0).toNat/2^(64-k)<2^k:=by
   apply cEL;rw[<-cDU,show 64-k+k=64 from by omega];omega
  have aSY:c.toNat+(a.getD i 0).toNat*2^k%18446744073709551616<18446744073709551616:=by
   rw[aBP];have hm:(a.getD i 0).toNat%2^(64-k)<2^(64-k):=cBB _ (cZ);have e:(18446744073709551616:Nat)=2^k*2^(64-k):=by rw[<-cDU,show k+(64-k)=64 from by omega]
   have h3:2^k*((a.getD i 0).toNat%2^(64-k)+1)<=2^k*2^(64-k):=cBH _ hm;rw[<-e,cDT]at h3;omega
  refine ih (i+1) _ _ (by omega) (by simp[hP];omega) (M6.oX hd ⟨by omega,by omega⟩) (by omega) (by omega) ?_;rw[M6.oU,hP,M6.dT,cCQ,show q+(i+1)=(q+i)+1 from by omega,cDS,cDV];have e1:(c+(((a.getD i 0).toNat*2^k%18446744073709551616:Nat):Int)).toNat=c.toNat+(a.getD i 0).toNat*2^k%18446744073709551616:=by omega
  rw[e1];have e2:18446744073709551616^(q+i)*(c.toNat+(a.getD i 0).toNat*2^k%18446744073709551616)+18446744073709551616^(q+i)*(18446744073709551616*((a.getD i 0).toNat/2^(64-k)))=18446744073709551616^(q+i)*c.toNat+18446744073709551616^(q+i)*((a.getD i 0).toNat*2^k):=by
   rw[<-cDT,<-cDT];congr 1;omega
  have e3:18446744073709551616^q*((M6.val (a.take i)+18446744073709551616^i*(a.getD i 0).toNat)*2^k)=18446744073709551616^q*(M6.val (a.take i)*2^k)+18446744073709551616^(q+i)*((a.getD i 0).toNat*2^k):=by
   rw[Nat.add_mul,cDT,cDU,cDV,cDV]
  rw[e3];omega
def kG(n k:Nat):Bool:=decide (n=0)||decide (bl n+k<=524288)
def sp(a:List Int)(n:Int):Prop×List D:=(M6.cV a/\a.length<=8192/\0<=n/\n<4611686018427387904,[.s (.ints .u64 (bif kG (M6.val a) n.toNat then M6.dg (M6.val a*2^n.toNat)else [])),.s (.sc (.int .i64 (bif kG (M6.val a) n.toNat then 0 else 5)))])
theorem spec:Qx E f98 aF (pI .u64) (pN .i64) sp:=by
 rintro a n ⟨ha,hl,h0,h1⟩;have e:=start a n;have hb:=zE ha.lM hl;rw[aL,gP,iB.oJ ha hl,cAT,bF]at e;unfold sp kG;simp only
 by_cases hz:a.length=0
 ·have hv:=(M6.eF ha).1 hz;rw[cD]at e;rw[hv,Nat.zero_mul,M6.cT,decide_eq_true rfl,cED];exact⟨_,e,.cons (Ag.nil _) (iQ.refl _)⟩
 ·have hv:M6.val a≠0:=fun h=>hz ((M6.eF ha).2 h)
  rw[bJ,gP ⟨ha.lM,by omega⟩,wrap_i64 (n:=524288-(bl (M6.val a):Int))]at e;rw[decide_eq_false hv,cAU]
  by_cases hc:bl (M6.val a)+n.toNat<=524288
  ·have bQK:=qJ hv;have eq:n/64=((n.toNat/64:Nat):Int):=by omega
   have ek:n%64=((n.toNat%64:Nat):Int):=by omega
   rw[aL,aKZ h0,aKV h0,wrap_i64 (n:=n/64),wrap_i64 (n:=n/64+a.length),wrap_i64,if_pos ⟨by omega,by omega,by omega⟩,eq,ek,
    show(((n.toNat/64:Nat):Int)+(a.length:Int)+1).toNat=n.toNat/64+a.length+1 from by omega]at e
   have hval:M6.val a*2^n.toNat=M6.val a*2^(n.toNat%64)*18446744073709551616^(n.toNat/64):=by
    rw[Ms,cDV,cDR (2^(n.toNat%64))]
   have Pv:cU.nL (M6.val a*2^(n.toNat%64)*18446744073709551616^(n.toNat/64))=true:=by
    rw[<-hval];exact decide_eq_true (gA (k:=8192) (by rw[cDR,zD hv];omega))
   have:=L (q:=n.toNat/64) (k:=n.toNat%64) ha hl (by omega) (by omega) Pv a.length 0 (cAW (n.toNat/64) 0) 0 (by omega) (by simp) (M6.lS _) (by omega) (by have:=cBT (n:=n.toNat%64) (show 0<2 by omega);omega) (by rw[M6.kR];simp[M6.val]);rw[show(cAW (n.toNat/64) (0:Int) ++ 0 :: cAW a.length 0)=cAW (n.toNat/64+a.length+1) 0 from by rw[<-cEB,List.replicate_append_replicate,cCK]]at this;rw[decide_eq_true hc,hval];exact⟨_,e.trans this,iQ.refl _⟩
  ·rw[aQ]at e;rw[decide_eq_false hc];exact⟨_,e,.cons (Ag.nil _) (iQ.refl _)⟩
def aJ:dK:=orc2 (pI .u64) (pN .i64) sp
theorem ok:OK 98 aJ:=(fJ E aF (aA iB.ok (aA cU.ok (aA tA.ok aD))) func98).aQO rfl spec
end lC
namespace Eu
def E:=mE [] 13 [] [] []
def aF:=bd f105
theorem aX:Nk E aF:=nk
theorem start a b:aI E f105 aF [D.s (sc (bool a)),D.s (ints u64 b)]=aB a (some [D.agg [sc (bool (decide (0<(b.length:Int)))),ints u64 b]]) (some [D.agg [sc (bool false),ints u64 b]]):=eJ aX
def sp(a:Bool)(b:List Int):Prop×List D:=(M6.cV b/\b.length<=1099511627776,[wD (zs a (M6.val b))])
theorem spec:hI E f105 aF pB (pI .u64) sp:=by
 rintro a b ⟨hb,hl⟩;refine(start a b).trans ?_;show _=some [wD (zs a (M6.val b))];rw[bCS,<-hb];cases a with
 |false=>rfl
 |true =>
  rw[bT,cBV];have:=M6.eF hb
  by_cases hz:b.length=0
  ·rw[decide_eq_false (show ¬(0<(b.length:Int)) by omega),decide_eq_false (show ¬(M6.val b≠0)from fun h=>h (this.1 hz))]
  ·rw[decide_eq_true (show(0<(b.length:Int)) by omega),decide_eq_true (show(M6.val b≠0)from fun h=>hz (this.2 h))]
def aJ:dK:=orc2 pB (pI .u64) sp
theorem ok:OK 105 aJ:=(fJ E aF aD func105).nF rfl spec
end Eu
namespace By
def E:=mE [(105,Eu.aJ)] 15 [] [] []
def aF:=bd f99
theorem aX:Nk E aF:=nk
theorem start a b c:aI E f99 aF [D.s (sc (bool a)),D.s (ints u64 b),D.s (sc (int i64 c))]=aB (c !=0) (some [D.agg [sc (bool false),sc (slice none 0 0)],D.s (sc (int i64 c))]) (aO (M6.cV b/\b.length<=1099511627776) (some [D.agg [sc (bool (isNeg (zs a (M6.val b)))),ints u64 (M6.dg (zs a (M6.val b)).natAbs)],D.s (sc (int i64 0))])):=eJ aX
def sp(a:Bool)(b:List Int)(c:Int):Prop×List D:=(M6.cV b/\b.length<=1099511627776,[wD (bif c==0 then zs a (M6.val b)else 0),.s (.sc (.int .i64 c))])
theorem spec:bAO E f99 aF pB (pI .u64) (pN .i64) sp:=by
 intro a b c h;have e:=start a b c;have hg:M6.cV b/\b.length<=1099511627776:=h;unfold sp;simp only
 by_cases hc:c=0
 ·subst hc;rw[gF rfl,gP hg]at e;exact⟨_,e,iQ.refl _⟩
 ·rw[nZ hc]at e;rw[beq_eq_false_iff_ne.2 hc,cond_false];refine⟨_,e,.cons ?_ (iQ.refl _)⟩;unfold wD;rw[show(0:Int).natAbs=0 from rfl,M6.cT];exact Ag.agg (.cons (Ep.refl _) (.cons (Ep.nil _) .nil))
def aJ:dK:=orc3 pB (pI .u64) (pN .i64) sp
theorem ok:OK 99 aJ:=(fJ E aF (aA Eu.ok aD) func99).bIZ rfl spec
end By
namespace Bz
def E:=mE [(96,fW.aJ),(98,lC.aJ),(99,By.aJ)] 29 [26] [] []
def aF:=bd f48
theorem aX:Nk E aF:=nk
theorem start a c b:aI E f48 aF [D.agg [sc (bool a),ints u64 c],D.s (sc (int i64 b))]=letI B:=bif lC.kG (M6.val c) b.toNat then(0:Int)else(5:Int);letI A:=bif lC.kG (M6.val c) b.toNat then M6.dg (M6.val c*(2:Nat)^b.toNat)else [];letI C:=bif B==0 then zs a (M6.val A)else(0:Int);aB (decide (b<0)) (some [D.agg [sc (bool false),sc (slice none 0 0)],D.s (sc (int i64 1))]) (aO (c.length<=1099511627776) (aB (!fW.oN (a,c)) (some [D.agg [sc (bool false),sc (slice none 0 0)],D.s (sc (int i64 2))]) (aO (M6.cV c/\c.length<=8192/\0<=b/\b<4611686018427387904) (aO (M6.cV A/\A.length<=1099511627776) (some [D.agg [sc (bool (isNeg C)),ints u64 (M6.dg C.natAbs)],D.s (sc (int i64 B))]))))):=eJ aX
theorem Ko(n k:Nat):lC.kG n k=fit (n*2^k):=by
 unfold lC.kG fit
 by_cases h:n=0
 ·subst h;rw[Nat.zero_mul];rfl
 ·rw[decide_eq_false h,cAU,cDR,zD h,cES]
def sp(x:Bool×List Int)(n:Int):Prop×List D:=(gY x/\0<=n/\n<4611686018427387904,wE (fit (M6.val x.2*2^n.toNat)) (wv x*((2^n.toNat:Nat):Int)))
theorem spec:hI E f48 aF oZ (pN .i64) sp:=by
 rintro x n ⟨hx,h0,h1⟩;refine(start x.1 x.2 n).trans ?_;have l1:=hx.len;have f1:=fW.lK hx;obtain⟨p,a⟩:=x;have n1:M6.cV a:=hx.1
 try dsimp only at *
 unfold sp
 try dsimp only
 have hs:wv (p,a)*((2^n.toNat:Nat):Int)=zs p (M6.val a*2^n.toNat):=by
  unfold wv zs;cases p with
  |true=>simp[Int.neg_mul]
  |false=>simp
 rw[aL,gP,f1,cAT,bF,gP ⟨n1,l1,h0,h1⟩,gP (Lh (fun h=>by rw[Ko]at h;exact yR h)),Kk,Ko,hs]
def aJ:dK:=orc2 oZ (pN .i64) sp
theorem ok:OK 48 aJ:=(fJ E aF (aA fW.ok (aA lC.ok (aA By.ok aD))) func48).nF rfl spec
end Bz
namespace uY
def E:=mE [(144,iB.aJ),(145,cU.aJ)] 65 [62] [(8,[0,1,6,7,30,31]),(3,[0,1]),(5,[0,1]),(13,[0,1,6,7,8,9,30,31])] [3,5,13]
def aF:=bd f100
theorem aX:Nk E aF:=nk
def J3 a b:=mU E f100 aF 3 [iZ a,iZ b]
def J5 a b:=mU E f100 aF 5 [iZ a,iZ b]
def L8 a b (c:Nat) (d:List Int) e f g:=tM E f100 aF 8 [iZ a,iZ b,Dx 2 c 22 d,cY e,cA f,cA g]
def Sw a b (c:Nat) (d:List Int) e f g h i:=mU E f100 aF 13 [iZ a,iZ b,Dx 2 c 22 d,cY e,cA f,cY g,cA h,cA i]
theorem start a b:aI E f100 aF [D.s (ints u64 a),D.s (ints u64 b)]=letI A:=some [D.s (sc (slice none 0 0)),D.s (sc (int i64 2))];aO (a.length<=1099511627776) (aB (!iB.pT a) A (aO (b.length<=1099511627776) (aB (!iB.pT b) A (uY.J3 a b)))):=eJ aX
theorem iL a b:J3 a b=aB (decide ((a.length:Int)<(b.length:Int))) (uY.J5 b a) (uY.J5 a b):=cJ aX
theorem Zt a b:J5 a b=letI A:=(a.length:Int);letI B:=A+(1:Int);if 0<=i64.wrap B/\i64.wrap B<=i64.wrap B/\i64.wrap B<=8796093022208 then uY.L8 a b (i64.wrap B).toNat (cAW (i64.wrap B).toNat (0:Int)) 0 A 0 else none:=cJ aX
theorem Jr a b c d e f g:L8 a b c d e f g=letI B:=(a.length:Int);letI A:=d.set B.toNat e;aB (decide (g<f)) (aB (decide (g<(b.length:Int))) (if 0<=g/\g<(b.length:Int)then uY.Sw a b c d e g (b.getD g.toNat 0) f g else none) (uY.Sw a b c d e g 0 f g)) (if 0<=B/\B<(c:Int)then aO (M6.dJ A/\A.length<=1099511627776) (some [D.s (ints u64 (bif cU.nL (M6.val A)then M6.dg (M6.val A)else [])),D.s (sc (int i64 (bif cU.nL (M6.val A)then(0:Int)else(5:Int))))])else none):=lJ aX
theorem zM a b c d e f g h i:Sw a b c d e f g h i=letI A:=a.getD f.toNat 0+g+e;if 0<=f/\f<(a.length:Int)then aO (0<=a.getD f.toNat 0/\0<=g/\0<=e/\e<=1) (if 0<=f/\f<(c:Int)then uY.L8 a b c (d.set f.toNat (A%18446744073709551616)) (A/18446744073709551616) h (i64.wrap (i+1))else none)else none:=cJ aX
theorem step{a b pre:List Int}{c:Int}{i k:Nat}(ha:M6.dJ a)(hb:M6.dJ b)(hp:pre.length=i)(hi:i<a.length)(hl:a.length<=8192)(h0:0<=c)(h1:c<=1) :
  L8 a b (i+(k+1)) (pre ++ cAW (k+1) 0) c a.length i=L8 a b ((i+1)+k) ((pre ++ [(a.getD i 0+b.getD i 0+c)%18446744073709551616]) ++ cAW k 0) ((a.getD i 0+b.getD i 0+c)/18446744073709551616) a.length ((i+1:Nat):Int):=by
 have g1:=ha.get i;have g2:=hb.get i;have hJ:∀y:Int,0<=y->Sw a b (i+(k+1)) (pre ++ cAW (k+1) 0) c i y a.length i=L8 a b ((i+1)+k) ((pre ++ [(a.getD i 0+y+c)%18446744073709551616]) ++ cAW k 0) ((a.getD i 0+y+c)/18446744073709551616) a.length ((i+1:Nat):Int):=by
  intro y hy;rw[zM,aW,cCQ,gP ⟨g1.1,hy,h0,h1⟩,aW,Ap hp,wrap_i64,show i+(k+1)=(i+1)+k from by omega];rfl
 rw[Jr,aQ]
 by_cases h:i<b.length
 ·rw[aQ,aW,cCQ,hJ _ g2.1]
 ·rw[aL,hJ 0 (by omega),M6.getD_none (a:=b) (by omega)]
theorem L{a b:List Int}(ha:M6.dJ a)(hb:M6.dJ b)(hl:a.length<=8192)(aWI:b.length<=a.length):∀(k i:Nat) (pre:List Int) (c:Int),i+k=a.length->pre.length=i->M6.dJ pre->0<=c->c<=1 ->
  M6.val pre+18446744073709551616^i*c.toNat=M6.val (a.take i)+M6.val (b.take i) ->
  L8 a b (i+(k+1)) (pre ++ cAW (k+1) 0) c a.length i=some [D.s (.ints .u64 (bif cU.nL (M6.val a+M6.val b)then M6.dg (M6.val a+M6.val b)else [])),D.s (.sc (.int .i64 (bif cU.nL (M6.val a+M6.val b)then 0 else 5)))]:=by
 intro k
 induction k with
 |zero =>
  intro i pre c hi hp hd h0 h1 hv;have bLR:i=a.length:=by omega
  subst bLR;have hs:(pre ++ cAW (0+1) 0).set a.length c=pre ++ [c]:=by rw[Ap hp];simp
  have aBK:M6.val (pre ++ [c])=M6.val a+M6.val b:=by
   rw[M6.oU,hp,hv,M6.dV (bYT _),M6.dV (by omega)]
  rw[Jr,aL,aW,cCQ,hs,aBK,gP ⟨M6.oX hd (by omega),by simp;omega⟩]
 |succ k ih =>
  intro i pre c hi hp hd h0 h1 hv;have g1:=ha.get i;have g2:=hb.get i;rw[step ha hb hp (by omega) hl h0 h1];refine ih (i+1) _ _ (by omega) (by simp[hp]) (M6.oX hd (by omega)) (by omega) (by omega) ?_;rw[M6.oU,M6.dT,M6.dT,hp,cDS,cDV];generalize a.getD i 0=x at *;generalize b.getD i 0=y at *;generalize 18446744073709551616^i=B at *;have e:18446744073709551616*((x+y+c)/18446744073709551616).toNat+((x+y+c)%18446744073709551616).toNat=c.toNat+x.toNat+y.toNat:=by omega
  have e2:B*(18446744073709551616*((x+y+c)/18446744073709551616).toNat)+B*((x+y+c)%18446744073709551616).toNat=B*c.toNat+B*x.toNat+B*y.toNat:=by
   rw[<-cDT,e,cDT,cDT]
  omega
theorem bRL{a b:List Int}(ha:M6.dJ a)(hb:M6.dJ b)(hl:a.length<=8192)(aWI:b.length<=a.length):J5 a b=some [D.s (.ints .u64 (bif cU.nL (M6.val a+M6.val b)then M6.dg (M6.val a+M6.val b)else [])),D.s (.sc (.int .i64 (bif cU.nL (M6.val a+M6.val b)then 0 else 5)))]:=by
 rw[Zt,wrap_i64,if_pos ⟨by omega,by omega,by omega⟩,show((a.length:Int)+1).toNat=0+(a.length+1)from by omega];have:=L ha hb hl aWI a.length 0 [] 0 (by omega) rfl M6.qG (by omega) (by omega) (by simp[M6.val]);rw[cCW]at this;rw[show 0+(a.length+1)=a.length+1 from by omega]at this ⊢;exact this
def sp(a b:List Int):Prop×List D:=(M6.cV a/\M6.cV b/\a.length<=8192/\b.length<=8192,[.s (.ints .u64 (bif cU.nL (M6.val a+M6.val b)then M6.dg (M6.val a+M6.val b)else [])),.s (.sc (.int .i64 (bif cU.nL (M6.val a+M6.val b)then 0 else 5)))])
theorem spec:hI E f100 aF (pI .u64) (pI .u64) sp:=by
 rintro a b ⟨ha,hb,h1,h2⟩;refine(start a b).trans ?_;rw[gP,gP,iB.oJ ha h1,iB.oJ hb h2,cAT,bF,bF,iL]
 by_cases hl:a.length<b.length
 ·rw[aQ,bRL hb.lM ha.lM h2 (by omega),cES];rfl
 ·rw[aL,bRL ha.lM hb.lM h1 (by omega)];rfl
def aJ:dK:=orc2 (pI .u64) (pI .u64) sp
theorem ok:OK 100 aJ:=(fJ E aF (aA iB.ok (aA cU.ok aD)) func100).nF rfl spec
end uY
namespace Bw
def E:=mE [(147,Bu.aJ)] 47 [] [(7,[5,6,7])] []
def aF:=bd f101
theorem aX:Nk E aF:=nk
def L7 a b c:=tM E f101 aF 7 [iZ a,iZ b,cA c]
theorem start a b:aI E f101 aF [D.s (ints u64 a),D.s (ints u64 b)]=letI B:=M6.dg (M6.val b);letI A:=(↑(M6.dg (M6.val a)).length:Int);aO (M6.dJ a/\a.length<=1099511627776) (aO (M6.dJ b/\b.length<=1099511627776) (aB (A !=(B.length:Int)) (aB (decide (A<(B.length:Int))) (some [D.s (sc (int i64 (-1:Int)))]) (some [D.s (sc (int i64 1))])) (Bw.L7 (M6.dg (M6.val a)) B (i64.wrap (A-(1:Int)))))):=eJ aX
theorem yB a b c:L7 a b c=aB (decide (0<=c)) (if 0<=c/\c<(a.length:Int)then if 0<=c/\c<(b.length:Int)then aB (a.getD c.toNat 0 !=b.getD c.toNat 0) (if 0<=c/\c<(a.length:Int)then if 0<=c/\c<(b.length:Int)then aB (decide (a.getD c.toNat 0<b.getD c.toNat 0)) (some [D.s (sc (int i64 (-1:Int)))]) (some [D.s (sc (int i64 1))])else none else none) (Bw.L7 a b (i64.wrap (c-1)))else none else none) (some [D.s (sc (int i64 0))]):=lJ aX
def sp(a b:List Int):Prop×List D:=(M6.dJ a/\M6.dJ b/\a.length<=1099511627776/\b.length<=1099511627776,[.s (.sc (.int .i64 (lY (M6.val a) (M6.val b))))])
theorem L{a b:List Int}(ha:M6.dJ a)(hb:M6.dJ b)(hl:a.length=b.length)(hm:a.length<=4398046511104):∀n:Nat,n<=a.length->L7 a b ((n:Int)-1)=some [D.s (.sc (.int .i64 (lY (M6.val (a.take n)) (M6.val (b.take n)))))]
 |0,_=>by
  rw[yB,aL];simp[lY,M6.val]
 |n+1,h=>by
  have e:(((n+1:Nat):Int)-1)=(n:Int):=by omega
  rw[e,yB,aQ,aW,aW,aW,aW,cCQ,wrap_i64,L ha hb hl hm n (by omega)];have h1:=ha.get n;have h2:=hb.get n;have l1:=M6.jA ha n;have l2:=M6.jA hb n;rw[M6.dT,M6.dT];generalize a.getD n 0=x at *;generalize b.getD n 0=y at *;generalize M6.val (a.take n)=u at *;generalize M6.val (b.take n)=v at *;generalize 18446744073709551616^n=B at *
  by_cases aYF:x<y
  ·rw[nZ,aQ aYF];have:B*x.toNat+B<=B*y.toNat:=by
    have:B*(x.toNat+1)<=B*y.toNat:=cBH _ (by omega);rw[cDT]at this;omega
   unfold lY;rw[aW]
  ·by_cases hyx:y<x
   ·rw[nZ,aL aYF];have:B*y.toNat+B<=B*x.toNat:=by
     have:B*(y.toNat+1)<=B*x.toNat:=cBH _ (by omega);rw[cDT]at this;omega
    unfold lY;rw[aP,aW]
   ·have:x=y:=by omega
    subst this;rw[gF rfl,aPJ]
theorem spec:hI E f101 aF (pI .u64) (pI .u64) sp:=by
 rintro a b ⟨ha,hb,h1,h2⟩;refine(start a b).trans ?_;have la:=M6.uP ha;have lb:=M6.uP hb;rw[gP ⟨ha,h1⟩,gP ⟨hb,h2⟩];show _=some [D.s (.sc (.int .i64 (lY (M6.val a) (M6.val b))))];have na:=M6.aZ (M6.val a);have nb:=M6.aZ (M6.val b);have va:=M6.bZ (M6.val a);have vb:=M6.bZ (M6.val b);rw[<-va,<-vb];generalize M6.dg (M6.val a)=x at *;generalize M6.dg (M6.val b)=y at *;have e1:=M6.Lg na;have e2:=M6.Lg nb;rw[e1,e2]
 by_cases hl:x.length=y.length
 ·rw[gF,wrap_i64,L na.lM nb.lM hl (by omega) x.length (bYT _),M6.dV (bYT _),M6.dV (by omega)]
 ·rw[nZ]
  by_cases kD:x.length<y.length
  ·have:=M6.vM na.lM nb kD;rw[aQ];unfold lY;rw[if_pos this]
  ·have:=M6.vM nb.lM na (by omega);rw[aL];unfold lY;rw[aP,if_pos this]
def aJ:dK:=orc2 (pI .u64) (pI .u64) sp
theorem ok:OK 101 aJ:=(fJ E aF (aA Bu.ok aD) func101).nF rfl spec
end Bw
namespace uX
def E:=mE [(144,iB.aJ),(145,cU.aJ),(101,Bw.aJ)] 56 [53] [(8,[0,1,6,7,26,27]),(3,[0,1]),(13,[0,1,6,7,8,9,26,27])] [3,13]
def aF:=bd f102
theorem aX:Nk E aF:=nk
def J3 a b:=mU E f102 aF 3 [iZ a,iZ b]
def L8 a b (c:Nat) (d:List Int) e f g:=tM E f102 aF 8 [iZ a,iZ b,Dx 2 c 22 d,cY e,cA f,cA g]
def Sw a b (c:Nat) (d:List Int) e f g h i:=mU E f102 aF 13 [iZ a,iZ b,Dx 2 c 22 d,cY e,cA f,cY g,cA h,cA i]
theorem start a b:aI E f102 aF [D.s (ints u64 a),D.s (ints u64 b)]=letI A:=some [D.s (sc (slice none 0 0)),D.s (sc (int i64 2))];aO (a.length<=1099511627776) (aB (!iB.pT a) A (aO (b.length<=1099511627776) (aB (!iB.pT b) A (uX.J3 a b)))):=eJ aX
theorem iL a b:J3 a b=letI A:=(a.length:Int);aO (M6.dJ a/\M6.dJ b/\a.length<=1099511627776/\b.length<=1099511627776) (aB (decide (lY (M6.val a) (M6.val b)<0)) (some [D.s (sc (slice none 0 0)),D.s (sc (int i64 3))]) (if 0<=A/\A<=A/\A<=(8796093022208:Int)then uX.L8 a b A.toNat (cAW A.toNat (0:Int)) 0 A 0 else none)):=cJ aX
theorem Jr a b c d e f g:L8 a b c d e f g=aB (decide (g<f)) (aB (decide (g<(b.length:Int))) (if 0<=g/\g<(b.length:Int)then uX.Sw a b c d e g (b.getD g.toNat 0) f g else none) (uX.Sw a b c d e g 0 f g)) (aO (M6.dJ d/\d.length<=1099511627776) (some [D.s (ints u64 (bif cU.nL (M6.val d)then M6.dg (M6.val d)else [])),D.s (sc (int i64 (bif cU.nL (M6.val d)then(0:Int)else(5:Int))))])):=lJ aX
theorem zM a b c d e f g h i:Sw a b c d e f g h i=if 0<=f/\f<(a.length:Int)then aO (0<=a.getD f.toNat 0/\0<=g/\g<18446744073709551616/\0<=e/\e<=1) (if 0<=f/\f<(c:Int)then uX.L8 a b c (d.set f.toNat ((a.getD f.toNat 0-g-e)%18446744073709551616)) (if a.getD f.toNat 0<g+e then(1:Int)else(0:Int)) h (i64.wrap (i+1))else none)else none:=cJ aX
theorem step{a b pre:List Int}{o:Int}{i k:Nat}(ha:M6.dJ a)(hb:M6.dJ b)(hp:pre.length=i)(hi:i<a.length)(hl:a.length<=8192)(h0:0<=o)(h1:o<=1) :
  L8 a b (i+(k+1)) (pre ++ cAW (k+1) 0) o a.length i=L8 a b ((i+1)+k) ((pre ++ [(a.getD i 0-b.getD i 0-o)%18446744073709551616]) ++ cAW k 0) (if a.getD i 0<b.getD i 0+o then 1 else 0) a.length ((i+1:Nat):Int):=by
 have g1:=ha.get i;have g2:=hb.get i;have hJ:∀y:Int,0<=y->y<18446744073709551616->Sw a b (i+(k+1)) (pre ++ cAW (k+1) 0) o i y a.length i=L8 a b ((i+1)+k) ((pre ++ [(a.getD i 0-y-o)%18446744073709551616]) ++ cAW k 0) (if a.getD i 0<y+o then 1 else 0) a.length ((i+1:Nat):Int):=by
  intro y hy bKG;rw[zM,aW,cCQ,gP ⟨g1.1,hy,bKG,h0,h1⟩,aW,Ap hp,wrap_i64,show i+(k+1)=(i+1)+k from by omega];rfl
 rw[Jr,aQ]
 by_cases h:i<b.length
 ·rw[aQ,aW,cCQ,hJ _ g2.1 g2.2]
 ·rw[aL,hJ 0 (by omega) (by omega),M6.getD_none (a:=b) (by omega)]
theorem L{a b:List Int}(ha:M6.dJ a)(hb:M6.dJ b)(hl:a.length<=8192)(Rw:b.length<=a.length)(aWI:M6.val b<=M6.val a):∀(k i:Nat) (pre:List Int) (o:Int),i+k=a.length->pre.length=i->M6.dJ pre->0<=o->o<=1 ->
  M6.val pre+M6.val (b.take i)=M6.val (a.take i)+18446744073709551616^i*o.toNat ->
  L8 a b (i+k) (pre ++ cAW k 0) o a.length i=some [D.s (.ints .u64 (M6.dg (M6.val a-M6.val b))),D.s (.sc (.int .i64 0))]:=by
 intro k
 induction k with
 |zero =>
  intro i pre o hi hp hd h0 h1 hv;have bTM:=M6.dW hd;rw[hp]at bTM;rw[M6.dV (by omega),M6.dV (by omega)]at hv;have:o=0:=by
   by_cases ho:o=0
   ·exact ho
   ·exfalso;have:o=1:=by omega
    subst this;rw[show(1:Int).toNat=1 from rfl,Nat.mul_one]at hv;omega
  subst this;simp only[cGF,cFI,bZR]at hv;have hlen:=M6.uP hd;have Pv:cU.nL (M6.val pre)=true:=decide_eq_true (by omega);rw[Jr,aL,cEZ,cER,gP ⟨hd,by omega⟩,Pv,cond_true,cond_true,show M6.val pre=M6.val a-M6.val b from by omega]
 |succ k ih =>
  intro i pre o hi hp hd h0 h1 hv;have g1:=ha.get i;have g2:=hb.get i;rw[step ha hb hp (by omega) hl h0 h1];refine ih (i+1) _ _ (by omega) (by simp[hp]) (M6.oX hd (by omega)) (by split <;> omega) (by split <;> omega) ?_;rw[M6.oU,M6.dT,M6.dT,hp,cDS,cDV];generalize a.getD i 0=x at *;generalize b.getD i 0=y at *;have e:((x-y-o)%18446744073709551616).toNat+y.toNat+o.toNat=x.toNat+18446744073709551616*(if x<y+o then 1 else 0:Int).toNat:=by split <;> omega
  generalize 18446744073709551616^i=B at *;have e2:=congrArg (B*·) e;simp only[cDT]at e2;omega
def sp(a b:List Int):Prop×List D:=(M6.cV a/\M6.cV b/\a.length<=8192/\b.length<=8192,[.s (.ints .u64 (M6.dg (M6.val a-M6.val b))),.s (.sc (.int .i64 (if M6.val a<M6.val b then 3 else 0)))])
theorem spec:Qx E f102 aF (pI .u64) (pI .u64) sp:=by
 rintro a b ⟨ha,hb,h1,h2⟩;have e:=start a b;rw[gP,gP,iB.oJ ha h1,iB.oJ hb h2,cAT,bF,bF,iL,gP ⟨ha.lM,hb.lM,by omega,by omega⟩]at e;unfold sp;simp only
 by_cases hc:M6.val a<M6.val b
 ·rw[aQ (by unfold lY;rw[if_pos hc];omega)]at e;rw[if_pos hc,show M6.val a-M6.val b=0 from by omega,M6.cT];exact⟨_,e,.cons (Ag.nil _) (iQ.refl _)⟩
 ·have Rw:b.length<=a.length:=by
   rcases bZJ a.length b.length with h |h
   ·have:=M6.vM ha.lM hb h;omega
   ·exact h
  have:=L ha.lM hb.lM h1 Rw (by omega) a.length 0 [] 0 (by omega) rfl M6.qG (by omega) (by omega) (by simp[M6.val]);rw[aL (by unfold lY;rw[if_neg hc];split <;> omega),if_pos ⟨by omega,by omega,by omega⟩,cCQ]at e;rw[cCW,show 0+a.length=a.length from by omega]at this;rw[if_neg hc];exact⟨_,e.trans this,iQ.refl _⟩
def aJ:dK:=orc2 (pI .u64) (pI .u64) sp
theorem ok:OK 102 aJ:=(fJ E aF (aA iB.ok (aA cU.ok (aA Bw.ok aD))) func102).aQO rfl spec
end uX
namespace Gw
def E:=mE [(96,fW.aJ),(100,uY.aJ),(101,Bw.aJ),(102,uX.aJ),(99,By.aJ)] 62 [36,59] [(3,[2,3,4]),(8,[2,3,4])] [3,8]
def aF:=bd f49
theorem aX:Nk E aF:=nk
def J3 a b c d e:=mU E f49 aF 3 [dR 0 27 [cX a,gJ b],dR 1 27 [cX c,gJ d],dR 2 27 [cX e,sc (slice none 0 0)]]
def J8 a b c d e:=mU E f49 aF 8 [dR 0 27 [cX a,gJ b],dR 1 27 [cX c,gJ d],dR 2 27 [cX e,sc (slice none 0 0)]]
theorem start a b c d:aI E f49 aF [D.agg [sc (bool a),ints u64 b],D.agg [sc (bool c),ints u64 d]]=letI A:=some [D.agg [sc (bool false),sc (slice none 0 0)],D.s (sc (int i64 2))];aO (b.length<=1099511627776) (aB (!fW.oN (a,b)) A (aO (d.length<=1099511627776) (aB (!fW.oN (c,d)) A (Gw.J3 a b c d false)))):=eJ aX
theorem iL a b c d e:J3 a b c d e=letI F:=M6.val b+M6.val d;letI B:=bif cU.nL F then(0:Int)else(5:Int);letI A:=bif cU.nL F then M6.dg F else [];letI C:=bif B==0 then zs a (M6.val A)else(0:Int);aB (a==c) (aO (M6.cV b/\M6.cV d/\b.length<=8192/\d.length<=8192) (aO (M6.cV A/\A.length<=1099511627776) (some [D.agg [sc (bool (isNeg C)),ints u64 (M6.dg C.natAbs)],D.s (sc (int i64 B))]))) (aO (M6.dJ b/\M6.dJ d/\b.length<=1099511627776/\d.length<=1099511627776) (aB (decide (lY (M6.val b) (M6.val d)<0)) (Gw.J8 c d a b e) (Gw.J8 a b c d e))):=cJ aX
theorem Dv a b c d e:J8 a b c d e=letI B:=M6.dg (M6.val b-M6.val d);letI A:=bif (if M6.val b<M6.val d then(3:Int)else(0:Int))==0 then zs a (M6.val B)else(0:Int);aO (M6.cV b/\M6.cV d/\b.length<=8192/\d.length<=8192) (aO (M6.cV B/\B.length<=1099511627776) (some [D.agg [sc (bool (isNeg A)),ints u64 (M6.dg A.natAbs)],D.s (sc (int i64 (if M6.val b<M6.val d then(3:Int)else(0:Int))))])):=cJ aX
theorem aEZ(n:Nat):cU.nL n=fit n:=Cs
def sp(x y:Bool×List Int):Prop×List D:=(gY x/\gY y,wE (fit (wv x+wv y).natAbs) (wv x+wv y))
theorem spec:hI E f49 aF oZ oZ sp:=by
 rintro x y ⟨hx,hy⟩;refine(start x.1 x.2 y.1 y.2).trans ?_;have l1:=hx.len;have l2:=hy.len;have f1:=fW.lK hx;have f2:=fW.lK hy;have b1:=hx.bl;have b2:=hy.bl;obtain⟨p,a⟩:=x;obtain⟨q,b⟩:=y;have n1:M6.cV a:=hx.1;have n2:M6.cV b:=hy.1
 try dsimp only at *
 unfold sp
 try dsimp only
 rw[gP,f1,cAT,bF,gP,f2,cAT,bF,iL];have one:∀(s:Bool) (m n:Nat),n<=m->bl m<=524288->some [D.agg [S.sc (.bool (isNeg (bif (if m<n then(3:Int)else 0)==0 then zs s (M6.val (M6.dg (m-n)))else 0))),S.ints .u64 (M6.dg (bif (if m<n then(3:Int)else 0)==0 then zs s (M6.val (M6.dg (m-n)))else 0).natAbs)],D.s (S.sc (.int .i64 (if m<n then 3 else 0)))]=some (wE (fit (zs s (m-n)).natAbs) (zs s (m-n))):=by
  intro s m n h hb;have:fit (zs s (m-n)).natAbs=true:=by
   rw[mB];exact decide_eq_true (bZP (gM (cFJ _ _)) hb)
  rw[aP,this,show((0:Int)==0)=true from rfl,cond_true,M6.bZ];rfl
 by_cases he:p=q
 ·subst he;have hs:wv (p,a)+wv (p,b)=zs p (M6.val a+M6.val b):=by
   unfold wv zs;cases p <;> simp <;> omega
  rw[bAJ (by simp),gP ⟨n1,n2,l1,l2⟩,gP (Lh (fun h=>by rw[aEZ]at h;exact yR h)),Kk,aEZ,hs,mB]
 ·rw[Vm (by simpa using he),gP ⟨n1.lM,n2.lM,by omega,by omega⟩]
  by_cases hc:M6.val b<=M6.val a
  ·have hs:wv (p,a)+wv (q,b)=zs p (M6.val a-M6.val b):=by
    unfold wv zs;cases p <;> cases q <;> simp_all <;> omega
   have l3:=gA (n:=M6.val a-M6.val b) (k:=8192) (bZP (gM (cFJ _ _)) b1);rw[aL (by have:=aGH.2 hc;omega),Dv,gP ⟨n1,n2,l1,l2⟩,gP ⟨M6.aZ _,by omega⟩,hs,one _ _ _ hc b1]
  ·have hs:wv (p,a)+wv (q,b)=zs q (M6.val b-M6.val a):=by
    unfold wv zs;cases p <;> cases q <;> simp_all <;> omega
   have l3:=gA (n:=M6.val b-M6.val a) (k:=8192) (bZP (gM (cFJ _ _)) b2);rw[aQ (by have:=(not_congr aGH).2 hc;omega),Dv,gP ⟨n2,n1,l2,l1⟩,gP ⟨M6.aZ _,by omega⟩,hs,one _ _ _ (by omega) b2]
def aJ:dK:=orc2 oZ oZ sp
theorem ok:OK 49 aJ:=(fJ E aF (aA fW.ok (aA uY.ok (aA Bw.ok (aA uX.ok (aA By.ok aD))))) func49).nF rfl spec
end Gw
namespace aPV
def E:=mE [] 14 [] [] []
def aF:=bd f136
theorem aX:Nk E aF:=nk
theorem start a:aI E f136 aF [D.s (sc (int u64 a))]=letI A:=gN BinOp.and u64 a (u64.wrap ((0:Int)-a))*285870213051353865;aB (a==0) (some [D.s (sc (int i64 64))]) (if 0<=u64.wrap A/288230376151711744/\u64.wrap A/288230376151711744<(64:Int)then some [D.s (sc (int i64 (i64.wrap ([(0:Int),(1:Int),(56:Int),(2:Int),(57:Int),(49:Int),(28:Int),(3:Int),(61:Int),(58:Int),(42:Int),(50:Int),(38:Int),(29:Int),(17:Int),(4:Int),(62:Int),(47:Int),(59:Int),(36:Int),(45:Int),(43:Int),(51:Int),(22:Int),(53:Int),(39:Int),(33:Int),(30:Int),(24:Int),(18:Int),(12:Int),(5:Int),(63:Int),(55:Int),(48:Int),(27:Int),(60:Int),(41:Int),(37:Int),(16:Int),(46:Int),(35:Int),(44:Int),(21:Int),(52:Int),(32:Int),(23:Int),(11:Int),(54:Int),(26:Int),(40:Int),(15:Int),(34:Int),(20:Int),(31:Int),(10:Int),(25:Int),(14:Int),(19:Int),(9:Int),(13:Int),(8:Int),(7:Int),(6:Int)].getD (u64.wrap A/288230376151711744).toNat 0))))]else none):=eJ aX
def aVB:List Int:=[0,1,56,2,57,49,28,3,61,58,42,50,38,29,17,4,62,47,59,36,45,43,51,22,53,39,33,30,24,18,12,5,63,55,48,27,60,41,37,16,46,35,44,21,52,32,23,11,54,26,40,15,34,20,31,10,25,14,19,9,13,8,7,6]
theorem Ti:(cAG 64).all (fun k=>aVB.getD (((2^k*285870213051353865%18446744073709551616:Nat):Int)/288230376151711744).toNat 0==(k:Int))=true:=by kernel_rfl
theorem Th{k:Nat}(h:k<64):aVB.getD (((2^k*285870213051353865%18446744073709551616:Nat):Int)/288230376151711744).toNat 0=(k:Int):=eq_of_beq (List.all_eq_true.1 Ti k (List.mem_range.2 h))
def sp(a:Int):Prop×List D:=(0<=a/\a<18446744073709551616,[.s (.sc (.int .i64 (if a=0 then 64 else(tz a.toNat:Int))))])
theorem spec:jL E f136 aF (pN .u64) sp:=by
 rintro a ⟨h1,h2⟩;refine(start a).trans ?_;show _=some [D.s (.sc (.int .i64 (if a=0 then 64 else(tz a.toNat:Int))))]
 by_cases hz:a=0
 ·rw[cD hz,if_pos hz]
 ·have kD:tz a.toNat<64:=by
   have:=Lu (n:=a.toNat) (by omega);rcases bZJ (tz a.toNat) 64 with h |h
   ·exact h
   ·have h3:2^64<=2^tz a.toNat:=cBU (by omega) h;omega
  have ew:u64.wrap (0-a)=18446744073709551616-a:=by rw[fY];omega
  have el:gN .and .u64 a (u64.wrap (0-a))=((2^tz a.toNat:Nat):Int):=by
   rw[ew,Zl h1 h2 (by omega) (by omega),Xx 64 a.toNat (18446744073709551616-a).toNat (by omega) (by omega) (by omega)]
  have em:u64.wrap (((2^tz a.toNat:Nat):Int)*285870213051353865)=((2^tz a.toNat*285870213051353865%18446744073709551616:Nat):Int):=by
   rw[fY];generalize 2^tz a.toNat=p;omega
  have ht:=Th kD;have hm:2^tz a.toNat*285870213051353865%18446744073709551616<18446744073709551616:=cBB _ (by omega);rw[bJ hz,if_neg hz,el,em];generalize 2^tz a.toNat*285870213051353865%18446744073709551616=q at *;rw[if_pos ⟨by omega,by omega⟩];have e3:([0,1,56,2,57,49,28,3,61,58,42,50,38,29,17,4,62,47,59,36,45,43,51,22,53,39,33,30,24,18,12,5,63,55,48,27,60,41,37,16,46,35,44,21,52,32,23,11,54,26,40,15,34,20,31,10,25,14,19,9,13,8,7,6]:List Int)=aVB:=rfl;rw[e3,ht,wrap_i64]
def aJ:dK:=orc1 (pN .u64) sp
theorem ok:OK 136 aJ:=(fJ E aF aD func136).qB rfl spec
end aPV
namespace Et
def E:=mE [(136,aPV.aJ)] 23 [] [(2,[0,5,6])] []
def aF:=bd f103
theorem aX:Nk E aF:=nk
def L2 a b c:=tM E f103 aF 2 [iZ a,cA b,cA c]
theorem start a:aI E f103 aF [D.s (ints u64 a)]=Et.L2 a (a.length:Int) 0:=eJ aX
theorem mK a b c:L2 a b c=aB (decide (c<b)) (if 0<=c/\c<(a.length:Int)then aB (a.getD c.toNat 0 !=(0:Int)) (if 0<=c/\c<(a.length:Int)then aO (0<=a.getD c.toNat 0/\a.getD c.toNat 0<(18446744073709551616:Int)) (some [D.s (sc (int i64 (i64.wrap (i64.wrap ((64:Int)*c)+if a.getD c.toNat 0=(0:Int)then(64:Int)else(↑(tz (a.getD c.toNat 0).toNat):Int)))))])else none) (Et.L2 a b (i64.wrap (c+1)))else none) (some [D.s (sc (int i64 0))]):=lJ aX
def sp(a:List Int):Prop×List D:=(M6.dJ a/\a.length<=1099511627776,[.s (.sc (.int .i64 (tz (M6.val a):Nat)))])
theorem L{a:List Int}(ha:M6.dJ a)(hl:a.length<=1099511627776):∀(d i:Nat),i+d=a.length->L2 a a.length i=some [D.s (.sc (.int .i64 (if M6.val (a.drop i)=0 then 0 else(((64*i+tz (M6.val (a.drop i)):Nat)):Int))))]:=by
 intro d
 induction d with
 |zero =>
  intro i hi;rw[mK,aL,cEI (by omega)];rfl
 |succ d ih =>
  intro i hi;have g:=ha.get i;have hv:=M6.kJ (a:=a) i;have bVK:=ih (i+1) (by omega);rw[mK,aQ,aW,cCQ,aW,gP g,wrap_i64 (n:=(i:Int)+1),wrap_i64 (n:=64*(i:Int)),show(i:Int)+1=((i+1:Nat):Int)from by omega,bVK];generalize a.getD i 0=x at *;rw[hv]
  by_cases hz:x=0
  ·subst hz;rw[gF rfl];simp only[cGF,bYV]
   by_cases aJO:M6.val (a.drop (i+1))=0
   ·rw[if_pos aJO,aW]
   ·have:=Td aJO 64;rw[show(2:Nat)^64=18446744073709551616 from rfl]at this;rw[if_neg aJO,aP,this];congr 5;omega
  ·have ht:=Lu (n:=x.toNat) (by omega);have bHU:tz x.toNat<64:=by
    rcases bZJ (tz x.toNat) 64 with h |h
    ·exact h
    ·have h3:2^64<=2^tz x.toNat:=cBU (by omega) h;omega
   have:=aKM (r:=x.toNat) (k:=64) (n:=M6.val (a.drop (i+1))) (by omega) (by omega);rw[show(2:Nat)^64=18446744073709551616 from rfl]at this;rw[nZ hz,if_neg hz,aP,this,wrap_i64];congr 5
theorem spec:jL E f103 aF (pI .u64) sp:=by
 rintro a ⟨ha,hl⟩;refine(start a).trans ?_;have:=L ha hl a.length 0 (by omega);rw[show(0:Int)=((0:Nat):Int)from rfl,this,cFG];show _=some [D.s (.sc (.int .i64 (tz (M6.val a):Nat)))]
 by_cases hz:M6.val a=0
 ·rw[if_pos hz,hz];simp[tz]
 ·rw[if_neg hz];congr 5;omega
def aJ:dK:=orc1 (pI .u64) sp
theorem ok:OK 103 aJ:=(fJ E aF (aA aPV.ok aD) func103).qB rfl spec
end Et
namespace Gv
def E:=mE [(144,iB.aJ),(145,cU.aJ)] 73 [70] [(10,[0,6,7,8,29,30])] []
def aF:=bd f104
theorem aX:Nk E aF:=nk
def Ix a b c (d:Nat) (e:List Int) f g:=tM E f104 aF 10 [iZ a,cA b,cA c,Dx 3 d 22 e,cA f,cA g]
theorem start a b:aI E f104 aF [D.s (ints u64 a),D.s (sc (int i64 b))]=letI G:=b.tdiv 64;letI C:=sc (slice none 0 0);letI A:=(a.length:Int);letI B:=A-i64.wrap G;letI F:=i64.wrap B;aB (decide (b<0)) (some [D.s C,D.s (sc (int i64 1))]) (aO (a.length<=1099511627776) (aB (!iB.pT a) (some [D.s C,D.s (sc (int i64 2))]) (aB (decide (A<=i64.wrap G)) (some [D.s C,D.s (sc (int i64 0))]) (if 0<=i64.wrap B/\i64.wrap B<=i64.wrap B/\i64.wrap B<=8796093022208 then Gv.Ix a (i64.wrap G) (b.tmod 64) F.toNat (cAW F.toNat (0:Int)) (F.toNat:Int) 0 else none)))):=eJ aX
theorem sG a b c d e f g:Ix a b c d e f g=letI C:=(a.length:Int);letI B:=i64.wrap (b+g)+1;letI A:=e.set g.toNat (a.getD (i64.wrap (b+g)).toNat 0/(↑((2:Nat)^min c.toNat 64):Int));aB (decide (g<f)) (if 0<=i64.wrap (b+g)/\i64.wrap (b+g)<C then if c<0 then none else if 0<=g/\g<(d:Int)then aB (decide (i64.wrap B<C)) (if 0<=g/\g<(d:Int)then if 0<=i64.wrap B/\i64.wrap B<C then if i64.wrap ((63:Int)-c)<0 then none else if 0<=g/\g<(d:Int)then Gv.Ix a b c d (A.set g.toNat (gN BinOp.or u64 (A.getD g.toNat 0) (u64.wrap (u64.wrap (a.getD (i64.wrap B).toNat 0*(2:Int))*(↑((2:Nat)^min (i64.wrap ((63:Int)-c)).toNat 64):Int))))) f (i64.wrap (g+1))else none else none else none) (Gv.Ix a b c d A f (i64.wrap (g+1)))else none else none) (aO (M6.dJ e/\e.length<=1099511627776) (some [D.s (ints u64 (bif cU.nL (M6.val e)then M6.dg (M6.val e)else [])),D.s (sc (int i64 (bif cU.nL (M6.val e)then(0:Int)else(5:Int))))])):=lJ aX
theorem aBZ(a:List Int)(q i:Nat):(a.drop q).getD i 0=a.getD (q+i) 0:=by
 simp[cDW,bZG]
theorem high{x k:Nat}(h:k<64):x*2^(64-k)%18446744073709551616=2^(64-k)*(x%2^k):=by
 rw[show(18446744073709551616:Nat)=2^(64-k)*2^k from by rw[<-cDU,show 64-k+k=64 from by omega],cDR x,Nat.mul_mod_mul_left]
theorem step{a P:List Int}{q k i r:Nat}(ha:M6.dJ a)(hP:P.length=i)(hk:k<64)(hl:a.length<=8192)(hr:q+i+(r+1)=a.length) :
  Ix a q k (a.length-q) (P ++ cAW (r+1) 0) ((a.length-q:Nat):Int) i =
   Ix a q k (a.length-q) ((P ++ [(((a.getD (q+i) 0).toNat/2^k+2^(64-k)*((a.getD (q+i+1) 0).toNat%2^k):Nat):Int)]) ++ cAW r 0) ((a.length-q:Nat):Int) ((i+1:Nat):Int):=by
 have g:=ha.get (q+i);have g1:=ha.get (q+i+1);have w1:i64.wrap ((q:Int)+i)=((q+i:Nat):Int):=by rw[wrap_i64];omega
 have w2:i64.wrap (((q+i:Nat):Int)+1)=((q+i+1:Nat):Int):=by rw[wrap_i64];omega
 have w3:i64.wrap (63-(k:Int))=((63-k:Nat):Int):=by rw[wrap_i64];omega
 have m1:min k 64=k:=by omega
 have m2:min (63-k) 64=63-k:=by omega
 have aVX:(a.getD (q+i) 0)/((2^k:Nat):Int)=(((a.getD (q+i) 0).toNat/2^k:Nat):Int):=by
  obtain⟨x,hx⟩:=cDX g.1;rw[hx,cCQ,cEO]
 have aBP:(a.getD (q+i) 0).toNat/2^k<2^(64-k):=by
  apply cEL;rw[<-cDU,show k+(64-k)=64 from by omega];omega
 rw[sG,aQ,w1,if_pos ⟨by omega,by omega⟩,aP,if_pos ⟨by omega,by omega⟩,w2,w3,wrap_i64 (n:=(i:Int)+1),
  cCQ,cCQ,cCQ,cCQ,cCQ,m1,m2,cEB,Hh hP,Ia hP,aVX]
 by_cases hn:q+i+1<a.length
 ·rw[aQ,if_pos ⟨by omega,by omega⟩,if_pos ⟨by omega,by omega⟩,aP,if_pos ⟨by omega,by omega⟩,Hh hP];have hw:u64.wrap (u64.wrap (a.getD (q+i+1) 0*2)*((2^(63-k):Nat):Int))=((2^(64-k)*((a.getD (q+i+1) 0).toNat%2^k):Nat):Int):=by
   obtain⟨x,hx⟩:=cDX g1.1;have aJP:u64.wrap ((x:Int)*2)=((x*2%18446744073709551616:Nat):Int):=by rw[fY];omega
   have bTQ:∀p:Nat,u64.wrap (((x*2%18446744073709551616:Nat):Int)*(p:Int))=((x*2*p%18446744073709551616:Nat):Int):=by
    intro p;rw[fY,<-cEP,show(18446744073709551616:Int)=((18446744073709551616:Nat):Int)from rfl,<-cGD,Nat.mul_mod,Nat.mod_mod,<-Nat.mul_mod]
   rw[hx,aJP,bTQ,cCQ,<-high hk,show 64-k=(63-k)+1 from by omega,cDS,cDV,cDR 2]
  have hh:2^(64-k)*((a.getD (q+i+1) 0).toNat%2^k)<18446744073709551616:=by rw[<-high hk];exact cBB _ (by omega)
  have bQY:2^(64-k)<=2^64:=iC;have bEO:gN .or .u64 (((a.getD (q+i) 0).toNat/2^k:Nat):Int) ((2^(64-k)*((a.getD (q+i+1) 0).toNat%2^k):Nat):Int)=(((a.getD (q+i) 0).toNat/2^k+2^(64-k)*((a.getD (q+i+1) 0).toNat%2^k):Nat):Int):=by
   have:=Ho (n:=(a.getD (q+i+1) 0).toNat%2^k) aBP;rw[<-this];generalize 2^(64-k)*((a.getD (q+i+1) 0).toNat%2^k)=Y at *;generalize (a.getD (q+i) 0).toNat/2^k=X at *;generalize 2^(64-k)=p at *;rw[Xk (by omega) (by omega) (by omega) (by omega),cCQ,cCQ]
  rw[hw,bEO,cAO,cFH];rfl
 ·rw[aL,M6.getD_none (a:=a) (n:=q+i+1) (by omega),show((0:Int).toNat%2^k)=0 from Nat.zero_mod _,cFI,bZR,cAO,cFH];rfl
theorem L{a:List Int}{q k:Nat}(ha:M6.cV a)(hl:a.length<=8192)(hq:q<a.length)(hk:k<64):∀(r i:Nat) (P:List Int),q+i+r=a.length->P.length=i->M6.dJ P ->
  2^k*M6.val P+(a.getD q 0).toNat%2^k=M6.val ((a.drop q).take i)+18446744073709551616^i*((a.getD (q+i) 0).toNat%2^k) ->
  Ix a q k (a.length-q) (P ++ cAW r 0) ((a.length-q:Nat):Int) i=some [D.s (.ints .u64 (M6.dg (M6.val (a.drop q)/2^k))),D.s (.sc (.int .i64 0))]:=by
 intro r;have bEJ:0<2^k:=cZ
 induction r with
 |zero =>
  intro i P hi hP hd hv;rw[M6.getD_none (a:=a) (n:=q+i) (by omega),show((0:Int).toNat%2^k)=0 from Nat.zero_mod _,cFI,bZR,M6.dV (by rw[cCT];omega)]at hv;have bPD:M6.val P=M6.val (a.drop q)/2^k:=by
   rw[<-hv,Nat.mul_add_div bEJ,cEM (cBB _ bEJ),bZR]
  have Pv:cU.nL (M6.val (a.drop q)/2^k)=true:=by
   refine decide_eq_true ?_;rw[<-bPD];have:=M6.uP hd;omega
  rw[cEZ,cER,sG,aL,gP ⟨hd,by omega⟩,bPD,Pv];rfl
 |succ r ih =>
  intro i P hi hP hd hv;have g:=ha.lM.get (q+i);have aBP:(a.getD (q+i) 0).toNat/2^k<2^(64-k):=by
   apply cEL;rw[<-cDU,show k+(64-k)=64 from by omega];omega
  have aOU:2^(64-k)*2^k=18446744073709551616:=by rw[<-cDU,show 64-k+k=64 from by omega]
  have hs:(a.getD (q+i) 0).toNat/2^k+2^(64-k)*((a.getD (q+i+1) 0).toNat%2^k)<18446744073709551616:=by
   have hm:(a.getD (q+i+1) 0).toNat%2^k<2^k:=cBB _ bEJ;have h3:2^(64-k)*((a.getD (q+i+1) 0).toNat%2^k+1)<=2^(64-k)*2^k:=cBH _ hm;rw[aOU,cDT]at h3;omega
  rw[step ha.lM hP hk hl (by omega)];refine ih (i+1) _ (by omega) (by simp[hP]) (M6.oX hd ⟨Int.natCast_nonneg _,by have:=Int.ofNat_lt.2 hs;exact this⟩) ?_;rw[M6.oU,hP,M6.dT,aBZ,cCQ,<-cCK q i 1,cDT,cFO,hv];have hx:=cDZ (a.getD (q+i) 0).toNat (2^k);generalize (a.getD (q+i) 0).toNat=x at *;generalize (a.getD (q+i+1) 0).toNat%2^k=y at *;generalize M6.val ((a.drop q).take i)=v at *;have e1:2^k*(18446744073709551616^i*(x/2^k+2^(64-k)*y))=18446744073709551616^i*(2^k*(x/2^k))+18446744073709551616^(i+1)*y:=by
   rw[cDS];generalize (18446744073709551616^i)=B;rw[cGI,cDT,<-cDV (2^k) (2^(64-k)),cDR (2^k) (2^(64-k)),aOU,cDT,cDV B]
  rw[e1];have e2:18446744073709551616^i*x=18446744073709551616^i*(2^k*(x/2^k))+18446744073709551616^i*(x%2^k):=by rw[<-cDT,hx]
  rw[e2];omega
def sp(a:List Int)(n:Int):Prop×List D:=(M6.cV a/\a.length<=8192/\0<=n/\n<4611686018427387904,[.s (.ints .u64 (M6.dg (M6.val a/2^n.toNat))),.s (.sc (.int .i64 0))])
theorem spec:Qx E f104 aF (pI .u64) (pN .i64) sp:=by
 rintro a n ⟨ha,hl,h0,h1⟩;have e:=start a n;have eq:n/64=((n.toNat/64:Nat):Int):=by omega
 have ek:n%64=((n.toNat%64:Nat):Int):=by omega
 rw[aL,gP,iB.oJ ha hl,cAT,bF,aKZ h0,aKV h0,wrap_i64 (n:=n/64),eq,ek]at e;unfold sp;simp only;rw[Ms,<-cEN];generalize hqq:n.toNat/64=q at *;have hk:n.toNat%64<64:=cBB _ (by omega);generalize n.toNat%64=k at *
 by_cases hz:a.length<=q
 ·have hv:M6.val a/18446744073709551616^q=0:=cEM (bZQ (M6.dW ha.lM) (cBU (by omega) hz));rw[aQ]at e;rw[hv,Nat.zero_div,M6.cT];exact⟨_,e,.cons (Ag.nil _) (iQ.refl _)⟩
 ·have hval:M6.val a/18446744073709551616^q=M6.val (a.drop q):=by
   rw[M6.jR a (n:=q) (by omega),cFY _ _ (cZ),cEM (M6.jA ha.lM _),bYV]
  have w:i64.wrap ((a.length:Int)-(q:Int))=((a.length-q:Nat):Int):=by rw[wrap_i64];omega
  rw[aL,w,if_pos ⟨by omega,by omega,by omega⟩,cCQ]at e;have:=L (q:=q) (k:=k) ha hl (by omega) hk (a.length-q) 0 [] (by omega) rfl M6.qG (by simp[M6.val]);rw[hval];exact⟨_,e.trans this,iQ.refl _⟩
def aJ:dK:=orc2 (pI .u64) (pN .i64) sp
theorem ok:OK 104 aJ:=(fJ E aF (aA iB.ok (aA cU.ok aD)) func104).aQO rfl spec
end Gv
namespace jQ
def E:=mE [(96,fW.aJ),(103,Et.aJ),(104,Gv.aJ)] 55 [] [(8,[1,2,4,6])] [8]
def aF:=bd f50
theorem aX:Nk E aF:=nk
def J8 a b c d e f:=mU E f50 aF 8 [cA a,dR 1 27 [cX b,gJ c],dR 2 29 [cX d,sc (slice none 0 0),dC e],cA f]
theorem start a c b:aI E f50 aF [D.agg [sc (bool a),ints u64 c],D.s (sc (int i64 b))]=letI G:=bool false;letI F:=int i64 0;letI C:=slice none 0 0;letI B:=(↑(tz (M6.val c)):Int);letI A:=some [D.agg [sc G,sc C,sc F],D.s (sc (int i64 5))];aO (c.length<=1099511627776) (aB (!fW.oN (a,c)) (some [D.agg [sc G,sc C,sc F],D.s (sc (int i64 2))]) (aB ((c.length:Int)==(0:Int)) (some [D.agg [sc G,sc C,sc F],D.s (sc F)]) (aO (M6.dJ c/\c.length<=1099511627776) (aB (decide (1048576<b)) A (aB (decide (b<(-1572864:Int))) A (aB (decide (i64.wrap (b+B)<(-1048576:Int))) A (aB (decide (1048576<i64.wrap (b+B))) A (jQ.J8 b a c false 0 B)))))))):=eJ aX
theorem Dv a b c d e f:J8 a b c d e f=aO (M6.cV c/\c.length<=8192/\0<=f/\f<4611686018427387904) (some [D.agg [sc (bool b),ints u64 (M6.dg (M6.val c/(2:Nat)^f.toNat)),sc (int i64 (i64.wrap (a+f)))],D.s (sc (int i64 0))]):=cJ aX
def sp(x:Bool×List Int)(e:Int):Prop×List D:=(gY x/\-9223372036854775808<=e/\e<9223372036854775808,dE (iF (wv x) e) (aN (wv x) e))
theorem tK(p:Int×Int):iQ [D.agg [.sc (.bool false),.sc (.slice none 0 0),.sc (.int .i64 0)],.s (.sc (.int .i64 5))] (dE false p):=by
 refine .cons ?_ (iQ.refl _);show Ag _ (M.dD (0,0));unfold dD;rw[show((0,0):Int×Int).1.natAbs=0 from rfl,M6.cT];exact Ag.agg (.cons (Ep.refl _) (.cons (Ep.nil _) (zN.refl _)))
theorem spec:Qx E f50 aF oZ (pN .i64) sp:=by
 rintro x e ⟨hw,h1,h2⟩;have s:=start x.1 x.2 e;have hl:=hw.len;have hf:=fW.lK hw;have hb:=hw.bl;obtain⟨b,a⟩:=x;have hn:M6.cV a:=hw.1
 try dsimp only at *
 unfold sp
 try dsimp only
 rw[gP,hf,cAT,bF]at s;have aNT:=iT (b,a)
 try dsimp only at aNT
 by_cases hz:a.length=0
 ·have hv:=(M6.eF hn).1 hz;have aHO:wv (b,a)=0:=by omega
  rw[cD]at s;refine⟨_,s,?_⟩;rw[aHO];refine .cons ?_ (iQ.refl _);show Ag _ (M.dD (0,0));unfold dD;rw[show((0,0):Int×Int).1.natAbs=0 from rfl,M6.cT];exact Ag.agg (.cons (Ep.refl _) (.cons (Ep.nil _) (zN.refl _)))
 ·have hv:M6.val a≠0:=fun h=>hz ((M6.eF hn).2 h)
  have aHO:wv (b,a)≠0:=by omega
  have ht:=Fb hv;have hs:=uJ _ hv;have Aa:∀p:Bool,(p=(decide (-1048576<=e+(tz (M6.val a):Nat))&&decide (e+(tz (M6.val a):Nat)<=1048576)))->iF (wv (b,a)) e=p:=by
   intro p hp;unfold iF;rw[aNT,decide_eq_false aHO,cAU,hp]
  rw[bJ,gP ⟨hn.lM,by omega⟩]at s
  by_cases c1:1048576<e
  ·rw[aQ c1]at s;rw[Aa false (by rw[decide_eq_false (show ¬(e+(tz (M6.val a):Nat)<=1048576) by omega),cEF])];exact⟨_,s,tK _⟩
  ·rw[aL c1]at s
   by_cases c2:e < -1572864
   ·rw[aQ c2]at s;rw[Aa false (by rw[decide_eq_false (show ¬(-1048576<=e+(tz (M6.val a):Nat)) by omega),cEC])];exact⟨_,s,tK _⟩
   ·have w:i64.wrap (e+(tz (M6.val a):Int))=e+(tz (M6.val a):Int):=wrap_i64;rw[aL c2,w]at s
    by_cases c3:e+(tz (M6.val a):Int) < -1048576
    ·rw[aQ c3]at s;rw[Aa false (by rw[decide_eq_false (show ¬(-1048576<=e+(tz (M6.val a):Nat)) by omega),cEC])];exact⟨_,s,tK _⟩
    ·rw[aL c3]at s
     by_cases c4:1048576<e+(tz (M6.val a):Int)
     ·rw[aQ c4]at s;rw[Aa false (by rw[decide_eq_false (show ¬(e+(tz (M6.val a):Nat)<=1048576) by omega),cEF])];exact⟨_,s,tK _⟩
     ·rw[aL c4,Dv,gP ⟨hn,hl,by omega,by omega⟩,w,cCQ]at s;rw[Aa true (by rw[decide_eq_true (show(e+(tz (M6.val a):Nat)<=1048576) by omega),decide_eq_true (show(-1048576<=e+(tz (M6.val a):Nat)) by omega)];rfl)];refine⟨_,s,?_⟩;have:aN (wv (b,a)) e=(zs b (M6.val a/2^tz (M6.val a)),e+(tz (M6.val a):Nat)):=by
       unfold aN;rw[if_neg aHO,aNT];have:=aWV (b:=b) (cBT (n:=tz (M6.val a)) (show 0<2 by decide)) hs.1;rw[<-this];rfl
      rw[this];have hq:M6.val a/2^tz (M6.val a)≠0:=by omega
      show iQ _ [M.dD (zs b (M6.val a/2^tz (M6.val a)),e+(tz (M6.val a):Nat)),_];unfold dD
      try dsimp only
      rw[Sx,mB,decide_eq_true hq,Bool.and_true];exact iQ.refl _
def aJ:dK:=orc2 oZ (pN .i64) sp
theorem ok:OK 50 aJ:=(fJ E aF (aA fW.ok (aA Et.ok (aA Gv.ok aD))) func50).aQO rfl spec
end jQ
namespace bQ
def E:=mE [(45,mL.aJ),(46,nA.aJ),(47,Gx.aJ),(48,Bz.aJ),(49,Gw.aJ),(50,jQ.aJ)] 79 [44,67,76] [(7,[2,3,4]),(12,[4,6,7,9])] [7,12]
def aF:=bd f13
theorem aX:Nk E aF:=nk
def J7 a b c d e f g h:=mU E f13 aF 7 [dR 0 29 [cX a,gJ b,dC c],dR 1 29 [cX d,gJ e,dC f],dR 2 29 [cX g,sc (slice none 0 0),dC h]]
def aQX a b c d e f g:=mU E f13 aF 12 [dR 0 29 [cX a,sc (slice none 0 0),dC b],cA c,dR 2 27 [cX d,gJ e],dR 3 27 [cX f,gJ g]]
theorem start a b c d e f:aI E f13 aF [D.agg [sc (bool a),ints u64 b,sc (int i64 c)],D.agg [sc (bool d),ints u64 e,sc (int i64 f)]]=aO (aR (a,b,c)) (aO (aR (d,e,f)) (aO True (aB ((b.length:Int)==(0:Int)) (aO (e.length<=1099511627776) (some [D.agg [sc (bool d),ints u64 e,sc (int i64 f)],D.s (sc (int i64 0))])) (aO True (aB ((e.length:Int)==(0:Int)) (aO (b.length<=1099511627776) (some [D.agg [sc (bool a),ints u64 b,sc (int i64 c)],D.s (sc (int i64 0))])) (bQ.J7 a b c d e f false 0)))))):=eJ aX
theorem Pl a b c d e f g h:J7 a b c d e f g h=letI G:=i64.wrap (c-if f<c then f else c);letI I:=M6.val b*(2:Nat)^G.toNat;letI F:=i64.wrap (f-if f<c then f else c);letI H:=M6.val e*(2:Nat)^F.toNat;letI C:=some [D.agg [sc (bool false),sc (slice none 0 0),sc (int i64 0)],D.s (sc (int i64 5))];letI B:=bif fit H then wv (d,e)*(↑((2:Nat)^F.toNat):Int)else(0:Int);letI A:=bif fit I then wv (a,b)*(↑((2:Nat)^G.toNat):Int)else(0:Int);aO (gY (a,b)/\0<=i64.wrap (c-if f<c then f else c)/\i64.wrap (c-if f<c then f else c)<4611686018427387904) (aO (gY (d,e)/\0<=i64.wrap (f-if f<c then f else c)/\i64.wrap (f-if f<c then f else c)<4611686018427387904) (aB ((bif fit I then(0:Int)else(5:Int)) !=0) C (aB ((bif fit H then(0:Int)else(5:Int)) !=0) C (bQ.aQX g h (if f<c then f else c) (isNeg A) (M6.dg A.natAbs) (isNeg B) (M6.dg B.natAbs))))):=cJ aX
theorem Iz a b c d e f g:aQX a b c d e f g=letI G:=wv (d,e)+wv (f,g);letI F:=bif fit G.natAbs then(0:Int)else(5:Int);letI C:=bif fit G.natAbs then wv (d,e)+wv (f,g)else(0:Int);letI A:=(isNeg C,M6.dg C.natAbs);letI B:=bif iF (wv A) c then aN (wv A) c else((0:Int),(0:Int));aO (gY (d,e)/\gY (f,g)) (aB (F !=0) (some [D.agg [sc (bool false),sc (slice none 0 0),sc (int i64 0)],D.s (sc (int i64 F))]) (aO (gY A/\(-9223372036854775808:Int)<=c/\c<9223372036854775808) (some [D.agg [sc (bool (isNeg B.fst)),ints u64 (M6.dg B.fst.natAbs),sc (int i64 B.snd)],D.s (sc (int i64 (bif iF (wv A) c then(0:Int)else(5:Int))))]))):=cJ aX
def iE(p q:Int×Int):Int:=if q.2<p.2 then q.2 else p.2
def nU(p q:Int×Int):Int:=p.1*((2^(p.2-iE p q).toNat:Nat):Int)
def nT(p q:Int×Int):Int:=q.1*((2^(q.2-iE p q).toNat:Nat):Int)
def oA(p q:Int×Int):Int×Int:=if p.1=0 then q else if q.1=0 then p else aN (nU p q+nT p q) (iE p q)
def kT(p q:Int×Int):Bool:=decide (p.1=0)||(decide (q.1=0)||(fit (nU p q).natAbs&&(fit (nT p q).natAbs&&(fit (nU p q+nT p q).natAbs&&iF (nU p q+nT p q) (iE p q)))))
def sp(x y:gQ):Prop×List D:=(aR x/\aR y,dE (kT (dv x) (dv y)) (oA (dv x) (dv y)))
theorem spec:Qx E f13 aF jO jO sp:=by
 rintro x y ⟨hx,hy⟩;have s:=start x.1 x.2.1 x.2.2 y.1 y.2.1 y.2.2;have dx:=hx.dD;have dy:=hy.dD;have lx:=hx.len;have ly:=hy.len;have rx:=hx.2.1;have ry:=hy.2.1;have zx:=M6.eF hx.Jy;have zy:=M6.eF hy.Jy;have wx:=hx.Ez;have wy:=hy.Ez;obtain⟨b,a,e⟩:=x;obtain⟨c,d,f⟩:=y
 try dsimp only at *
 unfold sp
 try dsimp only
 have ax:=iT (b,a);have ay:=iT (c,d)
 try dsimp only at ax ay
 rw[gP hx,gP hy,gP trivial]at s
 by_cases h0:a.length=0
 ·have hw:(dv (b,a,e)).1=0:=by have:=zx.1 h0;show wv (b,a)=0;omega
  rw[cD,gP]at s;refine⟨_,s,?_⟩;unfold kT oA;rw[decide_eq_true hw,cED,if_pos hw];show iQ _ [M.dD (dv (c,d,f)),_];rw[dy];exact iQ.refl _
 ·have hw:(dv (b,a,e)).1≠0:=by have:M6.val a≠0:=fun h=>h0 (zx.2 h);show wv (b,a)≠0;omega
  rw[bJ,gP trivial]at s
  by_cases g0:d.length=0
  ·have hv:(dv (c,d,f)).1=0:=by have:=zy.1 g0;show wv (c,d)=0;omega
   rw[cD,gP]at s;refine⟨_,s,?_⟩;unfold kT oA;rw[decide_eq_false hw,cAU,decide_eq_true hv,cED,if_neg hw,if_pos hv];show iQ _ [M.dD (dv (b,a,e)),_];rw[dx];exact iQ.refl _
  ·have hv:(dv (c,d,f)).1≠0:=by have:M6.val d≠0:=fun h=>g0 (zy.2 h);show wv (c,d)≠0;omega
   have i1:iE (dv (b,a,e)) (dv (c,d,f))<=e/\iE (dv (b,a,e)) (dv (c,d,f))<=f/\-1048576<=iE (dv (b,a,e)) (dv (c,d,f)):=by
    unfold iE dv
    try dsimp only
    split <;> omega
   have u1:i64.wrap (e-iE (dv (b,a,e)) (dv (c,d,f)))=e-iE (dv (b,a,e)) (dv (c,d,f)):=wrap_i64;have u2:i64.wrap (f-iE (dv (b,a,e)) (dv (c,d,f)))=f-iE (dv (b,a,e)) (dv (c,d,f)):=wrap_i64;have e1:(if f<e then f else e)=iE (dv (b,a,e)) (dv (c,d,f)):=rfl;have f1:M6.val a*2^(e-iE (dv (b,a,e)) (dv (c,d,f))).toNat=(nU (dv (b,a,e)) (dv (c,d,f))).natAbs:=by
    show _=(wv (b,a)*_).natAbs;rw[cEG,ax,cEJ];rfl
   have f2:M6.val d*2^(f-iE (dv (b,a,e)) (dv (c,d,f))).toNat=(nT (dv (b,a,e)) (dv (c,d,f))).natAbs:=by
    show _=(wv (c,d)*_).natAbs;rw[cEG,ay,cEJ];rfl
   have f3:wv (b,a)*((2^(e-iE (dv (b,a,e)) (dv (c,d,f))).toNat:Nat):Int)=nU (dv (b,a,e)) (dv (c,d,f)):=rfl;have f4:wv (c,d)*((2^(f-iE (dv (b,a,e)) (dv (c,d,f))).toNat:Nat):Int)=nT (dv (b,a,e)) (dv (c,d,f)):=rfl;rw[bJ,Pl,e1,u1,u2]at s
   try dsimp only at s
   rw[f1,f2,f3,f4,gP ⟨wx,by omega,by omega⟩,gP ⟨wy,by omega,by omega⟩]at s;have ao:kT (dv (b,a,e)) (dv (c,d,f))=(fit (nU (dv (b,a,e)) (dv (c,d,f))).natAbs&&(fit (nT (dv (b,a,e)) (dv (c,d,f))).natAbs&&(fit (nU (dv (b,a,e)) (dv (c,d,f))+nT (dv (b,a,e)) (dv (c,d,f))).natAbs&&iF (nU (dv (b,a,e)) (dv (c,d,f))+nT (dv (b,a,e)) (dv (c,d,f))) (iE (dv (b,a,e)) (dv (c,d,f)))))):=by
    unfold kT;rw[decide_eq_false hw,cAU,decide_eq_false hv,cAU]
   have ad:oA (dv (b,a,e)) (dv (c,d,f))=aN (nU (dv (b,a,e)) (dv (c,d,f))+nT (dv (b,a,e)) (dv (c,d,f))) (iE (dv (b,a,e)) (dv (c,d,f))):=by
    unfold oA;rw[if_neg hw,if_neg hv]
   rw[ao,ad];generalize nU (dv (b,a,e)) (dv (c,d,f))=X at *;generalize nT (dv (b,a,e)) (dv (c,d,f))=Y at *;generalize iE (dv (b,a,e)) (dv (c,d,f))=k at *;cases c1:fit X.natAbs with
   |false =>
    rw[c1,cond_false,nZ]at s;rw[cEC];exact⟨_,s,jQ.tK _⟩
   |true =>
    rw[c1,cond_true,gF rfl]at s;cases c2:fit Y.natAbs with
    |false =>
     rw[c2,cond_false,nZ]at s;rw[cEC,cEF];exact⟨_,s,jQ.tK _⟩
    |true =>
     rw[c2,cond_true,gF rfl,Iz,gP ⟨gI (yR c1),gI (yR c2)⟩]at s
     try dsimp only[cond_true]at s
     rw[nW,nW]at s;cases c3:fit (X+Y).natAbs with
     |false =>
      rw[c3]at s
      try dsimp only[cond_false]at s
      rw[nZ]at s;rw[cEC,cEF,cEF];exact⟨_,s,jQ.tK _⟩
     |true =>
      rw[c3]at s
      try dsimp only[cond_true]at s
      rw[gF rfl,gP ⟨gI (yR c3),by omega,by omega⟩,nW]at s;rw[cBV,cBV,cBV];exact⟨_,s,iQ.refl _⟩
def aJ:dK:=orc2 jO jO sp
theorem ok:OK 13 aJ:=(fJ E aF (aA mL.ok (aA nA.ok (aA Gx.ok (aA Bz.ok (aA Gw.ok (aA jQ.ok aD)))))) func13).aQO rfl spec
end bQ
namespace kN
def E:=mE [(45,mL.aJ),(46,nA.aJ),(47,Gx.aJ)] 45 [] [(7,[1,2,4])] [7]
def aF:=bd f56
theorem aX:Nk E aF:=nk
def J7 a b c d e f:=mU E f56 aF 7 [cA a,dR 1 29 [cX b,gJ c,dC d],dR 2 29 [cX e,sc (slice none 0 0),dC f]]
theorem start a c d b:aI E f56 aF [D.agg [sc (bool a),ints u64 c,sc (int i64 d)],D.s (sc (int i64 b))]=letI B:=int i64 0;letI A:=some [D.agg [sc (bool false),sc (slice none 0 0),sc B],D.s (sc (int i64 5))];aO (aR (a,c,d)) (aO True (aB ((c.length:Int)==(0:Int)) (some [D.agg [sc (bool false),sc (slice none 0 0),sc B],D.s (sc B)]) (aB (decide (2097152<b)) A (aB (decide (b<(-2097152:Int))) A (aB (decide (1048576<i64.wrap (d+b))) A (aB (decide (i64.wrap (d+b)<(-1048576:Int))) A (kN.J7 b a c d false 0))))))):=eJ aX
theorem Pl a b c d e f:J7 a b c d e f=aO (c.length<=1099511627776) (some [D.agg [sc (bool b),ints u64 c,sc (int i64 (i64.wrap (d+a)))],D.s (sc (int i64 0))]):=cJ aX
def Kr(p:Int×Int)(n:Int):Int×Int:=if p.1=0 then(0,0)else(p.1,p.2+n)
def Hi(p:Int×Int)(n:Int):Bool:=decide (p.1=0)||(decide (-1048576<=p.2+n)&&decide (p.2+n<=1048576))
def sp(x:gQ)(n:Int):Prop×List D:=(aR x/\-9223372036854775808<=n/\n<9223372036854775808,dE (Hi (dv x) n) (Kr (dv x) n))
theorem spec:Qx E f56 aF jO (pN .i64) sp:=by
 rintro x n ⟨h,h1,h2⟩;have hl:=h.len;have hd:=h.dD;have hr:=h.2.1;have s:=start x.1 x.2.1 x.2.2 n;obtain⟨b,a,e⟩:=x
 try dsimp only at *
 unfold sp
 try dsimp only
 have hz:=M6.eF h.Jy;have ha:=iT (b,a)
 try dsimp only at ha hz
 rw[gP h,gP trivial]at s
 by_cases h0:a.length=0
 ·have hw:(dv (b,a,e)).1=0:=by have:=hz.1 h0;show wv (b,a)=0;omega
  rw[cD]at s;refine⟨_,s,?_⟩;unfold Hi Kr;rw[decide_eq_true hw,cED,if_pos hw];refine .cons ?_ (iQ.refl _);show Ag _ (M.dD (0,0));unfold M.dD;rw[show((0,0):Int×Int).1.natAbs=0 from rfl,M6.cT];exact Ag.agg (.cons (Ep.refl _) (.cons (Ep.nil _) (zN.refl _)))
 ·have hw:(dv (b,a,e)).1≠0:=by have:M6.val a≠0:=fun h=>h0 (hz.2 h);show wv (b,a)≠0;omega
  have Aa:∀p:Bool,(p=(decide (-1048576<=e+n)&&decide (e+n<=1048576)))->Hi (dv (b,a,e)) n=p:=by
   intro p hp;unfold Hi;rw[decide_eq_false hw,cAU,hp];rfl
  rw[bJ]at s
  by_cases c1:2097152<n
  ·rw[aQ c1]at s;rw[Aa false (by rw[decide_eq_false (show ¬(e+n<=1048576) by omega),cEF])];exact⟨_,s,jQ.tK _⟩
  ·rw[aL c1]at s
   by_cases c2:n < -2097152
   ·rw[aQ c2]at s;rw[Aa false (by rw[decide_eq_false (show ¬(-1048576<=e+n) by omega),cEC])];exact⟨_,s,jQ.tK _⟩
   ·have w:i64.wrap (e+n)=e+n:=wrap_i64;rw[aL c2,w]at s
    by_cases c3:1048576<e+n
    ·rw[aQ c3]at s;rw[Aa false (by rw[decide_eq_false (show ¬(e+n<=1048576) by omega),cEF])];exact⟨_,s,jQ.tK _⟩
    ·rw[aL c3]at s
     by_cases c4:e+n < -1048576
     ·rw[aQ c4]at s;rw[Aa false (by rw[decide_eq_false (show ¬(-1048576<=e+n) by omega),cEC])];exact⟨_,s,jQ.tK _⟩
     ·rw[aL c4,Pl]at s
      try dsimp only at s
      rw[gP,w]at s;rw[Aa true (by rw[decide_eq_true (show(e+n<=1048576) by omega),decide_eq_true (show(-1048576<=e+n) by omega)];rfl)];refine⟨_,s,?_⟩;unfold Kr;rw[if_neg hw];have hc:=h.Ez.cells;show iQ _ [M.dD (wv (b,a),e+n),_];unfold M.dD
      try dsimp only
      rw[hc.1,hc.2];exact iQ.refl _
def aJ:dK:=orc2 jO (pN .i64) sp
theorem ok:OK 56 aJ:=(fJ E aF (aA mL.ok (aA nA.ok (aA Gx.ok aD))) func56).aQO rfl spec
end kN
namespace aQD
def E:=mE [(106,tA.aJ)] 11 [] [] []
def aF:=bd f207
theorem aX:Nk E aF:=nk
theorem start a b:aI E f207 aF [D.agg [sc (bool a),ints u64 b]]=aO (M6.dJ b/\b.length<=1099511627776) (aB ((↑(bl (M6.val b)):Int)==(0:Int)) (some [D.s (sc (int i64 0))]) (aB a (some [D.s (sc (int i64 (-1:Int)))]) (some [D.s (sc (int i64 1))]))):=eJ aX
def sp(x:Bool×List Int):Prop×List D:=(gY x,[.s (.sc (.int .i64 (mG (wv x) 0)))])
theorem spec:jL E f207 aF oZ sp:=by
 intro x h;refine(start x.1 x.2).trans ?_;have h:gY x:=h;have hl:=h.len;obtain⟨h1,h2,h3⟩:=h;unfold sp;simp only;rw[gP ⟨h1.lM,by omega⟩]
 by_cases hz:M6.val x.2=0
 ·rw[hz,Vk,cD (a:=((0:Nat):Int)) (b:=0) rfl];cases hx:x.1 with
  |true=>exact(h2 hx hz).elim
  |false=>rw[Gz hx,hz];rfl
 ·have:=qJ hz;rw[bJ];cases hx:x.1 with
  |true=>rw[bT,Ta hx];unfold mG;rw[aW]
  |false=>rw[bF,Gz hx];unfold mG;rw[aP,aW]
def aJ:dK:=orc1 oZ sp
theorem ok:OK 207 aJ:=(fJ E aF (aA tA.ok aD) func207).qB rfl spec
end aQD
namespace aQK
def E:=mE [(106,tA.aJ)] 11 [] [] []
def aF:=bd f234
theorem aX:Nk E aF:=nk
theorem start a b c:aI E f234 aF [D.agg [sc (bool a),ints u64 b,sc (int i64 c)]]=aO (M6.dJ b/\b.length<=1099511627776) (some [D.s (sc (int i64 (i64.wrap (i64.wrap (c+(↑(bl (M6.val b)):Int))-1))))]):=eJ aX
def sp(x:gQ):Prop×List D:=(aR x,[.s (.sc (.int .i64 (x.2.2+(bl (M6.val x.2.1):Nat)-1)))])
theorem spec:jL E f234 aF jO sp:=by
 intro x h;have h:aR x:=h;have hl:=h.len;have hb:=h.Ez.bl;refine(start x.1 x.2.1 x.2.2).trans ?_;have he:=h.2.1
 try dsimp only at hb
 rw[gP ⟨h.Jy.lM,by omega⟩,wrap_i64 (n:=x.2.2+_),wrap_i64];rfl
def aJ:dK:=orc1 jO sp
theorem ok:OK 234 aJ:=(fJ E aF (aA tA.ok aD) func234).qB rfl spec
end aQK
namespace aQL
def E:=mE [(234,aQK.aJ),(98,lC.aJ),(101,Bw.aJ)] 54 [53] [] []
def aF:=bd f208
theorem aX:Nk E aF:=nk
theorem start a b c d e f:aI E f208 aF [D.agg [sc (bool a),ints u64 b,sc (int i64 c)],D.agg [sc (bool d),ints u64 e,sc (int i64 f)]]=letI H:=(↑(bl (M6.val e)):Int);letI G:=(↑(bl (M6.val b)):Int);letI F:=i64.wrap (c-if f<c then f else c);letI C:=i64.wrap (f-if f<c then f else c);letI B:=bif lC.kG (M6.val e) C.toNat then M6.dg (M6.val e*(2:Nat)^C.toNat)else [];letI A:=bif lC.kG (M6.val b) F.toNat then M6.dg (M6.val b*(2:Nat)^F.toNat)else [];aO (aR (a,b,c)) (aO (aR (d,e,f)) (aB (decide (c+G-(1:Int)<f+H-(1:Int))) (some [D.s (sc (int i64 (-1:Int)))]) (aB (decide (f+H-(1:Int)<c+G-(1:Int))) (some [D.s (sc (int i64 1))]) (aO (M6.cV b/\b.length<=8192/\0<=i64.wrap (c-if f<c then f else c)/\i64.wrap (c-if f<c then f else c)<4611686018427387904) (aO (M6.cV e/\e.length<=8192/\0<=i64.wrap (f-if f<c then f else c)/\i64.wrap (f-if f<c then f else c)<4611686018427387904) (aO (M6.dJ A/\M6.dJ B/\A.length<=1099511627776/\B.length<=1099511627776) (some [D.s (sc (int i64 (lY (M6.val A) (M6.val B))))]))))))):=eJ aX
def sp(x y:gQ):Prop×List D:=((aR x/\aR y)/\x.2.1.length≠0/\y.2.1.length≠0,[.s (.sc (.int .i64 (lY (bQ.nU (dv x) (dv y)).natAbs (bQ.nT (dv x) (dv y)).natAbs)))])
theorem spec:hI E f208 aF jO jO sp:=by
 rintro x y ⟨⟨hx,hy⟩,h0,g0⟩;refine(start x.1 x.2.1 x.2.2 y.1 y.2.1 y.2.2).trans ?_;have lx:=hx.len;have ly:=hy.len;have nx:=hx.Jy;have ny:=hy.Jy;have bx:=hx.Ez.bl;have bYH:=hy.Ez.bl
 have rx:=hx.2.1;have ry:=hy.2.1;obtain⟨b,a,e⟩:=x;obtain⟨c,d,f⟩:=y
 try dsimp only at *
 unfold sp
 try dsimp only
 have ax:=iT (b,a);have ay:=iT (c,d)
 try dsimp only at ax ay
 have vx:M6.val a≠0:=fun h=>h0 ((M6.eF nx).2 h)
 have vy:M6.val d≠0:=fun h=>g0 ((M6.eF ny).2 h)
 rw[gP hx,gP hy];have i1:bQ.iE (dv (b,a,e)) (dv (c,d,f))<=e/\bQ.iE (dv (b,a,e)) (dv (c,d,f))<=f/\-1048576<=bQ.iE (dv (b,a,e)) (dv (c,d,f))/\(bQ.iE (dv (b,a,e)) (dv (c,d,f))=e\/bQ.iE (dv (b,a,e)) (dv (c,d,f))=f):=by
  unfold bQ.iE dv
  try dsimp only
  split <;> omega
 have u1:i64.wrap (e-bQ.iE (dv (b,a,e)) (dv (c,d,f)))=e-bQ.iE (dv (b,a,e)) (dv (c,d,f)):=wrap_i64;have u2:i64.wrap (f-bQ.iE (dv (b,a,e)) (dv (c,d,f)))=f-bQ.iE (dv (b,a,e)) (dv (c,d,f)):=wrap_i64;have e1:(if f<e then f else e)=bQ.iE (dv (b,a,e)) (dv (c,d,f)):=rfl;have f1:(bQ.nU (dv (b,a,e)) (dv (c,d,f))).natAbs=M6.val a*2^(e-bQ.iE (dv (b,a,e)) (dv (c,d,f))).toNat:=by
  show(wv (b,a)*_).natAbs=_;rw[cEG,ax,cEJ];rfl
 have f2:(bQ.nT (dv (b,a,e)) (dv (c,d,f))).natAbs=M6.val d*2^(f-bQ.iE (dv (b,a,e)) (dv (c,d,f))).toNat:=by
  show(wv (c,d)*_).natAbs=_;rw[cEG,ay,cEJ];rfl
 rw[f1,f2,e1,u1,u2];generalize bQ.iE (dv (b,a,e)) (dv (c,d,f))=k at *;have m1:bl (M6.val a*2^(e-k).toNat)=(e-k).toNat+bl (M6.val a):=by rw[cDR,zD vx]
 have m2:bl (M6.val d*2^(f-k).toNat)=(f-k).toNat+bl (M6.val d):=by rw[cDR,zD vy]
 have lt:∀m n:Nat,bl m<bl n->m<n:=fun m n h=>Nat.lt_of_not_le fun hc=>by have:=gM hc;omega
 by_cases c1:e+(bl (M6.val a):Int)-1<f+(bl (M6.val d):Int)-1
 ·have:=lt (M6.val a*2^(e-k).toNat) (M6.val d*2^(f-k).toNat) (by rw[m1,m2];omega);rw[aQ c1];unfold lY;rw[if_pos this]
 ·rw[aL c1]
  by_cases c2:f+(bl (M6.val d):Int)-1<e+(bl (M6.val a):Int)-1
  ·have:=lt (M6.val d*2^(f-k).toNat) (M6.val a*2^(e-k).toNat) (by rw[m1,m2];omega);rw[aQ c2];unfold lY;rw[aP,if_pos this]
  ·have o1:lC.kG (M6.val a) (e-k).toNat=true:=by
    unfold lC.kG;rw[decide_eq_true (show bl (M6.val a)+(e-k).toNat<=524288 by omega),cEQ]
   have o2:lC.kG (M6.val d) (f-k).toNat=true:=by
    unfold lC.kG;rw[decide_eq_true (show bl (M6.val d)+(f-k).toNat<=524288 by omega),cEQ]
   have k1:=gA (n:=M6.val a*2^(e-k).toNat) (k:=8192) (by rw[m1];omega);have k2:=gA (n:=M6.val d*2^(f-k).toNat) (k:=8192) (by rw[m2];omega);rw[aL c2,gP ⟨nx,lx,by omega,by omega⟩,gP ⟨ny,ly,by omega,by omega⟩,o1,o2,cond_true,cond_true,gP ⟨M6.mF _,M6.mF _,by omega,by omega⟩,M6.bZ,M6.bZ]
def aJ:dK:=orc2 jO jO sp
theorem ok:OK 208 aJ:=(fJ E aF (aA aQK.ok (aA lC.ok (aA Bw.ok aD))) func208).nF rfl spec
end aQL
namespace Ki
def E:=mE [(45,mL.aJ),(207,aQD.aJ),(208,aQL.aJ)] 38 [] [(3,[2,3])] [3]
def aF:=bd f158
theorem aX:Nk E aF:=nk
def J3 a b c d e f:=mU E f158 aF 3 [dR 0 29 [cX a,gJ b,dC c],dR 1 29 [cX d,gJ e,dC f]]
theorem start a b c d e f:aI E f158 aF [D.agg [sc (bool a),ints u64 b,sc (int i64 c)],D.agg [sc (bool d),ints u64 e,sc (int i64 f)]]=aO (aR (a,b,c)) (aO (aR (d,e,f)) (Ki.J3 a b c d e f)):=eJ aX
theorem iL a b c d e f:J3 a b c d e f=letI B:=wv (a,b);letI A:=sc (int i64 0);aO (gY (a,b)) (aO (gY (d,e)) (aB (decide (mG B 0<mG (wv (d,e)) 0)) (some [D.s (sc (int i64 (-1:Int))),D.s A]) (aB (decide (mG (wv (d,e)) 0<mG B 0)) (some [D.s (sc (int i64 1)),D.s A]) (aB (mG B 0==(0:Int)) (some [D.s A,D.s A]) (aO ((aR (a,b,c)/\aR (d,e,f))/\b.length≠0/\e.length≠0) (some [D.s (sc (int i64 (i64.wrap (mG B 0*lY (bQ.nU (dv (a,b,c)) (dv (d,e,f))).natAbs (bQ.nT (dv (a,b,c)) (dv (d,e,f))).natAbs)))),D.s A])))))):=cJ aX
def sp(x y:gQ):Prop×List D:=(aR x/\aR y,[.s (.sc (.int .i64 (mG (bQ.nU (dv x) (dv y)) (bQ.nT (dv x) (dv y))))),.s (.sc (.int .i64 0))])
theorem aVE(z:Int)(P:Nat)(h:0<P):(0<z->0<z*(P:Int))/\(z<0->z*(P:Int)<0)/\(z=0->z*(P:Int)=0) :=
 ⟨fun hz=>Int.mul_pos hz (by omega),fun hz=>Int.mul_neg_of_neg_of_pos hz (by omega),fun hz=>by rw[hz,cEH]⟩
theorem cz(z:Int):(0<z/\mG z 0=1)\/(z<0/\mG z 0=-1)\/(z=0/\mG z 0=0):=by
 unfold mG
 by_cases h:z<0
 ·rw[if_pos h];omega
 ·rw[if_neg h]
  by_cases h':0<z
  ·rw[if_pos h'];omega
  ·rw[if_neg h'];omega
theorem spec:hI E f158 aF jO jO sp:=by
 rintro x y ⟨hx,hy⟩;refine(start x.1 x.2.1 x.2.2 y.1 y.2.1 y.2.2).trans ?_;have wx:=hx.Ez;have wy:=hy.Ez;have nx:=hx.Jy;have ny:=hy.Jy;obtain⟨b,a,e⟩:=x;obtain⟨c,d,f⟩:=y
 try dsimp only at *
 unfold sp
 try dsimp only
 have ax:=iT (b,a);have ay:=iT (c,d)
 try dsimp only at ax ay
 have zx:=M6.eF nx;have zy:=M6.eF ny;have sX:(0<wv (b,a)->0<bQ.nU (dv (b,a,e)) (dv (c,d,f)))/\(wv (b,a)<0->bQ.nU (dv (b,a,e)) (dv (c,d,f))<0)/\(wv (b,a)=0->bQ.nU (dv (b,a,e)) (dv (c,d,f))=0):=aVE _ _ (cBT (by decide));have sY:(0<wv (c,d)->0<bQ.nT (dv (b,a,e)) (dv (c,d,f)))/\(wv (c,d)<0->bQ.nT (dv (b,a,e)) (dv (c,d,f))<0)/\(wv (c,d)=0->bQ.nT (dv (b,a,e)) (dv (c,d,f))=0):=aVE _ _ (cBT (by decide));rw[gP hx,gP hy,iL,gP wx,gP wy];have guard:wv (b,a)≠0->wv (c,d)≠0->(aR (b,a,e)/\aR (c,d,f))/\a.length≠0/\d.length≠0:=fun h1 h2=>⟨⟨hx,hy⟩,fun h=>h1 (by have:=zx.1 h;omega),fun h=>h2 (by have:=zy.1 h;omega)⟩
 generalize bQ.nU (dv (b,a,e)) (dv (c,d,f))=X at *;generalize bQ.nT (dv (b,a,e)) (dv (c,d,f))=Y at *;have bAG:∀n:Int,mG X Y=n->some [D.s (.sc (.int .i64 n)),D.s (.sc (.int .i64 0))]=some [D.s (.sc (.int .i64 (mG X Y))),D.s (.sc (.int .i64 0))]:=fun n h=>by rw[h]
 rcases cz (wv (b,a))with ⟨h1,c1⟩ |⟨h1,c1⟩ |⟨h1,c1⟩ <;> rcases cz (wv (c,d))with ⟨h2,c2⟩ |⟨h2,c2⟩ |⟨h2,c2⟩ <;> rw[c1,c2]
 ·rw[aL,aL,bJ,gP (guard (by omega) (by omega))];have:=sX.1 h1;have:=sY.1 h2;refine(congrArg (fun n=>some [D.s (.sc (.int .i64 n)),D.s (.sc (.int .i64 0))]) ?_);unfold lY mG;split <;> split <;> (try split) <;> (try split) <;> first |rfl |omega
 ·rw[aL,aQ];refine bAG _ ?_;have:=sX.1 h1;have:=sY.2.1 h2;unfold mG;rw[aP,aW]
 ·rw[aL,aQ];refine bAG _ ?_;have:=sX.1 h1;have:=sY.2.2 h2;unfold mG;rw[aP,aW]
 ·rw[aQ];refine bAG _ ?_;have:=sX.2.1 h1;have:=sY.1 h2;unfold mG;rw[aW]
 ·rw[aL,aL,bJ,gP (guard (by omega) (by omega))];have:=sX.2.1 h1;have:=sY.2.1 h2;refine(congrArg (fun n=>some [D.s (.sc (.int .i64 n)),D.s (.sc (.int .i64 0))]) ?_);unfold lY mG;split <;> split <;> (try split) <;> (try split) <;> first |rfl |omega
 ·rw[aQ];refine bAG _ ?_;have:=sX.2.1 h1;have:=sY.2.2 h2;unfold mG;rw[aW]
 ·rw[aQ];refine bAG _ ?_;have:=sX.2.2 h1;have:=sY.1 h2;unfold mG;rw[aW]
 ·rw[aL,aQ];refine bAG _ ?_;have:=sX.2.2 h1;have:=sY.2.1 h2;unfold mG;rw[aP,aW]
 ·rw[aL,aL,cD rfl];refine bAG _ ?_;have:=sX.2.2 h1;have:=sY.2.2 h2;unfold mG;rw[aP,aP]
def aJ:dK:=orc2 jO jO sp
theorem ok:OK 158 aJ:=(fJ E aF (aA mL.ok (aA aQD.ok (aA aQL.ok aD))) func158).nF rfl spec
end Ki
end W
namespace M
open Go AI W
def p2(n:Int):Int:=((2^n.toNat:Nat):Int)
theorem Ef(n:Int):0<p2 n:=by unfold p2;have:=cBT (n:=n.toNat) (show 0<2 by decide);omega
theorem tJ{m n:Int}(hm:0<=m)(hn:0<=n):p2 (m+n)=p2 m*p2 n:=by
 unfold p2;rw[Int.toNat_add hm hn,cDU,cEP]
theorem Ar(k:Nat):p2 (k:Int)=((2^k:Nat):Int):=by unfold p2;rw[cCQ]
theorem aEU:p2 0=1:=rfl
theorem aLX:p2 1=2:=rfl
theorem fN(e:Int):aN 0 e=(0,0):=by unfold aN;rw[if_pos rfl]
theorem dU{z e:Int}:(aN z e).1=0↔z=0:=by
 constructor
 ·intro h;unfold aN at h
  by_cases hz:z=0
  ·exact hz
  ·rw[if_neg hz]at h;dsimp only at h;have hs:=(uJ z.natAbs (by omega)).1;have hd:((2^tz z.natAbs:Nat):Int)∣z:=Int.ofNat_dvd_left.2 (cFK hs);have:=cGJ hd;rw[h,cEH]at this;omega
 ·rintro rfl;rw[fN]
theorem lI{z e:Int}(hz:z≠0):z=(aN z e).1*p2 (tz z.natAbs:Nat)/\(aN z e).2=e+(tz z.natAbs:Nat):=by
 unfold aN;rw[if_neg hz];dsimp only;have hs:=(uJ z.natAbs (by omega)).1;have hd:((2^tz z.natAbs:Nat):Int)∣z:=Int.ofNat_dvd_left.2 (cFK hs);rw[Ar,cGJ hd];exact⟨rfl,rfl⟩
theorem Cq(z e:Int){k:Int}(hk:0<=k):aN (z*p2 k) e=aN z (e+k):=by
 obtain⟨n,rfl⟩:=cDX hk;rw[Ar]
 by_cases hz:z=0
 ·subst hz;rw[cEH,fN,fN]
 ·have hp:0<2^n:=cBT (by decide);have hn:z*((2^n:Nat):Int)≠0:=cGK hz (by omega);have ht:tz (z*((2^n:Nat):Int)).natAbs=n+tz z.natAbs:=by
   rw[cEG,cEJ,cDR,Td (by omega)]
  unfold aN;rw[if_neg hz,if_neg hn,ht,cDU,cEP,Int.mul_comm z,Int.mul_ediv_mul_of_pos _ _ (by omega)];congr 1;omega
theorem Rn{p:Int×Int}(h0:p.1=0->p.2=0)(h1:p.1≠0->p.1%2=1):aN p.1 p.2=p:=by
 unfold aN
 by_cases hz:p.1=0
 ·rw[if_pos hz];exact Prod.ext hz.symm (h0 hz).symm
 ·rw[if_neg hz,Ah (by have:=h1 hz;omega)];refine Prod.ext ?_ ?_
  ·show p.1/((2^0:Nat):Int)=p.1;rw[Nat.pow_zero];omega
  ·show p.2+((0:Nat):Int)=p.2;omega
theorem kE.same{p:Int×Int}(h:kE p):aN p.1 p.2=p:=Rn h.2.2.1 h.2.2.2
theorem Fo{z e:Int}(h:(aN z e).1≠0):(aN z e).1%2=1:=by
 have hz:z≠0:=fun hz=>h (dU.2 hz)
 have hs:=(uJ z.natAbs (by omega));have hv:=(lI (e:=e) hz).1;have ha:z.natAbs=(aN z e).1.natAbs*2^tz z.natAbs:=by
  rw[Ar]at hv;have:=congrArg Int.natAbs hv;rwa [cEG,cEJ]at this
 have:z.natAbs/2^tz z.natAbs=(aN z e).1.natAbs:=by
  have hp:0<2^tz z.natAbs:=cBT (by decide);generalize tz z.natAbs=t at *;rw[ha,Nat.mul_div_cancel _ hp]
 rw[this]at hs;omega
theorem Eg{z e:Int}(h:(aN z e).1=0):(aN z e).2=0:=by rw[dU.1 h,fN]
theorem vD{z e G:Int}(hz:z≠0)(h:G<=e):(aN z e).1*p2 ((aN z e).2-G)=z*p2 (e-G):=by
 obtain⟨h1,h2⟩:=lI (e:=e) hz;rw[h2];have:e+(tz z.natAbs:Int)-G=(tz z.natAbs:Int)+(e-G):=by omega
 rw[this,tJ (by omega) (by omega),<-cFA,<-h1]
theorem aBD{z e G:Int}(h:G<=e):(aN z e).1*p2 ((aN z e).2-G)=z*p2 (e-G):=by
 by_cases hz:z=0
 ·subst hz;rw[fN,cEH,cEH]
 ·exact vD hz h
theorem qC{z e:Int}(hz:z≠0):e<=(aN z e).2:=by have:=(lI (e:=e) hz).2;omega
theorem aMG(z e:Int):aN (-z) e=(-(aN z e).1,(aN z e).2):=by
 by_cases hz:z=0
 ·subst hz;rw[Int.neg_zero,fN];rfl
 ·have h:=lI (e:=e) hz;unfold aN;rw[if_neg hz,aP,cFE];have hs:=(uJ z.natAbs (by omega)).1;have hd:((2^tz z.natAbs:Nat):Int)∣z:=Int.ofNat_dvd_left.2 (cFK hs);rw[Int.neg_ediv_of_dvd hd]
theorem aEE(z e n:Int):kN.Kr (aN z e) n=aN z (e+n):=by
 unfold kN.Kr
 by_cases hz:z=0
 ·subst hz;rw[fN,fN];rfl
 ·rw[if_neg (fun h=>hz (dU.1 h))];unfold aN;rw[if_neg hz,if_neg hz];dsimp only;congr 1;omega
theorem Uc{p q:Int×Int}:bQ.iE p q<=p.2/\bQ.iE p q<=q.2:=by unfold bQ.iE;split <;> omega
theorem Gm{a E b F G:Int}(h1:G<=E)(h2:G<=F):bQ.oA (aN a E) (aN b F)=aN (a*p2 (E-G)+b*p2 (F-G)) G:=by
 unfold bQ.oA
 by_cases ha:a=0
 ·subst ha;rw[if_pos (by rw[fN]),cEH,Int.zero_add,Cq _ _ (by omega),show G+(F-G)=F by omega]
 ·rw[if_neg (fun h=>ha (dU.1 h))]
  by_cases hb:b=0
  ·subst hb;rw[if_pos (by rw[fN]),cEH,Int.add_zero,Cq _ _ (by omega),show G+(E-G)=E by omega]
  ·rw[if_neg (fun h=>hb (dU.1 h))];have ga:=vD (e:=E) ha h1;have gb:=vD (e:=F) hb h2;have la:=qC (e:=E) ha;have lb:=qC (e:=F) hb;have hm:=Uc (p:=aN a E) (q:=aN b F);have hg:G<=bQ.iE (aN a E) (aN b F):=by unfold bQ.iE;split <;> omega
   rw[<-ga,<-gb];unfold bQ.nU bQ.nT;generalize bQ.iE (aN a E) (aN b F)=m at *;generalize aN a E=p at *;generalize aN b F=q at *;have e1:p2 (p.2-G)=p2 (p.2-m)*p2 (m-G):=by rw[<-tJ (by omega) (by omega)];congr 1;omega
   have e2:p2 (q.2-G)=p2 (q.2-m)*p2 (m-G):=by rw[<-tJ (by omega) (by omega)];congr 1;omega
   rw[e1,e2,<-cFA,<-cFA,<-Int.add_mul,Cq _ _ (by omega),show G+(m-G)=m by omega];rfl
theorem iD{z e:Int}(h1:-1048576<=e)(h2:e+(bl z.natAbs:Int)<=1048577):iF z e=true:=by
 unfold iF
 by_cases hz:z=0
 ·rw[decide_eq_true hz,cED]
 ·have:=Fb (n:=z.natAbs) (by omega);rw[decide_eq_true (show -1048576<=e+(tz z.natAbs:Int) by omega),decide_eq_true (show e+(tz z.natAbs:Int)<=1048576 by omega),cBV,cEQ]
theorem Mz(z e:Int):(aN z e).1.natAbs<=z.natAbs:=by
 unfold aN;split
 ·simp
 ·exact uT (cBT (by decide))
theorem gZ{z e:Int}(hi:iF z e=true)(hf:bl z.natAbs<=524288):kE (aN z e):=by
 refine⟨bZP (gM (Mz z e)) hf,?_,Eg,Fo⟩
 by_cases hz:z=0
 ·subst hz;rw[fN];exact⟨by show(-1048576:Int)<=0;omega,by show(0:Int)<=1048576;omega⟩
 ·rw[(lI hz).2];unfold iF at hi;rw[decide_eq_false hz,cAU,bYZ]at hi;exact⟨of_decide_eq_true hi.1,of_decide_eq_true hi.2⟩
theorem aCS(z n:Int):(z*p2 n).natAbs=z.natAbs*2^n.toNat:=by
 rw[cEG];rfl
theorem Db{a E b F G:Int}(h1:G<=E)(h2:G<=F)(h3:-1048576<=G)(f1:bl (a*p2 (E-G)).natAbs<=524287)(f2:bl (b*p2 (F-G)).natAbs<=524287)(f3:G<=524288) :
  bQ.kT (aN a E) (aN b F)=true:=by
 unfold bQ.kT
 by_cases ha:a=0
 ·rw[decide_eq_true (dU.2 ha),cED]
 ·by_cases hb:b=0
  ·rw[decide_eq_true (dU.2 hb),cED,cEQ]
  ·have ga:=vD (e:=E) ha h1;have gb:=vD (e:=F) hb h2;have la:=qC (e:=E) ha;have lb:=qC (e:=F) hb;have hm:=Uc (p:=aN a E) (q:=aN b F);have hg:G<=bQ.iE (aN a E) (aN b F):=by unfold bQ.iE;split <;> omega
   rw[<-ga]at f1;rw[<-gb]at f2;have inner:∀(p:Int×Int) (m:Int),G<=m->m<=p.2->bl (p.1*p2 (p.2-G)).natAbs<=524287->p.1≠0->bl (p.1*p2 (p.2-m)).natAbs+(m-G).toNat<=524287:=by
    intro p m h1 h2 h3 hp;have e1:p2 (p.2-G)=p2 (m-G)*p2 (p.2-m):=by rw[<-tJ (by omega) (by omega)];congr 1;omega
    rw[e1,Int.mul_comm (p2 (m-G)),<-cFA,aCS,cDR,zD (by
     have:=Ef (p.2-m);have:=cGK hp (show p2 (p.2-m)≠0 by omega);omega)]at h3
    omega
   have i1:=inner _ _ hg hm.1 f1 (fun h=>ha (dU.1 h));have i2:=inner _ _ hg hm.2 f2 (fun h=>hb (dU.1 h));have x1:bl (bQ.nU (aN a E) (aN b F)).natAbs+(bQ.iE (aN a E) (aN b F)-G).toNat<=524287:=i1;have x2:bl (bQ.nT (aN a E) (aN b F)).natAbs+(bQ.iE (aN a E) (aN b F)-G).toNat<=524287:=i2;generalize bQ.nU (aN a E) (aN b F)=X at *;generalize bQ.nT (aN a E) (aN b F)=Y at *;have x3:bl (X+Y).natAbs<=max (bl X.natAbs) (bl Y.natAbs)+1:=bZP (gM (cGN _ _)) (Da _ _);have hi:iF (X+Y) (bQ.iE (aN a E) (aN b F))=true:=iD (by omega) (by omega);have yes:∀n,bl n<=524288->fit n=true:=fun n h=>decide_eq_true h
   rw[decide_eq_false (fun h=>ha (dU.1 h)),decide_eq_false (fun h=>hb (dU.1 h)),hi,yes _ (by omega),yes _ (by omega),yes _ (by omega)];rfl
theorem Xd{z e n:Int}(h1:-1048576<=e+n)(h2:e+n+(bl z.natAbs:Int)<=1048577):kN.Hi (aN z e) n=true:=by
 unfold kN.Hi
 by_cases hz:z=0
 ·rw[decide_eq_true (dU.2 hz),cED]
 ·have:=Fb (n:=z.natAbs) (by omega);have h3:=(lI (e:=e) hz).2;rw[decide_eq_false (fun h=>hz (dU.1 h)),decide_eq_true (by omega),decide_eq_true (by omega)];rfl
theorem Bm{z:Int}{b k:Nat}{n:Int}(h:bl z.natAbs<=b)(hn:n<=k):bl (z*p2 n).natAbs<=b+k:=by
 rw[aCS];refine dG.2 ?_;rw[cDU];exact Nat.mul_lt_mul_of_lt_of_le (dG.1 h) (cBU (by decide) (by omega)) (cBT (by decide))
theorem aCL{x y:Int}{n:Nat}(h1:bl x.natAbs<=n)(h2:bl y.natAbs<=n):bl (x+y).natAbs<=n+1:=by
 have:=bZP (gM (cGN x y)) (Da _ _);omega
theorem bAH{z:Int}{n:Nat}(h:bl z.natAbs<=n)(k:Int):bl (z/p2 k).natAbs<=n:=bZP (gM (uT (cBT (by decide)))) h
theorem aPQ{z:Int}{n:Nat}(h:bl z.natAbs<=n):bl (-z).natAbs<=n:=by rwa [cFE]
theorem Il:bl (1:Int).natAbs<=1:=dG.2 (by decide)
theorem Dk{R:Type}(V:Int×Int)(k:Bool->List Int->Int->Option R):(aC (isNeg V.1) fun b=>aC (M6.dg V.1.natAbs) fun l=>aC V.2 fun e=>k b l e)=k (isNeg V.1) (M6.dg V.1.natAbs) V.2:=rfl
theorem vl{α R:Type}(x:α)(k:α->Option R):aC x k=k x:=rfl
end M
namespace AI
open Go Go.RowKit
def allB:Nat->(Nat->Bool)->Bool
 |0,_=>true
 |n+1,f=>f n&&allB n f
theorem Zn{f:Nat->Bool}:∀{n:Nat},allB n f=true->∀i,i<n->f i=true
 |0,_,i,hi=>absurd hi (by omega)
 |n+1,h,i,hi=>by
  simp only[allB,bYZ]at h
  by_cases hc:i=n
  ·subst hc;exact h.1
  ·exact Zn h.2 i (by omega)
def pR{β:Type}(p:SPar β)(d:β):lB (Nat×(Nat->β)) where
 put x:=.rows p.n x.1 fun i=>p.put (x.2 i)
 get
  | .rows sz n g=>if sz=p.n/\allB n (fun i=>(p.get (g i)).isSome)=true then some (n,fun i=>(p.get (g i)).getD d)else none
  |_=>none
 le:=by
  intro dd x h
  match dd,h with
  | .rows sz n g,h =>
   dsimp only at h;split at h
   ·rename_i hc;cases h;obtain⟨rfl,Bg⟩:=hc;rintro Y w v ⟨A,c,hv,hle,aYJ⟩;refine⟨A,c,hv,hle,fun i hi=>?_⟩;obtain⟨h1,b,off,hA,h2⟩:=aYJ i hi;have hs:=Zn Bg i hi;obtain⟨y,hy⟩:=Option.isSome_iff_exists.1 hs;obtain⟨a1,a2,a3⟩:=p.le hy;dsimp only;rw[hy];refine⟨a2,b,off,hA,fun j s hj=>?_⟩;obtain⟨s0,Uk⟩:=bD (l:=g i) (i:=j) (by have:=aU hj;simp only[Option.getD_some]at this;omega);obtain⟨b1,b2,u,hu,hr⟩:=h2 j s0 Uk;exact⟨b1,b2,u,hu,a3 j s0 s Uk hj Y w u hr⟩
   ·cases h
def pFn(id:FuncId):lB Unit where
 put _:=.s (.sc (.func (.func id) #[] #[]))
 get
  | .s (.sc (.func (.func g) ⟨[]⟩ ⟨[]⟩))=>if g=id then some ()else none
  |_=>none
 le:=by
  intro dd x h;split at h
  ·split at h
   ·rename_i hg;subst hg;exact Dw.refl _
   ·cases h
  ·cases h
end AI
namespace R
def sum(f:Nat->Rat):Nat->Rat
 |0=>0
 |n+1=>sum f n+f n
theorem dS(f:Nat->Rat)(n:Nat):sum f (n+1)=sum f n+f n:=rfl
theorem kU{f g:Nat->Rat}{n:Nat}(h:∀k,k<n->f k=g k):sum f n=sum g n:=by
 induction n with
 |zero=>rfl
 |succ n ih=>rw[dS,dS,ih fun k hk=>h k (by omega),h n (by omega)]
theorem sum_add(f g:Nat->Rat)(n:Nat):sum (fun k=>f k+g k) n=sum f n+sum g n:=by
 induction n with
 |zero=>simp only[sum];grind
 |succ n ih=>simp only[dS,ih];grind
theorem Cm(f g:Nat->Rat)(n:Nat):sum (fun k=>f k-g k) n=sum f n-sum g n:=by
 induction n with
 |zero=>simp only[sum];grind
 |succ n ih=>simp only[dS,ih];grind
theorem nP(c:Rat)(f:Nat->Rat)(n:Nat):sum (fun k=>c*f k) n=c*sum f n:=by
 induction n with
 |zero=>simp only[sum];grind
 |succ n ih=>simp only[dS,ih];grind
theorem wW{f g:Nat->Rat}{n:Nat}(h:∀k,k<n->f k<=g k):sum f n<=sum g n:=by
 induction n with
 |zero=>simp only[sum];grind
 |succ n ih=>simp only[dS];have:=ih fun k hk=>h k (by omega);have:=h n (by omega);grind
def ab(x:Rat):Rat:=if 0<=x then x else -x
theorem aM(x:Rat):0<=ab x:=by unfold ab;split <;> grind
theorem Dm(x:Rat):x<=ab x:=by unfold ab;split <;> grind
theorem oH(x:Rat):-x<=ab x:=by unfold ab;split <;> grind
theorem aY{x a:Rat}:ab x<=a↔-a<=x/\x<=a:=by unfold ab;split <;> grind
theorem iV(x:Rat):ab (-x)=ab x:=by unfold ab;split <;> split <;> grind
theorem Vr(x y:Rat):ab (x+y)<=ab x+ab y:=by unfold ab;split <;> split <;> split <;> grind
theorem aE{a b:Rat}(h:0<=a)(h':0<=b):0<=a*b:=Rat.mul_nonneg h h'
theorem fX(x y:Rat):ab (x*y)=ab x*ab y:=by
 unfold ab
 by_cases hx:0<=x <;> by_cases hy:0<=y
 ·rw[if_pos hx,if_pos hy,if_pos (aE hx hy)]
 ·rw[if_pos hx,if_neg hy];have:=aE hx (show 0<=-y by grind);split <;> grind
 ·rw[if_neg hx,if_pos hy];have:=aE (show 0<=-x by grind) hy;split <;> grind
 ·rw[if_neg hx,if_neg hy];have:=aE (show 0<=-x by grind) (show 0<=-y by grind);split <;> grind
theorem bG{a b c d:Rat}(h1:0<=a)(h2:a<=b)(h3:0<=c)(h4:c<=d):a*c<=b*d:=by
 have:=aE h1 (show 0<=d-c by grind);have:=aE (show 0<=b-a by grind) (show 0<=d by grind);grind
theorem zH(f:Nat->Rat)(n:Nat):ab (sum f n)<=sum (fun k=>ab (f k)) n:=by
 induction n with
 |zero=>simp[sum,ab]
 |succ n ih=>simp only[dS];have:=Vr (sum f n) (f n);grind
theorem aLD{f:Nat->Rat}{n:Nat}(h:∀k,0<=f k):0<=sum f n:=by
 induction n with
 |zero=>simp only[sum];grind
 |succ n ih=>simp only[dS];have:=h n;grind
def conv(f g:Nat->Rat)(m:Nat):Rat:=sum (fun j=>f j*g (m-j)) (m+1)
theorem aLE(f g:Nat->Rat)(n:Nat):sum (conv f g) n=sum (fun j=>f j*sum g (n-j)) n:=by
 induction n with
 |zero=>rfl
 |succ n ih =>
  rw[dS,ih,conv,dS,dS];rw[show n+1-n=1 by omega,cCY];have:sum (fun j=>f j*sum g (n+1-j)) n=sum (fun j=>f j*sum g (n-j)+f j*g (n-j)) n :=
   kU fun k hk=>by rw[show n+1-k=(n-k)+1 by omega,dS];grind
  rw[this,sum_add];have:sum g 1=g 0:=by simp only[sum];grind
  grind
theorem Fk(f g:Nat->Rat)(n:Nat):sum f n*sum g n=sum (conv f g) n+sum (fun j=>f j*(sum g n-sum g (n-j))) n:=by
 rw[aLE,<-sum_add];have:sum (fun k=>f k*sum g (n-k)+f k*(sum g n-sum g (n-k))) n=sum (fun k=>sum g n*f k) n:=kU fun k _=>by grind
 rw[this,nP];grind
def tm(x:Rat):Nat->Rat
 |0=>1
 |k+1=>tm x k*x/((k+1:Nat):Rat)
theorem cast_pos(k:Nat):(0:Rat)<((k+1:Nat):Rat):=by
 exact_mod_cast Nat.succ_pos k
theorem lA(x:Rat)(k:Nat):((k+1:Nat):Rat)*tm x (k+1)=x*tm x k:=by
 have:=cast_pos k;rw[tm];grind
theorem Tf(x y:Rat):∀m,conv (tm x) (tm y) m=tm (x+y) m
 |0=>by simp only[conv,sum,tm,Nat.sub_zero];grind
 |m+1=>by
  have ih:=Tf x y m;have hp:=cast_pos m;have e:=lA (x+y) m;have h:((m+1:Nat):Rat)*conv (tm x) (tm y) (m+1)=(x+y)*conv (tm x) (tm y) m:=by
   unfold conv;rw[<-nP];have h1:sum (fun k=>((m+1:Nat):Rat)*(tm x k*tm y (m+1-k))) (m+1+1)=sum (fun k=>(k:Rat)*tm x k*tm y (m+1-k)) (m+1+1)+sum (fun k=>tm x k*(((m+1-k:Nat):Rat)*tm y (m+1-k))) (m+1+1):=by
    rw[<-sum_add];refine kU fun k hk=>?_
    have:((m+1:Nat):Rat)=(k:Rat)+((m+1-k:Nat):Rat):=by
     rw[<-Rat.natCast_add];congr 1;omega
    rw[this];grind
   have h2:∀n,sum (fun k=>(k:Rat)*tm x k*tm y (m+1-k)) (n+1)=x*sum (fun k=>tm x k*tm y (m-k)) n:=by
    intro n
    induction n with
    |zero=>simp only[sum];grind
    |succ n ih =>
     rw[dS,ih,dS,show m+1-(n+1)=m-n by omega];have:=lA x n;grind
   have h3:sum (fun k=>tm x k*(((m+1-k:Nat):Rat)*tm y (m+1-k))) (m+1+1)=y*sum (fun k=>tm x k*tm y (m-k)) (m+1):=by
    rw[dS,cCY];have:sum (fun k=>tm x k*(((m+1-k:Nat):Rat)*tm y (m+1-k))) (m+1)=sum (fun k=>y*(tm x k*tm y (m-k))) (m+1):=by
     refine kU fun k hk=>?_
     have:=lA y (m-k);rw[show m+1-k=m-k+1 by omega];grind
    rw[this,nP];grind
   rw[h1,h2,h3];grind
  rw[ih]at h;generalize ((m+1:Nat):Rat)=q at *;generalize conv (tm x) (tm y) (m+1)=u at *;generalize tm (x+y) (m+1)=v at *;have:q*u=q*v:=by rw[h,e]
  have hq:q≠0:=by grind
  clear h e ih;grind
theorem lD(f:Nat->Rat)(a n:Nat):sum f (a+n)=sum f a+sum (fun i=>f (a+i)) n:=by
 induction n with
 |zero=>simp only[sum,bZR];grind
 |succ n ih=>rw[<-cCK,dS,ih,dS];grind
theorem Wv{f:Nat->Rat}(h:∀k,0<=f k){a b:Nat}(aWL:a<=b):sum f a<=sum f b:=by
 obtain⟨n,rfl⟩:=bZY aWL;rw[lD];have:=aLD (f:=fun i=>f (a+i)) (n:=n) fun k=>h _
 grind
def hf:Nat->Rat
 |0=>1
 |k+1=>hf k/2
theorem xA:∀k,0<hf k
 |0=>by simp only[hf];grind
 |k+1=>by have:=xA k;simp only[hf];grind
theorem Nu(a:Nat):∀b,hf (a+b)=hf a*hf b
 |0=>by simp only[hf,bZR];grind
 |b+1=>by rw[<-cCK,hf,Nu a b,hf];grind
theorem aNM{a b:Nat}(h:a<=b):hf b<=hf a:=by
 obtain⟨n,rfl⟩:=bZY h;clear h
 induction n with
 |zero=>grind
 |succ n ih=>rw[<-cCK,hf];have:=xA (a+n);grind
theorem Uo(k:Nat):hf k*(2^k:Nat)=1:=by
 induction k with
 |zero=>simp only[hf];grind
 |succ k ih=>rw[hf,cDS,cFL];grind
theorem bNJ(n:Nat):sum hf n<=2:=by
 have:sum hf n=2-2*hf n:=by
  induction n with
  |zero=>simp only[sum,hf];grind
  |succ n ih=>rw[dS,ih,hf];grind
 have:=xA n;grind
theorem nO{x:Rat}(h:0<=x):∀k,0<=tm x k
 |0=>by simp only[tm];grind
 |k+1=>by
  have h1:=aE h (nO h k);have h2:=lA x k;have h3:=cast_pos k;refine Rat.not_lt.1 fun hn=>?_
  have:=cEK h3 (show 0 < -(tm x (k+1)) by grind);grind
theorem Ra(x:Rat):∀k,ab (tm x k)=tm (ab x) k
 |0=>by simp only[tm,ab];grind
 |k+1=>by
  have h3:=cast_pos k;have h1:=Ra x k;have h2:=lA x k;have h4:=lA (ab x) k;have h5:ab (((k+1:Nat):Rat)*tm x (k+1))=ab x*ab (tm x k):=by rw[h2,fX]
  rw[fX,h1]at h5;have h6:ab ((k+1:Nat):Rat)=((k+1:Nat):Rat):=by unfold ab;rw[if_pos (by grind)]
  rw[h6]at h5;generalize ((k+1:Nat):Rat)=q at *;generalize ab (tm x (k+1))=u at *;generalize tm (ab x) (k+1)=v at *;have hq:q≠0:=by grind
  have:q*u=q*v:=by grind
  clear h1 h2 h4 h5 h6;grind
theorem aDO{x y:Rat}(h:0<=x)(aYF:x<=y):∀k,tm x k<=tm y k
 |0=>by simp only[tm];grind
 |k+1=>by
  have h1:=bG (nO h k) (aDO h aYF k) h aYF;have h2:=lA x k;have h4:=lA y k;have h3:=cast_pos k;refine Rat.not_lt.1 fun hn=>?_
  have:=cEK h3 (show 0<tm x (k+1)-tm y (k+1) by grind);grind
theorem aKX(j:Nat):tm 4 (8+j)<=2*hf j:=by
 induction j with
 |zero =>
  have:tm 4 8=65536/40320:=by simp only[tm];grind
  simp only[hf,bZR,this];grind
 |succ j ih =>
  have h2:=lA 4 (8+j);have h3:(8:Rat)<=((8+j+1:Nat):Rat):=by exact_mod_cast(show 8<=8+j+1 by omega)
  have h4:=nO (x:=4) (by grind) (8+j+1);rw[<-cCK,hf];have:=aE (show 0<=((8+j+1:Nat):Rat)-8 by grind) h4;grind
theorem Ai(m n:Nat):sum (fun i=>tm 4 (8+m+i)) n<=4*hf m:=by
 have h1:sum (fun i=>tm 4 (8+m+i)) n<=sum (fun i=>2*hf m*hf i) n:=wW fun k _=>by
  have:=aKX (m+k);rw[Nu,<-cCK]at this;grind
 rw[nP]at h1;have:=aE (show 0<=2*hf m by have:=xA m;grind) (show 0<=2-sum hf n by have:=bNJ n;grind);grind
theorem aDP(n:Nat):sum (tm 4) n<=64:=by
 have h0:∀k,0<=tm 4 k:=nO (by grind);have h1:=Wv h0 (show n<=8+n by omega);have h2:=lD (tm 4) 8 n;have h3:=Ai 0 n;have h4:sum (tm 4) 8<=52:=by
  simp only[sum,tm];grind
 simp only[hf,bZR]at h3;grind
theorem Kt{f g:Nat->Rat}(aWD:∀k,ab (f k)<=tm 4 k)(hg:∀k,ab (g k)<=tm 4 k)(m:Nat) :
  ab (sum (fun j=>f j*(sum g (2*(8+m))-sum g (2*(8+m)-j))) (2*(8+m)))<=512*hf m:=by
 have hG:∀a n,ab (sum g (a+n)-sum g a)<=sum (fun i=>tm 4 (a+i)) n:=fun a n=>by
  rw[lD,show sum g a+sum (fun i=>g (a+i)) n-sum g a=sum (fun i=>g (a+i)) n by grind];exact cDY (zH _ _) (wW fun k _=>hg _)
 have h0:∀k,0<=tm 4 k:=nO (by grind);refine cDY (zH _ _) ?_;have hp:=xA m;have e:2*(8+m)=(8+m)+(8+m):=by omega
 rw[show sum (fun k=>ab (f k*(sum g (2*(8+m))-sum g (2*(8+m)-k)))) (2*(8+m))=sum (fun k=>ab (f k*(sum g (2*(8+m))-sum g (2*(8+m)-k)))) ((8+m)+(8+m)) by rw[<-e],lD];have p1:sum (fun k=>ab (f k*(sum g (2*(8+m))-sum g (2*(8+m)-k)))) (8+m)<=sum (fun k=>4*hf m*tm 4 k) (8+m):=wW fun k hk=>by
  rw[fX];have h1:=hG (2*(8+m)-k) k;rw[show 2*(8+m)-k+k=2*(8+m) by omega]at h1;have h2:=Ai (8+m-k) k;rw[show 8+(8+m-k)=2*(8+m)-k-m by omega]at h2;have h3:=Ai (m+(8+m-k)-8+8-8+8) k;have h5:sum (fun i=>tm 4 (2*(8+m)-k+i)) k<=4*hf (2*(8+m)-k-8):=by
   have:=Ai (2*(8+m)-k-8) k;rwa [show 8+(2*(8+m)-k-8)=2*(8+m)-k by omega]at this
  have h6:=aNM (show m<=2*(8+m)-k-8 by omega);have:=bG (aM _) (aWD k) (aM _) (show ab (sum g (2*(8+m))-sum g (2*(8+m)-k))<=4*hf m by grind);grind
 have p2:sum (fun i=>ab (f (8+m+i)*(sum g (2*(8+m))-sum g (2*(8+m)-(8+m+i))))) (8+m)<=sum (fun i=>64*tm 4 (8+m+i)) (8+m):=wW fun k hk=>by
  rw[fX];have h1:=hG (2*(8+m)-(8+m+k)) (8+m+k);rw[show 2*(8+m)-(8+m+k)+(8+m+k)=2*(8+m) by omega]at h1;have h2:=lD (tm 4) (2*(8+m)-(8+m+k)) (8+m+k);have h3:=aDP (2*(8+m)-(8+m+k)+(8+m+k));have h4:=aLD (n:=2*(8+m)-(8+m+k)) h0;have:=bG (aM _) (aWD (8+m+k)) (aM _) (show ab (sum g (2*(8+m))-sum g (2*(8+m)-(8+m+k)))<=64 by grind);grind
 rw[nP]at p1 p2;have t1:=aDP (8+m);have t2:=Ai m (8+m);have:=aE (show 0<=4*hf m by grind) (show 0<=64-sum (tm 4) (8+m) by grind);grind
def cc(k:Nat):Rat:=if k%4=0 then 1 else if k%4=2 then -1 else 0
def ss(k:Nat):Rat:=if k%4=1 then 1 else if k%4=3 then -1 else 0
theorem bAF(j l:Nat):cc j*cc l-ss j*ss l=cc (j+l):=by
 unfold cc ss;rw[Nat.add_mod];have h1:=cBB j (show 4>0 by omega);have h2:=cBB l (show 4>0 by omega);generalize j%4=a at *;generalize l%4=b at *;have h3:a=0\/a=1\/a=2\/a=3:=by omega
 have h4:b=0\/b=1\/b=2\/b=3:=by omega
 rcases h3 with rfl |rfl |rfl |rfl <;> rcases h4 with rfl |rfl |rfl |rfl <;> simp <;> grind
theorem aXE(j l:Nat):ss j*cc l+cc j*ss l=ss (j+l):=by
 unfold cc ss;rw[Nat.add_mod];have h1:=cBB j (show 4>0 by omega);have h2:=cBB l (show 4>0 by omega);generalize j%4=a at *;generalize l%4=b at *;have h3:a=0\/a=1\/a=2\/a=3:=by omega
 have h4:b=0\/b=1\/b=2\/b=3:=by omega
 rcases h3 with rfl |rfl |rfl |rfl <;> rcases h4 with rfl |rfl |rfl |rfl <;> simp <;> grind
theorem aPM(k:Nat):ab (cc k)<=1:=by
 unfold cc ab;split <;> split <;> grind
theorem aDS(k:Nat):ab (ss k)<=1:=by
 unfold ss ab;split <;> split <;> grind
def uV(x:Rat)(n:Nat):Rat:=sum (fun k=>cc k*tm x k) n
def uL(x:Rat)(n:Nat):Rat:=sum (fun k=>ss k*tm x k) n
theorem aGD{x:Rat}(h:ab x<=4)(k:Nat):ab (cc k*tm x k)<=tm 4 k:=by
 rw[fX,Ra];have:=bG (aM _) (aPM k) (nO (aM x) k) (aDO (aM x) h k);grind
theorem aDR{x:Rat}(h:ab x<=4)(k:Nat):ab (ss k*tm x k)<=tm 4 k:=by
 rw[fX,Ra];have:=bG (aM _) (aDS k) (nO (aM x) k) (aDO (aM x) h k);grind
theorem bAB(x y:Rat)(m:Nat):conv (fun k=>cc k*tm x k) (fun k=>cc k*tm y k) m-conv (fun k=>ss k*tm x k) (fun k=>ss k*tm y k) m=cc m*tm (x+y) m:=by
 rw[<-Tf];unfold conv;rw[<-Cm,<-nP];refine kU fun k hk=>?_
 have:=bAF k (m-k);rw[show k+(m-k)=m by omega]at this;rw[<-this];grind
theorem bAA(x y:Rat)(m:Nat):conv (fun k=>ss k*tm x k) (fun k=>cc k*tm y k) m+conv (fun k=>cc k*tm x k) (fun k=>ss k*tm y k) m=ss m*tm (x+y) m:=by
 rw[<-Tf];unfold conv;rw[<-sum_add,<-nP];refine kU fun k hk=>?_
 have:=aXE k (m-k);rw[show k+(m-k)=m by omega]at this;rw[<-this];grind
theorem aPF{x y:Rat}(hx:ab x<=4)(hy:ab y<=4)(m:Nat):ab (uV (x+y) (2*(8+m))-(uV x (2*(8+m))*uV y (2*(8+m))-uL x (2*(8+m))*uL y (2*(8+m))))<=1024*hf m:=by
 have h1:=Kt (aGD hx) (aGD hy) m;have h2:=Kt (aDR hx) (aDR hy) m;unfold uV uL;rw[Fk,Fk];have h3:sum (fun k=>cc k*tm (x+y) k) (2*(8+m))=sum (conv (fun k=>cc k*tm x k) (fun k=>cc k*tm y k)) (2*(8+m))-sum (conv (fun k=>ss k*tm x k) (fun k=>ss k*tm y k)) (2*(8+m)):=by
  rw[<-Cm];exact kU fun k _=>(bAB x y k).symm
 rw[h3];rw[aY]at *;grind
theorem aLN{x y:Rat}(hx:ab x<=4)(hy:ab y<=4)(m:Nat):ab (uL (x+y) (2*(8+m))-(uL x (2*(8+m))*uV y (2*(8+m))+uV x (2*(8+m))*uL y (2*(8+m))))<=1024*hf m:=by
 have h1:=Kt (aDR hx) (aGD hy) m;have h2:=Kt (aGD hx) (aDR hy) m;unfold uV uL;rw[Fk,Fk];have h3:sum (fun k=>ss k*tm (x+y) k) (2*(8+m))=sum (conv (fun k=>ss k*tm x k) (fun k=>cc k*tm y k)) (2*(8+m))+sum (conv (fun k=>cc k*tm x k) (fun k=>ss k*tm y k)) (2*(8+m)):=by
  rw[<-sum_add];exact kU fun k _=>(bAA x y k).symm
 rw[h3];rw[aY]at *;grind
theorem aPG(x:Rat)(n:Nat):uV (-x) n=uV x n:=by
 refine kU fun k _=>?_
 have:∀k,cc k*tm (-x) k=cc k*tm x k/\ss k*tm (-x) k=- (ss k*tm x k):=by
  intro k;have h:∀j,tm (-x) (2*j)=tm x (2*j)/\tm (-x) (2*j+1)=- tm x (2*j+1):=by
   intro j
   induction j with
   |zero=>simp only[tm];grind
   |succ j ih =>
    rw[show 2*(j+1)=2*j+1+1 by omega];obtain⟨h1,h2⟩:=ih;have e:tm (-x) (2*j+1+1)=tm x (2*j+1+1):=by rw[tm,h2];grind [tm]
    refine⟨e,?_⟩;rw[tm,e];grind [tm]
  have:=h (k/2);unfold cc ss
  by_cases hk:k%2=0
  ·rw[show 2*(k/2)=k by omega]at this;rw[if_neg (show ¬k%4=1 by omega),if_neg (show ¬k%4=3 by omega),this.1];grind
  ·rw[show 2*(k/2)+1=k by omega]at this;rw[if_neg (show ¬k%4=0 by omega),if_neg (show ¬k%4=2 by omega),this.2];grind
 exact(this k).1
theorem aLO(x:Rat)(n:Nat):uL (-x) n=- uL x n:=by
 unfold uL;rw[show -sum (fun k=>ss k*tm x k) n=(-1)*sum (fun k=>ss k*tm x k) n by grind,<-nP];refine kU fun k _=>?_
 have h:∀j,tm (-x) (2*j)=tm x (2*j)/\tm (-x) (2*j+1)=- tm x (2*j+1):=by
  intro j
  induction j with
  |zero=>simp only[tm];grind
  |succ j ih =>
   rw[show 2*(j+1)=2*j+1+1 by omega];obtain⟨h1,h2⟩:=ih;have e:tm (-x) (2*j+1+1)=tm x (2*j+1+1):=by rw[tm,h2];grind [tm]
   refine⟨e,?_⟩;rw[tm,e];grind [tm]
 have:=h (k/2);unfold ss
 by_cases hk:k%2=0
 ·rw[if_neg (show ¬k%4=1 by omega),if_neg (show ¬k%4=3 by omega)];grind
 ·rw[show 2*(k/2)+1=k by omega]at this;rw[this.2];grind
theorem Lx{x:Rat}(h0:0<=x)(h1:x<=1)(a:Nat)(ha:1<=a)(n:Nat):sum (fun i=>tm x (a+i)) n<=2*tm x a:=by
 have hh:∀i,tm x (a+i)<=tm x a*hf i:=by
  intro i
  induction i with
  |zero=>simp only[hf,bZR];grind
  |succ i ih =>
   have h2:=lA x (a+i);have h3:(2:Rat)<=((a+i+1:Nat):Rat):=by exact_mod_cast(show 2<=a+i+1 by omega)
   have h4:=nO h0 (a+i+1);have h5:=nO h0 (a+i);have:=aE (show 0<=((a+i+1:Nat):Rat)-2 by grind) h4;have:=aE (show 0<=1-x by grind) h5;rw[<-cCK,hf];grind
 have h1:sum (fun i=>tm x (a+i)) n<=sum (fun i=>tm x a*hf i) n:=wW fun k _=>hh k
 rw[nP]at h1;have:=aE (nO h0 a) (show 0<=2-sum hf n by have:=bNJ n;grind);grind
theorem aPE{x:Rat}(h:ab x<=1){a n:Nat}(ha:1<=a)(hn:a<=n):ab (uV x n-uV x a)<=2*tm (ab x) a:=by
 obtain⟨m,rfl⟩:=bZY hn;unfold uV;rw[lD,show sum (fun k=>cc k*tm x k) a+sum (fun i=>cc (a+i)*tm x (a+i)) m-sum (fun k=>cc k*tm x k) a=sum (fun i=>cc (a+i)*tm x (a+i)) m by grind];refine cDY (zH _ _) (cDY (wW fun k _=>?_) (Lx (aM x) h a ha m));rw[fX,Ra];have:=bG (aM _) (aPM (a+k)) (nO (aM x) (a+k)) cFB;grind
theorem aLL{x:Rat}(h:ab x<=1){a n:Nat}(ha:1<=a)(hn:a<=n):ab (uL x n-uL x a)<=2*tm (ab x) a:=by
 obtain⟨m,rfl⟩:=bZY hn;unfold uL;rw[lD,show sum (fun k=>ss k*tm x k) a+sum (fun i=>ss (a+i)*tm x (a+i)) m-sum (fun k=>ss k*tm x k) a=sum (fun i=>ss (a+i)*tm x (a+i)) m by grind];refine cDY (zH _ _) (cDY (wW fun k _=>?_) (Lx (aM x) h a ha m));rw[fX,Ra];have:=bG (aM _) (aDS (a+k)) (nO (aM x) (a+k)) cFB;grind
theorem bHG:∃k:Nat,k=1048576:=⟨_,rfl⟩
def K:Nat:=Classical.choose bHG
theorem bAU:K=1048576:=Classical.choose_spec bHG
def aUP:Nat:=2*(8+(K+10))
def wI:Rat:=hf K
def sn(x:Rat):Rat:=uL x aUP
def cs(x:Rat):Rat:=uV x aUP
theorem pA:0<wI:=xA K
theorem aOL:1024*hf (K+10)=wI:=by
 have:=Nu K 10;have h:hf 10=1/1024:=by simp only[hf];grind
 unfold wI;grind
theorem Cv{n:Nat}(h:n<=1048576):wI<=hf n:=aNM (by rw[bAU];exact h)
theorem Ga:wI<=1/1048576:=by
 have:=Cv (n:=20) (by omega);simp only[hf]at this;grind
theorem Ig{x y:Rat}(hx:ab x<=4)(hy:ab y<=4):ab (cs (x+y)-(cs x*cs y-sn x*sn y))<=wI:=by
 rw[<-aOL];exact aPF hx hy _
theorem Mf{x y:Rat}(hx:ab x<=4)(hy:ab y<=4):ab (sn (x+y)-(sn x*cs y+cs x*sn y))<=wI:=by
 rw[<-aOL];exact aLN hx hy _
theorem yW(x:Rat):cs (-x)=cs x:=aPG x _
theorem vI(x:Rat):sn (-x)=- sn x:=aLO x _
theorem aRH(k:Nat):tm 0 (k+1)=0:=by rw[tm];grind
theorem Tk:sn 0=0:=by
 have:=vI 0;rw[show(-0:Rat)=0 by grind]at this;grind
theorem Vl{a:Nat}(h:a<=1048576):a<=aUP:=by unfold aUP;rw[bAU];omega
theorem Lk{x:Rat}(h:ab x<=1){a:Nat}(ha:1<=a)(hn:a<=1048576):ab (cs x-uV x a)<=2*tm (ab x) a:=aPE h ha (Vl hn)
theorem Tl{x:Rat}(h:ab x<=1){a:Nat}(ha:1<=a)(hn:a<=1048576):ab (sn x-uL x a)<=2*tm (ab x) a:=aLL h ha (Vl hn)
theorem Vg:cs 0=1:=by
 have h:=Lk (x:=0) (by simp only[ab];grind) (a:=1) (by omega) (by omega);rw[show ab 0=0 by simp only[ab];grind,show(1:Nat)=0+1 by rfl,aRH]at h;have h2:uV 0 (0+1)=1:=by simp[uV,sum,cc,tm];grind
 rw[aY,h2]at h;grind
theorem aSD{x:Rat}(hx:ab x<=4):ab (sn x*sn x+cs x*cs x-1)<=wI:=by
 have:=Ig hx (show ab (-x)<=4 by rwa [iV]);rw[show x+-x=0 by grind,Vg,yW,vI]at this;rw[aY]at *;grind
theorem Cn{x:Rat}(hx:ab x<=4):ab (sn (2*x)-2*sn x*cs x)<=wI:=by
 have:=Mf hx hx;rw[show x+x=2*x by grind]at this;rw[aY]at *;grind
theorem Sg{x:Rat}(hx:ab x<=4):ab (cs (2*x)-(1-2*(sn x*sn x)))<=2*wI:=by
 have:=Ig hx hx;have:=aSD hx;rw[show x+x=2*x by grind]at *;rw[aY]at *;grind
theorem Mb{a b:Rat}(h:a*a<=b*b)(hb:0<=b):ab a<=b:=by
 rw[aY];constructor
 ·refine Rat.not_lt.1 fun hn=>?_
  have:=cEK (show 0 < -a-b by grind) (show 0 < -a+b by grind);grind
 ·refine Rat.not_lt.1 fun hn=>?_
  have:=cEK (show 0<a-b by grind) (show 0<a+b by grind);grind
theorem bJA(a:Rat):0<=a*a:=by
 by_cases h:0<=a
 ·exact aE h h
 ·have:=aE (show 0<=-a by grind) (show 0<=-a by grind);grind
theorem Mg{x:Rat}(hx:ab x<=4):ab (sn x)<=1+wI:=by
 have h:=aSD hx;have h1:=pA;have h2:=bJA (cs x);have h3:=aE (show 0<=wI by grind) (show 0<=wI by grind);refine Mb ?_ (by grind);rw[aY]at h;grind
theorem Oj{x:Rat}(hx:ab x<=4):ab (cs x)<=1+wI:=by
 have h:=aSD hx;have h1:=pA;have h2:=bJA (sn x);have h3:=aE (show 0<=wI by grind) (show 0<=wI by grind);refine Mb ?_ (by grind);rw[aY]at h;grind
theorem bP{x:Rat}(h:0<=x):ab x=x:=by unfold ab;rw[if_pos h]
theorem Dz(x:Rat):tm x 1=x/\tm x 2=x*x/2/\tm x 3=x*x*x/6/\tm x 4=x*x*x*x/24/\tm x 5=x*x*x*x*x/120/\tm x 6=x*x*x*x*x*x/720:=by
 simp only[tm];refine⟨?_,?_,?_,?_,?_,?_⟩ <;> grind
theorem xH{x:Rat}(h0:0<=x)(h1:x<=1):x-x*x*x/6<=sn x/\sn x<=x-x*x*x/6+x*x*x*x*x/60:=by
 have a1:ab x<=1:=by rwa [bP h0]
 have t5:=Tl a1 (a:=5) (by omega) (by omega);have t7:=Tl a1 (a:=7) (by omega) (by omega);rw[bP h0]at t5 t7;obtain⟨e1,e2,e3,e4,e5,e6⟩:=Dz x;have p5:uL x 5=x-x*x*x/6:=by simp[uL,sum,ss];rw[e1,e3];grind
 have p7:uL x 7=x-x*x*x/6+x*x*x*x*x/120:=by simp[uL,sum,ss];rw[e1,e3,e5];grind
 have e7:tm x 7<=tm x 5/4:=by
  have h2:=lA x 6;have h3:=lA x 5;have:=nO h0 7;have:=nO h0 6;have:=nO h0 5;have:=aE (show 0<=1-x by grind) (nO h0 6);have:=aE (show 0<=1-x by grind) (nO h0 5);norm_cast at h2 h3;grind
 rw[aY,p5,e5]at t5;rw[aY,p7]at t7;rw[e5]at e7;grind
theorem Gb{x:Rat}(h0:0<=x)(h1:x<=1):1-x*x/2<=cs x/\cs x<=1-x*x/2+x*x*x*x/12:=by
 have a1:ab x<=1:=by rwa [bP h0]
 have t5:=Lk a1 (a:=4) (by omega) (by omega);have t7:=Lk a1 (a:=6) (by omega) (by omega);rw[bP h0]at t5 t7;obtain⟨e1,e2,e3,e4,e5,e6⟩:=Dz x;have p5:uV x 4=1-x*x/2:=by simp[uV,sum,cc];rw[e2,tm];grind
 have p7:uV x 6=1-x*x/2+x*x*x*x/24:=by simp[uV,sum,cc];rw[e2,e4,tm];grind
 have e7:tm x 6<=tm x 4/4:=by
  have h2:=lA x 5;have h3:=lA x 4;have:=nO h0 6;have:=nO h0 5;have:=nO h0 4;have:=aE (show 0<=1-x by grind) (nO h0 5);have:=aE (show 0<=1-x by grind) (nO h0 4);norm_cast at h2 h3;grind
 rw[aY,p5,e4]at t5;rw[aY,p7]at t7;rw[e4]at e7;grind
theorem aKW{x y:Rat}(hx:ab x<=1)(hy:ab y<=1):∀k,ab (tm y (k+1)-tm x (k+1))<=ab (y-x)*tm 1 k
 |0=>by
  obtain⟨e1,_⟩:=Dz x;obtain⟨e2,_⟩:=Dz y;rw[show 0+1=1 by rfl,e1,e2,tm];grind
 |k+1=>by
  have ih:=aKW hx hy k;have h2:=lA x (k+1);have h3:=lA y (k+1);have h1:=lA 1 k;have hp:=cast_pos (k+1);have e:((k+1+1:Nat):Rat)*(tm y (k+1+1)-tm x (k+1+1))=(y-x)*tm y (k+1)+x*(tm y (k+1)-tm x (k+1)):=by grind
  have e2:=congrArg ab e;have e3:=Vr ((y-x)*tm y (k+1)) (x*(tm y (k+1)-tm x (k+1)));rw[fX,bP (show(0:Rat)<=((k+1+1:Nat):Rat) by grind)]at e2;rw[fX,fX,Ra]at e3;have b1:=bG (aM (y-x)) cFB (nO (aM y) (k+1)) (aDO (aM y) hy (k+1));have b2:=bG (aM x) hx (aM _) ih;have hc:((k+1+1:Nat):Rat)=((k+1:Nat):Rat)+1:=by norm_cast
  refine Rat.not_lt.1 fun hn=>?_
  have:=cEK hp (show 0<ab (tm y (k+1+1)-tm x (k+1+1))-ab (y-x)*tm 1 (k+1) by grind);have Yl:tm 1 k=((k+1:Nat):Rat)*tm 1 (k+1):=by grind
  rw[Yl]at b2;rw[hc]at this e2;clear e h2 h3 h1 ih Yl hc hp hx hy;generalize ((k+1:Nat):Rat)=q at *;generalize ab (tm y (k+1+1)-tm x (k+1+1))=A at *;generalize ab ((y-x)*tm y (k+1)+x*(tm y (k+1)-tm x (k+1)))=B at *;generalize ab (y-x)=d at *;generalize tm 1 (k+1)=T at *;grind
theorem aKY(a:Nat)(ha:1<=a)(n:Nat):sum (fun i=>tm 1 (a+i)) n<=2*tm 1 a:=Lx (by grind) (by grind) a ha n
theorem aLJ{x y:Rat}(hx:ab x<=1)(hy:ab y<=1):ab (sn y-sn x-(y-x))<=3/4*ab (y-x):=by
 have hN:=Vl (a:=3) (by omega);obtain⟨n,hn⟩:=bZY hN;unfold sn uL;rw[hn,lD,lD];obtain⟨e1,_⟩:=Dz x;obtain⟨e2,_⟩:=Dz y;have p:sum (fun k=>ss k*tm x k) 3=x:=by simp[sum,ss];rw[e1];grind
 have q:sum (fun k=>ss k*tm y k) 3=y:=by simp[sum,ss];rw[e2];grind
 rw[p,q,show y+sum (fun i=>ss (3+i)*tm y (3+i)) n-(x+sum (fun i=>ss (3+i)*tm x (3+i)) n)-(y-x)=sum (fun i=>ss (3+i)*tm y (3+i)) n-sum (fun i=>ss (3+i)*tm x (3+i)) n by grind,<-Cm];refine cDY (zH _ _) ?_;have h1:sum (fun k=>ab (ss (3+k)*tm y (3+k)-ss (3+k)*tm x (3+k))) n<=sum (fun k=>ab (y-x)*tm 1 (2+k)) n:=wW fun k _=>by
  have:=aKW hx hy (2+k);rw[show 2+k+1=3+k by omega]at this;rw[show ss (3+k)*tm y (3+k)-ss (3+k)*tm x (3+k)=ss (3+k)*(tm y (3+k)-tm x (3+k)) by grind,fX];have:=bG (aM _) (aDS (3+k)) (aM _) this;grind
 rw[nP]at h1;have h2:sum (fun k=>tm 1 (2+k)) n<=3/4:=by
  have h3:=Wv (f:=fun k=>tm 1 (2+k)) (fun k=>nO (by grind) _) (show n<=2+n by omega);have h4:=lD (fun k=>tm 1 (2+k)) 2 n;have h5:=aKY 4 (by omega) n;obtain⟨_,f2,f3,f4,_⟩:=Dz 1;have h6:sum (fun k=>tm 1 (2+k)) 2=2/3:=by simp[sum];rw[f2,f3];grind
  have h7:sum (fun i=>tm 1 (2+(2+i))) n=sum (fun i=>tm 1 (4+i)) n:=kU fun k _=>by rw[show 2+(2+k)=4+k by omega]
  rw[f4]at h5;grind
 have:=aE (aM (y-x)) (show 0<=3/4-sum (fun k=>tm 1 (2+k)) n by grind);grind
theorem aGF{a b:Rat}(ha:ab a<=4)(hb:ab b<=4):ab (cs (a-b)-cs (a+b)-2*(sn a*sn b))<=2*wI:=by
 have h1:=Ig ha hb;have h2:=Ig ha (show ab (-b)<=4 by rwa [iV]);rw[yW,vI,show a+-b=a-b by grind]at h2;rw[aY]at *;grind
theorem Me{x:Rat}(h0:0<=x)(h1:x<=1):0<=sn x:=by
 have:=(xH h0 h1).1;have h2:=bG h0 h1 h0 h1;have h3:=aE h0 (show 0<=1*1-x*x by grind);grind
theorem aDX{x:Rat}(h0:0<=x)(h1:x<=1):sn x<=x:=by
 have:=(xH h0 h1).2;have h2:=bG h0 h1 h0 h1;have h4:=aE (aE h0 h0) h0;have h3:=aE h4 (show 0<=1*1-x*x by grind);grind
theorem aAO{x:Rat}(h:ab x<=1):ab (sn x)<=ab x:=by
 by_cases h0:0<=x
 ·rw[bP h0]at *;have:=Me h0 h;have:=aDX h0 h;rw[aY];grind
 ·have e:ab x=-x:=by unfold ab;rw[if_neg h0]
  rw[e]at h;rw[e];have h1:=Me (show 0<=-x by grind) h;have h2:=aDX (show 0<=-x by grind) h;rw[vI]at h1 h2;rw[aY];grind
theorem aGE{x y:Rat}(h0:0<=x)(h:x<=y)(h1:y<=1):cs y<=cs x+2*wI:=by
 have h2:=aGF (a:=(x+y)/2) (b:=(y-x)/2) (by rw[aY];grind) (by rw[aY];grind);rw[show(x+y)/2-(y-x)/2=x by grind,show(x+y)/2+(y-x)/2=y by grind,aY]at h2;have h3:=aE (Me (x:=(x+y)/2) (by grind) (by grind)) (Me (x:=(y-x)/2) (by grind) (by grind));grind
theorem aPC{x y:Rat}(hx:ab x<=1)(hy:ab y<=1):ab (cs y-cs x)<=ab (y-x)+2*wI:=by
 have b1:ab ((x+y)/2)<=1:=by rw[aY]at *;grind
 have b2:ab ((y-x)/2)<=1:=by rw[aY]at *;grind
 have h2:=aGF (a:=(x+y)/2) (b:=(y-x)/2) (by grind) (by grind);rw[show(x+y)/2-(y-x)/2=x by grind,show(x+y)/2+(y-x)/2=y by grind]at h2;have h3:=bG (aM _) (aAO b1) (aM _) (aAO b2);have h4:=bG (aM _) b1 (aM _) (show ab ((y-x)/2)<=ab ((y-x)/2)from cFB);rw[<-fX]at h3;have h5:ab ((y-x)/2)=ab (y-x)/2:=by unfold ab;split <;> split <;> grind
 rw[h5]at h3 h4;have h6:=Dm (sn ((x+y)/2)*sn ((y-x)/2));have h7:=oH (sn ((x+y)/2)*sn ((y-x)/2));rw[aY]at h2 ⊢;clear h5 b1 b2 hx hy;generalize sn ((x+y)/2)*sn ((y-x)/2)=P at *;generalize ab ((x+y)/2)*(ab (y-x)/2)=Q at *;grind
theorem aDW{x y:Rat}(hx:ab x<=1)(hy:ab y<=1):ab (sn y-sn x)<=2*ab (y-x):=by
 have h:=aLJ hx hy;have h1:=Dm (y-x);have h2:=oH (y-x);rw[aY]at h ⊢;grind
theorem aDV{x y:Rat}(hx:ab x<=1)(hy:ab y<=1)(h:x<=y):sn x<=sn y:=by
 have h1:=aLJ hx hy;rw[bP (show 0<=y-x by grind),aY]at h1;grind
theorem yO(a:Nat){b:Nat}(_hb:0<b):(b:Rat)*((a/b:Nat):Rat)<=(a:Rat)/\(a:Rat)<(b:Rat)*((a/b:Nat):Rat)+(b:Rat):=by
 have h1:=cDZ a b;have h2:=cBB a _hb;constructor
 ·exact_mod_cast(show b*(a/b)<=a by omega)
 ·exact_mod_cast(show a<b*(a/b)+b by omega)
theorem cG{q a b:Rat}(hq:0<q)(h:q*a<=q*b):a<=b:=by
 refine Rat.not_lt.1 fun hn=>?_
 have:=cEK hq (show 0<a-b by grind);grind
theorem sE{q a b:Rat}(hq:0<q)(h:q*a<q*b):a<b:=by
 refine Rat.not_le.1 fun hn=>?_
 have:=aE (cEA hq) (show 0<=a-b by grind);grind
def sq(u W:Nat):Nat->Nat
 |0=>W
 |k+1=>sq u W k*u/W/(k+1)
theorem Mc{u W:Nat}(hW:0<W){x:Rat}(hx:x*(W:Rat)=(u:Rat))(h0:0<=x)(h1:x<=1/2):∀k,0<=tm x k*W-sq u W k/\tm x k*W-sq u W k<=2
 |0=>by simp only[tm,sq];grind
 |k+1=>by
  obtain⟨i1,i2⟩:=Mc hW hx h0 h1 k;obtain⟨d1,d2⟩:=yO (sq u W k*u) (b:=W*(k+1)) (cFM hW (by omega));rw[sq,cEN];rw[cFL,cFL,<-hx]at d1 d2;have hc:=lA x k;have hp:=cast_pos k;have h1k:(1:Rat)<=((k+1:Nat):Rat):=by exact_mod_cast(show 1<=k+1 by omega)
  have aNU:(0:Rat)<(W:Rat):=by exact_mod_cast hW
  generalize ((sq u W k*u/(W*(k+1)):Nat):Rat)=t' at *;generalize (sq u W k:Rat)=t at *;generalize ((k+1:Nat):Rat)=q at *;have bYF:q*t'<=t*x:=cG aNU (by grind);have bYE:t*x<q*t'+q:=sE aNU (by grind);have hcW:q*tm x (k+1)*(W:Rat)=x*tm x k*(W:Rat):=by rw[hc]
  have e1:=aE h0 i1;have e2:=aE (show 0<=1/2-x by grind) i1;refine⟨cG hp ?_,cG hp ?_⟩ <;> grind
theorem aLC{u W:Nat}(hW:0<W){x:Rat}(hx:x*(W:Rat)=(u:Rat))(h0:0<=x)(h1:x<=1/2){n:Nat}(hn:1<=n)(aHS:n<=1048576)(hz:sq u W n=0) :
  ab (sum (fun k=>cc k*(sq u W k:Rat)) n-W*cs x)<=2*(n:Rat)+4:=by
 have hs:ab (sum (fun k=>cc k*(sq u W k:Rat)) n-W*uV x n)<=2*(n:Rat):=by
  unfold uV;rw[<-nP,<-Cm];refine cDY (zH _ _) ?_;have:∀m,sum (fun k=>ab (cc k*(sq u W k:Rat)-W*(cc k*tm x k))) m<=2*(m:Rat):=by
   intro m
   induction m with
   |zero=>simp only[sum];grind
   |succ m ih =>
    rw[dS];obtain⟨a1,a2⟩:=Mc hW hx h0 h1 m;have:ab (cc m*(sq u W m:Rat)-W*(cc m*tm x m))<=2:=by
     rw[show cc m*(sq u W m:Rat)-W*(cc m*tm x m)=cc m*(sq u W m-tm x m*W) by grind,fX];have b1:ab (sq u W m-tm x m*W)<=2:=by rw[aY];grind
     have:=bG (aM _) (aPM m) (aM _) b1;grind
    have hc:((m+1:Nat):Rat)=(m:Rat)+1:=by norm_cast
    rw[hc];grind
  exact this n
 have ht:=Lk (x:=x) (by rw[bP h0];grind) hn aHS;obtain⟨a1,a2⟩:=Mc hW hx h0 h1 n;rw[hz]at a2;rw[bP h0]at ht;have aNU:(0:Rat)<(W:Rat):=by exact_mod_cast hW
 rw[aY]at *;have b1:=aE (cEA aNU) (show 0<=2*tm x n-(cs x-uV x n) by grind);have b2:=aE (cEA aNU) (show 0<=2*tm x n+(cs x-uV x n) by grind);have aHM:((0:Nat):Rat)=0:=by norm_cast
 rw[aHM]at a2;grind
theorem aLB{u W:Nat}(hW:0<W){x:Rat}(hx:x*(W:Rat)=(u:Rat))(h0:0<=x)(h1:x<=1/2){n:Nat}(hn:1<=n)(aHS:n<=1048576)(hz:sq u W n=0) :
  ab (sum (fun k=>ss k*(sq u W k:Rat)) n-W*sn x)<=2*(n:Rat)+4:=by
 have hs:ab (sum (fun k=>ss k*(sq u W k:Rat)) n-W*uL x n)<=2*(n:Rat):=by
  unfold uL;rw[<-nP,<-Cm];refine cDY (zH _ _) ?_;have:∀m,sum (fun k=>ab (ss k*(sq u W k:Rat)-W*(ss k*tm x k))) m<=2*(m:Rat):=by
   intro m
   induction m with
   |zero=>simp only[sum];grind
   |succ m ih =>
    rw[dS];obtain⟨a1,a2⟩:=Mc hW hx h0 h1 m;have:ab (ss m*(sq u W m:Rat)-W*(ss m*tm x m))<=2:=by
     rw[show ss m*(sq u W m:Rat)-W*(ss m*tm x m)=ss m*(sq u W m-tm x m*W) by grind,fX];have b1:ab (sq u W m-tm x m*W)<=2:=by rw[aY];grind
     have:=bG (aM _) (aDS m) (aM _) b1;grind
    have hc:((m+1:Nat):Rat)=(m:Rat)+1:=by norm_cast
    rw[hc];grind
  exact this n
 have ht:=Tl (x:=x) (by rw[bP h0];grind) hn aHS;obtain⟨a1,a2⟩:=Mc hW hx h0 h1 n;rw[hz]at a2;rw[bP h0]at ht;have aNU:(0:Rat)<(W:Rat):=by exact_mod_cast hW
 rw[aY]at *;have b1:=aE (cEA aNU) (show 0<=2*tm x n-(sn x-uL x n) by grind);have b2:=aE (cEA aNU) (show 0<=2*tm x n+(sn x-uL x n) by grind);have aHM:((0:Nat):Rat)=0:=by norm_cast
 rw[aHM]at a2;grind
theorem qW{W x e s c s' c':Rat}(hW:1<=W)(hx:ab x<=1)(hs:ab (s-W*sn x)<=e)(hc:ab (c-W*cs x)<=e)(he:8*(e*e)<=W)(bED:(8*e+4*W)*wI<=1/4)
  (h1:ab (W*s'-2*(s*c))<=2*W) (h2:ab (W*c'-(W*W-2*(s*s)))<=2*W):ab (s'-W*sn (2*x))<=4*e+4/\ab (c'-W*cs (2*x))<=4*e+4:=by
 have bHO:ab x<=4:=by grind
 have d1:=Cn bHO;have d2:=Sg bHO;have bs:=Mg bHO;have bc:=Oj bHO;have aTI:0<=e:=cDY (aM _) hs;have aTF:=pA;generalize sn (2*x)=S2 at *;generalize cs (2*x)=C2 at *;generalize sn x=S at *;generalize cs x=C at *;obtain⟨a,ha⟩:∃a,a=s-W*S:=⟨_,rfl⟩;obtain⟨b,hb⟩:∃b,b=c-W*C:=⟨_,rfl⟩;rw[<-ha]at hs;rw[<-hb]at hc;have es:s=W*S+a:=by grind
 have ec:c=W*C+b:=by grind
 subst es;subst ec;have q1:=bG (aM S) bs (aM b) hc;have q2:=bG (aM C) bc (aM a) hs;have q3:=bG (aM a) hs (aM b) hc;have q4:=bG (aM S) bs (aM a) hs;have q5:=bG (aM a) hs (aM a) hs;rw[<-fX]at q1 q2 q3 q4 q5;have bCE:0<=W:=by grind
 have w1:∀{t r:Rat},ab t<=r->-(W*r)<=W*t/\W*t<=W*r:=fun {t r} h=>by
  rw[aY]at h;have:=aE bCE (show 0<=r-t by grind);have:=aE bCE (show 0<=r+t by grind);constructor <;> grind
 have k1:=w1 q1;have k2:=w1 q2;have k4:=w1 q4;have k6:=w1 (r:=W*wI) (t:=W*(S2-2*S*C)) (by
  have:=w1 d1;rw[aY];grind)
 have k7:=w1 (r:=W*(2*wI)) (t:=W*(C2-(1-2*(S*S)))) (by
  have:=w1 d2;rw[aY];grind)
 have hq:0<W:=by grind
 have z1:=aE bCE (show 0<=1/4-(8*e+4*W)*wI by grind);rw[aY]at h1 h2 q3 q5;constructor
 ·rw[aY];constructor
  ·refine cG hq ?_;grind
  ·refine cG hq ?_;grind
 ·rw[aY];constructor
  ·refine cG hq ?_;grind
  ·refine cG hq ?_;grind
def sg(j:Nat):Rat:=if j%2=0 then 1 else -1
theorem aVF(j:Nat):ab (sg j)=1:=by unfold sg ab;split <;> split <;> grind
def iO(n w j:Nat):Nat:=2^w/n^(2*j+1)/(2*j+1)
def apart(n j:Nat):Rat:=1/((n^(2*j+1)*(2*j+1):Nat):Rat)
def Zf(n:Nat):Rat:=sum (fun j=>sg j*apart n j) K
theorem xZ{n:Nat}(hn:0<n)(j:Nat):0<apart n j/\apart n j*((n^(2*j+1)*(2*j+1):Nat):Rat)=1:=by
 unfold apart;have h:0<n^(2*j+1)*(2*j+1):=cFM (cBT hn) (by omega);have h':(0:Rat)<((n^(2*j+1)*(2*j+1):Nat):Rat):=by exact_mod_cast h
 generalize ((n^(2*j+1)*(2*j+1):Nat):Rat)=q at *;have:q≠0:=by grind
 constructor
 ·have:=Rat.inv_pos.2 h';grind
 ·grind
theorem So{n:Nat}(hn:0<n)(w j:Nat):0<=((2^w:Nat):Rat)*apart n j-iO n w j/\((2^w:Nat):Rat)*apart n j-iO n w j<=1:=by
 obtain⟨h1,h2⟩:=xZ hn j;have h:0<n^(2*j+1)*(2*j+1):=cFM (cBT hn) (by omega);obtain⟨d1,d2⟩:=yO (2^w) h;unfold iO;rw[cEN];have h':(0:Rat)<((n^(2*j+1)*(2*j+1):Nat):Rat):=by exact_mod_cast h
 generalize ((n^(2*j+1)*(2*j+1):Nat):Rat)=q at *;generalize ((2^w/(n^(2*j+1)*(2*j+1)):Nat):Rat)=t at *;generalize ((2^w:Nat):Rat)=W at *;have e:q*(W*apart n j)=W:=by
  rw[show q*(W*apart n j)=W*(apart n j*q) by grind,h2];grind
 refine⟨?_,?_⟩
 ·have:t<=W*apart n j:=cG h' (by grind);grind
 ·have:W*apart n j<=t+1:=cG h' (by grind);grind
theorem aCQ{n:Nat}(hn:2<=n)(j:Nat):apart n (j+1)<=apart n j/2:=by
 obtain⟨h1,h2⟩:=xZ (show 0<n by omega) j;obtain⟨h3,h4⟩:=xZ (show 0<n by omega) (j+1);have hle:2*(n^(2*j+1)*(2*j+1))<=n^(2*(j+1)+1)*(2*(j+1)+1):=by
  have e:n^(2*(j+1)+1)=n^(2*j+1)*(n*n):=by
   rw[show 2*(j+1)+1=(2*j+1)+2 by omega,cDU,Nat.pow_two]
  have bNF:4<=n*n:=Nat.mul_le_mul hn hn;rw[e,cDV,cGI];refine cBH _ ?_;have:4*(2*(j+1)+1)<=n*n*(2*(j+1)+1):=Nat.mul_le_mul_right _ bNF;omega
 have hle':(2:Rat)*((n^(2*j+1)*(2*j+1):Nat):Rat)<=((n^(2*(j+1)+1)*(2*(j+1)+1):Nat):Rat):=by exact_mod_cast hle
 generalize ((n^(2*j+1)*(2*j+1):Nat):Rat)=p at *;generalize ((n^(2*(j+1)+1)*(2*(j+1)+1):Nat):Rat)=q at *;have hp:0<p:=by
  refine Rat.not_le.1 fun hn=>?_
  have:=aE (cEA h1) (show 0<=-p by grind);grind
 have:=aE (cEA h3) (show 0<=q-2*p by grind);refine cG hp ?_;grind
theorem aCP{n:Nat}(hn:2<=n)(a m:Nat):sum (fun i=>apart n (a+i)) m<=2*apart n a:=by
 have hh:∀i,apart n (a+i)<=apart n a*hf i:=by
  intro i
  induction i with
  |zero=>simp only[hf,bZR];grind
  |succ i ih =>
   have:=aCQ hn (a+i);rw[<-cCK,hf];grind
 have h1:sum (fun i=>apart n (a+i)) m<=sum (fun i=>apart n a*hf i) m:=wW fun k _=>hh k
 rw[nP]at h1;have h2:=(xZ (show 0<n by omega) a).1;have:=aE (cEA h2) (show 0<=2-sum hf m by have:=bNJ m;grind);grind
theorem aGM{n:Nat}(hn:2<=n)(w:Nat){J:Nat}(hJ:J<=1048576)(hz:iO n w J=0):ab (sum (fun j=>sg j*(iO n w j:Rat)) J-((2^w:Nat):Rat)*Zf n)<=(J:Rat)+2:=by
 obtain⟨m,hm⟩:=bZY (show J<=K by rw[bAU];exact hJ);unfold Zf;rw[hm,lD];have h1:∀i,ab (sum (fun j=>sg j*(iO n w j:Rat)) i-((2^w:Nat):Rat)*sum (fun j=>sg j*apart n j) i)<=(i:Rat):=by
  intro i;rw[<-nP,<-Cm];refine cDY (zH _ _) ?_
  induction i with
  |zero=>simp only[sum];grind
  |succ i ih =>
   rw[dS];obtain⟨a1,a2⟩:=So (show 0<n by omega) w i;have:ab (sg i*(iO n w i:Rat)-((2^w:Nat):Rat)*(sg i*apart n i))<=1:=by
    rw[show sg i*(iO n w i:Rat)-((2^w:Nat):Rat)*(sg i*apart n i)=sg i*(iO n w i-((2^w:Nat):Rat)*apart n i) by grind,fX,aVF];have b1:ab (iO n w i-((2^w:Nat):Rat)*apart n i)<=1:=by rw[aY];grind
    grind
   have hc:((i+1:Nat):Rat)=(i:Rat)+1:=by norm_cast
   rw[hc];grind
 have h2:ab (sum (fun i=>sg (J+i)*apart n (J+i)) m)<=2*apart n J:=by
  refine cDY (zH _ _) (cDY (wW fun k _=>?_) (aCP hn J m));rw[fX,aVF,bP (cEA (xZ (show 0<n by omega) _).1)];grind
 have h3:=(So (show 0<n by omega) w J).2;have h4:=h1 J;have h0:(0:Rat)<=((2^w:Nat):Rat):=by exact_mod_cast cEU _
 rw[hz]at h3;have aHM:((0:Nat):Rat)=0:=by norm_cast
 rw[aHM]at h3;rw[aY]at *;have b1:=aE h0 (show 0<=2*apart n J-sum (fun i=>sg (J+i)*apart n (J+i)) m by grind);have b2:=aE h0 (show 0<=2*apart n J+sum (fun i=>sg (J+i)*apart n (J+i)) m by grind);grind
end R
end Go.Proofs.YtplagoepbghhpaaGreatDoor
end
