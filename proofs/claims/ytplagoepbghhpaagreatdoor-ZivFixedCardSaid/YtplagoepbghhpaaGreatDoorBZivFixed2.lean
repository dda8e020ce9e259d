/- Contracts. -/
import Derived.KernelRfl
import Derived.Laws.Externs
import Derived.Test.YtplagoepbghhpaaGreatDoorProg
import Derived.Shelf.SlGeneric
import Derived.Ground.SlgnProg
import Derived.Shelf.SlicesE.Clone
import Derived.Test.YtplagoepbghhpaaGreatDoorBZivFixed1
set_option linter.unusedVariables false
set_option linter.unusedSimpArgs false
noncomputable section
open Go.IntKind(i8 i16 i32 i64 u8 u16 u32 u64)
open Go.Proofs.Tryz
open List renaming replicate->bWU,mem_append->bVU,getD_eq_getElem?_getD->bZU,length_take->bXH,replicate_succ->bZZ,length_cons->bYC,append_assoc->bWM,drop_eq_nil_of_le->cAG,cons_append->bWK,append_nil->cAP,getLast?_cons_cons->cAT,take_succ_eq_append_getElem->cAU,getElem?_eq_none->bWN,drop_eq_getElem_cons->cAW,replicate_zero->cAX,getElem?_map->bUV,take_length->cBD,drop_zero->cBE,range->bWE,singleton_append->cBF,mapM_cons->bWA,mem_cons_self->bUY,mem_cons_of_mem->bVC,getElem?_take_of_lt->bUW,mem_of_getElem?->bVA,nodup_cons->bZF,mem_cons->bVZ,length_drop->bYR,getElem?_drop->bVE,mem_of_mem_take->cBO,mem_of_mem_drop->cBP,replicate_succ'->cBQ,take_append_drop->cBR,getElem?_eq_getElem->bVI,getLast?_append->cBS,take_of_length_le->cBT,mem_or_eq_of_mem_set->cBU,drop_set->cBV,set_append_right->cBX,set_cons_zero->cBY,nil_append->bYU
open Int renaming toNat_natCast->bYO,eq_ofNat_of_zero_le->bZV,natAbs_mul->cAE,zero_mul->cAF,natAbs_natCast->cAH,natCast_ediv->cAM,natCast_mul->cAN,mul_assoc->cAY,natAbs_neg->cBC,ediv_eq_zero_of_lt->cBZ,natCast_emod->cCB,toNat_zero->cCD,ediv_mul_cancel->cCH,mul_ne_zero->cCI,natAbs_add_le->cCL
open Nat renaming mul_comm->bZP,beq->bUS,pow_succ->bZQ,le_refl->bUR,mul_add->bZR,pow_add->bZS,mul_assoc->bZT,pow_pos->bXR,mod_lt->bWZ,lt_or_ge->bVH,eq_of_beq_eq_true->bVG,ble->bUU,le_of_ble_eq_true->bWP,add_zero->bVP,mul_le_mul_left->bXF,div_add_mod->bZX,pow_le_pow_right->bXS,add_assoc->bYI,zero_add->bUT,strongRecOn->cAC,lt_of_lt_of_le->bVO,le_trans->bVN,exists_eq_add_of_le->bVW,div_lt_of_lt_mul->cAJ,div_eq_of_lt->cAK,div_div_eq_div_mul->cAL,blt->bVD,add_comm->cAQ,beq_refl->bYY,zero_le->cAS,min_eq_left->cAV,sub_self->bYW,lt_of_le_of_lt->cBA,pow_mul->cBB,mul_zero->cBG,sub_le->cBH,dvd_of_mod_eq_zero->cBI,mul_pos->cBK,add_right_comm->cBM,add_mul_div_left->cBW,pow_lt_pow_right->cCA,mul_left_comm->cCG
open Option renaming bind_some->bWJ,isSome_or->cAR
open Rat renaming le_trans->bZW,le_of_lt->bZY,mul_pos->cAI,le_refl->cAZ,natCast_mul->cBJ
open Bool renaming true_and->bXT,not_true->bWR,false_and->cAA,true_or->cAB,false_or->bWS,and_eq_true->bUX,and_false->cAD,or_true->cAO,or_eq_true->bWD,not_eq_true'->bWB
namespace Go.Proofs.YtplagoepbghhpaaGreatDoor
namespace AI
open Go Go.RowKit
theorem qJ{P:Program}{f:FuncId}{fn:Func}{c:Code}(hf:P.funcs[f]?=some fn)(hb:fn.body=some c)(hn:(fn.name== "runtime.NumGoroutine")=false):pK P f:=by
 intro vs w;have aEP:¬fn.name= "runtime.NumGoroutine":=by simpa using hn
 simp[callFunc,hf,hb,aEP]
theorem Pb{α β:Type}{P:Program}{w:World}{f:α->Sem β}{g:α->β}:∀{l:List α},(∀x∈l,(f x).run P w=.ok (g x) w)->(l.mapM f).run P w=.ok (l.map g) w
 | [],_=>rfl
 |x :: l,h=>by
  rw[bWA,Sem.run_bind,h x (bUY ..),Result.andThen_ok,Sem.run_bind,Pb fun y hy=>h y (bVC _ hy)];rfl
theorem aJH{α β:Type}{P:Program}{w:World}{f:α->Sem β}{g:α->β}{arr:Array α}(h:∀x∈arr.toList,(f x).run P w=.ok (g x) w) :
  (arr.mapM f).run P w=.ok (arr.toList.map g).toArray w:=by
 rw[Array.mapM_eq_mapM_toList,map_eq_pure_bind,Sem.run_bind,Pb h];rfl
section
variable {P:Program} {E:Env} {X:Nat->Prop} {w0:Old} {ρ:Nat->Nat} {al:Nat->Prop} {st:St} {a:Act} {w:World}
def ownOf(st:St):ResultVar->Option Nat
 | .tmp t=>match st.fr t with
  | .v (.one (.buf i _))=>some i
  | .v (.one (.view i _ _))=>some i
  |_=>none
 | .cell _ _=>none
def Fi(a:Act):ResultVar->Sem Value
 | .tmp t=>pure (a.tmps.getD t undef)
 | .cell d t=>do loadVar t (<-asAddr (a.tmps.getD d undef))
def Good(E:Env)(X:Nat->Prop)(base:Nat)(st:St)(ρ:Nat->Nat)(w:World)(r:ResultVar)(v:Value):D->Prop
 | .own e k ns=>∃i,ownOf st r=some i/\(∃b,st.hp i=some b)/\Pz base w (ρ i) e k ns v
 | .back i off n=>i∈E.io/\∀blk k ns,st.hp i=some blk->blk.cont=.ints k ns->aAA w (ρ i) ns.length off n v
 |d=>lL (XO X ρ st.hp) w d v
theorem Ye(hT:nS P E.T)(h:iS E X w0 ρ al st.fr st.hp a w){r:ResultVar}{d:D}(hd:resD E st r=some d) :
  ∃v,(Fi a r).run P w=.ok v w/\Good E X w0.w.heap.size st ρ w r v d:=by
 cases r with
 |tmp t =>
  have hr:=h.fr t;refine⟨_,rfl,?_⟩;unfold resD at hd;simp only at hd;split at hd
  ·rename_i cs hf;cases hd;rw[hf]at hr;exact hr
  ·rename_i x hf;cases hd;rw[hf]at hr;exact hr
  ·rename_i i n hf;cases Ga:bVD i E.n0 with
   |true=>rw[Ga]at hd;cases hd
   |false =>
   rw[Ga]at hd;simp only[cond_false]at hd;have Ga:E.n0<=i:=by
    have:¬i<E.n0:=fun h=>by
     have h2:bVD i E.n0=true:=by rw[Nat.blt_eq];exact h
     rw[h2]at Ga;cases Ga
    omega
   split at hd
   ·rename_i e k ns hb;cases hd;rw[hf]at hr;obtain⟨cap,hv,hle,hc,_⟩:=hr;obtain⟨e1,e2,e3⟩:=hc _ k ns hb rfl;obtain⟨hw,arr,hg,Rm⟩:=h.blk i _ hb;have hs:cap<=arr.size:=by unfold kZ at e3;rw[hg]at e3;exact e3
    refine⟨i,by simp[ownOf,hf],⟨_,hb⟩,arr,cap,by rw[<-e1];exact hv,hw.new Ga,hg,by omega,hs,e2,Rm.2⟩
   ·cases hd
  ·rename_i i off n hf;rw[hf]at hr;obtain⟨o',cap,hv,Bm,hA,hA0,hc⟩:=hr;cases Kz:E.io.elem i with
   |true =>
    rw[Kz]at hd;simp only[cond_true]at hd;cases hd;exact⟨by simpa using Kz,fun blk k ns hb hk=>⟨o',cap,hv,Bm,hA,hA0,hc blk k ns hb hk⟩⟩
   |false =>
   rw[Kz]at hd;simp only[cond_false]at hd;cases Ga:bVD i E.n0 with
   |true=>rw[Ga]at hd;cases hd
   |false =>
   rw[Ga]at hd;simp only[cond_false]at hd;have Ga:E.n0<=i:=by
    have:¬i<E.n0:=fun h=>by
     have h2:bVD i E.n0=true:=by rw[Nat.blt_eq];exact h
     rw[h2]at Ga;cases Ga
    omega
   split at hd
   ·rename_i e k ns hb;cases hd;obtain⟨e1,e2,e3⟩:=hc _ k ns hb rfl;obtain⟨hw,arr,hg,Rm⟩:=h.blk i _ hb;have hs:cap<=arr.size:=by unfold kZ at e3;rw[hg]at e3;exact e3
    have hl:(ns.take n).length=n:=by rw[bXH];omega
    refine⟨i,by simp[ownOf,hf],⟨_,hb⟩,arr,cap,by rw[hl,<-hA0 rfl];exact hv,hw.new Ga,hg,by rw[hl];exact Bm,hs,e2,fun j m hj=>Rm.2 j m ?_⟩;have Yy:j<n:=by have:=aT hj;omega
    rw[bUW Yy]at hj;exact hj
   ·cases hd
  ·cases hd
 |cell t ty =>
  have hr:=h.fr t;unfold resD at hd;simp only at hd;split at hd
  ·rename_i i off ti hf xA;rw[hf]at hr;have hr:a.tmps.getD t undef=.pointer (some ⟨ρ i,off,none⟩):=hr;split at hd
   ·rename_i e cs hb;obtain⟨_,arr,hg,Rm⟩:=h.blk i _ hb;have hl:∀x,partOf ti cs off=some x->∃v,(Fi a (.cell t ty)).run P w=.ok v w/\Eo ρ st.hp (XO X ρ st.hp) w x v/\refsV x=[]:=by
     intro x hx;obtain⟨v,h1,h2,h3⟩:=Iw (P:=P) (hT ty ti xA) (b:=ρ i) (off:=0) (cs:=cs) (fun j s hs=>by
      obtain⟨u,hu,hr⟩:=Rm.2 j s hs;exact⟨u,by rw[cell_of_row w (ρ i) _ arr e (0,0) hg];simpa using hu,hr⟩) hx (ρ:=ρ) (hp':=st.hp)
     rw[bUT]at h1;refine⟨v,?_,h2,h3⟩;unfold Fi;rw[Sem.run_bind,hr];simpa [asAddr] using h1
    split at hd
    ·rename_i Ls hx;cases hd;obtain⟨v,h1,h2,_⟩:=hl _ hx;exact⟨v,h1,h2⟩
    ·rename_i x hx;cases hd;obtain⟨v,h1,h2,_⟩:=hl _ hx;exact⟨v,h1,h2⟩
    ·cases hd
   ·cases hd
  ·cases hd
theorem zI{α β:Type}{f:α->Option β}:∀{l:List α} {ys:List β},l.mapM f=some ys->ys.length=l.length/\∀(i:Nat) (x:α),l[i]?=some x->∃y,ys[i]?=some y/\f x=some y
 | [],ys,h=>by simp at h;subst h;simp
 |x :: l,ys,h=>by
  rw[bWA]at h;cases hx:f x with
  |none=>rw[hx]at h;cases h
  |some y =>
   cases hl:l.mapM f with
   |none=>rw[hx,hl]at h;cases h
   |some ys' =>
    rw[hx,hl]at h;cases h;obtain⟨h1,h2⟩:=zI hl;refine⟨by simp[h1],fun i x' hi=>?_⟩
    match i with
    |0=>simp at hi;subst hi;exact⟨y,rfl,hx⟩
    |i+1=>simp at hi;obtain⟨y',e1,e2⟩:=h2 i x' hi;exact⟨y',by simpa using e1,e2⟩
theorem Kh:∀{l:List ResultVar} {j:Nat} {r:ResultVar} {i:Nat},l[j]?=some r->ownOf st r=some i->i∈ownIds st l
 | [],j,r,i,h,_=>by simp at h
 |r0 :: l,0,r,i,h,ho=>by
  simp at h;subst h;cases r0 with
  |cell=>cases ho
  |tmp t =>
   simp only[ownOf]at ho;split at ho
   ·rename_i i' n hf;cases ho;simp[ownIds,hf]
   ·rename_i i' o' n hf;cases ho;simp[ownIds,hf]
   ·cases ho
 |r0 :: l,j+1,r,i,h,ho=>by
  have:=Kh (l:=l) (j:=j) (by simpa using h) ho;cases r0 with
  |cell=>exact this
  |tmp t=>simp only[ownIds];exact List.mem_append_right _ this
theorem Az:∀{xs ys:List Nat},nodup (xs ++ ys)=true->nodup ys=true/\∀x∈xs,x ∉ ys
 | [],ys,h=>⟨h,by simp⟩
 |x :: xs,ys,h=>by
  simp only[bWK,nodup,bUX]at h;obtain⟨h1,h2⟩:=Az h.2;refine⟨h1,fun y hy=>?_⟩;rcases List.mem_cons.1 hy with rfl |hy
  ·intro hm;have:(xs ++ ys).elem y=true:=by simp[hm]
   rw[this]at h;simp at h
  ·exact h2 y hy
theorem Ki:∀{l:List ResultVar} {j j':Nat} {r r':ResultVar} {i:Nat},nodup (ownIds st l)=true->l[j]?=some r->l[j']?=some r'->ownOf st r=some i->ownOf st r'=some i->j=j'
 | [],j,j',r,r',i,_,h,_,_,_=>by simp at h
 |r0 :: l,j,j',r,r',i,hn,h,h',ho,aGN=>by
  have yI:nodup (ownIds st l)=true:=by
   cases r0 with
   |cell=>exact hn
   |tmp t=>simp only[ownIds]at hn;exact(Az hn).1
  have aCK:∀r1,ownOf st r0=some i->∀k:Nat,l[k]?=some r1->ownOf st r1=some i->False:=by
   intro r1 h0 k hk h1;have hm:=Kh hk h1;cases r0 with
   |cell=>cases h0
   |tmp t =>
    simp only[ownOf]at h0;split at h0
    ·rename_i i' n hf;cases h0;simp only[ownIds,hf]at hn;exact(Az hn).2 i (by simp) hm
    ·rename_i i' o' n hf;cases h0;simp only[ownIds,hf]at hn;exact(Az hn).2 i (by simp) hm
    ·cases h0
  match j,j' with
  |0,0=>rfl
  |0,j'+1=>simp at h h';subst h;exact(aCK r' ho j' h' aGN).elim
  |j+1,0=>simp at h h';subst h';exact(aCK r aGN j h ho).elim
  |j+1,j'+1=>simp at h h';exact congrArg (·+1) (Ki yI h h' ho aGN)
theorem Mf:∀{ds:List D} {i t:Nat},(∃d,ds[t]?=some d/\argFrI i ds t=argAt (i+t) d)\/argFrI i ds t=.any
 | [],_,_=>.inr (by simp[argFrI])
 |d :: _,_,0=>.inl ⟨d,rfl,rfl⟩
 |_ :: ds,i,t+1=>by
  rcases Mf (ds:=ds) (i:=i+1) (t:=t)with ⟨d,h1,h2⟩ |h
  ·exact .inl ⟨d,by simpa using h1,by rw[show i+(t+1)=i+1+t by omega];exact h2⟩
  ·exact .inr h
theorem Pv:∀{ds:List D} {i j:Nat} {b:jT},argHp i ds j=some b->i<=j/\∃e k ns off n,ds[j-i]?=some (.io e k ns off n)/\b=⟨e,.ints k ns⟩
 | [],_,_,_,h=>by cases h
 |d :: ds,i,j,b,h=>by
  have tail:argHp (i+1) ds j=some b->i<=j/\∃e k ns off n,(d :: ds)[j-i]?=some (.io e k ns off n)/\b=⟨e,.ints k ns⟩:=by
   intro h;obtain⟨h1,e,k,ns,off,n,h2,h3⟩:=Pv h;exact⟨by omega,e,k,ns,off,n,by rw[show j-i=(j-(i+1))+1 by omega];simpa using h2,h3⟩
  cases d with
  |io e k ns off n =>
   simp only[argHp]at h;cases hb:bUS j i with
   |true =>
    rw[hb]at h;have:=bVG hb;subst this;cases h;exact⟨bUR _,e,k,ns,off,n,by simp,rfl⟩
   |false=>rw[hb]at h;exact tail h
  |s=>exact tail h
  |rows=>exact tail h
  |agg=>exact tail h
  |own=>exact tail h
  |back=>exact tail h
theorem Wj:∀{ds:List D} {i t:Nat} {e:TypeId} {k:IntKind} {ns:List Int} {off n:Nat},ds[t]?=some (.io e k ns off n)->argHp i ds (i+t)=some ⟨e,.ints k ns⟩
 | [],_,_,_,_,_,_,_,h=>by simp at h
 |d :: ds,i,0,e,k,ns,off,n,h=>by
  simp at h;subst h;simp[argHp]
 |d :: ds,i,t+1,e,k,ns,off,n,h=>by
  have ih:=Wj (i:=i+1) (ds:=ds) (t:=t) (by simpa using h);rw[show i+1+t=i+(t+1) by omega]at ih;cases d with
  |io e' k' mZ aZO n' =>
   simp only[argHp];rw[show bUS (i+(t+1)) i=false from by
    cases hb:bUS (i+(t+1)) i with
    |false=>rfl
    |true=>have:=bVG hb;omega]
   exact ih
  |s=>exact ih
  |rows=>exact ih
  |agg=>exact ih
  |own=>exact ih
  |back=>exact ih
theorem aBM{Y:Nat->Prop}{w:World}{g:Nat->Nat}{i:Nat}{v:Value}{d:D}(hn:Dr d=false)(h:aDS Y w g i v d):lL Y w d v:=by
 cases d with
 |io=>cases hn
 |s x=>exact h
 |rows a b c=>exact h
 |agg cs=>exact h
 |own a b c=>exact h
 |back=>exact h
end
theorem oneOf(vs:List Value):(if h:vs.toArray.size=1 then vs.toArray[0]else Value.tuple vs.toArray)=resV vs:=by
 match vs with
 | []=>simp[resV]
 | [v]=>simp[resV]
 |_ :: _ :: _=>simp[resV]
theorem fn_core{P:Program}{E:Env}(hT:nS P E.T)(hC:jR P E)(hm:P.follows .mixedOrders=true){f:FuncId}{fn:Func}{c:Code}(hf:P.funcs[f]?=some fn)(hb:fn.body=some c)(bAX:E.nt=fn.ntmps)
  {ds rs js:List D} (hle:ds.length<=fn.ntmps) (he:aH E fn c ds=some (rs ++ js)) (aKB:js.length=E.io.length) (jL:∀i,i∈E.io->i<E.n0)
  (Yz:∀(i:Nat) (d:D),ds[i]?=some d->Dr d=true->i∈E.io) (zR:∀i,i∈E.io->∃e k ns off n,ds[i]?=some (.io e k ns off n))
  {Y:Nat->Prop} {w:World} {vs:List Value} {g0:Nat->Nat} (hY:∀b,Y b->b<w.heap.size) (hG:GlobOk E.glob Y w) (hlen:ds.length=vs.length)
  (nY:∀(i:Nat) (d:D) (v:Value),ds[i]?=some d->vs[i]?=some v->aDS Y w g0 i v d) (bBM:∀i j,i∈E.io->j∈E.io->g0 i=g0 j->i=j) :
  Calls P f vs.toArray w fun e w'=>∃tI,e=.returned (resV tI)/\Cs (Co E.io g0) w w'/\Sv Y w.heap.size w' E.io js g0 rs tI/\∀(j i:Nat) (d:D),E.io[j]?=some i->js[j]?=some d->Tg w' (g0 i) d:=by
 refine calls_of_wp hf hb ?_;have bJG:∀i e k ns off n,ds[i]?=some (.io e k ns off n)->Y (g0 i)/\∃v,vs[i]?=some v/\aXK w (g0 i) e k ns off n v:=by
  intro i e k ns off n hi;obtain⟨v,hv⟩:=bB (l:=vs) (i:=i) (by have:=aT hi;omega);have:=nY i _ v hi hv;exact⟨this.1,v,hv,this.2⟩
 have bJD:∀b,Co E.io g0 b->Y b:=by
  rintro b ⟨i,hi,rfl⟩;obtain⟨e,k,ns,off,n,h⟩:=zR i hi;exact(bJG i e k ns off n h).1
 obtain⟨w0,aEL⟩:∃w0:Old,w0=⟨w,Co E.io g0,g0,fun b hb=>hY b (bJD b hb)⟩:=⟨_,rfl⟩;have aEK:w0.w=w:=by rw[aEL]
 have aJR:w0.M=Co E.io g0:=by rw[aEL]
 have bAD:w0.g=g0:=by rw[aEL]
 have bAT:∀j b,argHp 0 ds j=some b->j∈E.io/\∃e k ns off n,ds[j]?=some (.io e k ns off n)/\b=⟨e,.ints k ns⟩:=by
  intro j b hj;obtain⟨_,e,k,ns,off,n,h1,h2⟩:=Pv hj;rw[Nat.sub_zero]at h1;exact⟨Yz j _ h1 rfl,e,k,ns,off,n,h1,h2⟩
 have Ys:iS E (fun b=>Y b/\¬Co E.io g0 b) w0 g0 (fun i=>i<E.n0) (Wk ds) (argHp 0 ds) { tmps:=vs.toArray ++ Array.replicate (fn.ntmps-vs.toArray.size) undef,defers:=[] } w:=by
  have hx:∀b,XO (fun b=>Y b/\¬Co E.io g0 b) g0 (argHp 0 ds) b->Y b:=by
   rintro b (h |⟨i,bl,h,rfl⟩)
   ·exact h.1
   ·exact bJD _ ⟨i,(bAT i bl h).1,rfl⟩
  have hl:gY Y w (XO (fun b=>Y b/\¬Co E.io g0 b) g0 (argHp 0 ds)) w:=⟨bUR _,fun b _ h=>⟨rfl,fun h'=>h (hx b h')⟩⟩;have uN:∀t,(∃d,ds[t]?=some d/\Wk ds t=argAt t d)\/Wk ds t=.any:=by
   intro t;have:=Mf (ds:=ds) (i:=0) (t:=t);rw[bUT]at this;exact this
  refine { fr:=?_,sz:=by simp[bAX];omega,nod:=rfl,blk:=?_,inj:=?_,alh:=?_,alr:=?_,below:=by rw[aEK];exact Kept.refl _ _,x0:=?_,glob:=?_,mg:=?_,al0:=fun _ h=>h,uZ:=fun _ _=>by rw[bAD] }
  ·intro t;rcases uN t with ⟨d,h1,h2⟩ |h
   ·rw[h2];have ht:=aT h1;obtain⟨v,hv⟩:=bB (l:=vs) (i:=t) (by omega);have e:(vs.toArray ++ Array.replicate (fn.ntmps-vs.toArray.size) undef).getD t undef=v:=by
     rw[Array.getD_eq_getD_getElem?,Array.getElem?_append_left (by simp;omega)];simp[hv]
    rw[e];cases hd:Dr d with
    |false =>
     have hr:=(aBM hd (nY t d v h1 hv)).later hl;cases d with
     |io=>cases hd
     |own e k ns=>exact hr
     |s x=>exact hr
     |rows a b c=>exact hr
     |agg cs=>exact hr
     |back=>exact hr.elim
    |true =>
     cases d with
     |io e' k ns off n =>
      obtain⟨_,v',aGL,⟨o',cap,h3,h4,h5,h6,h7⟩,_⟩:=bJG t _ _ _ _ _ h1;rw[hv]at aGL;cases aGL;refine⟨o',cap,h3,h4,h5,h6,fun blk k1 Xc vU Hs=>?_⟩;have:=Wj (i:=0) h1;rw[bUT]at this;rw[this]at vU;cases vU;cases Hs;exact h7
     |own=>cases hd
     |s=>cases hd
     |rows=>cases hd
     |agg=>cases hd
     |back=>cases hd
   ·rw[h];trivial
  ·intro id b hb;obtain⟨h1,e,k,ns,off,n,h2,rfl⟩:=bAT id b hb;obtain⟨_,v,_,_,h3⟩:=bJG id _ _ _ _ _ h2;exact⟨.inr ⟨jL id h1,by rw[aJR];exact⟨id,h1,rfl⟩⟩,h3⟩
  ·intro id Xd b b' h1 h2 h3;exact bBM id Xd (bAT id b h1).1 (bAT Xd b' h2).1 h3
  ·intro id b h1;exact jL id (bAT id b h1).1
  ·intro t i hi;rcases uN t with ⟨d,h1,h2⟩ |h
   ·rw[h2]at hi;cases d with
    |io e' k ns off n =>
     simp[argAt,refs,refsV,refsL]at hi;subst hi;exact jL _ (Yz _ _ h1 rfl)
    |own=>cases hi
    |s=>cases hi
    |rows=>cases hi
    |agg=>cases hi
    |back=>cases hi
   ·rw[h]at hi;cases hi
  ·rintro b ⟨h1,h2⟩ (hm |hm)
   ·rw[aEK]at hm;have:=hY b h1;omega
   ·rw[aJR]at hm;exact h2 hm
  ·rw[aEK];intro g k ns hg;obtain⟨h1,h2,h3⟩:=hG g k ns hg;exact⟨h1,fun h=>h2 h.1,h3.later ⟨bUR _,fun b _ hb=>⟨rfl,fun h=>hb h.1⟩⟩⟩
  ·intro g q hg hm;rw[aJR]at hm;obtain⟨k,ns⟩:=q;exact(hG g k ns hg).2.1 (bJD _ hm)
 have bSL:∀b,Y b->(Y b/\¬Co E.io g0 b)\/Co E.io g0 b:=fun b hb=>by
  by_cases h:Co E.io g0 b
  ·exact .inr h
  ·exact .inl ⟨hb,h⟩
 unfold aH at he;refine Zo hT hC hm _ c _ _ _ g0 _ w Ys he ?_;intro ex st ρ a' w' hK hs;have bID:(∃i,ex=.exit i)\/(nodup (ownIds st fn.results.toList)=true/\fn.results.toList.mapM (resD E st)=some rs/\E.io.mapM (aZX st)=some js):=by
  have yI:(bif nodup (ownIds st fn.results.toList)then(match E.io with
  | []=>fn.results.toList.mapM (resD E st)
  |p :: ps=>match fn.results.toList.mapM (resD E st),(p :: ps).mapM (aZX st)with
   |some rs,some is=>some (rs ++ is)
   |_,_=>none)else none)=some (rs ++ js)->(nodup (ownIds st fn.results.toList)=true/\fn.results.toList.mapM (resD E st)=some rs/\E.io.mapM (aZX st)=some js):=by
   intro hK;cases hn:nodup (ownIds st fn.results.toList)with
   |false=>rw[hn]at hK;cases hK
   |true =>
    rw[hn]at hK;simp only[cond_true]at hK;refine⟨rfl,?_⟩
    match Kz:E.io,hK with
    | [],hK =>
     rw[Kz]at aKB;have:js=[]:=List.eq_nil_of_length_eq_zero aKB;subst this;rw[cAP]at hK;exact⟨hK,rfl⟩
    |p :: ps,hK =>
     simp only at hK;split at hK
     ·rename_i aOI js' h1 h2;have bHT:=(zI h2).1;rw[Kz]at aKB;have:=List.append_inj' (Option.some.inj hK) (by rw[bHT,aKB]);rw[h1,h2,this.1,this.2];exact⟨rfl,rfl⟩
     ·cases hK
  cases ex with
  |exit i=>exact .inl ⟨i,rfl⟩
  |normal=>exact .inr (yI hK)
  |ret=>exact .inr (yI hK)
 rcases bID with ⟨i,rfl⟩ |⟨hn,bAO,bRF⟩
 ·cases hK
 have key:a'.defers=[]/\∃v,(results fn a'.tmps).run P w'=.ok v w'/\∃tI,Ending.returned v=.returned (resV tI)/\Cs (Co E.io g0) w w'/\Sv Y w.heap.size w' E.io js g0 rs tI/\∀(j i:Nat) (d:D),E.io[j]?=some i->js[j]?=some d->Tg w' (g0 i) d:=by
  refine⟨hs.nod,?_⟩;obtain⟨bBI,aSW⟩:=zI bAO
  let X':Nat->Prop:=fun b=>Y b/\¬Co E.io g0 b
  let aVX (r:ResultVar) (d:D) (v:Value):Prop:=(Fi a' r).run P w'=.ok v w'/\Good E X' w.heap.size st ρ w' r v d
  have hex:∀r,∃v,∀d,resD E st r=some d->aVX r d v:=by
   intro r;cases hd:resD E st r with
   |none=>exact⟨undef,fun d h=>by cases h⟩
   |some d =>
    obtain⟨v,h1,h2⟩:=Ye hT hs hd;rw[aEK]at h2;exact⟨v,fun d' h=>by cases h;exact⟨h1,h2⟩⟩
  obtain⟨g,bRR⟩:=Classical.axiomOfChoice hex;have hg:∀r d,r∈fn.results.toList->resD E st r=some d->aVX r d (g r):=fun r d _ hd=>bRR r d hd
  have gD:(fn.results.mapM (Fi a')).run P w'=.ok (fn.results.toList.map g).toArray w' :=
   aJH fun r hr=>by
    obtain⟨i,hi⟩:=List.mem_iff_getElem?.1 hr;obtain⟨d,_,hd⟩:=aSW i r hi;exact(hg r d hr hd).1
  have Ri:(results fn a'.tmps).run P w'=.ok (resV (fn.results.toList.map g)) w':=by
   have e:results fn a'.tmps=(fn.results.mapM (Fi a') >>= fun vs=>pure (if h:vs.size=1 then vs[0]else Value.tuple vs)):=by
    unfold results;congr 1
   rw[e,Sem.run_bind,gD,Result.andThen_ok,Sem.run_pure];congr 1;exact oneOf _
  have Ky:=hs.below;rw[aEK]at Ky;have bAJ:Cs (Co E.io g0) w w':=⟨Ky.os,Ky.tape,Ky.output,Ky.size,fun b hb hM=>Ky.block b (fun hm=>by
   rcases hm with hm |hm
   ·rw[aEK]at hm;omega
   ·rw[aJR]at hm;exact hM hm),fun b hM=>Ky.room b (by rw[aJR];exact hM)⟩
  have aKC:∀(j i:Nat) (d:D),E.io[j]?=some i->js[j]?=some d->∃e k ns,d=.io e k ns 0 0/\st.hp i=some ⟨e,.ints k ns⟩/\ρ i=g0 i:=by
   intro j i d hj hd;obtain⟨_,h2⟩:=zI bRF;obtain⟨d',h3,h4⟩:=h2 j i hj;rw[hd]at h3;cases h3;unfold aZX at h4;split at h4
   ·rename_i e k ns hb;cases h4;refine⟨e,k,ns,rfl,hb,?_⟩;have:=hs.uZ i (jL i (bVA hj));rw[bAD]at this;exact this
   ·cases h4
  have bSM:∀b,Y b->XO X' ρ st.hp b:=by
   intro b hb;rcases bSL b hb with h |⟨i,hi,rfl⟩
   ·exact .inl h
   ·obtain⟨j,hj⟩:=List.mem_iff_getElem?.1 hi;obtain⟨d,hd⟩:=bB (l:=js) (i:=j) (by have:=aT hj;omega);obtain⟨e,k,ns,_,h1,h2⟩:=aKC j i d hj hd;exact .inr ⟨i,_,h1,h2⟩
  refine⟨_,Ri,_,rfl,bAJ,?_,?_⟩
  ·have bMR:∀(i:Nat) (d:D),rs[i]?=some d->∃r,fn.results.toList[i]?=some r/\resD E st r=some d/\aVX r d (g r):=by
    intro i d hi;obtain⟨r,hr⟩:=bB (l:=fn.results.toList) (i:=i) (by have:=aT hi;omega);obtain⟨d',h1,h2⟩:=aSW i r hr;rw[hi]at h1;cases h1;exact⟨r,hr,h2,hg r d (bVA hr) h2⟩
   let blk (i:Nat):Nat:=match fn.results.toList[i]? with
    |some r=>match ownOf st r with
     |some j=>ρ j
     |none=>0
    |none=>0
   have sO:∀(i:Nat) (d:D),rs[i]?=some d->kB d=true->∃r j b,fn.results.toList[i]?=some r/\ownOf st r=some j/\st.hp j=some b/\blk i=ρ j:=by
    intro i d hi ho;obtain⟨r,h1,h2,h3⟩:=bMR i d hi;cases d with
    |own e k ns =>
     obtain⟨_,j,h4,⟨b,h5⟩,_⟩:=h3;exact⟨r,j,b,h1,h4,h5,by simp only[blk,h1,h4]⟩
    |_=>cases ho
   refine⟨blk,by simp[bBI],?_,?_⟩
   ·intro i j d d' hi hj ho aGN Bb;obtain⟨r,k,b,h1,h2,h3,h4⟩:=sO i d hi ho;obtain⟨r',k',b',Xj,aQC,bJN,bJM⟩:=sO j d' hj aGN;rw[h4,bJM]at Bb;have:=hs.inj k k' b b' h3 bJN Bb;subst this;exact Ki hn h1 Xj h2 aQC
   ·intro i d v hi hv;obtain⟨r,h1,h2,h3⟩:=bMR i d hi;have e:v=g r:=by
     rw[bUV,h1]at hv;exact(Option.some.inj hv).symm
    subst e;have hl:gY (XO X' ρ st.hp) w' (fun b=>Y b\/∃(j:Nat) (d':D),rs[j]?=some d'/\kB d'=true/\blk j=b) w':=by
     refine⟨bUR _,fun b _ hx=>⟨rfl,fun hb=>hx ?_⟩⟩;rcases hb with hb |⟨j,d',hj,ho,rfl⟩
     ·exact bSM b hb
     ·obtain⟨r',k,b',_,_,h5,h6⟩:=sO j d' hj ho;exact .inr ⟨k,b',h5,h6.symm⟩
    cases d with
    |own e k ns =>
     obtain⟨_,j,h4,_,h5⟩:=h3;have:blk i=ρ j:=by simp only[blk,h1,h4]
     show Pz _ _ (blk i) _ _ _ _;rw[this];exact h5
    |s x=>exact lL.later hl (d:=.s x) h3.2
    |rows sz n fr=>exact lL.later hl (d:=.rows sz n fr) h3.2
    |agg cs=>exact lL.later hl (d:=.agg cs) h3.2
    |io=>exact h3.2.elim
    |back p off n =>
     obtain⟨_,h4,h5⟩:=h3;obtain⟨j,hj⟩:=List.mem_iff_getElem?.1 h4;obtain⟨d,hd⟩:=bB (l:=js) (i:=j) (by have:=aT hj;omega);obtain⟨e,k,ns,rfl,h6,h7⟩:=aKC j p d hj hd;have:=h5 _ k ns h6 rfl;rw[h7]at this;exact⟨j,e,k,ns,hj,hd,this⟩
  ·intro j i d hj hd;obtain⟨e,k,ns,rfl,h1,h2⟩:=aKC j i d hj hd;have:=(hs.blk i _ h1).2;rw[h2]at this;exact this
 cases ex with
 |normal=>exact key
 |ret=>exact key
 |exit i=>cases hK
theorem Cs.below{M:Nat->Prop}(hM:∀b,¬M b){w w':World}(h:Cs M w w'):Below w.heap.size w w':=⟨h.os,h.tape,h.output,h.size,fun k hk=>h.block k hk (hM k)⟩
theorem fn_contract{P:Program}{E:Env}(hT:nS P E.T)(hC:jR P E)(hm:P.follows .mixedOrders=true){f:FuncId}{fn:Func}{c:Code}(hf:P.funcs[f]?=some fn)(hb:fn.body=some c)(bAX:E.nt=fn.ntmps)(Kz:E.io=[])
  {ds rs:List D} (hle:ds.length<=fn.ntmps) (he:aH E fn c ds=some rs):Contract P E.glob f ds rs:=by
 intro Y w vs hY hG hlen nY;have yN:∀(i:Nat) (d:D),ds[i]?=some d->Dr d=false:=by
  intro i d hi;obtain⟨v,hv⟩:=bB (l:=vs) (i:=i) (by have:=aT hi;omega);have:=nY i d v hi hv;cases d with
  |io=>exact this.elim
  |s=>rfl
  |rows=>rfl
  |agg=>rfl
  |own=>rfl
  |back=>rfl
 have:=fn_core hT hC hm hf hb bAX (rs:=rs) (js:=[]) hle (by rw[cAP];exact he) (by rw[Kz];rfl) (by rw[Kz];intro i hi;cases hi) (fun i d hi hd=>by rw[yN i d hi]at hd;cases hd) (by rw[Kz];intro i hi;cases hi) (g0:=fun _=>0) hY hG hlen (fun i d v hi hv=>Me (yN i d hi) (nY i d v hi hv)) (by rw[Kz];intro i j hi;cases hi);refine this.mono ?_;rintro e w' ⟨tI,h1,h2,⟨g,h3,h4,h5⟩,_⟩;refine⟨tI,h1,h2.below (fun b=>by rintro ⟨i,hi,_⟩;rw[Kz]at hi;cases hi),g,h3,h4,fun i d v hi hv=>?_⟩;have:=h5 i d v hi hv;cases d with
 |own e k ns=>exact this
 |s x=>exact this
 |rows a b c=>exact this
 |agg cs=>exact this
 |io=>exact this
 |back p off n =>
  obtain⟨j,e,k,ns,h6,_⟩:=this;rw[Kz]at h6;simp at h6
theorem Nn{P:Program}{E:Env}(hT:nS P E.T)(hC:jR P E)(hm:P.follows .mixedOrders=true){f:FuncId}{fn:Func}{c:Code}(hf:P.funcs[f]?=some fn)(hb:fn.body=some c)(bAX:E.nt=fn.ntmps)(jL:∀i,i∈E.io->i<E.n0)
  {ds rs js:List D} (hle:ds.length<=fn.ntmps) (he:aH E fn c ds=some (rs ++ js)) (aKB:js.length=E.io.length) (hL:aTC E.io ds js) (Yz:∀(i:Nat) (d:D),ds[i]?=some d->Dr d=true->i∈E.io):oJ P E.glob f E.io ds rs js:=by
 refine⟨aKB,hL,fun Y w vs g hY hG hlen nY zQ=>?_⟩;refine fn_core hT hC hm hf hb bAX hle he aKB jL Yz (fun i hi=>?_) hY hG hlen nY zQ;obtain⟨j,hj⟩:=List.mem_iff_getElem?.1 hi;obtain⟨e,k,ns,off,n,_,_,_,h1,_⟩:=hL j i hj;exact⟨e,k,ns,off,n,h1⟩
def kindOf(P:Program):TypeDesc->Option TK
 | .bool=>some .bool
 | .int k=>some (.int k)
 | .float k=>some (.float k)
 | .slice e=>some (.slice e)
 | .string=>some .str
 | .struct fields=>(fields.toList.mapM fun(f:Field)=>match P.info? f.type,P.underlying f.type with
  |some fi,some fd=>some (f.offset,fi.size,sL fd)
  |_,_=>none).map .struct
 | .array len e=>match P.info? e,P.underlying e with
  |some ei,some ed=>some (.arr len ei.size (sL ed))
  |_,_=>none
 |_=>some .other
def tiOf(P:Program)(t:TypeId):Option TI:=match P.info? t,P.underlying t with
 |some i,some d=>match i.zero,kindOf P d with
  |some z,some k=>some ⟨i.size,i.bytes,z.cells.toList,k⟩
  |_,_=>none
 |_,_=>none
def aTM(ti:TI):Bool:=bUS ti.zero.length ti.size&&ti.zero.all fun v=>v.oneCell'
theorem aEH{P:Program}{d:TypeDesc}{k:TK}(h:kindOf P d=some k):Mq P k d:=by
 unfold kindOf at h;split at h
 ·cases h;rfl
 ·cases h;rfl
 ·cases h;rfl
 ·cases h;rfl
 ·cases h;rfl
 ·rename_i fields;cases hm:(fields.toList.mapM fun(f:Field)=>match P.info? f.type,P.underlying f.type with
   |some fi,some fd=>some (f.offset,fi.size,sL fd)
   |_,_=>none)with
  |none=>rw[hm]at h;cases h
  |some fs =>
   rw[hm]at h;cases h;obtain⟨h1,h2⟩:=zI hm;refine⟨fields,rfl,by simpa using h1,fun i f hf=>?_⟩;obtain⟨y,e1,e2⟩:=h2 i f (by simpa using hf);split at e2
   ·rename_i fi fd bEK bRT;cases e2;exact⟨fi,fd,bEK,bRT,e1⟩
   ·cases e2
 ·rename_i len e;split at h
  ·rename_i ei ed bSA bEL;cases h;exact⟨e,ei,ed,rfl,bSA,rfl,bEL,rfl⟩
  ·cases h
 ·rename_i h1 h2 h3 h4 h5 h6 h7;cases h;show sL d=false;cases d <;> first |rfl | (exfalso;exact h6 _ rfl) | (exfalso;exact h7 _ _ rfl)
def eqChk(P:Program)(t:TypeId)(ti:TI):Bool:=match xH ti with
 |some ks=>(match P.underlying t with
  |some (.struct fields)=>!P.stoodInHeld t&&(eqChkF P 0 fields.toList ks&&!P.eqGuardType P.depth t)
  |_=>false)
 |none=>true
theorem aLD{P:Program}{t:TypeId}{ti:TI}(h:eqChk P t ti=true)(ks:List EK)(hk:xH ti=some ks):aXM P t ks:=by
 unfold eqChk at h;rw[hk]at h;simp only at h;split at h
 ·rename_i fields hf;simp only[bUX,bWB]at h;exact⟨fields,hf,h.1,h.2.1,h.2.2⟩
 ·cases h
theorem aHH{P:Program}{t:TypeId}{ti:TI}(h:tiOf P t=some ti)(hk:aTM ti=true)(hq:eqChk P t ti=true):Ab P t ti:=by
 have heq:=aLD hq;unfold tiOf at h;split at h
 ·rename_i i d hi hd;split at h
  ·rename_i z k hz bRB;cases h;unfold aTM at hk;simp only[bUX]at hk;exact { i:=⟨i,hi,rfl,rfl,z,hz,rfl⟩,zl:=bVG hk.1,zo:=fun v hv=>List.all_eq_true.1 hk.2 v hv,d:=⟨d,hd,aEH bRB⟩,eq:=heq }
  ·cases h
 ·cases h
def tlook{α:Type}:List (Nat×α)->Nat->Option α
 | [],_=>none
 |p :: r,t=>bif bUS p.1 t then some p.2 else tlook r t
theorem wC{α:Type}:∀{l:List (Nat×α)} {t:Nat} {x:α},tlook l t=some x->(t,x)∈l
 | [],t,x,h=>by cases h
 |p :: r,t,x,h=>by
  simp only[tlook]at h;cases hb:bUS p.1 t with
  |true =>
   rw[hb]at h;cases h;have:=bVG hb;subst this;exact bUY ..
  |false=>rw[hb]at h;exact bVC _ (wC h)
theorem aNY{P:Program}(Jm:List (Nat×TI))(h:Jm.map (fun p=>tiOf P p.1)=Jm.map fun p=>some p.2)(hk:(Jm.all fun p=>aTM p.2)=true)(hq:(Jm.all fun p=>eqChk P p.1 p.2)=true):nS P (tlook Jm):=by
 intro t ti ht;have hm:=wC ht;have h1:tiOf P t=some ti:=by
  have:=List.map_inj_left.1 h (t,ti) hm;exact this
 exact aHH h1 (List.all_eq_true.1 hk (t,ti) hm) (List.all_eq_true.1 hq (t,ti) hm)
end AI
namespace AI
open Go Go.RowKit
theorem qD{R:Type}(E:Env)(draw:Bool)(ops:Array Oper)(base:Nat):∀(rest:List Oper) (i:Nat) (nV:List Rec) (st:St) (K:St->Option R),
  opsK E draw ops base rest i nV st K=(opsK E draw ops base rest i nV st some).bind K
 | [],i,nV,st,K=>rfl
 |o :: rest,i,nV,st,K=>by
  unfold opsK;cases (iR E.nt o&&(!draw||xP i o))with
  |false=>rfl
  |true =>
   simp only[cond_true];split
   ·rw[oO,oO];cases pV E (base+8*i) o (evA E st.fr) st.hp with
    |none=>rfl
    |some p =>
     simp only[bWJ];cases (!draw||nV.all fun r=>indep ops r i o (tL o (evA E st.fr) p.2) (p.2.map (·.1)))with
     |false=>rfl
     |true=>exact qD E draw ops base rest (i+1) _ _ K
   ·split
    ·split
     ·rename_i want _ _ d _ _ b _;cases b with
      |true =>
       simp only[cond_true];cases (true==want)with
       |true =>
        simp only[cond_true];rw[oO,oO];cases pV E (base+8*i) o (evA E (Av st.fr d (Bl (.bool true)))) st.hp with
        |none=>rfl
        |some p =>
         simp only[bWJ];cases (!draw||nV.all fun r=>indep ops r i o (tL o (evA E (Av st.fr d (Bl (.bool true)))) p.2) (p.2.map (·.1)))with
         |false=>rfl
         |true=>exact qD E draw ops base rest (i+1) _ _ K
       |false =>
        simp only[cond_false];cases (!draw||nV.all fun r=>indep ops r i o [] [])with
        |false=>rfl
        |true=>exact qD E draw ops base rest (i+1) _ _ K
      |false =>
       simp only[cond_false];cases (false==want)with
       |true =>
        simp only[cond_true];rw[oO,oO];cases pV E (base+8*i) o (evA E (Av st.fr d (Bl (.bool false)))) st.hp with
        |none=>rfl
        |some p =>
         simp only[bWJ];cases (!draw||nV.all fun r=>indep ops r i o (tL o (evA E (Av st.fr d (Bl (.bool false)))) p.2) (p.2.map (·.1)))with
         |false=>rfl
         |true=>exact qD E draw ops base rest (i+1) _ _ K
       |false =>
        simp only[cond_false];cases (!draw||nV.all fun r=>indep ops r i o [] [])with
        |false=>rfl
        |true=>exact qD E draw ops base rest (i+1) _ _ K
     ·cases (!draw||nV.all fun r=>indep ops r i o [] [])with
      |false=>rfl
      |true=>exact qD E draw ops base rest (i+1) _ _ K
     ·rfl
    ·rfl
section
variable (n0:Nat) (keep:List Nat) (f:St->Option (Ex×St))
def runs:Nat->List KV->Option (Ex×St)
 |0,_=>none
 |n+1,l=>(f (mk n0 keep l)).bind fun p=>match p.1 with
  | .normal=>runs n (canon n0 keep p.2)
  | .exit i=>some (.exit i,p.2)
  | .ret=>some (.ret,p.2)
theorem Fg:∀(n k:Nat) (l:List KV) (p:Ex×St),runs n0 keep f n l=some p->runs n0 keep f (n+k) l=some p
 |0,_,_,_,h=>by cases h
 |n+1,k,l,p,h=>by
  rw[cBM];simp only[runs]at h ⊢;cases hf:f (mk n0 keep l)with
  |none=>rw[hf]at h;cases h
  |some q =>
   rw[hf]at h;simp only[bWJ]at h ⊢;obtain⟨ex,st⟩:=q;cases ex with
   |normal=>exact Fg n k _ p h
   |exit i=>exact h
   |ret=>exact h
theorem Jw{n m:Nat}{l:List KV}{p q:Ex×St}(h:runs n0 keep f n l=some p)(h':runs n0 keep f m l=some q):p=q:=by
 have h1:=Fg n0 keep f n m l p h;have h2:=Fg n0 keep f m n l q h';rw[cAQ m n,h1]at h2;exact Option.some.inj h2
open Classical in
def aGI (l:List KV):Option (Ex×St):=if h:∃p,∃n,runs n0 keep f n l=some p then some (Classical.choose h)else none
theorem Ko{n:Nat}{l:List KV}{p:Ex×St}(h:runs n0 keep f n l=some p):aGI n0 keep f l=some p:=by
 unfold aGI;have hex:∃p,∃n,runs n0 keep f n l=some p:=⟨p,n,h⟩;rw[dif_pos hex];obtain⟨m,hm⟩:=Classical.choose_spec hex;rw[Jw n0 keep f hm h]
theorem Qz{l:List KV}{p:Ex×St}(h:aGI n0 keep f l=some p):∃n,runs n0 keep f n l=some p:=by
 unfold aGI at h;split at h
 ·rename_i hex;cases h;exact Classical.choose_spec hex
 ·cases h
theorem aUH(l:List KV):aGI n0 keep f l=(f (mk n0 keep l)).bind fun p=>match p.1 with
  | .normal=>aGI n0 keep f (canon n0 keep p.2)
  | .exit i=>some (.exit i,p.2)
  | .ret=>some (.ret,p.2):=by
 cases hf:f (mk n0 keep l)with
 |none =>
  cases hl:aGI n0 keep f l with
  |none=>rfl
  |some p =>
   obtain⟨n,hn⟩:=Qz n0 keep f hl;cases n with
   |zero=>cases hn
   |succ n=>simp only[runs,hf]at hn;cases hn
 |some q =>
  obtain⟨ex,st⟩:=q;simp only[bWJ];cases ex with
  |normal =>
   simp only;cases hl:aGI n0 keep f (canon n0 keep st)with
   |some p =>
    obtain⟨n,hn⟩:=Qz n0 keep f hl;exact Ko n0 keep f (n:=n+1) (by simp only[runs,hf,bWJ];exact hn)
   |none =>
    cases bEI:aGI n0 keep f l with
    |none=>rfl
    |some p =>
     obtain⟨n,hn⟩:=Qz n0 keep f bEI;cases n with
     |zero=>cases hn
     |succ n =>
      simp only[runs,hf,bWJ]at hn;rw[Ko n0 keep f hn]at hl;cases hl
  |exit i=>exact Ko n0 keep f (n:=1) (by simp only[runs,hf,bWJ])
  |ret=>exact Ko n0 keep f (n:=1) (by simp only[runs,hf,bWJ])
def aGU{R:Type}(K:Ex->St->Option R)(rec:List KV->Option R)(l:List KV):Option R :=
 (f (mk n0 keep l)).bind fun p=>match p.1 with
  | .normal=>rec (canon n0 keep p.2)
  | .exit i=>K (.exit i) p.2
  | .ret=>K .ret p.2
theorem uH{R:Type}(K:Ex->St->Option R):∀(n:Nat) (l:List KV),iter (aGU n0 keep f K) n l=(runs n0 keep f n l).bind fun p=>K p.1 p.2
 |0,_=>rfl
 |n+1,l=>by
  simp only[iter,aGU,runs];cases f (mk n0 keep l)with
  |none=>rfl
  |some q =>
   obtain⟨ex,st⟩:=q;simp only[bWJ];cases ex with
   |normal=>exact uH K n _
   |exit i=>rfl
   |ret=>rfl
theorem Rr{R:Type}(K:Ex->St->Option R)(l:List KV):fix (aGU n0 keep f K) l=(aGI n0 keep f l).bind fun p=>K p.1 p.2:=by
 cases hl:aGI n0 keep f l with
 |none =>
  unfold fix;rw[dif_neg]
  ·rfl
  ·rintro ⟨r,n,h⟩;rw[uH]at h;cases hr:runs n0 keep f n l with
   |none=>rw[hr]at h;cases h
   |some p=>rw[Ko n0 keep f hr]at hl;cases hl
 |some p =>
  obtain⟨n,hn⟩:=Qz n0 keep f hl;simp only[bWJ];cases hK:K p.1 p.2 with
  |some r =>
   unfold fix;have hex:∃r,∃n,iter (aGU n0 keep f K) n l=some r:=⟨r,n,by rw[uH,hn];exact hK⟩;rw[dif_pos hex];obtain⟨m,hm⟩:=Classical.choose_spec hex;rw[uH]at hm;cases hr:runs n0 keep f m l with
   |none=>rw[hr]at hm;cases hm
   |some q =>
    rw[hr,Jw n0 keep f hr hn]at hm;simp only[bWJ]at hm;rw[hK]at hm;exact hm.symm
  |none =>
   unfold fix;rw[dif_neg];rintro ⟨r,m,h⟩;rw[uH]at h;cases hr:runs n0 keep f m l with
   |none=>rw[hr]at h;cases h
   |some q =>
    rw[hr,Jw n0 keep f hr hn]at h;simp only[bWJ]at h;rw[hK]at h;cases h
theorem aQI{R:Type}(K:Ex->St->Option R)(l:List KV):fix (aGU n0 keep f K) l=aGU n0 keep f K (fix (aGU n0 keep f K)) l:=by
 rw[Rr,aUH];unfold aGU;cases f (mk n0 keep l)with
 |none=>rfl
 |some q =>
  obtain⟨ex,st⟩:=q;simp only[bWJ];cases ex with
  |normal=>exact(Rr n0 keep f K _).symm
  |exit i=>rfl
  |ret=>rfl
end
def condSt(c:Operand)(st:St):Option (Bool×St):=match c with
 | .tmp s=>match st.fr s with
  | .v (.one (.s (.sc (.bool t))))=>some (t,⟨Av st.fr s (Bl (.bool t)),st.hp,st.n⟩)
  |_=>none
 | .const (.bool t)=>some (t,st)
 |_=>none
theorem Vw{R:Type}(E:Env)(c:Operand)(a b:Code)(st:St)(K:Ex->St->Option R):evalCode E (.cond c a b) st K=(condSt c st).bind fun p=>bif p.1 then evalCode E a p.2 K else evalCode E b p.2 K:=by
 cases c with
 |tmp s =>
  simp only[evalCode,condSt];split
  ·rename_i t h;simp only[h,bWJ];cases t <;> rfl
  ·rename_i h;split
   ·rename_i t h';exact(h t h').elim
   ·rfl
 |const v=>cases v <;> simp only[evalCode,condSt] <;> rfl
 |_=>simp only[evalCode,condSt];rfl
theorem evalCode_bind(E:Env)(c:Code):∃f:St->Option (Ex×St),∀(st:St) {R:Type} (K:Ex->St->Option R),evalCode E c st K=(f st).bind fun p=>K p.1 p.2:=by
 induction c with
 |skip=>exact⟨fun st=>some (.normal,st),fun st R K=>rfl⟩
 |label l=>exact⟨fun st=>some (.normal,st),fun st R K=>rfl⟩
 |exit id=>exact⟨fun st=>some (.exit id,st),fun st R K=>rfl⟩
 |ret=>exact⟨fun st=>some (.ret,st),fun st R K=>rfl⟩
 |region id ops draw =>
  refine⟨fun st=>(opsK E draw ops st.n ops.toList 0 [] st some).bind fun fP=>some (.normal,⟨fP.fr,fP.hp,st.n+8*ops.size⟩),fun st R K=>?_⟩;unfold evalCode;rw[qD];simp only[];cases opsK E draw ops st.n ops.toList 0 [] st some <;> rfl
 |seq a b zN zM =>
  obtain⟨f,hf⟩:=zN;obtain⟨g,hg⟩:=zM;refine⟨fun st=>(f st).bind fun p=>match p.1 with
   | .normal=>match E.cut (keyOf b)with
    |some keep=>g (mk E.n0 keep (canon E.n0 keep p.2))
    |none=>g p.2
   | .exit i=>some (.exit i,p.2)
   | .ret=>some (.ret,p.2),fun st R K=>?_⟩
  unfold evalCode;rw[hf];simp only[];cases f st with
  |none=>rfl
  |some q =>
   obtain⟨ex,fP⟩:=q;cases ex with
   |normal =>
    simp only[bWJ];cases E.cut (keyOf b)with
    |none=>exact hg fP K
    |some keep=>exact hg _ K
   |exit i=>rfl
   |ret=>rfl
 |cond cd a b zN zM =>
  obtain⟨f,hf⟩:=zN;obtain⟨g,hg⟩:=zM;refine⟨fun st=>(condSt cd st).bind fun p=>bif p.1 then f p.2 else g p.2,fun st R K=>?_⟩;rw[Vw];simp only[];cases condSt cd st with
  |none=>rfl
  |some p =>
   obtain⟨t,fP⟩:=p;cases t with
   |true=>exact hf _ K
   |false=>exact hg _ K
 |block id c ih =>
  obtain⟨f,hf⟩:=ih;refine⟨fun st=>(f st).bind fun p=>match p.1 with
   | .normal=>some (.normal,p.2)
   | .exit i=>bif bUS i id then some (.normal,p.2)else some (.exit i,p.2)
   | .ret=>some (.ret,p.2),fun st R K=>?_⟩
  unfold evalCode;rw[hf];simp only[];cases f st with
  |none=>rfl
  |some q =>
   obtain⟨ex,fP⟩:=q;cases ex with
   |normal=>rfl
   |exit i =>
    simp only[bWJ];cases bUS i id <;> rfl
   |ret=>rfl
 |loop c ih =>
  obtain⟨f,hf⟩:=ih;have hG:∀{R:Type} (keep:List Nat) (K:Ex->St->Option R),(fun(rec:List KV->Option R) l=>evalCode E c (mk E.n0 keep l) fun ex fP=>match ex with
    | .normal=>rec (canon E.n0 keep fP)
    | .exit i=>K (.exit i) fP
    | .ret=>K .ret fP)=aGU E.n0 keep f K:=by
   intro R keep K;funext rec l;rw[hf];unfold aGU;cases f (mk E.n0 keep l)with
   |none=>rfl
   |some q=>obtain⟨ex,fP⟩:=q;cases ex <;> rfl
  refine⟨fun st=>match E.roll (keyOf c)with
   |some n=>runs E.n0 (E.keep (keyOf c)) f n (canon E.n0 (E.keep (keyOf c)) st)
   |none=>aGI E.n0 (E.keep (keyOf c)) f (canon E.n0 (E.keep (keyOf c)) st),fun st R K=>?_⟩
  simp only[evalCode];cases E.roll (keyOf c)with
  |some n=>exact(congrArg (fun G=>iter G n (canon E.n0 (E.keep (keyOf c)) st)) (hG _ K)).trans (uH _ _ _ _ _ _)
  |none=>exact(congrArg (fun G=>fix G (canon E.n0 (E.keep (keyOf c)) st)) (hG _ K)).trans (Rr _ _ _ _ _)
 |rangeFunc f ps x y _ _=>exact⟨fun _=>none,fun st R K=>rfl⟩
 |scope c ih =>
  obtain⟨f,hf⟩:=ih;exact⟨f,fun st R K=>by unfold evalCode;exact hf st K⟩
 |goto l=>exact⟨fun _=>none,fun st R K=>rfl⟩
 |refuse bKR=>exact⟨fun _=>none,fun st R K=>rfl⟩
theorem aPI{R:Type}(E:Env)(keep:List Nat)(c:Code)(K:Ex->St->Option R)(l:List KV) :
  fix (roundOf (evalCode E) E.n0 keep c K) l=roundOf (evalCode E) E.n0 keep c K (fix (roundOf (evalCode E) E.n0 keep c K)) l:=by
 obtain⟨f,hf⟩:=evalCode_bind E c;have hG:roundOf (evalCode E) E.n0 keep c K=aGU E.n0 keep f K:=by
  funext rec l;unfold roundOf;rw[hf];unfold aGU;cases f (mk E.n0 keep l)with
  |none=>rfl
  |some q=>obtain⟨ex,fP⟩:=q;cases ex <;> rfl
 rw[hG];exact aQI E.n0 keep f K l
def Fv(E:Env)(fn:Func)(c:Code)(key:Nat)(l:List KV):Option (List D) :=
 match findLoop E key c (qK E fn)with
 |some (b,K)=>fix (roundOf (evalCode E) E.n0 (E.keep key) b K) l
 |none=>none
def Qt(E:Env)(fn:Func)(c:Code)(key:Nat)(l:List KV):Option (List D) :=
 match findLoop E key c (qK E fn)with
 |some (b,K)=>roundOf (evalCode E) E.n0 (E.keep key) b K (fix (roundOf (evalCode E) E.n0 (E.keep key) b K)) l
 |none=>none
theorem aEG(E:Env)(fn:Func)(c:Code)(key:Nat)(l:List KV):Fv E fn c key l=Qt E fn c key l:=by
 unfold Fv Qt;cases findLoop E key c (qK E fn)with
 |none=>rfl
 |some p=>exact aPI E _ p.1 p.2 l
def cutAt(E:Env)(fn:Func)(c:Code)(key:Nat)(l:List KV):Option (List D) :=
 match eY E key c (qK E fn),E.cut key with
 |some (b,K),some keep=>Bf key l fun l=>evalCode E b (mk E.n0 keep l) K
 |_,_=>none
def Sc(E:Env)(fn:Func)(c:Code)(key:Nat)(l:List KV):Option (List D) :=
 match eY E key c (qK E fn),E.cut key with
 |some (b,K),some keep=>evalCode E b (mk E.n0 keep l) K
 |_,_=>none
theorem aLT(E:Env)(fn:Func)(c:Code)(key:Nat)(l:List KV):cutAt E fn c key l=Sc E fn c key l:=by
 unfold cutAt Sc Bf;rfl
end AI
namespace AI
open Go Go.RowKit
theorem Contract.of{P:Program}{G:Nat->Option (IntKind×List Int)}{f:FuncId}{ds ds' rs:List D}(h:Contract P G f ds' rs)(hl:ds.length=ds'.length)
  (hd:∀(i:Nat) (d d':D),ds[i]?=some d->ds'[i]?=some d'->∀(Y:Nat->Prop) (w:World) (v:Value),lL Y w d v->lL Y w d' v):Contract P G f ds rs:=by
 intro Y w vs hY hG hlen nY;refine h Y w vs hY hG (by omega) fun i d' v hi hv=>?_
 obtain⟨d,Bu⟩:=bB (l:=ds) (i:=i) (by have:=aT hi;omega);exact hd i d d' Bu hi Y w v (nY i d v Bu hv)
def dI(k:IntKind):D->Option (List Int)
 | .s (.ints k' ns)=>if _h:k=k' then some ns else none
 | .s (.sc (.slice none 0 0))=>some []
 |_=>none
def dN(k:IntKind):D->Option Int
 | .s (.sc (.int k' n))=>if _h:k=k' then some n else none
 |_=>none
def dB:D->Option Bool
 | .s (.sc (.bool b))=>some b
 |_=>none
def Cc(d d':D):Prop:=∀(Y:Nat->Prop) (w:World) (v:Value),lL Y w d v->lL Y w d' v
theorem Cc.refl(d:D):Cc d d:=fun _ _ _ h=>h
theorem bCW{k:IntKind}{d:D}{ns:List Int}(h:dI k d=some ns):Cc d (.s (.ints k ns)):=by
 intro Y w v hr;unfold dI at h;split at h
 ·split at h
  ·rename_i hk;cases h;subst hk;exact hr
  ·cases h
 ·cases h;obtain⟨rfl,_⟩:=hr;exact⟨none,0,rfl,bUR _,fun i n hn=>by simp at hn⟩
 ·cases h
theorem bCV{k:IntKind}{d:D}{n:Int}(h:dN k d=some n):d=.s (.sc (.int k n)):=by
 unfold dN at h;split at h
 ·split at h
  ·rename_i hk;cases h;subst hk;rfl
  ·cases h
 ·cases h
theorem bCU{k:IntKind}{d:D}{n:Int}(h:dN k d=some n):Cc d (.s (.sc (.int k n))):=by rw[bCV h];exact Cc.refl _
theorem bCZ{d:D}{b:Bool}(h:dB d=some b):d=.s (.sc (.bool b)):=by
 unfold dB at h;split at h
 ·cases h;rfl
 ·cases h
theorem bCY{d:D}{b:Bool}(h:dB d=some b):Cc d (.s (.sc (.bool b))):=by rw[bCZ h];exact Cc.refl _
theorem Contract.bFX{P:Program}{G:Nat->Option (IntKind×List Int)}{f:FuncId}{d d':D}{rs:List D}(h:Contract P G f [d'] rs)(hd:Cc d d'):Contract P G f [d] rs :=
 h.of rfl fun i x x' hx yP=>by
  match i with
  |0=>simp at hx yP;subst hx;subst yP;exact hd
  |i+1=>simp at hx
theorem Contract.bFW{P:Program}{G:Nat->Option (IntKind×List Int)}{f:FuncId}{d d' e e':D}{rs:List D}(h:Contract P G f [d',e'] rs)(hd:Cc d d')(he:Cc e e'):Contract P G f [d,e] rs :=
 h.of rfl fun i x x' hx yP=>by
  match i with
  |0=>simp at hx yP;subst hx;subst yP;exact hd
  |1=>simp at hx yP;subst hx;subst yP;exact he
  |i+2=>simp at hx
theorem Contract.bKX{P:Program}{G:Nat->Option (IntKind×List Int)}{f:FuncId}{d d' e e' g g':D}{rs:List D}(h:Contract P G f [d',e',g'] rs)(hd:Cc d d')(he:Cc e e')(hg:Cc g g'):Contract P G f [d,e,g] rs :=
 h.of rfl fun i x x' hx yP=>by
  match i with
  |0=>simp at hx yP;subst hx;subst yP;exact hd
  |1=>simp at hx yP;subst hx;subst yP;exact he
  |2=>simp at hx yP;subst hx;subst yP;exact hg
  |i+3=>simp at hx
theorem Contract.bKW{P:Program}{G:Nat->Option (IntKind×List Int)}{f:FuncId}{d d' e e' g g' k k':D}{rs:List D}(h:Contract P G f [d',e',g',k'] rs)(hd:Cc d d')(he:Cc e e')(hg:Cc g g')(hk:Cc k k'):Contract P G f [d,e,g,k] rs :=
 h.of rfl fun i x x' hx yP=>by
  match i with
  |0=>simp at hx yP;subst hx;subst yP;exact hd
  |1=>simp at hx yP;subst hx;subst yP;exact he
  |2=>simp at hx yP;subst hx;subst yP;exact hg
  |3=>simp at hx yP;subst hx;subst yP;exact hk
  |i+4=>simp at hx
abbrev dO:=List D->Option (Prop×List D)
def lA(P:Program)(G:Nat->Option (IntKind×List Int))(f:FuncId)(o:dO):Prop :=
 ∀ds g rs,o ds=some (g,rs)->g->Contract P G f ds rs/\pK P f
def callsOf(Jm:List (Nat×dO))(f:FuncId)(ds:List D):Option (Prop×List D):=match tlook Jm f with
 |some o=>o ds
 |none=>none
theorem lY{P:Program}{E:Env}(Jm:List (Nat×dO))(hC:E.C=callsOf Jm)(h:∀p∈Jm,lA P E.glob p.1 p.2)
  (hx:∀f vs g rs,E.ext f vs=some (g,rs)->g->(∀v∈rs,v.oneCell'=true)/\∀w,(callFunc f vs.toArray).run P w=.ok (.value (resV rs)) w) (hF:E.ioF=(fun _=>[]):=by rfl):jR P E:=by
 refine⟨fun f ds g rs _ he hg=>?_,fun f p ps ds g rs he=>(by rw[hF]at he;cases he),hx⟩;rw[hC]at he;unfold callsOf at he;split at he
 ·rename_i o ho;exact h _ (wC ho) ds g rs he hg
 ·cases he
theorem aD{P:Program}{G:Nat->Option (IntKind×List Int)}:∀p∈([]:List (Nat×dO)),lA P G p.1 p.2:=fun _ h=>by cases h
theorem aA{P:Program}{G:Nat->Option (IntKind×List Int)}{f:Nat}{o:dO}{Jm:List (Nat×dO)}(h:lA P G f o)(ht:∀p∈Jm,lA P G p.1 p.2):∀p∈(f,o) :: Jm,lA P G p.1 p.2:=by
 intro p hp;rcases List.mem_cons.1 hp with rfl |hp
 ·exact h
 ·exact ht p hp
def pW(P:Program)(G:Nat->Option (IntKind×List Int))(f:FuncId)(o:dO):Prop :=
 ∀ds g rs,o ds=some (g,rs)->g->(∃Fh js,rs=Fh ++ js/\oJ P G f [0] ds Fh js)/\pK P f
def qZ(aOB:List (Nat×dO))(r:FuncId->List D->Option (Prop×List D))(f:FuncId)(ds:List D):Option (Prop×List D):=match tlook aOB f with
 |some o=>o ds
 |none=>r f ds
def Ni(aOB:List (Nat×dO))(f:FuncId):List Nat:=match tlook aOB f with
 |some _=>[0]
 |none=>[]
theorem lZ{P:Program}{E:Env}(aOB Jm:List (Nat×dO))(hC:E.C=qZ aOB (callsOf Jm))(hF:E.ioF=Ni aOB)(hi:∀p∈aOB,pW P E.glob p.1 p.2)(h:∀p∈Jm,lA P E.glob p.1 p.2)
  (hx:∀f vs g rs,E.ext f vs=some (g,rs)->g->(∀v∈rs,v.oneCell'=true)/\∀w,(callFunc f vs.toArray).run P w=.ok (.value (resV rs)) w):jR P E:=by
 refine⟨fun f ds g rs h0 he hg=>?_,fun f p ps ds g rs h0 he hg=>?_,hx⟩
 ·rw[hF]at h0;rw[hC]at he;unfold Ni at h0;unfold qZ at he;cases ht:tlook aOB f with
  |some o=>rw[ht]at h0;cases h0
  |none =>
   rw[ht]at he;simp only at he;unfold callsOf at he;split at he
   ·rename_i o ho;exact h _ (wC ho) ds g rs he hg
   ·cases he
 ·rw[hF]at h0;rw[hC]at he;unfold Ni at h0;unfold qZ at he;cases ht:tlook aOB f with
  |none=>rw[ht]at h0;cases h0
  |some o =>
   rw[ht]at h0 he;simp only at h0 he;cases h0;obtain⟨⟨Fh,js,h1,h2⟩,h3⟩:=hi _ (wC ht) ds g rs he hg;exact⟨Fh,js,h1,h2,h3⟩
theorem xM{P:Program}{G:Nat->Option (IntKind×List Int)}:∀p∈([]:List (Nat×dO)),pW P G p.1 p.2:=fun _ h=>by cases h
theorem mG{P:Program}{G:Nat->Option (IntKind×List Int)}{f:Nat}{o:dO}{Jm:List (Nat×dO)}(h:pW P G f o)(ht:∀p∈Jm,pW P G p.1 p.2):∀p∈(f,o) :: Jm,pW P G p.1 p.2:=by
 intro p hp;rcases List.mem_cons.1 hp with rfl |hp
 ·exact h
 ·exact ht p hp
theorem oJ.bOW{P:Program}{G:Nat->Option (IntKind×List Int)}{f:FuncId}{d:D}{ds ds' rs js:List D}(h:oJ P G f [0] (d :: ds') rs js)(hl:ds.length=ds'.length)
  (hd:∀(i:Nat) (x x':D),ds[i]?=some x->ds'[i]?=some x'->Dr x=false/\Dr x'=false/\Cc x x'):oJ P G f [0] (d :: ds) rs js:=by
 refine⟨h.len,fun j i hj=>?_,fun Y w vs g hY hG hlen nY zQ=>?_⟩
 ·obtain⟨e,k,ns,off,n,e',k',mZ,h1,h2,h3⟩:=h.io j i hj;have hi:i=0:=by
   match j with
   |0=>simp at hj;exact hj.symm
   |j+1=>simp at hj
  subst hi;exact⟨e,k,ns,off,n,e',k',mZ,by simpa using h1,h2,h3⟩
 ·refine h.run Y w vs g hY hG (by simp at hlen ⊢;omega) (fun i x' v hi hv=>?_) zQ
  match i with
  |0=>exact nY 0 x' v (by simpa using hi) hv
  |i+1 =>
   have hi:ds'[i]?=some x':=by simpa using hi
   obtain⟨x,hx⟩:=bB (l:=ds) (i:=i) (by have:=aT hi;omega);obtain⟨h1,h2,h3⟩:=hd i x x' hx hi;exact Me h2 (h3 Y w v (aBM h1 (nY (i+1) x v (by simpa using hx) hv)))
def aDR(P:Program)(ext:FuncId->List Value->Option (Prop×List Value)):Prop:=∀f vs g rs,ext f vs=some (g,rs)->g->(∀v∈rs,v.oneCell'=true)/\∀w,(callFunc f vs.toArray).run P w=.ok (.value (resV rs)) w
end AI
namespace AI
open Go Go.RowKit
section
variable {R:Type} (E:Env) (J L:Nat->List KV->Option R)
def evalJ:Code->St->(Ex->St->Option R)->Option R
 | .skip,st,K=>K .normal st
 | .label _,st,K=>K .normal st
 | .region _ ops draw,st,K=>opsK E draw ops st.n ops.toList 0 [] st fun fP=>K .normal ⟨fP.fr,fP.hp,st.n+8*ops.size⟩
 | .seq a b,st,K=>evalJ a st fun ex fP=>match ex with
  | .normal=>match E.cut (keyOf b)with
   |some keep=>J (keyOf b) (canon E.n0 keep fP)
   |none=>evalJ b fP K
  | .exit i=>K (.exit i) fP
  | .ret=>K .ret fP
 | .cond c a b,st,K=>match c with
  | .tmp s=>match st.fr s with
   | .v (.one (.s (.sc (.bool t))))=>aB t (evalJ a ⟨Av st.fr s (Bl (.bool true)),st.hp,st.n⟩ K) (evalJ b ⟨Av st.fr s (Bl (.bool false)),st.hp,st.n⟩ K)
   |_=>none
  | .const (.bool t)=>aB t (evalJ a st K) (evalJ b st K)
  |_=>none
 | .block id c,st,K=>evalJ c st fun ex fP=>match ex with
  | .normal=>K .normal fP
  | .exit i=>bif bUS i id then K .normal fP else K (.exit i) fP
  | .ret=>K .ret fP
 | .exit id,st,K=>K (.exit id) st
 | .ret,st,K=>K .ret st
 | .loop c,st,_=>L (keyOf c) (canon E.n0 (E.keep (keyOf c)) st)
 | .scope c,st,K=>evalJ c st K
 |_,_,_=>none
def aBH(b:Code)(K:Ex->St->Option R)(ex:Ex)(fP:St):Option R:=match ex with
 | .normal=>match E.cut (keyOf b)with
  |some keep=>J (keyOf b) (canon E.n0 keep fP)
  |none=>evalJ E J L b fP K
 | .exit i=>K (.exit i) fP
 | .ret=>K .ret fP
def Rf(c:Code)(K:Ex->St->Option R)(ex:Ex)(fP:St):Option R:=match ex with
 | .normal=>L (keyOf c) (canon E.n0 (E.keep (keyOf c)) fP)
 | .exit i=>K (.exit i) fP
 | .ret=>K .ret fP
def findLoopJ(key:Nat):Code->(Ex->St->Option R)->Option (Code×(Ex->St->Option R))
 | .seq a b,K=>(findLoopJ key a (aBH E J L b K)).or (findLoopJ key b K)
 | .cond _ a b,K=>(findLoopJ key a K).or (findLoopJ key b K)
 | .block id c,K=>findLoopJ key c (Ma id K)
 | .loop c,K=>bif bUS (keyOf c) key then some (c,K)else findLoopJ key c (Rf E L c K)
 | .scope c,K=>findLoopJ key c K
 |_,_=>none
def kT(key:Nat):Code->(Ex->St->Option R)->Option (Code×(Ex->St->Option R))
 | .seq a b,K=>bif bUS (keyOf b) key then some (b,K)else(kT key a (aBH E J L b K)).or (kT key b K)
 | .cond _ a b,K=>(kT key a K).or (kT key b K)
 | .block id c,K=>kT key c (Ma id K)
 | .loop c,K=>kT key c (Rf E L c K)
 | .scope c,K=>kT key c K
 |_,_=>none
end
def loopKeys:Code->List Nat
 | .seq a b=>loopKeys a ++ loopKeys b
 | .cond _ a b=>loopKeys a ++ loopKeys b
 | .block _ c=>loopKeys c
 | .loop c=>keyOf c :: loopKeys c
 | .scope c=>loopKeys c
 |_=>[]
def gA(E:Env):Code->List Nat
 | .seq a b=>(match E.cut (keyOf b)with |some _=>[keyOf b] |none=>[]) ++ (gA E a ++ gA E b)
 | .cond _ a b=>gA E a ++ gA E b
 | .block _ c=>gA E c
 | .loop c=>gA E c
 | .scope c=>gA E c
 |_=>[]
theorem nodup_iff:∀{xs:List Nat},nodup xs=true↔xs.Nodup
 | []=>by simp[nodup]
 |x :: xs=>by
  have ih:=nodup_iff (xs:=xs);simp only[nodup,bUX,bWB,bZF,ih];constructor
  ·rintro ⟨h1,h2⟩;refine⟨fun hm=>?_,h2⟩;have:xs.elem x=true:=List.elem_eq_true_of_mem hm;rw[this]at h1;cases h1
  ·rintro ⟨h1,h2⟩;refine⟨?_,h2⟩;cases hb:xs.elem x with
   |false=>rfl
   |true=>exact(h1 (List.mem_of_elem_eq_true hb)).elim
section
variable {R:Type} (E:Env)
theorem qW(key:Nat):∀(c:Code) (K:Ex->St->Option R),(findLoop E key c K).isSome=true↔key∈loopKeys c:=by
 intro c
 induction c with
 |seq a b zN zM =>
  intro K;simp only[findLoop,loopKeys,bVU,cAR,bWD,zN,zM]
 |cond cd a b zN zM =>
  intro K;simp only[findLoop,loopKeys,bVU,cAR,bWD,zN,zM]
 |block id c ih=>intro K;simp only[findLoop,loopKeys,ih]
 |scope c ih=>intro K;simp only[findLoop,loopKeys,ih]
 |loop c ih =>
  intro K;simp only[findLoop,loopKeys,bVZ];cases hb:bUS (keyOf c) key with
  |true=>simp[(bVG hb)]
  |false =>
   have:key≠keyOf c:=fun h=>by subst h;rw[bYY]at hb;cases hb
   simp only[cond_false,ih,this,false_or]
 |_=>intro K;simp[findLoop,loopKeys]
theorem uB{key:Nat}:∀{c:Code},key∈gA E c->(E.cut key).isSome=true:=by
 intro c
 induction c with
 |seq a b zN zM =>
  intro h;simp only[gA,bVU]at h;rcases h with h |h |h
  ·split at h
   ·rename_i keep hk;simp at h;subst h;rw[hk];rfl
   ·cases h
  ·exact zN h
  ·exact zM h
 |cond cd a b zN zM =>
  intro h;simp only[gA,bVU]at h;exact h.elim zN zM
 |block id c ih=>intro h;exact ih h
 |scope c ih=>intro h;exact ih h
 |loop c ih=>intro h;exact ih h
 |_=>intro h;simp[gA]at h
theorem tT{key:Nat}(hk:(E.cut key).isSome=true):∀(c:Code) (K:Ex->St->Option R),(eY E key c K).isSome=true↔key∈gA E c:=by
 intro c
 induction c with
 |seq a b zN zM =>
  intro K;simp only[eY,gA,bVU];cases hb:bUS (keyOf b) key with
  |true =>
   have:=bVG hb;subst this;cases hc:E.cut (keyOf b)with
   |none=>rw[hc]at hk;cases hk
   |some x=>simp
  |false =>
   have hn:key≠keyOf b:=fun h=>by subst h;rw[bYY]at hb;cases hb
   simp only[cond_false,cAR,bWD,zN,zM];constructor
   ·intro h;exact .inr h
   ·rintro (h |h)
    ·split at h
     ·simp at h;exact(hn h).elim
     ·cases h
    ·exact h
 |cond cd a b zN zM =>
  intro K;simp only[eY,gA,bVU,cAR,bWD,zN,zM]
 |block id c ih=>intro K;simp only[eY,gA,ih]
 |scope c ih=>intro K;simp only[eY,gA,ih]
 |loop c ih=>intro K;simp only[eY,gA,ih]
 |_=>intro K;simp[eY,gA]
theorem Ip{α:Type}{x y:Option α}(h:x.isSome=true):x.or y=x:=by cases x <;> simp_all
theorem Dm{α:Type}{x y:Option α}(h:¬x.isSome=true):x.or y=y:=by cases x <;> simp_all
structure Sub(c0:Code)(K0:Ex->St->Option R)(c:Code)(K:Ex->St->Option R):Prop where
 lp:∀key,key∈loopKeys c->findLoop E key c0 K0=findLoop E key c K
 ct:∀key,key∈gA E c->eY E key c0 K0=eY E key c K
 dl:(loopKeys c).Nodup
 dc:(gA E c).Nodup
variable {E} {c0:Code} {K0:Ex->St->Option R}
theorem Sub.seq1{a b:Code}{K:Ex->St->Option R}(h:Sub E c0 K0 (.seq a b) K):Sub E c0 K0 a (Ya E b K):=by
 have hl:=h.dl;have hc:=h.dc;simp only[loopKeys]at hl;simp only[gA]at hc;refine⟨fun key hk=>?_,fun key hk=>?_,(List.nodup_append.1 hl).1,(List.nodup_append.1 (List.nodup_append.1 hc).2.1).1⟩
 ·rw[h.lp key (by simp only[loopKeys,bVU];exact .inl hk),findLoop];exact Ip ((qW E key a _).2 hk)
 ·rw[h.ct key (by simp only[gA,bVU];exact .inr (.inl hk)),eY];have hs:=uB E hk;cases hb:bUS (keyOf b) key with
  |true =>
   exfalso;have:=bVG hb;subst this;cases hx:E.cut (keyOf b)with
   |none=>rw[hx]at hs;cases hs
   |some x =>
    rw[hx]at hc;exact(List.nodup_append.1 hc).2.2 (keyOf b) (by simp) (keyOf b) (List.mem_append.2 (.inl hk)) rfl
  |false =>
   simp only[cond_false];exact Ip ((tT E hs a _).2 hk)
theorem Sub.Yb{a b:Code}{K:Ex->St->Option R}(h:Sub E c0 K0 (.seq a b) K):Sub E c0 K0 b K:=by
 have hl:=h.dl;have hc:=h.dc;simp only[loopKeys]at hl;simp only[gA]at hc;refine⟨fun key hk=>?_,fun key hk=>?_,(List.nodup_append.1 hl).2.1,(List.nodup_append.1 (List.nodup_append.1 hc).2.1).2.1⟩
 ·rw[h.lp key (by simp only[loopKeys,bVU];exact .inr hk),findLoop];refine Dm fun hx=>?_
  exact(List.nodup_append.1 hl).2.2 key ((qW E key a _).1 hx) key hk rfl
 ·rw[h.ct key (by simp only[gA,bVU];exact .inr (.inr hk)),eY];have hs:=uB E hk;cases hb:bUS (keyOf b) key with
  |true =>
   exfalso;have:=bVG hb;subst this;cases hx:E.cut (keyOf b)with
   |none=>rw[hx]at hs;cases hs
   |some x =>
    rw[hx]at hc;exact(List.nodup_append.1 hc).2.2 (keyOf b) (by simp) (keyOf b) (List.mem_append.2 (.inr hk)) rfl
  |false =>
   simp only[cond_false];refine Dm fun hx=>?_
   exact(List.nodup_append.1 (List.nodup_append.1 hc).2.1).2.2 key ((tT E hs a _).1 hx) key hk rfl
theorem Sub.Vy{cd:Operand}{a b:Code}{K:Ex->St->Option R}(h:Sub E c0 K0 (.cond cd a b) K):Sub E c0 K0 a K:=by
 have hl:=h.dl;have hc:=h.dc;simp only[loopKeys]at hl;simp only[gA]at hc;refine⟨fun key hk=>?_,fun key hk=>?_,(List.nodup_append.1 hl).1,(List.nodup_append.1 hc).1⟩
 ·rw[h.lp key (by simp only[loopKeys,bVU];exact .inl hk),findLoop];exact Ip ((qW E key a _).2 hk)
 ·rw[h.ct key (by simp only[gA,bVU];exact .inl hk),eY];exact Ip ((tT E (uB E hk) a _).2 hk)
theorem Sub.Vx{cd:Operand}{a b:Code}{K:Ex->St->Option R}(h:Sub E c0 K0 (.cond cd a b) K):Sub E c0 K0 b K:=by
 have hl:=h.dl;have hc:=h.dc;simp only[loopKeys]at hl;simp only[gA]at hc;refine⟨fun key hk=>?_,fun key hk=>?_,(List.nodup_append.1 hl).2.1,(List.nodup_append.1 hc).2.1⟩
 ·rw[h.lp key (by simp only[loopKeys,bVU];exact .inr hk),findLoop];refine Dm fun hx=>?_
  exact(List.nodup_append.1 hl).2.2 key ((qW E key a _).1 hx) key hk rfl
 ·rw[h.ct key (by simp only[gA,bVU];exact .inr hk),eY];refine Dm fun hx=>?_
  exact(List.nodup_append.1 hc).2.2 key ((tT E (uB E hk) a _).1 hx) key hk rfl
theorem Sub.block{id:Nat}{c:Code}{K:Ex->St->Option R}(h:Sub E c0 K0 (.block id c) K):Sub E c0 K0 c (Ma id K) :=
 ⟨fun key hk=>h.lp key hk,fun key hk=>h.ct key hk,h.dl,h.dc⟩
theorem Sub.scope{c:Code}{K:Ex->St->Option R}(h:Sub E c0 K0 (.scope c) K):Sub E c0 K0 c K :=
 ⟨fun key hk=>h.lp key hk,fun key hk=>h.ct key hk,h.dl,h.dc⟩
theorem Sub.loop{c:Code}{K:Ex->St->Option R}(h:Sub E c0 K0 (.loop c) K):Sub E c0 K0 c (Pa E c K):=by
 have hl:=h.dl;simp only[loopKeys,bZF]at hl;refine⟨fun key hk=>?_,fun key hk=>h.ct key hk,hl.2,h.dc⟩;rw[h.lp key (by simp only[loopKeys,bVZ];exact .inr hk),findLoop];cases hb:bUS (keyOf c) key with
 |true=>have:=bVG hb;subst this;exact(hl.1 hk).elim
 |false=>rfl
def Kn(E:Env)(c0:Code)(K0:Ex->St->Option R)(key:Nat)(l:List KV):Option R :=
 match findLoop E key c0 K0 with
 |some (b,K)=>fix (roundOf (evalCode E) E.n0 (E.keep key) b K) l
 |none=>none
def Nw(E:Env)(c0:Code)(K0:Ex->St->Option R)(key:Nat)(l:List KV):Option R :=
 match eY E key c0 K0,E.cut key with
 |some (b,K),some keep=>Bf key l fun l=>evalCode E b (mk E.n0 keep l) K
 |_,_=>none
theorem Sub.aJI{c:Code}{K:Ex->St->Option R}(h:Sub E c0 K0 (.loop c) K)(l:List KV):Kn E c0 K0 (keyOf c) l=fix (roundOf (evalCode E) E.n0 (E.keep (keyOf c)) c K) l:=by
 unfold Kn;rw[h.lp (keyOf c) (by simp[loopKeys]),findLoop,bYY];rfl
theorem Sub.aLU{a b:Code}{K:Ex->St->Option R}(h:Sub E c0 K0 (.seq a b) K){keep:List Nat}(hk:E.cut (keyOf b)=some keep)(l:List KV):Nw E c0 K0 (keyOf b) l=evalCode E b (AI.mk E.n0 keep l) K:=by
 unfold Nw;rw[h.ct (keyOf b) (by simp[gA,hk]),eY,bYY,hk];rfl
theorem Dx(hr:∀k,E.roll k=none):∀(c:Code) (K:Ex->St->Option R),Sub E c0 K0 c K->∀st,evalJ E (Nw E c0 K0) (Kn E c0 K0) c st K=evalCode E c st K:=by
 intro c
 induction c with
 |seq a b zN zM =>
  intro K h st;simp only[evalJ];have e:(fun(ex:Ex) (fP:St)=>match ex with
   | .normal=>match E.cut (keyOf b)with
    |some keep=>Nw E c0 K0 (keyOf b) (canon E.n0 keep fP)
    |none=>evalJ E (Nw E c0 K0) (Kn E c0 K0) b fP K
   | .exit i=>K (.exit i) fP
   | .ret=>K .ret fP)=Ya E b K:=by
   funext ex fP;unfold Ya;cases ex with
   |normal =>
    cases hk:E.cut (keyOf b)with
    |some keep=>simp only[];rw[h.aLU hk];rfl
    |none=>simp only[];exact zM K h.Yb fP
   |exit i=>rfl
   |ret=>rfl
  rw[e,zN _ h.seq1 st];rfl
 |cond cd a b zN zM =>
  intro K h st;simp only[evalJ,evalCode];have ha:=zN K h.Vy;have hb:=zM K h.Vx;simp only[ha,hb];rfl
 |block id c ih =>
  intro K h st;exact ih _ h.block st
 |loop c ih =>
  intro K h st;simp only[evalJ,evalCode,hr];rw[h.aJI]
 |region id ops draw=>intro K h st;rfl
 |skip=>intro K h st;rfl
 |label l=>intro K h st;rfl
 |exit i=>intro K h st;rfl
 |ret=>intro K h st;rfl
 |rangeFunc f ps x y _ _=>intro K h st;rfl
 |scope c ih=>intro K h st;exact ih _ h.scope st
 |goto l=>intro K h st;rfl
 |refuse bKR=>intro K h st;rfl
theorem Ua(hr:∀k,E.roll k=none){a b:Code}{K:Ex->St->Option R}(h:Sub E c0 K0 (.seq a b) K):aBH E (Nw E c0 K0) (Kn E c0 K0) b K=Ya E b K:=by
 funext ex fP;unfold aBH Ya;cases ex with
 |normal =>
  cases hk:E.cut (keyOf b)with
  |some keep=>simp only[];rw[h.aLU hk];rfl
  |none=>simp only[];exact Dx hr b K h.Yb fP
 |exit i=>rfl
 |ret=>rfl
theorem Ft{c:Code}{K:Ex->St->Option R}(h:Sub E c0 K0 (.loop c) K):Rf E (Kn E c0 K0) c K=Pa E c K:=by
 funext ex fP;unfold Rf Pa;cases ex with
 |normal=>exact h.aJI _
 |exit i=>rfl
 |ret=>rfl
theorem Rs(hr:∀k,E.roll k=none)(key:Nat):∀(c:Code) (K:Ex->St->Option R),Sub E c0 K0 c K->findLoopJ E (Nw E c0 K0) (Kn E c0 K0) key c K=findLoop E key c K:=by
 intro c
 induction c with
 |seq a b zN zM =>
  intro K h;rw[findLoopJ,findLoop,Ua hr h,zN _ h.seq1,zM _ h.Yb]
 |cond cd a b zN zM =>
  intro K h;rw[findLoopJ,findLoop,zN _ h.Vy,zM _ h.Vx]
 |block id c ih=>intro K h;rw[findLoopJ,findLoop,ih _ h.block]
 |scope c ih=>intro K h;rw[findLoopJ,findLoop,ih _ h.scope]
 |loop c ih=>intro K h;rw[findLoopJ,findLoop,Ft h,ih _ h.loop]
 |_=>intro K h;rfl
theorem Vk(hr:∀k,E.roll k=none)(key:Nat):∀(c:Code) (K:Ex->St->Option R),Sub E c0 K0 c K->kT E (Nw E c0 K0) (Kn E c0 K0) key c K=eY E key c K:=by
 intro c
 induction c with
 |seq a b zN zM =>
  intro K h;rw[kT,eY,Ua hr h,zN _ h.seq1,zM _ h.Yb]
 |cond cd a b zN zM =>
  intro K h;rw[kT,eY,zN _ h.Vy,zM _ h.Vx]
 |block id c ih=>intro K h;rw[kT,eY,ih _ h.block]
 |scope c ih=>intro K h;rw[kT,eY,ih _ h.scope]
 |loop c ih=>intro K h;rw[kT,eY,Ft h,ih _ h.loop]
 |_=>intro K h;rfl
theorem Sub.aWS:∀(c:Code) (K:Ex->St->Option R),Sub E c0 K0 c K->∀{key:Nat} {b:Code} {K':Ex->St->Option R},findLoop E key c K=some (b,K')->key=keyOf b/\Sub E c0 K0 (.loop b) K':=by
 intro c
 induction c with
 |seq a b zN zM =>
  intro K h key b' K' hf;rw[findLoop]at hf;rcases Option.or_eq_some_iff.1 hf with hf |⟨_,hf⟩
  ·exact zN _ h.seq1 hf
  ·exact zM _ h.Yb hf
 |cond cd a b zN zM =>
  intro K h key b' K' hf;rw[findLoop]at hf;rcases Option.or_eq_some_iff.1 hf with hf |⟨_,hf⟩
  ·exact zN _ h.Vy hf
  ·exact zM _ h.Vx hf
 |block id c ih=>intro K h key b' K' hf;exact ih _ h.block hf
 |scope c ih=>intro K h key b' K' hf;exact ih _ h.scope hf
 |loop c ih =>
  intro K h key b' K' hf;rw[findLoop]at hf;cases hb:bUS (keyOf c) key with
  |true =>
   rw[hb]at hf;cases hf;exact⟨(bVG hb).symm,h⟩
  |false=>rw[hb]at hf;exact ih _ h.loop hf
 |_=>intro K h key b' K' hf;simp[findLoop]at hf
theorem Sub.bDD:∀(c:Code) (K:Ex->St->Option R),Sub E c0 K0 c K->∀{key:Nat} {b:Code} {K':Ex->St->Option R},eY E key c K=some (b,K')->Sub E c0 K0 b K':=by
 intro c
 induction c with
 |seq a b zN zM =>
  intro K h key b' K' hf;rw[eY]at hf;cases hb:bUS (keyOf b) key with
  |true=>rw[hb]at hf;cases hf;exact h.Yb
  |false =>
   rw[hb]at hf;rcases Option.or_eq_some_iff.1 hf with hf |⟨_,hf⟩
   ·exact zN _ h.seq1 hf
   ·exact zM _ h.Yb hf
 |cond cd a b zN zM =>
  intro K h key b' K' hf;rw[eY]at hf;rcases Option.or_eq_some_iff.1 hf with hf |⟨_,hf⟩
  ·exact zN _ h.Vy hf
  ·exact zM _ h.Vx hf
 |block id c ih=>intro K h key b' K' hf;exact ih _ h.block hf
 |scope c ih=>intro K h key b' K' hf;exact ih _ h.scope hf
 |loop c ih=>intro K h key b' K' hf;exact ih _ h.loop hf
 |_=>intro K h key b' K' hf;simp[eY]at hf
end
def xL(E:Env)(c:Code):Bool:=nodup (loopKeys c)&&nodup (gA E c)
theorem sub_self{E:Env}{c:Code}{K:Ex->St->Option (List D)}(h:xL E c=true):Sub E c K c K:=by
 unfold xL at h;rw[bUX,nodup_iff,nodup_iff]at h;exact⟨fun _ _=>rfl,fun _ _=>rfl,h.1,h.2⟩
section
variable (E:Env) (fn:Func) (c:Code)
def aIB(J L:Nat->List KV->Option (List D))(ds:List D):Option (List D) :=
 evalJ E J L c ⟨Wk ds,argHp 0 ds,E.n0⟩ (qK E fn)
def Yd(J L:Nat->List KV->Option (List D))(key:Nat)(l:List KV):Option (List D) :=
 match findLoopJ E J L key c (qK E fn)with
 |some (b,K)=>evalJ E J L b (mk E.n0 (E.keep key) l) fun ex fP=>match ex with
  | .normal=>L key (canon E.n0 (E.keep key) fP)
  | .exit i=>K (.exit i) fP
  | .ret=>K .ret fP
 |none=>none
def aWH(J L:Nat->List KV->Option (List D))(key:Nat)(l:List KV):Option (List D) :=
 match kT E J L key c (qK E fn),E.cut key with
 |some (b,K),some keep=>evalJ E J L b (mk E.n0 keep l) K
 |_,_=>none
end
variable {E:Env} {fn:Func} {c:Code}
theorem Lq:cutAt E fn c=Nw E c (qK E fn):=by
 funext key l;unfold cutAt Nw;cases eY E key c (qK E fn) <;> cases E.cut key <;> rfl
theorem Fu:Fv E fn c=Kn E c (qK E fn):=by
 funext key l;unfold Fv Kn;cases findLoop E key c (qK E fn) <;> rfl
theorem aLV(E:Env)(fn:Func)(c:Code):∃f:Nat->List KV->Option (List D),f=cutAt E fn c:=⟨_,rfl⟩
def mT(E:Env)(fn:Func)(c:Code):Nat->List KV->Option (List D):=Classical.choose (aLV E fn c)
theorem Zl:mT E fn c=cutAt E fn c:=Classical.choose_spec (aLV E fn c)
theorem aJJ(E:Env)(fn:Func)(c:Code):∃f:Nat->List KV->Option (List D),f=Fv E fn c:=⟨_,rfl⟩
def sJ(E:Env)(fn:Func)(c:Code):Nat->List KV->Option (List D):=Classical.choose (aJJ E fn c)
theorem Yo:sJ E fn c=Fv E fn c:=Classical.choose_spec (aJJ E fn c)
theorem aLA(hr:E.roll=fun _=>none)(h:xL E c=true)(ds:List D):aH E fn c ds=aIB E fn c (mT E fn c) (sJ E fn c) ds:=by
 rw[Zl,Yo,Lq,Fu];exact(Dx (c0:=c) (K0:=qK E fn) (fun k=>by rw[hr]) c (qK E fn) (sub_self h) _).symm
theorem aJK(hr:E.roll=fun _=>none)(h:xL E c=true)(key:Nat)(l:List KV):sJ E fn c key l=Yd E fn c (mT E fn c) (sJ E fn c) key l:=by
 rw[Zl,Yo,aEG,Lq,Fu];unfold Qt Yd;have hs:=sub_self (K:=qK E fn) h;have e:=Rs (c0:=c) (K0:=qK E fn) (fun k=>by rw[hr]) key c (qK E fn) hs;rw[e];cases hf:findLoop E key c (qK E fn)with
 |none=>rfl
 |some p =>
  obtain⟨b,K⟩:=p;simp only[];obtain⟨rfl,hb⟩:=Sub.aWS c (qK E fn) hs hf;have e2:(fun(ex:Ex) (fP:St)=>match ex with
   | .normal=>Kn E c (qK E fn) (keyOf b) (canon E.n0 (E.keep (keyOf b)) fP)
   | .exit i=>K (.exit i) fP
   | .ret=>K .ret fP)=Pa E b K:=Ft hb
  rw[e2];exact(Dx (c0:=c) (K0:=qK E fn) (fun k=>by rw[hr]) b _ hb.loop _).symm
theorem aQV(hr:E.roll=fun _=>none)(h:xL E c=true)(key:Nat)(l:List KV):mT E fn c key l=aWH E fn c (mT E fn c) (sJ E fn c) key l:=by
 rw[Zl,Yo,aLT,Lq,Fu];unfold Sc aWH;have hs:=sub_self (K:=qK E fn) h;have e:=Vk (c0:=c) (K0:=qK E fn) (fun k=>by rw[hr]) key c (qK E fn) hs;rw[e];cases hf:eY E key c (qK E fn)with
 |none=>rfl
 |some p =>
  obtain⟨b,K⟩:=p;cases hc:E.cut key with
  |none=>rfl
  |some keep=>exact(Dx (c0:=c) (K0:=qK E fn) (fun k=>by rw[hr]) b _ (Sub.bDD c _ hs hf) _).symm
def Nk(E:Env)(c:Code):Prop:=(E.roll=fun _=>none)/\xL E c=true
theorem nk{E:Env}{c:Code}(h:xL E c=true:=by kernel_rfl)(hr:E.roll=fun _=>none:=by rfl):Nk E c:=⟨hr,h⟩
section
variable {E:Env} {fn:Func} {c:Code} {key:Nat} {l:List KV} {ds:List D} {r:Option (List D)} (h:Nk E c)
include h
theorem eJ(e:aIB E fn c (mT E fn c) (sJ E fn c) ds=r:=by kernel_rfl):aH E fn c ds=r:=(aLA h.1 h.2 ds).trans e
theorem lJ(e:Yd E fn c (mT E fn c) (sJ E fn c) key l=r:=by kernel_rfl):sJ E fn c key l=r:=(aJK h.1 h.2 key l).trans e
theorem cJ(e:aWH E fn c (mT E fn c) (sJ E fn c) key l=r:=by kernel_rfl):mT E fn c key l=r:=(aQV h.1 h.2 key l).trans e
end
end AI
namespace AI
open Go Go.RowKit
structure kW(α:Type) where
 put:α->D
 get:D->Option α
 le:∀{d x},get d=some x->Cc d (put x)
def pI(k:IntKind):kW (List Int):=⟨fun a=>.s (.ints k a),dI k,bCW⟩
def pN(k:IntKind):kW Int:=⟨fun n=>.s (.sc (.int k n)),dN k,bCU⟩
def dIO(e:TypeId)(k:IntKind):D->Option (List Int×Nat×Nat)
 | .io e' k' ns off n=>if _h:e=e'/\k=k' then some (ns,off,n)else none
 |_=>none
theorem Sb{e:TypeId}{k:IntKind}{d:D}{x:List Int×Nat×Nat}(h:dIO e k d=some x):d=.io e k x.1 x.2.1 x.2.2:=by
 unfold dIO at h;split at h
 ·split at h
  ·rename_i hk;obtain⟨rfl,rfl⟩:=hk;cases h;rfl
  ·cases h
 ·cases h
def Dl(e:TypeId)(k:IntKind):kW (List Int×Nat×Nat):=⟨fun x=>.io e k x.1 x.2.1 x.2.2,dIO e k,fun h=>by rw[Sb h];exact Cc.refl _⟩
def pB:kW Bool:=⟨fun b=>.s (.sc (.bool b)),dB,bCY⟩
def dF(k:FloatKind):D->Option Nat
 | .s (.sc (.float k' b))=>if _h:k=k' then some b else none
 |_=>none
theorem bCX{k:FloatKind}{d:D}{n:Nat}(h:dF k d=some n):Cc d (.s (.sc (.float k n))):=by
 unfold dF at h;split at h
 ·split at h
  ·rename_i hk;cases h;subst hk;exact Cc.refl _
  ·cases h
 ·cases h
def pF(k:FloatKind):kW Nat:=⟨fun b=>.s (.sc (.float k b)),dF k,bCX⟩
class aFU{α:Type}(p:kW α):Prop where
 no:∀{d x},p.get d=some x->Dr d=false/\Dr (p.put x)=false
instance {k:IntKind}:aFU (pI k):=⟨fun {d x} h=>⟨by cases d <;> first |rfl | (simp[pI,dI]at h),rfl⟩⟩
instance {k:IntKind}:aFU (pN k):=⟨fun {d x} h=>⟨by cases d <;> first |rfl | (simp[pN,dN]at h),rfl⟩⟩
instance:aFU pB:=⟨fun {d x} h=>⟨by cases d <;> first |rfl | (simp[pB,dB]at h),rfl⟩⟩
structure SPar(α:Type) where
 n:Nat
 put:α->List S
 get:List S->Option α
 le:∀{d x},get d=some x->d.length=n/\(put x).length=n/\∀(i:Nat) (s s':S),d[i]?=some s->(put x)[i]?=some s'->∀X w v,nT X w s v->nT X w s' v
def bDT{α:Type}(p:kW α)(put:α->S)(h:∀x,p.put x=.s (put x)):SPar α where
 n:=1
 put x:=[put x]
 get
  | [s]=>p.get (.s s)
  |_=>none
 le:=by
  intro d x hd
  match d,hd with
  | [s],hd =>
   refine⟨rfl,rfl,fun i s1 s2 h1 h2=>?_⟩
   match i with
   |0 =>
    simp at h1 h2;subst h1;subst h2;intro X w v hr;have:=p.le hd X w v hr;rw[h]at this;exact this
   |i+1=>simp at h1
def sI(k:IntKind):SPar (List Int):=bDT (pI k) (fun a=>.ints k a) fun _=>rfl
def sN(k:IntKind):SPar Int:=bDT (pN k) (fun n=>.sc (.int k n)) fun _=>rfl
def sB:SPar Bool:=bDT pB (fun b=>.sc (.bool b)) fun _=>rfl
def SPar.pair{α β:Type}(p:SPar α)(q:SPar β):SPar (α×β) where
 n:=p.n+q.n
 put x:=p.put x.1 ++ q.put x.2
 get d:=match p.get (d.take p.n),q.get (d.drop p.n)with
  |some a,some b=>some (a,b)
  |_,_=>none
 le:=by
  intro d x h;split at h
  ·rename_i a b ha hb;cases h;obtain⟨a1,a2,a3⟩:=p.le ha;obtain⟨b1,b2,b3⟩:=q.le hb;simp only[bXH,bYR]at a1 b1;have bKF:(p.put (a,b).fst).length=p.n:=a2;refine⟨by omega,by simp[a2,b2],fun i s s' h1 h2=>?_⟩
   by_cases hi:i<p.n
   ·rw[List.getElem?_append_left (by rw[bKF];exact hi)]at h2;exact a3 i s s' (by rw[bUW hi];exact h1) h2
   ·rw[List.getElem?_append_right (by rw[bKF];omega),bKF]at h2;exact b3 (i-p.n) s s' (by rw[bVE,show p.n+(i-p.n)=i from by omega];exact h1) h2
  ·cases h
def pG{α:Type}(p:SPar α):kW α where
 put x:=.agg (p.put x)
 get
  | .agg cs=>p.get cs
  |_=>none
 le:=by
  intro d x h
  match d,h with
  | .agg cs,h =>
   obtain⟨h1,h2,h3⟩:=p.le h;rintro Y w v ⟨arr,rfl,hl,hr⟩;refine⟨arr,rfl,by omega,fun i s u hs hu=>?_⟩;obtain⟨s0,Xg⟩:=bB (l:=cs) (i:=i) (by have:=aT hs;omega);exact h3 i s0 s Xg hs Y w u (hr i s0 u Xg hu)
def yQ(d d':D):Prop:=(d'=d)\/(kB d'=false/\((∃e k ns,d=.own e k ns/\d'=.s (.ints k ns))\/(kB d=false/\Cc d d')))
theorem yQ.refl(d:D):yQ d d:=.inl rfl
theorem yQ.own(e:TypeId)(k:IntKind)(ns:List Int):yQ (.own e k ns) (.s (.ints k ns)):=.inr ⟨rfl,.inl ⟨e,k,ns,rfl,rfl⟩⟩
theorem yQ.nil(k:IntKind):yQ (.s (.sc (.slice none 0 0))) (.s (.ints k [])) :=
 .inr ⟨rfl,.inr ⟨rfl,fun Y w v h=>by obtain⟨rfl,_⟩:=h;exact⟨none,0,rfl,bUR _,fun i n hn=>by simp at hn⟩⟩⟩
def Cu(s s':S):Prop:=∀X w v,nT X w s v->nT X w s' v
theorem Cu.refl(s:S):Cu s s:=fun _ _ _ h=>h
theorem Cu.nil(k:IntKind):Cu (.sc (.slice none 0 0)) (.ints k []):=fun X w v h=>by
 obtain⟨rfl,_⟩:=h;exact⟨none,0,rfl,bUR _,fun i n hn=>by simp at hn⟩
inductive yE:List S->List S->Prop where
 |nil:yE [] []
 |cons {s s':S} {l l':List S}:Cu s s'->yE l l'->yE (s :: l) (s' :: l')
theorem yE.refl:∀l,yE l l
 | []=>.nil
 |s :: l=>.cons (Cu.refl s) (yE.refl l)
theorem yE.len{l l':List S}(h:yE l l'):l.length=l'.length:=by induction h with |nil=>rfl |cons _ _ ih=>simp[ih]
theorem yE.at{l l':List S}(h:yE l l'):∀{i:Nat} {s s':S},l[i]?=some s->l'[i]?=some s'->Cu s s':=by
 induction h with
 |nil=>intro i s s' h;simp at h
 |cons hs _ ih =>
  intro i s s' h1 h2;cases i with
  |zero=>simp at h1 h2;subst h1;subst h2;exact hs
  |succ i=>simp at h1 h2;exact ih h1 h2
theorem yQ.agg{l l':List S}(h:yE l l'):yQ (.agg l) (.agg l') :=
 .inr ⟨rfl,.inr ⟨rfl,fun Y w v hv=>by
  obtain⟨arr,rfl,hl,hr⟩:=hv;refine⟨arr,rfl,by rw[<-h.len];exact hl,fun i s u hs hu=>?_⟩;obtain⟨s0,Xg⟩:=bB (l:=l) (i:=i) (by have:=aT hs;rw[h.len];exact this);exact h.at Xg hs Y w u (hr i s0 u Xg hu)⟩⟩
inductive iE:List D->List D->Prop where
 |nil:iE [] []
 |cons {s s':D} {l l':List D}:yQ s s'->iE l l'->iE (s :: l) (s' :: l')
theorem iE.refl:∀l,iE l l
 | []=>.nil
 |s :: l=>.cons (yQ.refl s) (iE.refl l)
theorem iE.len{l l':List D}(h:iE l l'):l.length=l'.length:=by induction h with |nil=>rfl |cons _ _ ih=>simp[ih]
theorem iE.at{l l':List D}(h:iE l l'):∀{i:Nat} {s s':D},l[i]?=some s->l'[i]?=some s'->yQ s s':=by
 induction h with
 |nil=>intro i s s' h;simp at h
 |cons hs _ ih =>
  intro i s s' h1 h2;cases i with
  |zero=>simp at h1 h2;subst h1;subst h2;exact hs
  |succ i=>simp at h1 h2;exact ih h1 h2
theorem Contract.less{P:Program}{G:Nat->Option (IntKind×List Int)}{f:FuncId}{ds rs aOI:List D}(h:Contract P G f ds rs)(hr:iE rs aOI):Contract P G f ds aOI:=by
 intro Y w vs hY hG hlen nY;refine(h Y w vs hY hG hlen nY).mono ?_;rintro e w' ⟨tI,he,hb,g,hl,zQ,Ri⟩;have sO:∀{i:Nat} {d d':D},rs[i]?=some d->aOI[i]?=some d'->kB d'=true->d'=d:=by
  intro i d d' h1 h2 ho;rcases hr.at h1 h2 with h3 |⟨h3,_⟩
  ·exact h3
  ·rw[h3]at ho;cases ho
 have uN:∀{i:Nat} {d':D},aOI[i]?=some d'->∃d,rs[i]?=some d:=fun {i d'} h=>bB (l:=rs) (i:=i) (by have:=aT h;rw[hr.len];exact this)
 have aEM:∀b,(Y b\/∃(j:Nat) (d':D),aOI[j]?=some d'/\kB d'=true/\g j=b)->(Y b\/∃(j:Nat) (d':D),rs[j]?=some d'/\kB d'=true/\g j=b):=by
  rintro b (hb |⟨j,d',h1,h2,h3⟩)
  ·exact .inl hb
  ·obtain⟨d,hd⟩:=uN h1;have:=sO hd h1 h2;subst this;exact .inr ⟨j,d',hd,h2,h3⟩
 refine⟨tI,he,hb,g,by rw[<-hr.len];exact hl,?_,?_⟩
 ·intro i j d d' h1 h2 h3 h4 h5;obtain⟨e1,aCM⟩:=uN h1;obtain⟨e2,aPV⟩:=uN h2;have q1:=sO aCM h1 h3;have q2:=sO aPV h2 h4;subst q1;subst q2;exact zQ i j _ _ aCM aPV h3 h4 h5
 ·intro i d' v h1 hv;obtain⟨d,hd⟩:=uN h1;have bEM:=Ri i d v hd hv;have aVA:∀(X:Nat->Prop),(∀b,X b->(Y b\/∃(j:Nat) (d':D),rs[j]?=some d'/\kB d'=true/\g j=b))->gY (fun b=>Y b\/∃(j:Nat) (d':D),rs[j]?=some d'/\kB d'=true/\g j=b) w' X w' :=
   fun X hX=>⟨bUR _,fun b _ hn=>⟨rfl,fun hx=>hn (hX b hx)⟩⟩
  have bLW:∀{x:D},kB x=false->lL (fun b=>Y b\/∃(j:Nat) (d':D),rs[j]?=some d'/\kB d'=true/\g j=b) w' x v->lL (fun b=>Y b\/∃(j:Nat) (d':D),aOI[j]?=some d'/\kB d'=true/\g j=b) w' x v :=
   fun _ hx=>hx.later (aVA _ aEM)
  have bAZ:∀{x:D},kB x=false->(match x with
   | .own e k ns=>Pz w.heap.size w' (g i) e k ns v
   |d=>lL (fun b=>Y b\/∃(j:Nat) (d':D),rs[j]?=some d'/\kB d'=true/\g j=b) w' d v)->lL (fun b=>Y b\/∃(j:Nat) (d':D),rs[j]?=some d'/\kB d'=true/\g j=b) w' x v:=by
   intro x hx hm;cases x with
   |own e k ns=>cases hx
   |s x=>exact hm
   |rows a b c=>exact hm
   |agg cs=>exact hm
   |io=>exact hm
   |back=>exact hm
  have aCP:∀{x:D},kB x=false->lL (fun b=>Y b\/∃(j:Nat) (d':D),aOI[j]?=some d'/\kB d'=true/\g j=b) w' x v->(match x with
   | .own e k ns=>Pz w.heap.size w' (g i) e k ns v
   |d=>lL (fun b=>Y b\/∃(j:Nat) (d':D),aOI[j]?=some d'/\kB d'=true/\g j=b) w' d v):=by
   intro x hx hm;cases x with
   |own e k ns=>cases hx
   |s x=>exact hm
   |rows a b c=>exact hm
   |agg cs=>exact hm
   |io=>exact hm
   |back=>exact hm
  rcases hr.at hd h1 with rfl |⟨h3,⟨e0,k,ns,rfl,rfl⟩ |⟨h4,h5⟩⟩
  ·cases aSM:kB d' with
   |true =>
    cases d' with
    |own e k ns=>exact bEM
    |s x=>cases aSM
    |io=>cases aSM
    |back=>cases aSM
    |rows a b c=>cases aSM
    |agg cs=>cases aSM
   |false=>exact aCP aSM (bLW aSM (bAZ aSM bEM))
  ·obtain⟨arr,cap,Yr,hbg,hh,Yt,hn1b,aPQ,Rm⟩:=bEM;refine⟨_,_,Yr,Yt,fun j n hj=>⟨g i,0,rfl,?_,?_,?_⟩⟩
   ·exact(Array.getElem?_eq_some_iff.1 hh).1
   ·rintro (hy |⟨j',d',q1,q2,q3⟩)
    ·have:=hY _ hy;omega
    ·obtain⟨d2,aYK⟩:=uN q1;have:=sO aYK q1 q2;subst this;have:=zQ j' i _ _ aYK hd q2 rfl q3;subst this;rw[h1]at q1;cases q1;cases q2
   ·rw[cell_of_row w' (g i) _ arr e0 (0,0) hh];simpa using Rm j n hj
  ·exact aCP h3 (h5 _ _ _ (bLW h4 (bAZ h4 bEM)))
def orc0(r:Prop×List D):dO
 | []=>some r
 |_=>none
def orc1{α:Type}(p:kW α)(f:α->Prop×List D):dO
 | [a]=>match p.get a with
  |some x=>some (f x)
  |none=>none
 |_=>none
def orc2{α β:Type}(p:kW α)(q:kW β)(f:α->β->Prop×List D):dO
 | [a,b]=>match p.get a,q.get b with
  |some x,some y=>some (f x y)
  |_,_=>none
 |_=>none
def orc3{α β γ:Type}(p:kW α)(q:kW β)(r:kW γ)(f:α->β->γ->Prop×List D):dO
 | [a,b,c]=>match p.get a,q.get b,r.get c with
  |some x,some y,some z=>some (f x y z)
  |_,_,_=>none
 |_=>none
def orc4{α β γ δ:Type}(p:kW α)(q:kW β)(r:kW γ)(s:kW δ)(f:α->β->γ->δ->Prop×List D):dO
 | [a,b,c,d]=>match p.get a,q.get b,r.get c,s.get d with
  |some x,some y,some z,some u=>some (f x y z u)
  |_,_,_,_=>none
 |_=>none
structure sZ(P:Program)(E:Env)(f:FuncId)(fn:Func)(c:Code):Prop where
 ty:nS P E.T
 calls:jR P E
 mix:P.follows .mixedOrders=true
 fnc:P.funcs[f]?=some fn
 body:fn.body=some c
 nt:E.nt=fn.ntmps
 has:pK P f
 io:E.io=[]
theorem aFA{P:Program}{E:Env}{f:FuncId}{fn:Func}{c:Code}(ty:nS P E.T)(mix:P.follows .mixedOrders=true)(calls:jR P E)(hf:P.funcs[f]?=some fn)(hb:fn.body=some c)(nt:E.nt=fn.ntmps)(hn:(fn.name== "runtime.NumGoroutine")=false)(io:E.io=[]:=by rfl):sZ P E f fn c :=
 ⟨ty,calls,mix,hf,hb,nt,qJ hf hb hn,io⟩
structure mA(P:Program)(E:Env)(f:FuncId)(fn:Func)(c:Code):Prop where
 ty:nS P E.T
 calls:jR P E
 mix:P.follows .mixedOrders=true
 fnc:P.funcs[f]?=some fn
 body:fn.body=some c
 nt:E.nt=fn.ntmps
 has:pK P f
 io:E.io=[0]
 n0:E.n0=1
theorem vV{P:Program}{E:Env}{f:FuncId}{fn:Func}{c:Code}(ty:nS P E.T)(mix:P.follows .mixedOrders=true)(calls:jR P E)(hf:P.funcs[f]?=some fn)(hb:fn.body=some c)(nt:E.nt=fn.ntmps)(hn:(fn.name== "runtime.NumGoroutine")=false)(io:E.io=[0])(n0:E.n0=1):mA P E f fn c :=
 ⟨ty,calls,mix,hf,hb,nt,qJ hf hb hn,io,n0⟩
variable {P:Program} {E:Env} {f:FuncId} {fn:Func} {c:Code}
theorem sZ.bDV(h:sZ P E f fn c){r:Prop×List D}(hs:r.1->aH E fn c []=some r.2):lA P E.glob f (orc0 r):=by
 intro ds g rs hd hg;unfold orc0 at hd;split at hd
 ·cases hd;exact⟨fn_contract h.ty h.calls h.mix h.fnc h.body h.nt h.io (cAS _) (hs hg),h.has⟩
 ·cases hd
theorem sZ.pU{α:Type}(h:sZ P E f fn c){p:kW α}{g:α->Prop×List D}(hn:bUU 1 fn.ntmps=true)(hs:∀x,(g x).1->aH E fn c [p.put x]=some (g x).2):lA P E.glob f (orc1 p g):=by
 intro ds q rs hd hg;unfold orc1 at hd;split at hd
 ·split at hd
  ·rename_i x hx;have hd:=Option.some.inj hd;have e1:q=(g x).1:=by rw[hd]
   have e2:rs=(g x).2:=by rw[hd]
   subst e1;subst e2;exact⟨(fn_contract (ds:=[p.put x]) h.ty h.calls h.mix h.fnc h.body h.nt h.io (bWP hn) (hs x hg)).bFX (p.le hx),h.has⟩
  ·cases hd
 ·cases hd
theorem sZ.mV{α β:Type}(h:sZ P E f fn c){p:kW α}{p':kW β}{g:α->β->Prop×List D}(hn:bUU 2 fn.ntmps=true)(hs:∀x y,(g x y).1->aH E fn c [p.put x,p'.put y]=some (g x y).2):lA P E.glob f (orc2 p p' g):=by
 intro ds q rs hd hg;unfold orc2 at hd;split at hd
 ·split at hd
  ·rename_i x y hx hy;have hd:=Option.some.inj hd;have e1:q=(g x y).1:=by rw[hd]
   have e2:rs=(g x y).2:=by rw[hd]
   subst e1;subst e2;exact⟨(fn_contract (ds:=[p.put x,p'.put y]) h.ty h.calls h.mix h.fnc h.body h.nt h.io (bWP hn) (hs x y hg)).bFW (p.le hx) (p'.le hy),h.has⟩
  ·cases hd
 ·cases hd
theorem sZ.yM{α β γ:Type}(h:sZ P E f fn c){p:kW α}{p':kW β}{Qy:kW γ}{g:α->β->γ->Prop×List D}(hn:bUU 3 fn.ntmps=true)(hs:∀x y z,(g x y z).1->aH E fn c [p.put x,p'.put y,Qy.put z]=some (g x y z).2):lA P E.glob f (orc3 p p' Qy g):=by
 intro ds q rs hd hg;unfold orc3 at hd;split at hd
 ·split at hd
  ·rename_i x y z hx hy hz;have hd:=Option.some.inj hd;have e1:q=(g x y z).1:=by rw[hd]
   have e2:rs=(g x y z).2:=by rw[hd]
   subst e1;subst e2;exact⟨(fn_contract (ds:=[p.put x,p'.put y,Qy.put z]) h.ty h.calls h.mix h.fnc h.body h.nt h.io (bWP hn) (hs x y z hg)).bKX (p.le hx) (p'.le hy) (Qy.le hz),h.has⟩
  ·cases hd
 ·cases hd
theorem sZ.aNM{α β γ δ:Type}(h:sZ P E f fn c){p:kW α}{p':kW β}{Qy:kW γ}{p3:kW δ}{g:α->β->γ->δ->Prop×List D}(hn:bUU 4 fn.ntmps=true)(hs:∀x y z u,(g x y z u).1->aH E fn c [p.put x,p'.put y,Qy.put z,p3.put u]=some (g x y z u).2):lA P E.glob f (orc4 p p' Qy p3 g):=by
 intro ds q rs hd hg;unfold orc4 at hd;split at hd
 ·split at hd
  ·rename_i x y z u hx hy hz hu;have hd:=Option.some.inj hd;have e1:q=(g x y z u).1:=by rw[hd]
   have e2:rs=(g x y z u).2:=by rw[hd]
   subst e1;subst e2;exact⟨(fn_contract (ds:=[p.put x,p'.put y,Qy.put z,p3.put u]) h.ty h.calls h.mix h.fnc h.body h.nt h.io (bWP hn) (hs x y z u hg)).bKW (p.le hx) (p'.le hy) (Qy.le hz) (p3.le hu),h.has⟩
  ·cases hd
 ·cases hd
theorem mA.bFT(h:mA P E f fn c){e:TypeId}{k:IntKind}{x:List Int×Nat×Nat}{ds ds' rs:List D}{mZ:List Int}(hn:1+ds'.length<=fn.ntmps)
  (hs:aH E fn c ((Dl e k).put x :: ds')=some (rs ++ [.io e k mZ 0 0])) (hl:mZ.length=x.1.length) (aYJ:ds.length=ds'.length)
  (hd:∀(i:Nat) (y y':D),ds[i]?=some y->ds'[i]?=some y'->Dr y=false/\Dr y'=false/\Cc y y'):oJ P E.glob f [0] ((Dl e k).put x :: ds) rs [.io e k mZ 0 0]:=by
 have yN:∀(i:Nat) (d:D),ds'[i]?=some d->Dr d=false:=fun i d hi=>by
  obtain⟨y,hy⟩:=bB (l:=ds) (i:=i) (by have:=aT hi;omega);exact(hd i y d hy hi).2.1
 have:=Nn h.ty h.calls h.mix h.fnc h.body h.nt (fun i hi=>by rw[h.io]at hi;rw[h.n0];simp at hi;omega) (ds:=(Dl e k).put x :: ds') (by simp;omega) hs (by rw[h.io];rfl)
  (by
   rw[h.io];intro j i hj
   match j with
   |0 =>
    simp at hj;subst hj;exact⟨e,k,x.1,x.2.1,x.2.2,e,k,mZ,rfl,rfl,hl⟩
   |j+1=>simp at hj)
  (by
   rw[h.io];intro i d hi Kz
   match i with
   |0=>simp
   |i+1=>rw[yN i d (by simpa using hi)]at Kz;cases Kz)
 rw[h.io]at this;exact this.bOW aYJ hd
theorem mA.pU(h:mA P E f fn c){e:TypeId}{k:IntKind}{g:List Int×Nat×Nat->Prop×List D}(hn:bUU 1 fn.ntmps=true)(hs:∀x,(g x).1->aH E fn c [(Dl e k).put x]=some (g x).2/\∃rs mZ,(g x).2=rs ++ [.io e k mZ 0 0]/\mZ.length=x.1.length):pW P E.glob f (orc1 (Dl e k) g):=by
 intro ds q rs hd hg;unfold orc1 at hd;split at hd
 ·rename_i d1;split at hd
  ·rename_i x hx;have hd:=Option.some.inj hd;have e1:q=(g x).1:=by rw[hd]
   have e2:rs=(g x).2:=by rw[hd]
   subst e1;subst e2;obtain⟨h1,Fh,mZ,h2,h3⟩:=hs x hg;rw[h2]at h1 ⊢;refine⟨⟨Fh,_,rfl,?_⟩,h.has⟩;have e3:=Sb (show dIO e k d1=some x from hx);rw[e3];exact h.bFT (x:=x) (ds':=[]) (by have:=bWP hn;simp;omega) h1 h3 rfl fun i a b ha hb=>by simp at ha
  ·cases hd
 ·cases hd
theorem mA.mV{α:Type}(h:mA P E f fn c){e:TypeId}{k:IntKind}{p:kW α}[hp:aFU p]{g:List Int×Nat×Nat->α->Prop×List D}(hn:bUU 2 fn.ntmps=true)(hs:∀x y,(g x y).1->aH E fn c [(Dl e k).put x,p.put y]=some (g x y).2/\∃rs mZ,(g x y).2=rs ++ [.io e k mZ 0 0]/\mZ.length=x.1.length):pW P E.glob f (orc2 (Dl e k) p g):=by
 intro ds q rs hd hg;unfold orc2 at hd;split at hd
 ·rename_i d1 d2;split at hd
  ·rename_i x y hx hy;have hd:=Option.some.inj hd;have e1:q=(g x y).1:=by rw[hd]
   have e2:rs=(g x y).2:=by rw[hd]
   subst e1;subst e2;obtain⟨h1,Fh,mZ,h2,h3⟩:=hs x y hg;rw[h2]at h1 ⊢;refine⟨⟨Fh,_,rfl,?_⟩,h.has⟩;have e3:=Sb (show dIO e k d1=some x from hx);rw[e3];refine h.bFT (x:=x) (ds':=[p.put y]) (by have:=bWP hn;simp;omega) h1 h3 rfl fun i a b ha hb=>?_
   match i with
   |0=>simp at ha hb;subst ha;subst hb;exact⟨(hp.no hy).1,(hp.no hy).2,p.le hy⟩
   |i+1=>simp at ha
  ·cases hd
 ·cases hd
theorem mA.yM{α β:Type}(h:mA P E f fn c){e:TypeId}{k:IntKind}{p:kW α}[hp:aFU p]{p':kW β}[hp':aFU p']{g:List Int×Nat×Nat->α->β->Prop×List D}(hn:bUU 3 fn.ntmps=true)(hs:∀x y z,(g x y z).1->aH E fn c [(Dl e k).put x,p.put y,p'.put z]=some (g x y z).2/\∃rs mZ,(g x y z).2=rs ++ [.io e k mZ 0 0]/\mZ.length=x.1.length):pW P E.glob f (orc3 (Dl e k) p p' g):=by
 intro ds q rs hd hg;unfold orc3 at hd;split at hd
 ·rename_i d1 d2 d3;split at hd
  ·rename_i x y z hx hy hz;have hd:=Option.some.inj hd;have e1:q=(g x y z).1:=by rw[hd]
   have e2:rs=(g x y z).2:=by rw[hd]
   subst e1;subst e2;obtain⟨h1,Fh,mZ,h2,h3⟩:=hs x y z hg;rw[h2]at h1 ⊢;refine⟨⟨Fh,_,rfl,?_⟩,h.has⟩;have e3:=Sb (show dIO e k d1=some x from hx);rw[e3];refine h.bFT (x:=x) (ds':=[p.put y,p'.put z]) (by have:=bWP hn;simp;omega) h1 h3 rfl fun i a b ha hb=>?_
   match i with
   |0=>simp at ha hb;subst ha;subst hb;exact⟨(hp.no hy).1,(hp.no hy).2,p.le hy⟩
   |1=>simp at ha hb;subst ha;subst hb;exact⟨(hp'.no hz).1,(hp'.no hz).2,p'.le hz⟩
   |i+2=>simp at ha
  ·cases hd
 ·cases hd
theorem sZ.aYX{α:Type}(h:sZ P E f fn c){p:kW α}{g:α->Prop×List D}(hn:bUU 1 fn.ntmps=true)(hs:∀x,(g x).1->∃rs,aH E fn c [p.put x]=some rs/\iE rs (g x).2):lA P E.glob f (orc1 p g):=by
 intro ds q rs hd hg;unfold orc1 at hd;split at hd
 ·split at hd
  ·rename_i x hx;have hd:=Option.some.inj hd;have e1:q=(g x).1:=by rw[hd]
   have e2:rs=(g x).2:=by rw[hd]
   subst e1;subst e2;obtain⟨Qs,he,hle⟩:=hs x hg;exact⟨((fn_contract (ds:=[p.put x]) h.ty h.calls h.mix h.fnc h.body h.nt h.io (bWP hn) he).bFX (p.le hx)).less hle,h.has⟩
  ·cases hd
 ·cases hd
theorem sZ.aNH{α β:Type}(h:sZ P E f fn c){p:kW α}{p':kW β}{g:α->β->Prop×List D}(hn:bUU 2 fn.ntmps=true)(hs:∀x y,(g x y).1->∃rs,aH E fn c [p.put x,p'.put y]=some rs/\iE rs (g x y).2):lA P E.glob f (orc2 p p' g):=by
 intro ds q rs hd hg;unfold orc2 at hd;split at hd
 ·split at hd
  ·rename_i x y hx hy;have hd:=Option.some.inj hd;have e1:q=(g x y).1:=by rw[hd]
   have e2:rs=(g x y).2:=by rw[hd]
   subst e1;subst e2;obtain⟨Qs,he,hle⟩:=hs x y hg;exact⟨((fn_contract (ds:=[p.put x,p'.put y]) h.ty h.calls h.mix h.fnc h.body h.nt h.io (bWP hn) he).bFW (p.le hx) (p'.le hy)).less hle,h.has⟩
  ·cases hd
 ·cases hd
theorem sZ.bFG{α β γ:Type}(h:sZ P E f fn c){p:kW α}{p':kW β}{Qy:kW γ}{g:α->β->γ->Prop×List D}(hn:bUU 3 fn.ntmps=true)(hs:∀x y z,(g x y z).1->∃rs,aH E fn c [p.put x,p'.put y,Qy.put z]=some rs/\iE rs (g x y z).2):lA P E.glob f (orc3 p p' Qy g):=by
 intro ds q rs hd hg;unfold orc3 at hd;split at hd
 ·split at hd
  ·rename_i x y z hx hy hz;have hd:=Option.some.inj hd;have e1:q=(g x y z).1:=by rw[hd]
   have e2:rs=(g x y z).2:=by rw[hd]
   subst e1;subst e2;obtain⟨Qs,he,hle⟩:=hs x y z hg;exact⟨((fn_contract (ds:=[p.put x,p'.put y,Qy.put z]) h.ty h.calls h.mix h.fnc h.body h.nt h.io (bWP hn) he).bKX (p.le hx) (p'.le hy) (Qy.le hz)).less hle,h.has⟩
  ·cases hd
 ·cases hd
def aCT(f:FuncId)(g:List Value->Option (Prop×List Value))(r:FuncId->List Value->Option (Prop×List Value)):FuncId->List Value->Option (Prop×List Value):=fun f' vs=>bif bUS f' f then g vs else r f' vs
def aCS:FuncId->List Value->Option (Prop×List Value):=fun _ _=>none
theorem Zg:aDR P aCS:=fun _ _ _ _ h=>by cases h
structure aTD(P:Program)(f:FuncId)(e:Array Value->Sem Value):Prop where
 run:∀(args:Array Value) (w:World),(callFunc f args).run P w=((e args).run P w).andThen fun v w'=>.ok (.value v) w'
theorem Vm{f:FuncId}{g:List Value->Option (Prop×List Value)}{r:FuncId->List Value->Option (Prop×List Value)}{e:Array Value->Sem Value}(hf:aTD P f e)
  (hg:∀vs q rs,g vs=some (q,rs)->q->(∀v∈rs,v.oneCell'=true)/\∀w,(e vs.toArray).run P w=.ok (resV rs) w) (hr:aDR P r):aDR P (aCT f g r):=by
 intro f' vs q rs h hq;unfold aCT at h;cases hb:bUS f' f with
 |true =>
  rw[hb]at h;have:=bVG hb;subst this;obtain⟨h1,h2⟩:=hg vs q rs h hq;exact⟨h1,fun w=>by rw[hf.run,h2];rfl⟩
 |false=>rw[hb]at h;exact hr f' vs q rs h hq
def gAdd:List Value->Option (Prop×List Value)
 | [.int .u64 x,.int .u64 y,.int .u64 c]=>some ((0<=x/\0<=y/\0<=c/\c<=1),[.int .u64 ((x+y+c)%18446744073709551616),.int .u64 ((x+y+c)/18446744073709551616)])
 |_=>none
theorem aQG(vs:List Value)(q:Prop)(rs:List Value)(h:gAdd vs=some (q,rs))(hq:q):(∀v∈rs,v.oneCell'=true)/\∀w,(add64Entry vs.toArray).run P w=.ok (resV rs) w:=by
 unfold gAdd at h;split at h
 ·cases h;obtain⟨h1,h2,h3,h4⟩:=hq;exact⟨by simp[Value.oneCell'],fun w=>run_add64 _ _ _ h1 h2 h3 h4 w⟩
 ·cases h
def xE:Array Value->Sem Value:=fun args=>do
 let (x,y,b) <-Extern.MathBitsCarry.three "Sub64" args
 pure (Extern.MathBitsCarry.pair ((x+Extern.MathBitsCarry.m64-y-b)%Extern.MathBitsCarry.m64) (if x<y+b then 1 else 0))
theorem aDX(x y c:Int)(hx:0<=x)(hy:0<=y)(bGN:y<18446744073709551616)(bCB:0<=c)(hc:c<=1)(w:World) :
  (xE #[.int .u64 x,.int .u64 y,.int .u64 c]).run P w =
   .ok (.tuple #[.int .u64 ((x-y-c)%18446744073709551616),.int .u64 (if x<y+c then 1 else 0)]) w:=by
 have key:∀k:Nat,k<=1->(xE #[.int .u64 x,.int .u64 y,.int .u64 (k:Int)]).run P w =
   .ok (Extern.MathBitsCarry.pair ((x.toNat+Extern.MathBitsCarry.m64-y.toNat-k)%Extern.MathBitsCarry.m64) (if x.toNat<y.toNat+k then 1 else 0)) w:=by
  intro k hk;have:k=0\/k=1:=by omega
  rcases this with rfl |rfl <;> rfl
 obtain⟨k,rfl⟩:=bZV bCB;rw[key k (by omega)];obtain⟨X,rfl⟩:=bZV hx;obtain⟨Y,rfl⟩:=bZV hy;simp only[Extern.MathBitsCarry.pair,Extern.MathBitsCarry.m64,bYO];have e1:Int.ofNat ((X+2^64-Y-k)%2^64)=((X:Int)-Y-k)%18446744073709551616:=by
  show((((X+2^64-Y-k)%2^64:Nat)):Int)=_;omega
 have e2:Int.ofNat (if X<Y+k then 1 else 0)=if(X:Int)<Y+k then 1 else 0:=by
  show(((if X<Y+k then 1 else 0:Nat)):Int)=_;split <;> split <;> omega
 rw[e1,e2]
def aVY:List Value->Option (Prop×List Value)
 | [.int .u64 x,.int .u64 y,.int .u64 c]=>some ((0<=x/\0<=y/\y<18446744073709551616/\0<=c/\c<=1),[.int .u64 ((x-y-c)%18446744073709551616),.int .u64 (if x<y+c then 1 else 0)])
 |_=>none
theorem aQF(vs:List Value)(q:Prop)(rs:List Value)(h:aVY vs=some (q,rs))(hq:q):(∀v∈rs,v.oneCell'=true)/\∀w,(xE vs.toArray).run P w=.ok (resV rs) w:=by
 unfold aVY at h;split at h
 ·cases h;obtain⟨h1,h2,h3,h4,h5⟩:=hq;exact⟨by simp[Value.oneCell'],fun w=>aDX _ _ _ h1 h2 h3 h4 h5 w⟩
 ·cases h
theorem Vn{f:FuncId}{fn:Func}{e:Array Value->Sem Value}(hf:P.funcs[f]?=some fn)(bBC:(fn.name== "runtime.NumGoroutine")=false)
  (hb:fn.body.isNone=true) (hn:Extern.findNext fn=none) (he:Extern.find fn=some e):aTD P f e:=⟨fun args w=>run_callFunc_extern hf bBC hb hn he args w⟩
end AI
namespace M
open Go
def val:List Int->Nat
 | []=>0
 |d :: r=>d.toNat+4294967296*val r
def dg(n:Nat):List Int:=if h:n=0 then []else((n%4294967296:Nat):Int) :: dg (n/4294967296)
termination_by n
decreasing_by omega
def cZ(a:List Int):Prop:=∀d∈a,0<=d/\d<4294967296
def cR(a:List Int):Prop:=a=dg (val a)
theorem cF:dg 0=[]:=by rw[dg];rfl
theorem oY{n:Nat}(h:n≠0):dg n=((n%4294967296:Nat):Int) :: dg (n/4294967296):=by rw[dg,dif_neg h]
theorem bN(n:Nat):val (dg n)=n:=by
 induction n using cAC with
 |_ n ih =>
  by_cases h:n=0
  ·subst h;rw[cF];rfl
  ·rw[oY h,val,ih _ (by omega)];have:=bZX n 4294967296;omega
theorem oX:cZ []:=fun _ h=>by cases h
theorem mH{d:Int}{r:List Int}:cZ (d :: r)↔(0<=d/\d<4294967296)/\cZ r:=by
 unfold cZ;simp
theorem qL{a b:List Int}:cZ (a ++ b)↔cZ a/\cZ b:=by
 unfold cZ;simp only[bVU];exact⟨fun h=>⟨fun d hd=>h d (.inl hd),fun d hd=>h d (.inr hd)⟩,fun h d hd=>hd.elim (h.1 d) (h.2 d)⟩
theorem cZ.take{a:List Int}(h:cZ a)(n:Nat):cZ (a.take n):=fun d hd=>h d (cBO hd)
theorem cZ.drop{a:List Int}(h:cZ a)(n:Nat):cZ (a.drop n):=fun d hd=>h d (cBP hd)
theorem kY(n:Nat):cZ (bWU n 0):=fun d hd=>by rw[(List.mem_replicate.1 hd).2];omega
theorem lG(n:Nat):cZ (dg n):=by
 induction n using cAC with
 |_ n ih =>
  by_cases h:n=0
  ·subst h;rw[cF];exact oX
  ·rw[oY h];exact mH.2 ⟨by omega,ih _ (by omega)⟩
theorem aY(n:Nat):cR (dg n):=by unfold cR;rw[bN]
theorem cR.kU{a:List Int}(h:cR a):cZ a:=by rw[h];exact lG _
theorem jH:∀(a b:List Int),val (a ++ b)=val a+4294967296^a.length*val b
 | [],b=>by simp[val]
 |d :: a,b=>by
  simp only[bWK,val,jH a b,bYC,bZQ];rw[bZR,<-bZT,bZP 4294967296 (4294967296^a.length)];omega
theorem dS:∀{a:List Int},cZ a->val a<4294967296^a.length
 | [],_=>by simp[val]
 |d :: a,h=>by
  obtain⟨h1,h2⟩:=mH.1 h;have:=dS h2;simp only[val,bYC,bZQ];have:d.toNat<4294967296:=by omega
  have:4294967296*val a+4294967296<=4294967296^a.length*4294967296:=by
   rw[bZP (4294967296^a.length)];have:4294967296*(val a+1)<=4294967296*4294967296^a.length:=bXF _ (by omega);omega
  omega
theorem jU:∀n,val (bWU n 0)=0
 |0=>rfl
 |n+1=>by simp[bZZ,val,jU n]
theorem Ge:∀{a:List Int},cZ a->∃k,a=dg (val a) ++ bWU k 0
 | [],_=>⟨0,by simp[val,cF]⟩
 |d :: a,h=>by
  obtain⟨h1,h2⟩:=mH.1 h;obtain⟨k,hk⟩:=Ge h2
  by_cases hz:d.toNat+4294967296*val a=0
  ·have hd:d=0:=by omega
   have hv:val a=0:=by omega
   rw[hv,cF]at hk;refine⟨k+1,?_⟩;simp only[val];rw[hz,cF,hd,hk];simp[bZZ]
  ·refine⟨k,?_⟩;simp only[val];rw[oY hz];have e1:(d.toNat+4294967296*val a)%4294967296=d.toNat:=by omega
   have e2:(d.toNat+4294967296*val a)/4294967296=val a:=by omega
   rw[e1,e2,bWK,<-hk];congr 1;omega
theorem It:cR []:=by unfold cR;simp[val,cF]
theorem Fo{a:List Int}(h:cZ a)(ht:∀d,a.getLast?=some d->d≠0):cR a:=by
 obtain⟨k,hk⟩:=Ge h;cases k with
 |zero=>unfold cR;simpa using hk
 |succ k =>
  exfalso;refine ht 0 ?_ rfl;rw[hk,cBQ,<-bWM];simp
theorem cR.top{a:List Int}(h:cR a){d:Int}(hd:a.getLast?=some d):d≠0:=by
 have key:∀n,∀d,(dg n).getLast?=some d->d≠0:=by
  intro n
  induction n using cAC with
  |_ n ih =>
   intro d hd
   by_cases hn:n=0
   ·subst hn;rw[cF]at hd;cases hd
   ·rw[oY hn]at hd
    by_cases hq:n/4294967296=0
    ·rw[hq,cF]at hd;simp at hd;omega
    ·refine ih (n/4294967296) (by omega) d ?_;rw[oY hq]at hd ⊢;rwa [cAT]at hd
 rw[h]at hd;exact key _ d hd
theorem Uq{d:Int}{a:List Int}(h:cR (d :: a)):cR a:=by
 have hd:=h.kU;refine Fo (mH.1 hd).2 fun e he=>h.top ?_
 cases a with
 |nil=>cases he
 |cons x r=>rwa [cAT]
theorem dZ {n k : Nat} (h : n < 4294967296 ^ k) : (dg n).length ≤ k := by
  induction k generalizing n with
  | zero => have : n = 0 := by simpa using h
            subst this; rw [cF]; exact bUR _
  | succ k ih =>
    by_cases hn : n = 0
    · subst hn; rw [cF]; simp
    · rw [oY hn, bYC]
      have := ih (n := n / 4294967296) (by rw [bZQ] at h; exact cAJ (by rw [bZP]; exact h))
      omega
theorem wJ{n:Nat}:n<4294967296^(dg n).length:=by
 have:=dS (lG n);rwa [bN]at this
theorem zJ{n m:Nat}(h:n<=m):(dg n).length<=(dg m).length:=dZ (cBA h wJ)
theorem tQ{a:List Int}(h:cZ a):(dg (val a)).length<=a.length:=dZ (dS h)
theorem Bc{n k:Nat}(h:k<(dg n).length):4294967296^k<=n:=by
 rcases bVH n (4294967296^k)with h1 |h1
 ·have:=dZ h1;omega
 ·exact h1
theorem mK{a:List Int}{n:Nat}(h:n<a.length):val (a.take (n+1))=val (a.take n)+4294967296^n*(a.getD n 0).toNat:=by
 rw[cAU h,jH,bXH,cAV (by omega)];simp[val,bZU,h]
theorem iY(a:List Int){n:Nat}(h:n<=a.length):val a=val (a.take n)+4294967296^n*val (a.drop n):=by
 have e:=jH (a.take n) (a.drop n);rw[cBR,bXH,cAV h]at e;exact e
theorem Lk{a:List Int}{n:Nat}(h:n<a.length):a.getD n 0∈a:=by
 rw[bZU,bVI h];simp
theorem cZ.get{a:List Int}(h:cZ a)(n:Nat):0<=a.getD n 0/\a.getD n 0<4294967296:=by
 rcases bVH n a.length with hn |hn
 ·exact h _ (Lk hn)
 ·rw[bZU,bWN hn];simp
theorem getLast_take{a:List Int}{n:Nat}(h:n<a.length):(a.take (n+1)).getLast?=some (a.getD n 0):=by
 rw[cAU h,cBS];simp[bZU,h]
theorem xX{w:Int}(h:0<=w)(h':w<18446744073709551616):AI.fY .and .u64 w 4294967295=w%4294967296:=by
 obtain⟨n,rfl⟩:=bZV h;rw[AI.wT];unfold AI.bitsI0;simp only;have e:(BitVec.ofInt u64.bits (n:Int) &&& BitVec.ofInt u64.bits 4294967295).toNat=n%4294967296:=by
  show(BitVec.ofInt 64 (n:Int) &&& BitVec.ofInt 64 4294967295).toNat=_;rw[BitVec.toNat_and];have e1:(BitVec.ofInt 64 (n:Int)).toNat=n:=by simp;omega
  have e2:(BitVec.ofInt 64 4294967295).toNat=2^32-1:=by decide
  rw[e1,e2,Nat.and_two_pow_sub_one_eq_mod]
 rw[e,wrap_u64];omega
section
variable {R:Type} {x y:Option R}
theorem aQ{p:Prop}[Decidable p](h:p:=by omega):AI.aB (decide p) x y=x:=by simp only[AI.aB,decide_eq_true h,cond_true]
theorem aL{p:Prop}[Decidable p](h:¬p:=by omega):AI.aB (decide p) x y=y:=by simp only[AI.aB,decide_eq_false h,cond_false]
theorem cN{a b:Int}(h:a=b:=by omega):AI.aB (a==b) x y=x:=by subst h;simp[AI.aB]
theorem bM{a b:Int}(h:a≠b:=by omega):AI.aB (a==b) x y=y:=by rw[beq_eq_false_iff_ne.2 h];rfl
theorem oI{a b:Int}(h:a≠b:=by omega):AI.aB (a !=b) x y=x:=by rw[bne_iff_ne.2 h];rfl
theorem gE{a b:Int}(h:a=b:=by omega):AI.aB (a !=b) x y=y:=by subst h;simp[AI.aB]
theorem bT:AI.aB true x y=x:=rfl
theorem bF:AI.aB false x y=y:=rfl
theorem aWR{b:Bool}(h:b=true):AI.aB b x y=x:=by rw[h];rfl
theorem Sj{b:Bool}(h:b=false):AI.aB b x y=y:=by rw[h];rfl
theorem gP{g:Prop}(h:g:=by omega):AI.aO g x=x:=AI.aQE h
end
def lB(a b:Nat):Int:=if a<b then -1 else if b<a then 1 else 0
theorem getD_none{a:List Int}{n:Nat}(h:a.length<=n):a.getD n 0=0:=by
 rw[bZU,bWN h];rfl
theorem dR{a:List Int}{n:Nat}(h:a.length<=n):val (a.take n)=val a:=by rw[cBT h]
theorem dP{a:List Int}(n:Nat):val (a.take (n+1))=val (a.take n)+4294967296^n*(a.getD n 0).toNat:=by
 rcases bVH n a.length with h |h
 ·exact mK h
 ·rw[dR (by omega),dR h,getD_none h];simp
theorem iL{a:List Int}(h:cZ a)(n:Nat):val (a.take n)<4294967296^n:=by
 have:=dS (h.take n);exact bVO this (bXS (by omega) (by rw[bXH];omega))
theorem nU{a:List Int}{d:Int}:val (a ++ [d])=val a+4294967296^a.length*d.toNat:=by
 rw[jH];simp[val]
theorem nZ{a:List Int}{d:Int}(h:cZ a)(hd:0<=d/\d<4294967296):cZ (a ++ [d]):=by
 rw[qL,mH];exact⟨h,hd,oX⟩
theorem Iu{a:List Int}(h:cR a):dg (val a)=a:=h.symm
theorem uK{a b:List Int}(ha:cZ a)(hb:cR b)(h:a.length<b.length):val a<val b:=by
 have h1:=dS ha;have h2:4294967296^a.length<=val b:=Bc (by rw[<-hb];exact h);omega
theorem dY{a:List Int}(ha:cR a):a.length=0↔val a=0:=by
 constructor
 ·intro h;have:a=[]:=List.length_eq_zero_iff.1 h;subst this;rfl
 ·intro h;rw[ha,h,cF];rfl
theorem iO{n:Nat}:(dg n).length=0↔n=0:=by rw[dY (aY n),bN]
theorem oF{a:List Int}(h:cZ a){n:Nat}{d:Int}(hd:0<=d/\d<4294967296):cZ (a.set n d):=by
 intro x hx;rcases cBU hx with h1 |h1
 ·exact h x h1
 ·subst h1;exact hd
theorem xC{a:List Int}{n:Nat}(h:n<a.length)(d:Int):val ((a.set n d).drop n)=d.toNat+4294967296*val (a.drop (n+1)):=by
 have e:(a.set n d).drop n=d :: a.drop (n+1):=by
  rw[cAW (by simpa using h)];simp[cBV]
 rw[e];rfl
theorem jM{a:List Int}(n:Nat):val (a.drop n)=(a.getD n 0).toNat+4294967296*val (a.drop (n+1)):=by
 rcases bVH n a.length with h |h
 ·rw[cAW h];simp[val,bZU,h]
 ·rw[cAG h,cAG (by omega),getD_none h];rfl
theorem aMC(u v k:Nat):lB (u+k) (v+k)=lB u v:=by
 unfold lB;simp only[Nat.add_lt_add_iff_right]
end M
namespace M
open Go
def bl(n:Nat):Nat:=if n=0 then 0 else n.log2+1
theorem Sh:bl 0=0:=rfl
theorem vD(n:Nat):n<2^bl n:=by
 unfold bl;split
 ·omega
 ·exact Nat.lt_log2_self
theorem Wb{n:Nat}(h:n≠0):2^(bl n-1)<=n:=by
 unfold bl;rw[if_neg h];exact Nat.log2_self_le h
theorem dA{n k:Nat}:bl n<=k↔n<2^k:=by
 constructor
 ·intro h;exact bVO (vD n) (bXS (by omega) h)
 ·intro h
  by_cases hn:n=0
  ·subst hn;exact cAS _
  ·rcases bVH k (bl n)with h1 |h1
   ·exfalso;have h2:=Wb hn;have h3:2^k<=2^(bl n-1):=gN;omega
   ·exact h1
theorem qG{n k:Nat}:k<bl n↔2^k<=n:=by
 have:=@dA n k;omega
theorem pA{n:Nat}(h:n≠0):0<bl n:=by rw[qG];simp;omega
theorem bDC{n k:Nat}(h:2^k<=n)(h':n<2^(k+1)):bl n=k+1:=by
 have:=dA.2 h';have:=qG.2 h;omega
theorem Gm{r k t:Nat}(hr:r<2^k)(ht:t≠0):bl (r+2^k*t)=k+bl t:=by
 have hp:=pA ht;have e:k+bl t=(k+(bl t-1))+1:=by omega
 rw[e];apply bDC
 ·rw[bZS];have:=bXF (2^k) (Wb ht);omega
 ·have h1:=vD t;have h2:2^k*(t+1)<=2^k*2^bl t:=bXF _ h1;rw[<-bZS]at h2;rw[bZR]at h2;have e2:k+(bl t-1)+1=k+bl t:=by omega
  rw[e2];omega
theorem xT{k t:Nat}(ht:t≠0):bl (2^k*t)=k+bl t:=by
 have:=Gm (r:=0) (k:=k) (t:=t) (cY) ht;rwa [bUT]at this
theorem fX{a b:Nat}(h:a<=b):bl a<=bl b:=dA.2 (cBA h (vD b))
theorem aZJ(k:Nat):4294967296^k=2^(32*k):=by rw[cBB]
theorem Uv{n k:Nat}(h:n<2^k):(dg n).length<=k/32+1:=by
 apply dZ;rw[aZJ];exact bVO h (gN)
theorem nG{a:List Int}(h:cZ a)(n:Nat):val (a.drop n)=val a/4294967296^n:=by
 rcases Nat.le_or_ge n a.length with hn |hn
 ·rw[iY a hn,cBW _ _ (cY),cAK (iL h n),bUT]
 ·rw[cAG hn,cAK]
  ·rfl
  ·exact bVO (dS h) (bXS (by omega) hn)
end M
namespace M6
open Go
def val:List Int->Nat
 | []=>0
 |d :: r=>d.toNat+18446744073709551616*val r
def dg(n:Nat):List Int:=if h:n=0 then []else((n%18446744073709551616:Nat):Int) :: dg (n/18446744073709551616)
termination_by n
decreasing_by omega
def cZ(a:List Int):Prop:=∀d∈a,0<=d/\d<18446744073709551616
def cR(a:List Int):Prop:=a=dg (val a)
theorem cF:dg 0=[]:=by rw[dg];rfl
theorem oY{n:Nat}(h:n≠0):dg n=((n%18446744073709551616:Nat):Int) :: dg (n/18446744073709551616):=by rw[dg,dif_neg h]
theorem bN(n:Nat):val (dg n)=n:=by
 induction n using cAC with
 |_ n ih =>
  by_cases h:n=0
  ·subst h;rw[cF];rfl
  ·rw[oY h,val,ih _ (by omega)];have:=bZX n 18446744073709551616;omega
theorem oX:cZ []:=fun _ h=>by cases h
theorem mH{d:Int}{r:List Int}:cZ (d :: r)↔(0<=d/\d<18446744073709551616)/\cZ r:=by
 unfold cZ;simp
theorem qL{a b:List Int}:cZ (a ++ b)↔cZ a/\cZ b:=by
 unfold cZ;simp only[bVU];exact⟨fun h=>⟨fun d hd=>h d (.inl hd),fun d hd=>h d (.inr hd)⟩,fun h d hd=>hd.elim (h.1 d) (h.2 d)⟩
theorem cZ.take{a:List Int}(h:cZ a)(n:Nat):cZ (a.take n):=fun d hd=>h d (cBO hd)
theorem cZ.drop{a:List Int}(h:cZ a)(n:Nat):cZ (a.drop n):=fun d hd=>h d (cBP hd)
theorem kY(n:Nat):cZ (bWU n 0):=fun d hd=>by rw[(List.mem_replicate.1 hd).2];omega
theorem lG(n:Nat):cZ (dg n):=by
 induction n using cAC with
 |_ n ih =>
  by_cases h:n=0
  ·subst h;rw[cF];exact oX
  ·rw[oY h];exact mH.2 ⟨by omega,ih _ (by omega)⟩
theorem aY(n:Nat):cR (dg n):=by unfold cR;rw[bN]
theorem cR.kU{a:List Int}(h:cR a):cZ a:=by rw[h];exact lG _
theorem jH:∀(a b:List Int),val (a ++ b)=val a+18446744073709551616^a.length*val b
 | [],b=>by simp[val]
 |d :: a,b=>by
  simp only[bWK,val,jH a b,bYC,bZQ];rw[bZR,<-bZT,bZP 18446744073709551616 (18446744073709551616^a.length)];omega
theorem dS:∀{a:List Int},cZ a->val a<18446744073709551616^a.length
 | [],_=>by simp[val]
 |d :: a,h=>by
  obtain⟨h1,h2⟩:=mH.1 h;have:=dS h2;simp only[val,bYC,bZQ];have:d.toNat<18446744073709551616:=by omega
  have:18446744073709551616*val a+18446744073709551616<=18446744073709551616^a.length*18446744073709551616:=by
   rw[bZP (18446744073709551616^a.length)];have:18446744073709551616*(val a+1)<=18446744073709551616*18446744073709551616^a.length:=bXF _ (by omega);omega
  omega
theorem jU:∀n,val (bWU n 0)=0
 |0=>rfl
 |n+1=>by simp[bZZ,val,jU n]
theorem Ge:∀{a:List Int},cZ a->∃k,a=dg (val a) ++ bWU k 0
 | [],_=>⟨0,by simp[val,cF]⟩
 |d :: a,h=>by
  obtain⟨h1,h2⟩:=mH.1 h;obtain⟨k,hk⟩:=Ge h2
  by_cases hz:d.toNat+18446744073709551616*val a=0
  ·have hd:d=0:=by omega
   have hv:val a=0:=by omega
   rw[hv,cF]at hk;refine⟨k+1,?_⟩;simp only[val];rw[hz,cF,hd,hk];simp[bZZ]
  ·refine⟨k,?_⟩;simp only[val];rw[oY hz];have e1:(d.toNat+18446744073709551616*val a)%18446744073709551616=d.toNat:=by omega
   have e2:(d.toNat+18446744073709551616*val a)/18446744073709551616=val a:=by omega
   rw[e1,e2,bWK,<-hk];congr 1;omega
theorem It:cR []:=by unfold cR;simp[val,cF]
theorem Fo{a:List Int}(h:cZ a)(ht:∀d,a.getLast?=some d->d≠0):cR a:=by
 obtain⟨k,hk⟩:=Ge h;cases k with
 |zero=>unfold cR;simpa using hk
 |succ k =>
  exfalso;refine ht 0 ?_ rfl;rw[hk,cBQ,<-bWM];simp
theorem cR.top{a:List Int}(h:cR a){d:Int}(hd:a.getLast?=some d):d≠0:=by
 have key:∀n,∀d,(dg n).getLast?=some d->d≠0:=by
  intro n
  induction n using cAC with
  |_ n ih =>
   intro d hd
   by_cases hn:n=0
   ·subst hn;rw[cF]at hd;cases hd
   ·rw[oY hn]at hd
    by_cases hq:n/18446744073709551616=0
    ·rw[hq,cF]at hd;simp at hd;omega
    ·refine ih (n/18446744073709551616) (by omega) d ?_;rw[oY hq]at hd ⊢;rwa [cAT]at hd
 rw[h]at hd;exact key _ d hd
theorem Uq{d:Int}{a:List Int}(h:cR (d :: a)):cR a:=by
 have hd:=h.kU;refine Fo (mH.1 hd).2 fun e he=>h.top ?_
 cases a with
 |nil=>cases he
 |cons x r=>rwa [cAT]
theorem dZ {n k : Nat} (h : n < 18446744073709551616 ^ k) : (dg n).length ≤ k := by
  induction k generalizing n with
  | zero => have : n = 0 := by simpa using h
            subst this; rw [cF]; exact bUR _
  | succ k ih =>
    by_cases hn : n = 0
    · subst hn; rw [cF]; simp
    · rw [oY hn, bYC]
      have := ih (n := n / 18446744073709551616) (by rw [bZQ] at h; exact cAJ (by rw [bZP]; exact h))
      omega
theorem wJ{n:Nat}:n<18446744073709551616^(dg n).length:=by
 have:=dS (lG n);rwa [bN]at this
theorem zJ{n m:Nat}(h:n<=m):(dg n).length<=(dg m).length:=dZ (cBA h wJ)
theorem tQ{a:List Int}(h:cZ a):(dg (val a)).length<=a.length:=dZ (dS h)
theorem Bc{n k:Nat}(h:k<(dg n).length):18446744073709551616^k<=n:=by
 rcases bVH n (18446744073709551616^k)with h1 |h1
 ·have:=dZ h1;omega
 ·exact h1
theorem mK{a:List Int}{n:Nat}(h:n<a.length):val (a.take (n+1))=val (a.take n)+18446744073709551616^n*(a.getD n 0).toNat:=by
 rw[cAU h,jH,bXH,cAV (by omega)];simp[val,bZU,h]
theorem iY(a:List Int){n:Nat}(h:n<=a.length):val a=val (a.take n)+18446744073709551616^n*val (a.drop n):=by
 have e:=jH (a.take n) (a.drop n);rw[cBR,bXH,cAV h]at e;exact e
theorem Lk{a:List Int}{n:Nat}(h:n<a.length):a.getD n 0∈a:=by
 rw[bZU,bVI h];simp
theorem cZ.get{a:List Int}(h:cZ a)(n:Nat):0<=a.getD n 0/\a.getD n 0<18446744073709551616:=by
 rcases bVH n a.length with hn |hn
 ·exact h _ (Lk hn)
 ·rw[bZU,bWN hn];simp
theorem getLast_take{a:List Int}{n:Nat}(h:n<a.length):(a.take (n+1)).getLast?=some (a.getD n 0):=by
 rw[cAU h,cBS];simp[bZU,h]
theorem getD_none{a:List Int}{n:Nat}(h:a.length<=n):a.getD n 0=0:=by
 rw[bZU,bWN h];rfl
theorem dR{a:List Int}{n:Nat}(h:a.length<=n):val (a.take n)=val a:=by rw[cBT h]
theorem dP{a:List Int}(n:Nat):val (a.take (n+1))=val (a.take n)+18446744073709551616^n*(a.getD n 0).toNat:=by
 rcases bVH n a.length with h |h
 ·exact mK h
 ·rw[dR (by omega),dR h,getD_none h];simp
theorem iL{a:List Int}(h:cZ a)(n:Nat):val (a.take n)<18446744073709551616^n:=by
 have:=dS (h.take n);exact bVO this (bXS (by omega) (by rw[bXH];omega))
theorem nU{a:List Int}{d:Int}:val (a ++ [d])=val a+18446744073709551616^a.length*d.toNat:=by
 rw[jH];simp[val]
theorem nZ{a:List Int}{d:Int}(h:cZ a)(hd:0<=d/\d<18446744073709551616):cZ (a ++ [d]):=by
 rw[qL,mH];exact⟨h,hd,oX⟩
theorem Iu{a:List Int}(h:cR a):dg (val a)=a:=h.symm
theorem uK{a b:List Int}(ha:cZ a)(hb:cR b)(h:a.length<b.length):val a<val b:=by
 have h1:=dS ha;have h2:18446744073709551616^a.length<=val b:=Bc (by rw[<-hb];exact h);omega
theorem dY{a:List Int}(ha:cR a):a.length=0↔val a=0:=by
 constructor
 ·intro h;have:a=[]:=List.length_eq_zero_iff.1 h;subst this;rfl
 ·intro h;rw[ha,h,cF];rfl
theorem iO{n:Nat}:(dg n).length=0↔n=0:=by rw[dY (aY n),bN]
theorem oF{a:List Int}(h:cZ a){n:Nat}{d:Int}(hd:0<=d/\d<18446744073709551616):cZ (a.set n d):=by
 intro x hx;rcases cBU hx with h1 |h1
 ·exact h x h1
 ·subst h1;exact hd
theorem xC{a:List Int}{n:Nat}(h:n<a.length)(d:Int):val ((a.set n d).drop n)=d.toNat+18446744073709551616*val (a.drop (n+1)):=by
 have e:(a.set n d).drop n=d :: a.drop (n+1):=by
  rw[cAW (by simpa using h)];simp[cBV]
 rw[e];rfl
theorem jM{a:List Int}(n:Nat):val (a.drop n)=(a.getD n 0).toNat+18446744073709551616*val (a.drop (n+1)):=by
 rcases bVH n a.length with h |h
 ·rw[cAW h];simp[val,bZU,h]
 ·rw[cAG h,cAG (by omega),getD_none h];rfl
end M6
namespace M
open Go AI
def zs(b:Bool)(n:Nat):Int:=bif b then -(n:Int)else n
def zv(x:Bool×List Int):Int:=zs x.1 (val x.2)
def bFB(x:Bool×List Int):Prop:=cR x.2/\(x.1=true->val x.2≠0)/\x.2.length<=549755813888
def isNeg(z:Int):Bool:=match z with
 | .negSucc _=>true
 | .ofNat _=>false
theorem nJ{z:Int}:isNeg z=true↔z<0:=by cases z <;> simp[isNeg] <;> omega
theorem iM{z:Int}:isNeg z=false↔0<=z:=by cases z <;> simp[isNeg] <;> omega
theorem Qd(b:Bool)(n:Nat):isNeg (zs b n)=(b&&decide (n≠0)):=by
 unfold zs;cases b with
 |false=>simp only[cond_false,cAA];exact iM.2 (by omega)
 |true =>
  simp only[cond_true,bXT]
  by_cases h:n=0
  ·subst h;rfl
  ·rw[decide_eq_true h];exact nJ.2 (by omega)
theorem lP(b:Bool)(n:Nat):(zs b n).natAbs=n:=by
 unfold zs;cases b <;> simp
theorem bFB.cells{x:Bool×List Int}(h:bFB x):isNeg (zv x)=x.1/\dg (zv x).natAbs=x.2:=by
 obtain⟨h1,h2,h3⟩:=h;unfold zv;rw[Qd,lP,<-h1];refine⟨?_,rfl⟩;cases hx:x.1 with
 |false=>rfl
 |true=>rw[decide_eq_true (h2 hx)];rfl
theorem bFB.len{x:Bool×List Int}(h:bFB x):x.2.length<=549755813888:=h.2.2
def lH(a b:Int):Int:=if a<b then -1 else if b<a then 1 else 0
theorem aDH{a b:Nat}:0<=lB a b↔b<=a:=by unfold lB;split <;> (try split) <;> omega
theorem Bh(a b:Nat):bl (a+b)<=max (bl a) (bl b)+1:=by
 rw[dA,bZQ];have h1:=vD a;have h2:=vD b;have h3:2^bl a<=2^max (bl a) (bl b):=gN;have h4:2^bl b<=2^max (bl a) (bl b):=gN;omega
theorem Pt(a b:Nat):bl (a*b)<=bl a+bl b:=by
 rw[dA,bZS];exact Nat.mul_lt_mul'' (vD a) (vD b)
theorem Fw{n k:Nat}(h:bl n<=k):(dg n).length<=k/32+1:=Uv (dA.1 h)
abbrev K6:=Int×Int×Int×Int×Int×Int
def kf(w:Bool):K6:=bif w then(9223372036854775808,53,-1074,971,9218868437227405312,9221120237041090561)else(2147483648,24,-149,104,2139095040,2143289345)
def kP(k:K6):Nat:=k.2.1.toNat
def kH(k:K6):Nat:=2^(kP k-1)
end M
namespace M
open Go
theorem Wn{a b:Int}(ha:0<=a)(bEP:a<18446744073709551616)(hb:0<=b)(uX:b<18446744073709551616):AI.fY .and .u64 a b=((a.toNat &&& b.toNat:Nat):Int):=by
 obtain⟨n,rfl⟩:=bZV ha;obtain⟨m,rfl⟩:=bZV hb;rw[AI.wT];unfold AI.bitsI0;simp only;have e:(BitVec.ofInt u64.bits (n:Int) &&& BitVec.ofInt u64.bits (m:Int)).toNat=n &&& m:=by
  show(BitVec.ofInt 64 (n:Int) &&& BitVec.ofInt 64 (m:Int)).toNat=_;rw[BitVec.toNat_and];have e1:(BitVec.ofInt 64 (n:Int)).toNat=n:=by simp;omega
  have e2:(BitVec.ofInt 64 (m:Int)).toNat=m:=by simp;omega
  rw[e1,e2]
 have hle:n &&& m<=n:=Nat.and_le_left;rw[e,wrap_u64];rfl
theorem Uk{a b:Int}(ha:0<=a)(bEP:a<18446744073709551616)(hb:0<=b)(uX:b<18446744073709551616):AI.fY .or .u64 a b=((a.toNat |||b.toNat:Nat):Int):=by
 obtain⟨n,rfl⟩:=bZV ha;obtain⟨m,rfl⟩:=bZV hb;rw[AI.wT];unfold AI.bitsI0;simp only;have e:(BitVec.ofInt u64.bits (n:Int) |||BitVec.ofInt u64.bits (m:Int)).toNat=n |||m:=by
  show(BitVec.ofInt 64 (n:Int) |||BitVec.ofInt 64 (m:Int)).toNat=_;rw[BitVec.toNat_or];have e1:(BitVec.ofInt 64 (n:Int)).toNat=n:=by simp;omega
  have e2:(BitVec.ofInt 64 (m:Int)).toNat=m:=by simp;omega
  rw[e1,e2]
 have jL:n |||m<2^64:=Nat.or_lt_two_pow (by omega) (by omega);rw[e,wrap_u64];rfl
def tz:Nat->Nat
 |0=>0
 |n+1=>if(n+1)%2=1 then 0 else tz ((n+1)/2)+1
termination_by n=>n
decreasing_by omega
theorem yR{n:Nat}(h:n%2=1):tz n=0:=by
 cases n with
 |zero=>omega
 |succ n=>rw[tz,if_pos h]
theorem Dc{n:Nat}(h0:n≠0)(h:n%2=0):tz n=tz (n/2)+1:=by
 cases n with
 |zero=>omega
 |succ n=>rw[tz,aU]
theorem tK:∀n,n≠0->n%2^tz n=0/\(n/2^tz n)%2=1:=by
 intro n
 induction n using cAC with
 |_ n ih =>
  intro h0
  by_cases h:n%2=1
  ·rw[yR h];simp[Nat.mod_one];exact h
  ·rw[Dc h0 (by omega)];obtain⟨h1,h2⟩:=ih (n/2) (by omega) (by omega);have e:2^(tz (n/2)+1)=2*2^tz (n/2):=by rw[bZQ];omega
   rw[e];refine⟨?_,by rw[<-cAL];exact h2⟩;have h3:=bZX (n/2) (2^tz (n/2));rw[h1]at h3;generalize tz (n/2)=t at *;have h4:n=2*2^t*(n/2/2^t):=by rw[bZT];omega
   generalize n/2/2^t=q at *;rw[h4];exact Nat.mul_mod_right _ _
theorem Ji{n:Nat}(h:n≠0):2^tz n<=n:=by
 obtain⟨h1,h2⟩:=tK n h;have h3:=bZX n (2^tz n);rw[h1]at h3;generalize 2^tz n=p at *;generalize n/p=q at *;have:p*1<=p*q:=bXF _ (by omega);omega
theorem Qh{n:Nat}(h:n≠0):∀k,tz (2^k*n)=k+tz n
 |0=>by simp
 |k+1=>by
  have hp:0<2^k:=cY;have h0:2^k*n≠0:=Nat.mul_ne_zero (by omega) h;have e:2^(k+1)*n=2*(2^k*n):=by rw[bZQ,bZP (2^k) 2,bZT]
  rw[e,Dc (by omega) (by omega),Nat.mul_div_cancel_left _ (by omega),Qh h k];omega
theorem aHG{r k n:Nat}(hr:r<2^k)(h:r≠0):tz (r+2^k*n)=tz r:=by
 induction k generalizing r n with
 |zero=>simp at hr;omega
 |succ k ih =>
  have e:2^(k+1)*n=2*(2^k*n):=by rw[bZQ,bZP (2^k) 2,bZT]
  rw[e];rw[bZQ]at hr
  by_cases ho:r%2=1
  ·rw[yR ho,yR (by omega)]
  ·rw[Dc (by omega) (by omega),Dc h (by omega),show(r+2*(2^k*n))/2=r/2+2^k*n from by omega,ih (by omega) (by omega)]
theorem Ux(a b:Nat):a &&& b=2*(a/2 &&& b/2)+(if a%2=1/\b%2=1 then 1 else 0):=by
 have h1:(a &&& b)/2=a/2 &&& b/2:=Nat.and_div_two;have h2:(a &&& b)%2=1↔a%2=1/\b%2=1:=Nat.and_mod_two_eq_one;rw[<-h1];split
 ·rename_i h;have:=h2.2 h;omega
 ·rename_i h;have:¬(a &&& b)%2=1:=fun hh=>h (h2.1 hh)
  omega
theorem Kr:∀(p m:Nat),m<2^p->m &&& (2^p-1-m)=0
 |0,m,h=>by simp at h;subst h;rfl
 |p+1,m,h=>by
  rw[bZQ]at h ⊢;rw[Ux,show(2^p*2-1-m)/2=2^p-1-m/2 from by omega,Kr p (m/2) (by omega),aU]
theorem Uw:∀(p a b:Nat),a+b=2^p->a≠0->b≠0->a &&& b=2^tz a
 |0,a,b,h,ha,hb=>by simp at h;omega
 |p+1,a,b,h,ha,hb=>by
  rw[bZQ]at h;rw[Ux]
  by_cases ho:a%2=1
  ·rw[yR ho,show b/2=2^p-1-a/2 from by omega,Kr p (a/2) (by omega),aW]
  ·rw[Dc ha (by omega),Uw p (a/2) (b/2) (by omega) (by omega) (by omega),aU,bZQ,bZP,bVP]
theorem zA{pre:List Int}{i k:Nat}(h:pre.length=i)(v:Int):(pre ++ bWU (k+1) 0).set i v=(pre ++ [v]) ++ bWU k 0:=by
 subst h;rw[cBX _ _ (bUR _),bYW,bZZ,cBY,bWM];rfl
theorem Gb{pre:List Int}{i:Nat}(h:pre.length=i)(v:Int)(r:List Int):(pre ++ v :: r).getD i 0=v:=by
 subst h;simp[bZU]
theorem Fe{pre:List Int}{i:Nat}(h:pre.length=i)(v u:Int)(r:List Int):(pre ++ v :: r).set i u=pre ++ u :: r:=by
 subst h;rw[cBX _ _ (bUR _),bYW,cBY]
theorem Fm{c n k:Nat}(h:c<2^k):c |||2^k*n=c+2^k*n:=by
 rw[Nat.or_comm,<-Nat.two_pow_add_eq_or_of_lt h,cAQ]
theorem Ov(k:Nat):18446744073709551616^k=2^(64*k):=by rw[cBB]
theorem fM{n k:Nat}(h:bl n<=64*k):(M6.dg n).length<=k:=by
 apply M6.dZ;rw[Ov,<-dA];exact h
theorem xU{a:List Int}(h:M6.cZ a){n:Nat}(hn:a.length<=n):bl (M6.val a)<=64*n:=by
 rw[dA,<-Ov];exact bVO (M6.dS h) (bXS (by omega) hn)
theorem aIY{x:List Int}(h:M6.cR x):(M6.dg (M6.val x)).length=x.length:=by rw[<-h]
theorem aHS{n:Int}(h:0<=n):n.tdiv 64=n/64:=Int.tdiv_eq_ediv_of_nonneg h
theorem aHO{n:Int}(h:0<=n):n.tmod 64=n%64:=Int.tmod_eq_emod_of_nonneg h
theorem Kc(n:Nat):2^n=18446744073709551616^(n/64)*2^(n%64):=by
 rw[Ov,<-bZS];congr 1;omega
theorem Fb(x k:Nat)(h:k<64):x*2^k=18446744073709551616*(x/2^(64-k))+x*2^k%18446744073709551616:=by
 have e:(18446744073709551616:Nat)=2^(64-k)*2^k:=by rw[<-bZS,show 64-k+k=64 from by omega]
 have h1:x*2^k/18446744073709551616=x/2^(64-k):=by
  rw[e,Nat.mul_div_mul_right _ _ (cY)]
 have:=bZX (x*2^k) 18446744073709551616;rw[h1]at this;omega
theorem Ic(x k:Nat)(h:k<64):x*2^k%18446744073709551616=2^k*(x%2^(64-k)):=by
 have e:(18446744073709551616:Nat)=2^(64-k)*2^k:=by rw[<-bZS,show 64-k+k=64 from by omega]
 rw[e,Nat.mul_mod_mul_right,bZP]
end M
namespace W
open Go AI
abbrev Qi(k:IntKind)(b:Nat):TI:={size:=1,bytes:=b,zero:=[.int k 0],kind:=.int k}
abbrev aXQ(e:Nat):TI:={size:=1,bytes:=24,zero:=[.slice none 0 0],kind:=.slice e}
abbrev yL(n b:Nat)(z:List Value)(f:List (Nat×Nat×Bool)):TI:={size:=n,bytes:=b,zero:=z,kind:=.struct f}
abbrev lR(k:IntKind):Value:=.int k 0
def Jm:List (Nat×TI):=[
 (2,Qi .i64 8),
 (3,Qi .i64 8),
 (4,{ size:=1,bytes:=1,zero:=[.bool false],kind:=TK.bool }),
 (5,Qi .u8 1),
 (6,Qi .u8 1),
 (7,yL 4 24 [lR .i64,lR .i64,.bool false,lR .u8] [(0,1,false),(1,1,false),(2,1,false),(3,1,false)]),
 (8,yL 4 24 [lR .i64,lR .i64,.bool false,lR .u8] [(0,1,false),(1,1,false),(2,1,false),(3,1,false)]),
 (9,{ size:=1,bytes:=16,zero:=[Value.string ByteArray.empty],kind:=TK.str }),
 (10,{ size:=1,bytes:=16,zero:=[Value.string ByteArray.empty],kind:=TK.str }),
 (11,{ size:=1,bytes:=16,zero:=[Value.string ByteArray.empty],kind:=TK.str }),
 (12,Qi .u64 8),
 (18,yL 1 8 [.pointer none] [(0,1,false)]),
 (19,yL 1 8 [.pointer none] [(0,1,false)]),
 (21,Qi .i32 4),
 (22,Qi .u64 8),
 (25,aXQ 22),
 (26,yL 2 32 [.bool false,.slice none 0 0] [(0,1,false),(1,1,false)]),
 (27,yL 2 32 [.bool false,.slice none 0 0] [(0,1,false),(1,1,false)]),
 (28,yL 3 40 [.bool false,.slice none 0 0,lR .i64] [(0,2,true),(2,1,false)]),
 (29,yL 3 40 [.bool false,.slice none 0 0,lR .i64] [(0,2,true),(2,1,false)]),
 (30,Qi .i64 8),
 (33,Qi .i64 8),
 (42,Qi .i64 8),
 (43,yL 6 80 [.bool false,.slice none 0 0,lR .i64,.bool false,.slice none 0 0,lR .i64] [(0,3,true),(3,3,true)]),
 (44,yL 6 80 [.bool false,.slice none 0 0,lR .i64,.bool false,.slice none 0 0,lR .i64] [(0,3,true),(3,3,true)]),
 (46,{ size:=1,bytes:=8,zero:=[Value.nilFunc],kind:=TK.other }),
 (51,aXQ 3),
 (55,yL 6 48 [lR .i64,lR .i64,lR .i64,lR .u64,lR .i64,lR .i64] [(0,1,false),(1,1,false),(2,1,false),(3,1,false),(4,1,false),(5,1,false)]),
 (56,yL 6 48 [lR .i64,lR .i64,lR .i64,lR .u64,lR .i64,lR .i64] [(0,1,false),(1,1,false),(2,1,false),(3,1,false),(4,1,false),(5,1,false)]),
 (57,aXQ 56),
 (61,yL 3 24 [lR .u64,.bool false,lR .i64] [(0,1,false),(1,1,false),(2,1,false)]),
 (62,yL 3 24 [lR .u64,.bool false,lR .i64] [(0,1,false),(1,1,false),(2,1,false)]),
 (66,yL 6 48 [lR .u64,lR .i64,lR .i64,lR .i64,lR .u64,lR .u64] [(0,1,false),(1,1,false),(2,1,false),(3,1,false),(4,1,false),(5,1,false)]),
 (67,yL 6 48 [lR .u64,lR .i64,lR .i64,lR .i64,lR .u64,lR .u64] [(0,1,false),(1,1,false),(2,1,false),(3,1,false),(4,1,false),(5,1,false)]),
 (71,Qi .u32 4),
 (83,yL 4 32 [lR .i64,lR .i64,lR .i64,lR .u64] [(0,1,false),(1,1,false),(2,1,false),(3,1,false)]),
 (84,yL 4 32 [lR .i64,lR .i64,lR .i64,lR .u64] [(0,1,false),(1,1,false),(2,1,false),(3,1,false)]),
 (97,yL 3 24 [lR .i64,lR .i64,lR .i64] [(0,1,false),(1,1,false),(2,1,false)]),
 (98,yL 3 24 [lR .i64,lR .i64,lR .i64] [(0,1,false),(1,1,false),(2,1,false)]),
 (107,yL 2 16 [lR .i64,.bool false] [(0,1,false),(1,1,false)]),
 (108,yL 2 16 [lR .i64,.bool false] [(0,1,false),(1,1,false)]),
 (122,Qi .i64 8),
 (127,{ size:=1,bytes:=8,zero:=[Value.nilFunc],kind:=TK.other }),
 (128,yL 2 16 [lR .i64,Value.nilFunc] [(0,1,false),(1,1,false)]),
 (129,yL 2 16 [lR .i64,Value.nilFunc] [(0,1,false),(1,1,false)]),
 (139,Qi .u64 8),
 (164,Qi .i64 8),
 (178,aXQ 71),
 (179,yL 2 32 [.bool false,.slice none 0 0] [(0,1,false),(1,1,false)]),
 (180,yL 2 32 [.bool false,.slice none 0 0] [(0,1,false),(1,1,false)]),
 (191,yL 0 0 [] []),
 (192,yL 0 0 [] []),
 (196,yL 1 1 [.bool false] [(0,1,false)]),
 (197,yL 1 1 [.bool false] [(0,1,false)]),
 (199,yL 1 1 [.bool false] [(0,1,false)]),
 (200,yL 3 40 [.bool false,.slice none 0 0,lR .i64] [(0,3,true)]),
 (201,yL 3 40 [.bool false,.slice none 0 0,lR .i64] [(0,3,true)]),
 (211,Qi .i64 8),
 (218,aXQ 29),
 (223,aXQ 44),
 (241,{ size:=64,bytes:=64,zero:=(bWU 64 (lR .u8)),kind:=TK.arr 64 1 false }),
 (295,{ size:=1,bytes:=16,zero:=[Value.nilIface],kind:=TK.other }),
 (298,{ size:=4,bytes:=96,zero:=[.slice none 0 0,.slice none 0 0,.slice none 0 0,.slice none 0 0],kind:=TK.arr 4 1 false }),
 (311,{ size:=0,bytes:=0,zero:=[],kind:=TK.arr 0 1 false }),
 (312,yL 0 0 [] [(0,0,true)]),
 (313,yL 0 0 [] [(0,0,true)]),
 (315,Qi .u8 1),
 (316,Qi .u8 1),
 (319,Qi .i32 4),
 (320,Qi .i32 4),
 (321,yL 11 48 [lR .u64,lR .u64,lR .u32,lR .u8,lR .u8,lR .u8,lR .u8,Value.nilFunc,.pointer none,lR .i32,lR .i32] [(0,1,false),(1,1,false),(2,1,false),(3,1,false),(4,1,false),(5,1,false),(6,1,false),(7,1,false),(8,1,false),(9,1,false),(10,1,false)]),
 (322,yL 11 48 [lR .u64,lR .u64,lR .u32,lR .u8,lR .u8,lR .u8,lR .u8,Value.nilFunc,.pointer none,lR .i32,lR .i32] [(0,1,false),(1,1,false),(2,1,false),(3,1,false),(4,1,false),(5,1,false),(6,1,false),(7,1,false),(8,1,false),(9,1,false),(10,1,false)])]
theorem rH:nS prog (tlook Jm):=aNY Jm (by kernel_rfl) (by kernel_rfl) (by kernel_rfl)
def ext:FuncId->List Value->Option (Prop×List Value):=(aCT 148 aVY (aCT 146 gAdd aCS))
theorem nR:aDR prog ext:=(Vm (Vn (P:=prog) (f:=148) (fn:=f148) (e:=xE) func148 rfl rfl (by kernel_rfl) (by kernel_rfl)) aQF (Vm (Vn (P:=prog) (f:=146) (fn:=f146) (e:=add64Entry) func146 rfl rfl (by kernel_rfl) (by kernel_rfl)) aQG Zg))
def globs(g:Nat):Option (IntKind×List Int):=bif bUS g 0 then some (.u8,[0,1,56,2,57,49,28,3,61,58,42,50,38,29,17,4,62,47,59,36,45,43,51,22,53,39,33,30,24,18,12,5,63,55,48,27,60,41,37,16,46,35,44,21,52,32,23,11,54,26,40,15,34,20,31,10,25,14,19,9,13,8,7,6])else(none)
def base:Env:={ T:=tlook Jm,C:=fun _ _=>none,ext:=ext,glob:=globs,nt:=0,own:=[],keep:=fun _=>[],roll:=fun _=>none,cut:=fun _=>none }
theorem mixed:prog.follows .mixedOrders=true:=by kernel_rfl
abbrev OK(n:Nat)(o:dO):Prop:=lA prog base.glob n o
theorem fA(E:Env)(c:Code){n:FuncId}{f:Func}{t:List (Nat×dO)}(h:∀p∈t,lA prog base.glob p.1 p.2)(hf:prog.funcs[n]?=some f)(hb:f.body=some c:=by exact rfl)(hn:(f.name== "runtime.NumGoroutine")=false:=by exact rfl)(hE:E={ base with C:=callsOf t,nt:=f.ntmps,own:=E.own,keep:=E.keep,cut:=E.cut,wide:=E.wide }:=by exact rfl):sZ prog E n f c:=by
 have hg:E.glob=base.glob:=by rw[hE]
 exact aFA (by rw[hE];exact rH) mixed (lY t (by rw[hE]) (by rw[hg];exact h) (by rw[hE];exact nR) (by rw[hE];rfl)) hf hb (by rw[hE]) hn (by rw[hE];rfl)
abbrev gH:TypeId:=22
end W
namespace AI
open Go Go.RowKit
theorem Contract.bOV{P:Program}{G:Nat->Option (IntKind×List Int)}{f:FuncId}{d d' e e' g g' k k' l l':D}{rs:List D}(h:Contract P G f [d',e',g',k',l'] rs)(hd:Cc d d')(he:Cc e e')(hg:Cc g g')(hk:Cc k k')(hl:Cc l l'):Contract P G f [d,e,g,k,l] rs :=
 h.of rfl fun i x x' hx yP=>by
  match i with
  |0=>simp at hx yP;subst hx;subst yP;exact hd
  |1=>simp at hx yP;subst hx;subst yP;exact he
  |2=>simp at hx yP;subst hx;subst yP;exact hg
  |3=>simp at hx yP;subst hx;subst yP;exact hk
  |4=>simp at hx yP;subst hx;subst yP;exact hl
  |i+5=>simp at hx
def orc5{α β γ δ ε:Type}(p:kW α)(q:kW β)(r:kW γ)(s:kW δ)(t:kW ε)(f:α->β->γ->δ->ε->Prop×List D):dO
 | [a,b,c,d,e]=>match p.get a,q.get b,r.get c,s.get d,t.get e with
  |some x,some y,some z,some u,some v=>some (f x y z u v)
  |_,_,_,_,_=>none
 |_=>none
variable {P:Program} {E:Env} {f:FuncId} {fn:Func} {c:Code}
theorem sZ.bFV{α β γ δ ε:Type}(h:sZ P E f fn c){p:kW α}{p':kW β}{Qy:kW γ}{p3:kW δ}{p4:kW ε}{g:α->β->γ->δ->ε->Prop×List D}(hn:bUU 5 fn.ntmps=true)(hs:∀x y z u v,(g x y z u v).1->aH E fn c [p.put x,p'.put y,Qy.put z,p3.put u,p4.put v]=some (g x y z u v).2):lA P E.glob f (orc5 p p' Qy p3 p4 g):=by
 intro ds q rs hd hg;unfold orc5 at hd;split at hd
 ·split at hd
  ·rename_i x y z u v hx hy hz hu hv;have hd:=Option.some.inj hd;have e1:q=(g x y z u v).1:=by rw[hd]
   have e2:rs=(g x y z u v).2:=by rw[hd]
   subst e1;subst e2;exact⟨(fn_contract (ds:=[p.put x,p'.put y,Qy.put z,p3.put u,p4.put v]) h.ty h.calls h.mix h.fnc h.body h.nt h.io (bWP hn) (hs x y z u v hg)).bOV (p.le hx) (p'.le hy) (Qy.le hz) (p3.le hu) (p4.le hv),h.has⟩
  ·cases hd
 ·cases hd
end AI
namespace M
open Go AI
def wv(x:Bool×List Int):Int:=zs x.1 (M6.val x.2)
def gI(x:Bool×List Int):Prop:=M6.cR x.2/\(x.1=true->M6.val x.2≠0)/\x.2.length<=8192
def wD(z:Int):D:=.agg [.sc (.bool (isNeg z)),.ints .u64 (M6.dg z.natAbs)]
def fit(n:Nat):Bool:=decide (bl n<=524288)
theorem iF(x:Bool×List Int):(wv x).natAbs=M6.val x.2:=lP _ _
theorem Qf{x:Bool×List Int}(h:x.1=true):wv x=-(M6.val x.2:Int):=by unfold wv zs;rw[h];rfl
theorem Ev{x:Bool×List Int}(h:x.1=false):wv x=(M6.val x.2:Int):=by unfold wv zs;rw[h];rfl
theorem gI.cells{x:Bool×List Int}(h:gI x):isNeg (wv x)=x.1/\M6.dg (wv x).natAbs=x.2:=by
 obtain⟨h1,h2,h3⟩:=h;unfold wv;rw[Qd,lP,<-h1];refine⟨?_,rfl⟩;cases hx:x.1 with
 |false=>rfl
 |true=>rw[decide_eq_true (h2 hx)];rfl
theorem gI.len{x:Bool×List Int}(h:gI x):x.2.length<=8192:=h.2.2
theorem aYZ(b:Bool)(n:Nat):wD (zs b n)=.agg [.sc (.bool (b&&decide (n≠0))),.ints .u64 (M6.dg n)]:=by
 unfold wD;rw[Qd,lP]
theorem nA(z:Int):wv (isNeg z,M6.dg z.natAbs)=z:=by
 unfold wv zs;simp only[M6.bN];cases h:isNeg z with
 |true=>have:=nJ.1 h;simp only[cond_true];omega
 |false=>have:=iM.1 h;simp only[cond_false];omega
theorem fT{z:Int}(h:bl z.natAbs<=524288):gI (isNeg z,M6.dg z.natAbs):=by
 refine⟨M6.aY _,fun hn=>?_,fM (k:=8192) (by omega)⟩;rw[M6.bN];have:=nJ.1 hn;omega
theorem Zt{n:Nat}(h:(M6.dg n).length<=8192):bl n<=524288:=by
 have:=xU (M6.lG n) h;rw[M6.bN]at this;omega
theorem gI.bl{x:Bool×List Int}(h:gI x):bl (M6.val x.2)<=524288:=by
 have:=xU h.1.kU h.len;omega
def wE(ok:Bool)(z:Int):List D:=[wD (bif ok then z else 0),.s (.sc (.int .i64 (bif ok then 0 else 5)))]
theorem Ia(neg ok:Bool)(n:Nat):[D.agg [.sc (.bool (isNeg (bif (bif ok then(0:Int)else 5)==0 then zs neg (M6.val (bif ok then M6.dg n else []))else 0))),.ints .u64 (M6.dg (bif (bif ok then(0:Int)else 5)==0 then zs neg (M6.val (bif ok then M6.dg n else []))else 0).natAbs)],D.s (.sc (.int .i64 (bif ok then 0 else 5)))]=wE ok (zs neg n):=by
 cases ok with
 |true=>rw[cond_true,cond_true,show((0:Int)==0)=true from rfl,cond_true,M6.bN];rfl
 |false=>rfl
theorem Iv{ok:Bool}{n:Nat}(h:ok=true->bl n<=524288):M6.cR (bif ok then M6.dg n else [])/\(bif ok then M6.dg n else []).length<=1099511627776:=by
 cases ok with
 |true=>have:=fM (n:=n) (k:=8192) (by have:=h rfl;omega);exact⟨M6.aY _,by rw[cond_true];omega⟩
 |false=>exact⟨M6.It,by simp⟩
theorem Ba{n:Nat}:decide ((M6.dg n).length<=8192)=fit n:=by
 unfold fit
 by_cases h:bl n<=524288
 ·rw[decide_eq_true h,decide_eq_true (fM (k:=8192) (by omega))]
 ·rw[decide_eq_false h,decide_eq_false (fun hl=>h (Zt hl))]
theorem xN{n:Nat}(h:fit n=true):bl n<=524288:=of_decide_eq_true h
end M
namespace M
open Go AI
abbrev gB:=Bool×List Int×Int
def aP(x:gB):Prop:=gI (x.1,x.2.1)/\(-1048576<=x.2.2/\x.2.2<=1048576)/\(M6.val x.2.1=0->x.2.2=0)/\(M6.val x.2.1≠0->M6.val x.2.1%2=1)
def dv(x:gB):Int×Int:=(wv (x.1,x.2.1),x.2.2)
def dD(p:Int×Int):D:=.agg [.sc (.bool (isNeg p.1)),.ints .u64 (M6.dg p.1.natAbs),.sc (.int .i64 p.2)]
def dE(ok:Bool)(p:Int×Int):List D:=[dD (bif ok then p else(0,0)),.s (.sc (.int .i64 (bif ok then 0 else 5)))]
def aN(z e:Int):Int×Int:=if z=0 then(0,0)else(z/((2^tz z.natAbs:Nat):Int),e+(tz z.natAbs:Nat))
def gT(z e:Int):Bool:=decide (z=0)||(decide (-1048576<=e+(tz z.natAbs:Nat))&&decide (e+(tz z.natAbs:Nat)<=1048576))
theorem aP.Db{x:gB}(h:aP x):gI (x.1,x.2.1):=h.1
theorem aP.len{x:gB}(h:aP x):x.2.1.length<=8192:=h.1.len
theorem aP.Hp{x:gB}(h:aP x):M6.cR x.2.1:=h.1.1
theorem aP.dD{x:gB}(h:aP x):M.dD (dv x)=.agg [.sc (.bool x.1),.ints .u64 x.2.1,.sc (.int .i64 x.2.2)]:=by
 have:=h.Db.cells;unfold M.dD dv;dsimp only at *;rw[this.1,this.2]
theorem Qc{b:Bool}{n:Nat}:zs b n=0↔n=0:=by
 have:=lP b n;omega
theorem aTE{b:Bool}{n q:Nat}(hq:0<q)(h:n%q=0):zs b n/(q:Int)=zs b (n/q):=by
 have hd:=bZX n q;have e:n=q*(n/q):=by omega
 cases b with
 |false =>
  show((n:Nat):Int)/(q:Int)=((n/q:Nat):Int);rw[cAM]
 |true =>
  show -(n:Int)/(q:Int)=-((n/q:Nat):Int);have e1:-(n:Int)=(q:Int)*(-((n/q:Nat):Int)):=by rw[Int.mul_neg,<-cAN,<-e]
  rw[e1,Int.mul_ediv_cancel_left _ (by omega)]
theorem Dd{n:Nat}(h:n≠0):tz n<bl n:=by
 have h1:=Ji h;exact qG.2 h1
def jJ(p:Int×Int):Prop:=bl p.1.natAbs<=524288/\(-1048576<=p.2/\p.2<=1048576)/\(p.1=0->p.2=0)/\(p.1≠0->p.1%2=1)
theorem dT(p:Int×Int):dv (isNeg p.1,M6.dg p.1.natAbs,p.2)=p:=by
 unfold dv;dsimp only;rw[nA]
theorem dJ{p:Int×Int}(h:jJ p):aP (isNeg p.1,M6.dg p.1.natAbs,p.2):=by
 obtain⟨h1,h2,h3,h4⟩:=h;refine⟨fT h1,h2,fun hz=>h3 ?_,fun hz=>?_⟩
 ·dsimp only at hz;rw[M6.bN]at hz;omega
 ·dsimp only at hz ⊢;rw[M6.bN]at hz ⊢;have:=h4 (by omega);omega
theorem aP.uZ{x:gB}(h:aP x):jJ (dv x):=by
 obtain⟨h1,h2,h3,h4⟩:=h;have ha:=iF (x.1,x.2.1);dsimp only at ha;refine⟨?_,h2,fun hz=>h3 ?_,fun hz=>?_⟩
 ·show bl (wv _).natAbs<=_;rw[ha];exact h1.bl
 ·have hz:wv (x.1,x.2.1)=0:=hz;omega
 ·have hz:wv (x.1,x.2.1)≠0:=hz;have:=h4 (by omega);show wv (x.1,x.2.1)%2=1;omega
theorem jJ.neg{p:Int×Int}(h:jJ p):jJ (-p.1,p.2):=by
 obtain⟨h1,h2,h3,h4⟩:=h;refine⟨by dsimp only;rwa [cBC],h2,fun hz=>h3 (by dsimp only at hz;omega),fun hz=>?_⟩;have:=h4 (by dsimp only at hz;omega);dsimp only;omega
theorem bTQ{z:Int}{m n:Nat}(hm:bl z.natAbs<=m)(hn:bl z.natAbs<=n):z/((2^m:Nat):Int)=z/((2^n:Nat):Int):=by
 have one:∀k,bl z.natAbs<=k->z/((2^k:Nat):Int)=if z<0 then -1 else 0:=by
  intro k hk;have h:=dA.1 hk;have hp:0<2^k:=bXR (by decide);generalize 2^k=q at *
  by_cases hz:z<0
  ·rw[if_pos hz];have e:z=(q+z)+(q:Int)*(-1):=by omega
   rw[e,Int.add_mul_ediv_left _ _ (by omega),cBZ (by omega) (by omega)];rfl
  ·rw[if_neg hz,cBZ (by omega) (by omega)]
 rw[one m hm,one n hn]
theorem uA{z:Int}{q:Nat}(hq:0<q):(z/(q:Int)).natAbs<=z.natAbs:=by
 have h:=Int.mul_ediv_add_emod z (q:Int);have h1:=Int.emod_nonneg z (show(q:Int)≠0 by omega);have h2:=Int.emod_lt_of_pos z (show 0<(q:Int) by omega)
 by_cases hz:0<=z
 ·have h3:0<=z/(q:Int):=Int.ediv_nonneg hz (by omega);have h4:z/(q:Int)<=z:=Int.ediv_le_self _ hz;omega
 ·have h3:z/(q:Int)<0:=Int.ediv_neg_of_neg_of_pos (by omega) (by omega);have h4:(q:Int)*(z/(q:Int)+1)<=1*(z/(q:Int)+1):=Int.mul_le_mul_of_nonpos_right (by omega) (by omega);rw[Int.mul_add]at h4;omega
end M
open Go.Value(int bool slice)
open AI.S(sc ints)
namespace W
open Go AI M
def mE(t:List (Nat×dO))(n:Nat)(o:List Nat)(k:List (Nat×List Nat))(c:List Nat):Env:={({base with C:=callsOf t})with nt:=n,own:=o,keep:=fun j=>(tlook k j).getD [],cut:=fun j=>bif c.elem j then tlook k j else none}
noncomputable def bd(f:Func):Code:=f.body.getD .skip
def vA(s:S):KV:=(A.v (V.one (L.s s)),none)
def iK(l:List Int):KV:=vA (S.ints .u64 l)
def vaI3(l:List Int):KV:=vA (S.ints .u32 l)
def cK(n:Int):KV:=vA (S.sc (.int .i64 n))
def dG(n:Int):KV:=vA (S.sc (.int .u64 n))
def Nd(b:Bool):KV:=vA (S.sc (.bool b))
def dK(i e:Nat)(c:List S):KV:=(A.v (V.one (L.ptr i 0)),some ⟨e,.cells c⟩)
def cX(n:Int):S:=S.sc (.int .i64 n)
def Xr(n:Int):S:=S.sc (.int .u64 n)
def cU(b:Bool):S:=S.sc (.bool b)
def fU(l:List Int):S:=S.ints .u64 l
def vaJ_(l:List Int):S:=S.ints .u32 l
def Ce(i n e:Nat)(l:List Int):KV:=(A.v (V.one (L.buf i n)),some ⟨e,.ints .u64 l⟩)
abbrev jD{α:Type}(E:Env)(f:Func)(c:Code)(p:kW α)(g:α→Prop×List D):Prop:=∀x,(g x).1→aH E f c [p.put x]=some (g x).2
abbrev gU{α β:Type}(E:Env)(f:Func)(c:Code)(p:kW α)(q:kW β)(g:α→β→Prop×List D):Prop:=∀x y,(g x y).1→aH E f c [p.put x,q.put y]=some (g x y).2
abbrev oP{α β γ:Type}(E:Env)(f:Func)(c:Code)(p:kW α)(q:kW β)(r:kW γ)(g:α→β→γ→Prop×List D):Prop:=∀x y z,(g x y z).1→aH E f c [p.put x,q.put y,r.put z]=some (g x y z).2
abbrev Of{α β γ δ:Type}(E:Env)(f:Func)(c:Code)(p:kW α)(q:kW β)(r:kW γ)(t:kW δ)(g:α→β→γ→δ→Prop×List D):Prop:=∀x y z u,(g x y z u).1→aH E f c [p.put x,q.put y,r.put z,t.put u]=some (g x y z u).2
abbrev aMO{α:Type}(E:Env)(f:Func)(c:Code)(p:kW α)(g:α→Prop×List D):Prop:=∀x,(g x).1→∃rs,aH E f c [p.put x]=some rs∧iE rs (g x).2
abbrev Oe{α β:Type}(E:Env)(f:Func)(c:Code)(p:kW α)(q:kW β)(g:α→β→Prop×List D):Prop:=∀x y,(g x y).1→∃rs,aH E f c [p.put x,q.put y]=some rs∧iE rs (g x y).2
abbrev aWV{α β γ:Type}(E:Env)(f:Func)(c:Code)(p:kW α)(q:kW β)(r:kW γ)(g:α→β→γ→Prop×List D):Prop:=∀x y z,(g x y z).1→∃rs,aH E f c [p.put x,q.put y,r.put z]=some rs∧iE rs (g x y z).2
abbrev yH:=pG (.pair sB (.pair (sI .u64) (.pair (sN .i64) (.pair sB (.pair (sI .u64) (sN .i64))))))
abbrev iW:=pG (.pair sB (.pair (sI .u64) (sN .i64)))
abbrev pZt:=pG (.pair sB (sI .u32))
abbrev oD:=pG (.pair sB (sI .u64))
namespace gM
def E:=mE [] 20 [] [] []
def aE:=bd f144
theorem aX:Nk E aE:=nk
theorem start a:aH E f144 aE [D.s (ints u64 a)]=letI A:=(a.length:Int);letI B:=A-(1:Int);aB (decide (A<=(8192:Int))) (aB (A==(0:Int)) (some [D.s (sc (bool true))]) (if 0<=i64.wrap B/\i64.wrap B<A then some [D.s (sc (bool (a.getD (i64.wrap B).toNat 0 !=(0:Int))))]else none)) (some [D.s (sc (bool false))]):=eJ aX
def oN(a:List Int):Bool:=decide (a.length<=8192)&&(a.length==0||a.getD (a.length-1) 0 !=0)
theorem nL{a:List Int}(h:M6.cR a)(hl:a.length<=8192):oN a=true:=by
 unfold oN;rw[decide_eq_true hl,bXT]
 by_cases hz:a.length=0
 ·simp[hz]
 ·have:=M6.getLast_take (a:=a) (n:=a.length-1) (by omega);rw[show a.length-1+1=a.length from by omega,cBD]at this;have:=h.top this;have e1:(a.getD (a.length-1) 0 !=0)=true:=by simpa using this
  rw[e1,cAO]
def sp(a:List Int):Prop×List D:=(a.length<=1099511627776,[.s (.sc (.bool (oN a)))])
theorem spec:jD E f144 aE (pI .u64) sp:=by
 intro a h;have hl:a.length<=1099511627776:=h;refine(start a).trans ?_;show _=some [D.s (.sc (.bool (oN a)))];unfold oN
 by_cases h1:a.length<=8192
 ·rw[aQ,decide_eq_true h1,bXT]
  by_cases hz:a.length=0
  ·rw[cN];simp[hz]
  ·have e:((a.length:Int)-1).toNat=a.length-1:=by omega
   rw[bM,wrap_i64 (n:=(a.length:Int)-1),aW,e];simp[hz]
 ·rw[aL,decide_eq_false h1];rfl
def aJ:dO:=orc1 (pI .u64) sp
theorem ok:OK 144 aJ:=(fA E aE aD func144).pU rfl spec
end gM
namespace fI
def E:=mE [(144,gM.aJ)] 17 [] [] []
def aE:=bd f96
theorem aX:Nk E aE:=nk
theorem start a b:aH E f96 aE [D.agg [sc (bool a),ints u64 b]]=aO (b.length<=1099511627776) (aB (gM.oN b) (aB a (some [D.s (sc (bool !(b.length:Int)==(0:Int)))]) (some [D.s (sc (bool true))])) (some [D.s (sc (bool false))])):=eJ aX
def nP(x:Bool×List Int):Bool:=gM.oN x.2&&!(x.1&&((x.2.length:Int)==0))
theorem kS{x:Bool×List Int}(h:gI x):nP x=true:=by
 unfold nP;rw[gM.nL h.1 h.len,bXT];cases hx:x.1 with
 |false=>rfl
 |true =>
  have:=h.2.1 hx;have hz:x.2.length≠0:=fun hl=>this ((M6.dY h.1).1 hl)
  rw[bXT,beq_eq_false_iff_ne.2 (by omega)];rfl
def sp(x:Bool×List Int):Prop×List D:=(x.2.length<=1099511627776,[.s (.sc (.bool (nP x)))])
theorem spec:jD E f96 aE oD sp:=by
 intro x h;have hl:x.2.length<=1099511627776:=h;refine(start x.1 x.2).trans ?_;show _=some [D.s (.sc (.bool (nP x)))];unfold nP;rw[gP hl];cases gM.oN x.2 with
 |false=>rfl
 |true=>cases x.1 <;> rfl
def aJ:dO:=orc1 oD sp
theorem ok:OK 96 aJ:=(fA E aE (aA gM.ok aD) func96).pU rfl spec
end fI
namespace mB
def E:=mE [] 8 [] [] []
def aE:=bd f46
theorem aX:Nk E aE:=nk
theorem start a b c:aH E f46 aE [D.agg [sc (bool a),ints u64 b,sc (int i64 c)]]=some [D.s (sc (bool ((b.length:Int)==(0:Int))))]:=eJ aX
def sp(x:gB):Prop×List D:=(True,[.s (.sc (.bool ((x.2.1.length:Int)==0)))])
theorem spec:jD E f46 aE iW sp:=fun x h=>start x.1 x.2.1 x.2.2
def aJ:dO:=orc1 iW sp
theorem ok:OK 46 aJ:=(fA E aE aD func46).pU rfl spec
end mB
namespace lO
def E:=mE [(96,fI.aJ),(46,mB.aJ)] 29 [] [(3,[1])] [3]
def aE:=bd f45
theorem aX:Nk E aE:=nk
def J3 a b c:=mT E f45 aE 3 [dK 0 29 [cU a,fU b,cX c]]
theorem start a b c:aH E f45 aE [D.agg [sc (bool a),ints u64 b,sc (int i64 c)]]=letI A:=some [D.s (sc (bool false))];aO (b.length<=1099511627776) (aB (!fI.nP (a,b)) A (aB (decide (c<(-1048576:Int))) A (aB (decide (1048576<c)) A (lO.J3 a b c)))):=eJ aX
theorem iA a b c:J3 a b c=aO True (aB ((b.length:Int)==(0:Int)) (some [D.s (sc (bool (c==0)))]) (if(0:Int)<=(0:Int)/\0<(b.length:Int)then some [D.s (sc (bool (fY BinOp.and u64 (b.getD 0 0) 1==(1:Int))))]else none)):=cJ aX
def sp(x:gB):Prop×List D:=(aP x,[.s (.sc (.bool true))])
theorem aOZ{a:List Int}(h:M6.cR a)(hv:M6.val a%2=1):fY .and .u64 (a.getD 0 0) 1=1:=by
 have g:=h.kU.get 0;rw[Wn g.1 g.2 (by omega) (by omega)];have e:M6.val a=(a.getD 0 0).toNat+18446744073709551616*M6.val (a.drop 1):=by
  have:=M6.jM (a:=a) 0;rwa [cBE]at this
 have e1:(a.getD 0 0).toNat &&& (1:Int).toNat=(a.getD 0 0).toNat%2:=Nat.and_one_is_mod _;rw[e1];omega
theorem spec:jD E f45 aE iW sp:=by
 intro x h;have h:aP x:=h;have hl:=h.len;have hf:=fI.kS h.Db;have hn:=h.Hp;obtain⟨b,a,e⟩:=x;obtain⟨hw,he,h0,h1⟩:=h;refine(start b a e).trans ?_
 try dsimp only at *
 unfold sp
 try dsimp only
 rw[gP,hf,bWR,bF,aL,aL,iA,gP trivial]
 try dsimp only
 by_cases hz:a.length=0
 ·rw[cN,h0 ((M6.dY hn).1 hz)];rfl
 ·rw[bM,if_pos ⟨by omega,by omega⟩,aOZ hn (h1 (fun hv=>hz ((M6.dY hn).2 hv)))];rfl
def aJ:dO:=orc1 iW sp
theorem ok:OK 45 aJ:=(fA E aE (aA fI.ok (aA mB.ok aD)) func45).pU rfl spec
end lO
namespace Clone
def Nh:Go.Shelf.Ren:=⟨fun |41=>97 |n=>n,fun |22=>25 |23=>22 |4=>4 |n=>n,fun |n=>n⟩
theorem Fx:Go.Proofs.SlLaysE0.n41 prog Nh:={
 mixed:=by kernel_rfl
 f41:=⟨f97.name,by decide,func97.trans (congrArg some (by kernel_rfl))⟩
 t4:=Tryz.underlying4
 a4:=Tryz.isAgg4
 z4:=Tryz.sizeOf4
 v4:=Tryz.zeroValue4
 t22:=Tryz.underlying25
 a22:=Tryz.isAgg25
 z22:=Tryz.sizeOf25
 v22:=Tryz.zeroValue25 }
def sp(a:List Int):Prop×List D:=(a.length<=1099511627776,[.s (.ints .u64 a)])
section
open Go.Shelf Go.RowKit Go.Lib
set_option maxHeartbeats 2000000
set_option maxRecDepth 100000
theorem zero{P:Program}{ρ:Ren}(L:SlLaysE0.n41 P ρ)(i0:TypeInfo)(z:Value)(bytes:Nat)(hi:P.info? (ρ.t 23)=some i0)(aEJ:i0.zero=some z)(aXU:i0.size=1)(aPM:i0.bytes=bytes)(aCF:z.cells.size=1)
  (z23:∀w,(Go.sizeOf (ρ.t 23)).run P w=.ok 1 w) (a:Addr) (c:Nat) (w:World) :
  Calls P (ρ.f 41) #[.slice (some a) 0 c] w fun e w'=>∃v',e=.returned v'/\w'.ownsRow w.heap.size (ρ.t 23) 1 v' 0 []/\Below w.heap.size w w':=by
 have mixed:=L.mixed;have t4:=L.t4;have a4:=L.a4;have z4:=L.z4;have v4:=L.v4;have t22:=L.t22;have a22:=L.a22;have z22:=L.z22;have v22:=L.v22;have q22:∀(w:World) (a:Option Addr) (n c n' c':Nat),(binOp .eql (ρ.t 22) (.slice a n c) (.slice none n' c')).run P w=.ok (.bool a.isNone) w:=fun w a n c n' c'=>Lib.run_eql_slice_nil w _ _ a n c n' c' L.t22
 have u22:∀w,Sem.run P (underlying (ρ.t 22)) w=.ok (TypeDesc.slice (ρ.t 23)) w:=run_underlying t22;obtain⟨_,_,FG⟩:=L.f41
 go_enter FG,SlBodyN.n41_ntmps ρ
 go_wp2_with (at_builtin;refine wpList_append_own _ rfl _ _ (ρ.t 22) rfl w.heap.size (ρ.t 23) i0 z 1 bytes t22 hi aEJ aXU aPM aCF (by decide) _ _ _ rfl (World.ownsRow_made w #[] 0 (bUR _) (cAS _) (by simp)) a 0 c [] rfl rfl (by intro j u hj;simp at hj) (by intro u hu;cases hu) (by unfold maxLen;omega) (by omega) (by simp) ?_)
 intro v' w1 sO bBR bBB
 go_wp2
 go_ret
 exact⟨v',rfl,by simpa using sO,((Below.refl _ w).alloc (bUR _) _).grown bBR (by simp) (by intro k hk;simp[Value.ownBlock]at hk;omega)⟩
end
theorem aIR{X:Nat->Prop}{w:World}{base:Nat}{e:TypeId}{v:Value}{a:List Int}(hX:∀b,X b->b<base)(h:w.ownsRow base e 1 v a.length (a.map (Value.int .u64))):nT X w (.ints .u64 a) v:=by
 obtain⟨_,⟨rfl,h0⟩ |⟨g,cap,cur,rfl,hg,hb,hn,hm,hs,ht⟩⟩:=h
 ·have:a=[]:=List.length_eq_zero_iff.1 h0;subst this;exact⟨none,0,rfl,bUR _,fun i n hn=>by simp at hn⟩
 ·refine⟨some ⟨g,0,none⟩,cap,rfl,hn,fun i n hi=>⟨g,0,rfl,?_,fun hx=>?_,?_⟩⟩
  ·exact(Array.getElem?_eq_some_iff.1 hb).1
  ·have:=hX g hx;omega
  ·have jL:i<a.length:=(List.getElem?_eq_some_iff.1 hi).1;have e1:(cur.toList.take (a.length*1))[i]?=some (Value.int .u64 n):=by
    rw[ht,bUV,hi];rfl
   rw[List.getElem?_take,aW]at e1;simp only[World.cell?,hb,bUT];simpa using e1
theorem aOX{Y:Nat->Prop}{base:Nat}{w:World}{d:D}{v:Value}(hd:kB d=false)(h:lL Y w d v):Sw Y base w [d] [v]:=by
 refine⟨fun _=>0,rfl,fun i j d1 d2 h1 h2 o1 _ _=>?_,fun i d1 v1 h1 h2=>?_⟩
 ·have:d1=d:=by
   match i with
   |0=>simpa using h1.symm
   |i+1=>simp at h1
  rw[this,hd]at o1;cases o1
 ·have h3:d1=d/\v1=v:=by
   match i with
   |0=>exact⟨by simpa using h1.symm,by simpa using h2.symm⟩
   |i+1=>simp at h1
  obtain⟨rfl,rfl⟩:=h3;have e:(fun b=>Y b\/∃(j:Nat) (d':D),[d1][j]?=some d'/\kB d'=true/\(fun _:Nat=>0) j=b)=Y:=by
   funext b;refine propext ⟨fun hh=>?_,.inl⟩;rcases hh with hh |⟨j,d',h4,h5,_⟩
   ·exact hh
   ·match j with
    |0 =>
     have:d'=d1:=by simpa using h4.symm
     rw[this,hd]at h5;cases h5
    |j+1=>simp at h4
  rw[e];cases d1 with
  |own=>cases hd
  |_=>exact h
theorem aMB(a:List Int)(hl:a.length<=1099511627776):Contract prog base.glob 97 [(pI .u64).put a] [.s (.ints .u64 a)]:=by
 intro Y w vs hY hG hlen nY;obtain⟨v,rfl⟩:∃v,vs=[v]:=by
  match vs,hlen with
  | [v],_=>exact⟨v,rfl⟩
 obtain⟨A,c,rfl,hc,jO⟩:nT Y w (.ints .u64 a) v:=nY 0 _ _ rfl rfl;have t1:=rH gH _ rfl;obtain⟨i0,hi,hs,bCC,z,hz,Nl⟩:=t1.i;have z23:=fun w=>t1.run_sizeOf (w:=w)
 have fin:∀(e:Ending) (w':World),(∃v',e=.returned v'/\w'.ownsRow w.heap.size gH 1 v' a.length (a.map (Value.int .u64))/\RowKit.Below w.heap.size w w')->∃tI,e=.returned (resV tI)/\RowKit.Below w.heap.size w w'/\Sw Y w.heap.size w' [.s (.ints .u64 a)] tI:=by
  rintro e w' ⟨v',rfl,ho,hb⟩;exact⟨[v'],rfl,hb,aOX rfl (aIR hY ho)⟩
 have aCF:z.cells.size=1:=by
  have:=congrArg List.length Nl;simpa using this
 cases A with
 |none =>
  have ha:a=[]:=by
   cases a with
   |nil=>rfl
   |cons x r=>obtain⟨b,off,h1,_⟩:=jO 0 x rfl;cases h1
  subst ha;refine(AnyE.slices_Clone_nil Fx 0 c w).mono ?_;rintro e w' ⟨rfl,rfl⟩;exact fin _ _ ⟨_,rfl,⟨rfl,.inl ⟨rfl,rfl⟩⟩,RowKit.Below.refl _ _⟩
 |some ad =>
  cases a with
  |nil =>
   refine(zero Fx i0 z _ hi hz hs bCC aCF z23 ad c w).mono ?_;rintro e w' ⟨v',rfl,ho,hb⟩;exact fin _ _ ⟨v',rfl,ho,hb⟩
  |cons x r =>
   obtain⟨b,off,h1,_⟩:=jO 0 x rfl;cases h1;refine(AnyE.slices_Clone Fx i0 z 1 _ hi hz hs bCC aCF (by decide) z23 b off (x :: r).length c ((x :: r).map (Value.int .u64)) w (by simp) (by unfold maxLen;omega) (by show(x :: r).length*8<=_;omega) ?_ ?_).mono ?_
   ·intro j u hj;rw[bUV]at hj;obtain⟨n,hn,rfl⟩:=Option.map_eq_some_iff.1 hj;obtain⟨b',aZO,h2,_,_,h3⟩:=jO j n hn;cases h2;exact h3
   ·intro u hu;obtain⟨n,_,rfl⟩:=List.mem_map.1 hu;rfl
   ·rintro e w' ⟨v',rfl,ho,_,hb⟩;exact fin _ _ ⟨v',rfl,ho,hb⟩
theorem bIU:pK prog 97:=qJ func97 rfl rfl
def aJ:dO:=orc1 (pI .u64) sp
theorem ok:lA prog base.glob 97 aJ:=by
 intro ds g rs hd hg;unfold aJ orc1 at hd;split at hd
 ·split at hd
  ·rename_i x hx;have hd:=Option.some.inj hd;have e1:g=(sp x).1:=by rw[hd]
   have e2:rs=(sp x).2:=by rw[hd]
   subst e1;subst e2;exact⟨(aMB x hg).bFX ((pI .u64).le hx),bIU⟩
  ·cases hd
 ·cases hd
end Clone
namespace Et
def E:=mE [(97,Clone.aJ)] 10 [] [] []
def aE:=bd f47
theorem aX:Nk E aE:=nk
theorem start a b c:aH E f47 aE [D.agg [sc (bool a),ints u64 b,sc (int i64 c)]]=aO (b.length<=1099511627776) (some [D.agg [sc (bool a),ints u64 b,sc (int i64 c)]]):=eJ aX
def sp(x:gB):Prop×List D:=(x.2.1.length<=1099511627776,[.agg [.sc (.bool x.1),.ints .u64 x.2.1,.sc (.int .i64 x.2.2)]])
theorem spec:jD E f47 aE iW sp:=fun x h=>(start x.1 x.2.1 x.2.2).trans (gP h)
def aJ:dO:=orc1 iW sp
theorem ok:OK 47 aJ:=(fA E aE (aA Clone.ok aD) func47).pU rfl spec
end Et
namespace Ah
def E:=mE [] 21 [] [(2,[0,3])] []
def aE:=bd f147
theorem aX:Nk E aE:=nk
def L2 a b:=sJ E f147 aE 2 [iK a,cK b]
theorem start a:aH E f147 aE [D.s (ints u64 a)]=Ah.L2 a (a.length:Int):=eJ aX
theorem lN a b:L2 a b=letI B:=(a.length:Int);letI A:=ints u64 (List.drop 0 (List.take b.toNat a));aB (decide (0<b)) (if 0<=i64.wrap (b-1)/\i64.wrap (b-1)<B then aB (a.getD (i64.wrap (b-1)).toNat 0==(0:Int)) (Ah.L2 a (i64.wrap (b-1))) (if(0:Int)<=(0:Int)/\0<=b/\b<=B then some [D.s A]else none)else none) (if(0:Int)<=(0:Int)/\0<=b/\b<=B then some [D.s A]else none):=lJ aX
def sp(a:List Int):Prop×List D:=(M6.cZ a/\a.length<=1099511627776,[.s (.ints .u64 (M6.dg (M6.val a)))])
theorem L{xs:List Int}(hd:M6.cZ xs)(hl:xs.length<=4398046511104):∀n:Nat,n<=xs.length->L2 xs n=some [D.s (.ints .u64 (M6.dg (M6.val (xs.take n))))]
 |0,h=>by
  rw[lN,aL,aW];simp[M6.val,M6.cF]
 |n+1,h=>by
  rw[lN];have e:i64.wrap (((n+1:Nat):Int)-1)=(n:Int):=by rw[wrap_i64];omega
  rw[e,aQ,aW,bYO]
  by_cases hz:xs.getD n 0=0
  ·rw[cN hz,L hd hl n (by omega),M6.mK (by omega),hz];simp
  ·rw[bM hz,aW,bYO,cBE];have:M6.cR (xs.take (n+1)):=M6.Fo (hd.take _) fun d hg=>by
    rw[M6.getLast_take (by omega)]at hg;cases hg;exact hz
   rw[<-this]
theorem spec:jD E f147 aE (pI .u64) sp:=by
 rintro a ⟨hd,hl⟩;refine(start a).trans ?_;rw[L hd (by omega) a.length (bUR _),cBD];rfl
def aJ:dO:=orc1 (pI .u64) sp
theorem ok:OK 147 aJ:=(fA E aE aD func147).pU rfl spec
end Ah
namespace cP
def E:=mE [(147,Ah.aJ)] 10 [5] [] []
def aE:=bd f145
theorem aX:Nk E aE:=nk
theorem start a:aH E f145 aE [D.s (ints u64 a)]=aO (M6.cZ a/\a.length<=1099511627776) (aB (decide (8192<(↑(M6.dg (M6.val a)).length:Int))) (some [D.s (sc (slice none 0 0)),D.s (sc (int i64 5))]) (some [D.s (ints u64 (M6.dg (M6.val a))),D.s (sc (int i64 0))])):=eJ aX
def mL(n:Nat):Bool:=decide ((M6.dg n).length<=8192)
def sp(a:List Int):Prop×List D:=(M6.cZ a/\a.length<=1099511627776,[.s (.ints .u64 (bif mL (M6.val a)then M6.dg (M6.val a)else [])),.s (.sc (.int .i64 (bif mL (M6.val a)then 0 else 5)))])
theorem spec:aMO E f145 aE (pI .u64) sp:=by
 intro a h;have hl:=M6.tQ h.1;have h2:=h.2;have e:=(start a).trans (gP h);unfold sp mL;simp only
 by_cases hc:(M6.dg (M6.val a)).length<=8192
 ·rw[aL]at e;rw[decide_eq_true hc];exact⟨_,e,iE.refl _⟩
 ·rw[aQ]at e;rw[decide_eq_false hc];exact⟨_,e,.cons (yQ.nil _) (iE.refl _)⟩
def aJ:dO:=orc1 (pI .u64) sp
theorem ok:OK 145 aJ:=(fA E aE (aA Ah.ok aD) func145).aYX rfl spec
end cP
namespace Am
def aRQ:ByteArray:=⟨((bWE 256).map fun n=>UInt8.ofNat (bl n)).toArray⟩
def E:=mE [] 25 [] [(4,[0,2]),(7,[0,2])] [4,7]
def aE:=bd f137
theorem aX:Nk E aE:=nk
def J4 a b:=mT E f137 aE 4 [dG a,cK b]
def J7 a b:=mT E f137 aE 7 [dG a,cK b]
theorem start a:aH E f137 aE [D.s (sc (int u64 a))]=aB (decide (4294967296<=a)) (Am.J4 (a/4294967296) 32) (Am.J4 a 0):=eJ aX
theorem Hn a b:J4 a b=aB (decide (65536<=a)) (Am.J7 (a/65536) (i64.wrap (b+16))) (Am.J7 a b):=cJ aX
theorem Mr a b:J7 a b=aB (decide (256<=a)) (if 0<=u8.wrap (a/256)/\u8.wrap (a/256)<256 then some [D.s (sc (int i64 (i64.wrap (i64.wrap (b+8)+i64.wrap (Ha aRQ (u8.wrap (a/256)))))))]else none) (if 0<=u8.wrap a/\u8.wrap a<256 then some [D.s (sc (int i64 (i64.wrap (b+i64.wrap (Ha aRQ (u8.wrap a))))))]else none):=cJ aX
theorem Qn:(bWE 256).all (fun n=>Ha aRQ (n:Nat)==(bl n:Nat))=true:=by kernel_rfl
theorem Qm{x:Int}(h:0<=x)(h':x<256):Ha aRQ x=(bl x.toNat:Nat):=by
 have:=List.all_eq_true.1 Qn x.toNat (List.mem_range.2 (by omega));rw[show((x.toNat:Nat):Int)=x from by omega]at this;exact eq_of_beq this
theorem wrap_u8{x:Int}(h:0<=x)(h':x<256):u8.wrap x=x:=by
 show(if(false&&decide (x%256>=128))=true then x%256-256 else x%256)=x;rw[Int.emod_eq_of_lt h h'];simp
theorem uR{x:Int}{k:Nat}(h:(2:Int)^k<=x):bl x.toNat=k+bl (x/2^k).toNat:=by
 have hp:(0:Int)<2^k:=Int.pow_pos (by omega);have bQN:((2^k:Nat):Int)=2^k:=by rw[Int.natCast_pow];rfl
 obtain⟨n,rfl⟩:=bZV (show 0<=x by omega);rw[<-bQN]at h ⊢;rw[<-cAM,bYO,bYO];have h1:=bZX n (2^k);have h2:=bWZ n (bXR (n:=k) (show 0<2 by omega));have h3:n/2^k≠0:=by
  intro h0;have:=(Nat.div_eq_zero_iff_lt (bXR (n:=k) (show 0<2 by omega))).1 h0;omega
 have:=Gm h2 h3;rw[show n%2^k+2^k*(n/2^k)=n from by omega]at this;exact this
theorem bNQ{x n:Int}(h:0<=x)(h':x<65536)(hn:0<=n)(aEP:n<=1000):J7 x n=some [D.s (.sc (.int .i64 (n+(bl x.toNat:Nat))))]:=by
 rw[Mr]
 by_cases hc:256<=x
 ·have hb:bl (x/256).toNat<=8:=dA.2 (by omega);have hs:=uR (x:=x) (k:=8) (by omega);rw[show((2:Int)^8)=256 from rfl]at hs;rw[aQ hc,wrap_u8 (by omega) (by omega),if_pos ⟨by omega,by omega⟩,Qm (by omega) (by omega),wrap_i64 (n:=n+8),wrap_i64 (n:=((bl (x/256).toNat:Nat):Int)) (by omega) (by omega),wrap_i64,hs];congr 5;omega
 ·have hb:bl x.toNat<=8:=dA.2 (by omega);rw[aL hc,wrap_u8 (by omega) (by omega),if_pos ⟨by omega,by omega⟩,Qm (by omega) (by omega),wrap_i64 (n:=(bl x.toNat:Int)),wrap_i64]
theorem bNS{x n:Int}(h:0<=x)(h':x<4294967296)(hn:0<=n)(aEP:n<=500):J4 x n=some [D.s (.sc (.int .i64 (n+(bl x.toNat:Nat))))]:=by
 rw[Hn]
 by_cases hc:65536<=x
 ·have hs:=uR (x:=x) (k:=16) (by omega);rw[show((2:Int)^16)=65536 from rfl]at hs;rw[aQ hc,wrap_i64 (n:=n+16),bNQ (by omega) (by omega) (by omega) (by omega),hs];congr 5;omega
 ·rw[aL hc,bNQ (by omega) (by omega) (by omega) (by omega)]
def sp(a:Int):Prop×List D:=(0<=a/\a<18446744073709551616,[.s (.sc (.int .i64 (bl a.toNat:Nat)))])
theorem spec:jD E f137 aE (pN .u64) sp:=by
 rintro a ⟨h1,h2⟩;refine(start a).trans ?_;show _=some [D.s (.sc (.int .i64 (bl a.toNat:Nat)))]
 by_cases hc:4294967296<=a
 ·have hs:=uR (x:=a) (k:=32) (by omega);rw[show((2:Int)^32)=4294967296 from rfl]at hs;rw[aQ hc,bNS (by omega) (by omega) (by omega) (by omega),hs];congr 5
 ·rw[aL hc,bNS (by omega) (by omega) (by omega) (by omega)];congr 5;omega
def aJ:dO:=orc1 (pN .u64) sp
theorem ok:OK 137 aJ:=(fA E aE aD func137).pU rfl spec
end Am
namespace rU
def E:=mE [(147,Ah.aJ),(137,Am.aJ)] 21 [] [] []
def aE:=bd f106
theorem aX:Nk E aE:=nk
theorem start a:aH E f106 aE [D.s (ints u64 a)]=letI B:=M6.dg (M6.val a);letI A:=(B.length:Int);letI C:=A-(1:Int);letI F:=i64.wrap C;aO (M6.cZ a/\a.length<=1099511627776) (aB (A==(0:Int)) (some [D.s (sc (int i64 0))]) (if 0<=i64.wrap C/\i64.wrap C<A then aO (0<=B.getD F.toNat 0/\B.getD F.toNat 0<(18446744073709551616:Int)) (some [D.s (sc (int i64 (i64.wrap (i64.wrap ((64:Int)*i64.wrap C)+(↑(bl (B.getD F.toNat 0).toNat):Int)))))])else none)):=eJ aX
def sp(a:List Int):Prop×List D:=(M6.cZ a/\a.length<=1099511627776,[.s (.sc (.int .i64 (bl (M6.val a):Nat)))])
theorem Ov(k:Nat):18446744073709551616^k=2^(64*k):=by rw[cBB]
theorem spec:jD E f106 aE (pI .u64) sp:=by
 intro a h;refine(start a).trans ((gP h).trans ?_);show _=some [D.s (.sc (.int .i64 (bl (M6.val a):Nat)))];have hl:=M6.tQ h.1;have h2:=h.2;have hn:=M6.aY (M6.val a);have hv:=M6.bN (M6.val a);generalize M6.dg (M6.val a)=d at *;rw[<-hv]
 by_cases hz:d.length=0
 ·rw[cN,(M6.dY hn).1 hz];rfl
 ·have hd:=hn.kU.get (d.length-1);have hv:=M6.dP (a:=d) (d.length-1);rw[show d.length-1+1=d.length from by omega,M6.dR (bUR _)]at hv;have ht:d.getD (d.length-1) 0≠0:=by
   have:=M6.getLast_take (a:=d) (n:=d.length-1) (by omega);rw[show d.length-1+1=d.length from by omega,cBD]at this;exact hn.top this
  have hb:bl (d.getD (d.length-1) 0).toNat<=64:=dA.2 (by omega);have e:((d.length:Int)-1).toNat=d.length-1:=by omega
  rw[bM,wrap_i64 (n:=(d.length:Int)-1),aW,e,gP hd,wrap_i64 (n:=64*((d.length:Int)-1)),wrap_i64,
   hv,Ov,Gm (by rw[<-Ov];exact M6.iL hn.kU _) (by omega)]
  congr 5;omega
def aJ:dO:=orc1 (pI .u64) sp
theorem ok:OK 106 aJ:=(fA E aE (aA Ah.ok (aA Am.ok aD)) func106).pU rfl spec
end rU
namespace kJ
def E:=mE [(144,gM.aJ),(145,cP.aJ),(106,rU.aJ)] 71 [68] [(12,[0,6,7,8,34,35])] []
def aE:=bd f98
theorem aX:Nk E aE:=nk
def aYU a b c (d:Nat) (e:List Int) f g:=sJ E f98 aE 12 [iK a,cK b,cK c,Ce 3 d 22 e,cK f,cK g]
theorem start a b:aH E f98 aE [D.s (ints u64 a),D.s (sc (int i64 b))]=letI C:=(a.length:Int);letI B:=sc (slice none 0 0);letI A:=i64.wrap (i64.wrap (b.tdiv 64)+C)+1;aB (decide (b<0)) (some [D.s B,D.s (sc (int i64 1))]) (aO (a.length<=1099511627776) (aB (!gM.oN a) (some [D.s B,D.s (sc (int i64 2))]) (aB (C==(0:Int)) (some [D.s B,D.s (sc (int i64 0))]) (aO (M6.cZ a/\a.length<=1099511627776) (aB (decide (i64.wrap ((524288:Int)-(↑(bl (M6.val a)):Int))<b)) (some [D.s B,D.s (sc (int i64 5))]) (if 0<=i64.wrap A/\i64.wrap A<=i64.wrap A/\i64.wrap A<=8796093022208 then kJ.aYU a (i64.wrap (b.tdiv 64)) (b.tmod 64) (i64.wrap A).toNat (bWU (i64.wrap A).toNat (0:Int)) C 0 else none)))))):=eJ aX
theorem aNA a b c d e f g:aYU a b c d e f g=letI A:=i64.wrap (b+g)+1;aB (decide (g<f)) (if 0<=i64.wrap (b+g)/\i64.wrap (b+g)<(d:Int)then if 0<=g/\g<(a.length:Int)then if c<0 then none else if 0<=i64.wrap (b+g)/\i64.wrap (b+g)<(d:Int)then if 0<=g/\g<(a.length:Int)then if i64.wrap ((63:Int)-c)<0 then none else if 0<=i64.wrap A/\i64.wrap A<(d:Int)then kJ.aYU a b c d ((e.set (i64.wrap (b+g)).toNat (fY BinOp.or u64 (e.getD (i64.wrap (b+g)).toNat 0) (u64.wrap (a.getD g.toNat 0*(↑((2:Nat)^min c.toNat 64):Int))))).set (i64.wrap A).toNat (a.getD g.toNat 0/(2:Int)/(↑((2:Nat)^min (i64.wrap ((63:Int)-c)).toNat 64):Int))) f (i64.wrap (g+1))else none else none else none else none else none) (aO (M6.cZ e/\e.length<=1099511627776) (some [D.s (ints u64 (bif cP.mL (M6.val e)then M6.dg (M6.val e)else [])),D.s (sc (int i64 (bif cP.mL (M6.val e)then(0:Int)else(5:Int))))])):=lJ aX
theorem step{a P:List Int}{c:Int}{q k i r:Nat}(ha:M6.cZ a)(hP:P.length=q+i)(hi:i<a.length)(hl:a.length<=8192)(hq:q<=8192)(hk:k<64)(h0:0<=c)(h1:c<((2^k:Nat):Int))(hr:i+(r+1)=a.length) :
  aYU a q k (q+a.length+1) (P ++ c :: bWU (r+1) 0) a.length i =
   aYU a q k (q+a.length+1) ((P ++ [c+(((a.getD i 0).toNat*2^k%18446744073709551616:Nat):Int)]) ++ (((a.getD i 0).toNat/2^(64-k):Nat):Int) :: bWU r 0) a.length ((i+1:Nat):Int):=by
 have g:=ha.get i;have w1:i64.wrap ((q:Int)+i)=((q+i:Nat):Int):=by rw[wrap_i64];omega
 have w2:i64.wrap (((q+i:Nat):Int)+1)=((q+i+1:Nat):Int):=by rw[wrap_i64];omega
 have w3:i64.wrap (63-(k:Int))=((63-k:Nat):Int):=by rw[wrap_i64];omega
 have m1:min k 64=k:=by omega
 have m2:min (63-k) 64=63-k:=by omega
 have bAR:2^k<2^64:=cCA (by omega) hk;obtain⟨x,hx⟩:=bZV g.1;rw[aNA,aQ,w1,if_pos ⟨by omega,by omega⟩,if_pos ⟨by omega,by omega⟩,aU,if_pos ⟨by omega,by omega⟩,if_pos ⟨by omega,by omega⟩,w3,aU,w2,if_pos ⟨by omega,by omega⟩,
  bYO,bYO,bYO,bYO,bYO,m1,m2,Gb hP,Fe hP,wrap_i64 (n:=(i:Int)+1),hx,bYO]
 have Yw:u64.wrap ((x:Int)*((2^k:Nat):Int))=((x*2^k%18446744073709551616:Nat):Int):=by
  rw[fK,<-cAN,cCB];rfl
 have jL:x*2^k%18446744073709551616<18446744073709551616:=bWZ _ (by omega);have bAV:fY .or .u64 c ((x*2^k%18446744073709551616:Nat):Int)=c+((x*2^k%18446744073709551616:Nat):Int):=by
  rw[Uk h0 (by generalize 2^k=p at *;omega) (by omega) (by omega),bYO,Ic x k hk,Fm (by omega)];omega
 have Xi:(x:Int)/2/((2^(63-k):Nat):Int)=((x/2^(64-k):Nat):Int):=by
  have e:2^(64-k)=2*2^(63-k):=by rw[show 64-k=(63-k)+1 from by omega,bZQ,bZP]
  rw[e,<-cAL,cAM,cAM];rfl
 rw[Yw,bAV,Xi];have hs:=Fe (pre:=P ++ [c+((x*2^k%18446744073709551616:Nat):Int)]) (i:=q+i+1) (by simp[hP]) 0 ((x/2^(64-k):Nat):Int) (bWU r 0);rw[bWM,cBF,<-bZZ]at hs;rw[hs];rfl
theorem L{a:List Int}{q k:Nat}(ha:M6.cR a)(hl:a.length<=8192)(hq:q<=8192)(hk:k<64)(Na:cP.mL (M6.val a*2^k*18446744073709551616^q)=true):∀(r i:Nat) (P:List Int) (c:Int),i+r=a.length->P.length=q+i->M6.cZ P->0<=c->c<((2^k:Nat):Int) ->
  M6.val P+18446744073709551616^(q+i)*c.toNat=18446744073709551616^q*(M6.val (a.take i)*2^k) ->
  aYU a q k (q+a.length+1) (P ++ c :: bWU r 0) a.length i=some [D.s (.ints .u64 (M6.dg (M6.val a*2^k*18446744073709551616^q))),D.s (.sc (.int .i64 0))]:=by
 intro r;have bAR:2^k<2^64:=cCA (by omega) hk
 induction r with
 |zero =>
  intro i P c hi hP hd h0 h1 hv;have Yr:M6.val (P ++ c :: bWU 0 0)=M6.val a*2^k*18446744073709551616^q:=by
   rw[cAX,M6.nU,hP,hv,M6.dR (by omega),bZP]
  have aSQ:M6.cZ (P ++ c :: bWU 0 0):=by
   rw[cAX];exact M6.nZ hd ⟨h0,by generalize 2^k=p at *;omega⟩
  rw[aNA,aL,gP ⟨aSQ,by simp;omega⟩,Yr,Na];rfl
 |succ r ih =>
  intro i P c hi hP hd h0 h1 hv;have g:=ha.kU.get i;rw[step ha.kU hP (by omega) hl hq hk h0 h1 (by omega)];have jL:(a.getD i 0).toNat*2^k%18446744073709551616<18446744073709551616:=bWZ _ (by omega);have Yv:=Ic (a.getD i 0).toNat k hk;have aUP:=Fb (a.getD i 0).toNat k hk;have Xi:(a.getD i 0).toNat/2^(64-k)<2^k:=by
   apply cAJ;rw[<-bZS,show 64-k+k=64 from by omega];omega
  have aPN:c.toNat+(a.getD i 0).toNat*2^k%18446744073709551616<18446744073709551616:=by
   rw[Yv];have hm:(a.getD i 0).toNat%2^(64-k)<2^(64-k):=bWZ _ (cY);have e:(18446744073709551616:Nat)=2^k*2^(64-k):=by rw[<-bZS,show k+(64-k)=64 from by omega]
   have h3:2^k*((a.getD i 0).toNat%2^(64-k)+1)<=2^k*2^(64-k):=bXF _ hm;rw[<-e,bZR]at h3;omega
  refine ih (i+1) _ _ (by omega) (by simp[hP];omega) (M6.nZ hd ⟨by omega,by omega⟩) (by omega) (by omega) ?_;rw[M6.nU,hP,M6.dP,bYO,show q+(i+1)=(q+i)+1 from by omega,bZQ,bZT];have e1:(c+(((a.getD i 0).toNat*2^k%18446744073709551616:Nat):Int)).toNat=c.toNat+(a.getD i 0).toNat*2^k%18446744073709551616:=by omega
  rw[e1];have e2:18446744073709551616^(q+i)*(c.toNat+(a.getD i 0).toNat*2^k%18446744073709551616)+18446744073709551616^(q+i)*(18446744073709551616*((a.getD i 0).toNat/2^(64-k)))=18446744073709551616^(q+i)*c.toNat+18446744073709551616^(q+i)*((a.getD i 0).toNat*2^k):=by
   rw[<-bZR,<-bZR];congr 1;omega
  have e3:18446744073709551616^q*((M6.val (a.take i)+18446744073709551616^i*(a.getD i 0).toNat)*2^k)=18446744073709551616^q*(M6.val (a.take i)*2^k)+18446744073709551616^(q+i)*((a.getD i 0).toNat*2^k):=by
   rw[Nat.add_mul,bZR,bZS,bZT,bZT]
  rw[e3];omega
def jK(n k:Nat):Bool:=decide (n=0)||decide (bl n+k<=524288)
def sp(a:List Int)(n:Int):Prop×List D:=(M6.cR a/\a.length<=8192/\0<=n/\n<4611686018427387904,[.s (.ints .u64 (bif jK (M6.val a) n.toNat then M6.dg (M6.val a*2^n.toNat)else [])),.s (.sc (.int .i64 (bif jK (M6.val a) n.toNat then 0 else 5)))])
theorem spec:Oe E f98 aE (pI .u64) (pN .i64) sp:=by
 rintro a n ⟨ha,hl,h0,h1⟩;have e:=start a n;have hb:=xU ha.kU hl;rw[aL,gP,gM.nL ha hl,bWR,bF]at e;unfold sp jK;simp only
 by_cases hz:a.length=0
 ·have hv:=(M6.dY ha).1 hz;rw[cN]at e;rw[hv,Nat.zero_mul,M6.cF,decide_eq_true rfl,cAB];exact⟨_,e,.cons (yQ.nil _) (iE.refl _)⟩
 ·have hv:M6.val a≠0:=fun h=>hz ((M6.dY ha).2 h)
  rw[bM,gP ⟨ha.kU,by omega⟩,wrap_i64 (n:=524288-(bl (M6.val a):Int))]at e;rw[decide_eq_false hv,bWS]
  by_cases hc:bl (M6.val a)+n.toNat<=524288
  ·have bMQ:=pA hv;have eq:n/64=((n.toNat/64:Nat):Int):=by omega
   have ek:n%64=((n.toNat%64:Nat):Int):=by omega
   rw[aL,aHS h0,aHO h0,wrap_i64 (n:=n/64),wrap_i64 (n:=n/64+a.length),wrap_i64,if_pos ⟨by omega,by omega,by omega⟩,eq,ek,
    show(((n.toNat/64:Nat):Int)+(a.length:Int)+1).toNat=n.toNat/64+a.length+1 from by omega]at e
   have hval:M6.val a*2^n.toNat=M6.val a*2^(n.toNat%64)*18446744073709551616^(n.toNat/64):=by
    rw[Kc,bZT,bZP (2^(n.toNat%64))]
   have Na:cP.mL (M6.val a*2^(n.toNat%64)*18446744073709551616^(n.toNat/64))=true:=by
    rw[<-hval];exact decide_eq_true (fM (k:=8192) (by rw[bZP,xT hv];omega))
   have:=L (q:=n.toNat/64) (k:=n.toNat%64) ha hl (by omega) (by omega) Na a.length 0 (bWU (n.toNat/64) 0) 0 (by omega) (by simp) (M6.kY _) (by omega) (by have:=bXR (n:=n.toNat%64) (show 0<2 by omega);omega) (by rw[M6.jU];simp[M6.val]);rw[show(bWU (n.toNat/64) (0:Int) ++ 0 :: bWU a.length 0)=bWU (n.toNat/64+a.length+1) 0 from by rw[<-bZZ,List.replicate_append_replicate,bYI]]at this;rw[decide_eq_true hc,hval];exact⟨_,e.trans this,iE.refl _⟩
  ·rw[aQ]at e;rw[decide_eq_false hc];exact⟨_,e,.cons (yQ.nil _) (iE.refl _)⟩
def aJ:dO:=orc2 (pI .u64) (pN .i64) sp
theorem ok:OK 98 aJ:=(fA E aE (aA gM.ok (aA cP.ok (aA rU.ok aD))) func98).aNH rfl spec
end kJ
namespace Cy
def E:=mE [] 13 [] [] []
def aE:=bd f105
theorem aX:Nk E aE:=nk
theorem start a b:aH E f105 aE [D.s (sc (bool a)),D.s (ints u64 b)]=aB a (some [D.agg [sc (bool (decide (0<(b.length:Int)))),ints u64 b]]) (some [D.agg [sc (bool false),ints u64 b]]):=eJ aX
def sp(a:Bool)(b:List Int):Prop×List D:=(M6.cR b/\b.length<=1099511627776,[wD (zs a (M6.val b))])
theorem spec:gU E f105 aE pB (pI .u64) sp:=by
 rintro a b ⟨hb,hl⟩;refine(start a b).trans ?_;show _=some [wD (zs a (M6.val b))];rw[aYZ,<-hb];cases a with
 |false=>rfl
 |true =>
  rw[bT,bXT];have:=M6.dY hb
  by_cases hz:b.length=0
  ·rw[decide_eq_false (show ¬(0<(b.length:Int)) by omega),decide_eq_false (show ¬(M6.val b≠0)from fun h=>h (this.1 hz))]
  ·rw[decide_eq_true (show(0<(b.length:Int)) by omega),decide_eq_true (show(M6.val b≠0)from fun h=>hz (this.2 h))]
def aJ:dO:=orc2 pB (pI .u64) sp
theorem ok:OK 105 aJ:=(fA E aE aD func105).mV rfl spec
end Cy
namespace Ak
def E:=mE [(105,Cy.aJ)] 15 [] [] []
def aE:=bd f99
theorem aX:Nk E aE:=nk
theorem start a b c:aH E f99 aE [D.s (sc (bool a)),D.s (ints u64 b),D.s (sc (int i64 c))]=aB (c !=0) (some [D.agg [sc (bool false),sc (slice none 0 0)],D.s (sc (int i64 c))]) (aO (M6.cR b/\b.length<=1099511627776) (some [D.agg [sc (bool (isNeg (zs a (M6.val b)))),ints u64 (M6.dg (zs a (M6.val b)).natAbs)],D.s (sc (int i64 0))])):=eJ aX
def sp(a:Bool)(b:List Int)(c:Int):Prop×List D:=(M6.cR b/\b.length<=1099511627776,[wD (bif c==0 then zs a (M6.val b)else 0),.s (.sc (.int .i64 c))])
theorem spec:aWV E f99 aE pB (pI .u64) (pN .i64) sp:=by
 intro a b c h;have e:=start a b c;have hg:M6.cR b/\b.length<=1099511627776:=h;unfold sp;simp only
 by_cases hc:c=0
 ·subst hc;rw[gE rfl,gP hg]at e;exact⟨_,e,iE.refl _⟩
 ·rw[oI hc]at e;rw[beq_eq_false_iff_ne.2 hc,cond_false];refine⟨_,e,.cons ?_ (iE.refl _)⟩;unfold wD;rw[show(0:Int).natAbs=0 from rfl,M6.cF];exact yQ.agg (.cons (Cu.refl _) (.cons (Cu.nil _) .nil))
def aJ:dO:=orc3 pB (pI .u64) (pN .i64) sp
theorem ok:OK 99 aJ:=(fA E aE (aA Cy.ok aD) func99).bFG rfl spec
end Ak
namespace Al
def E:=mE [(96,fI.aJ),(98,kJ.aJ),(99,Ak.aJ)] 29 [26] [] []
def aE:=bd f48
theorem aX:Nk E aE:=nk
theorem start a c b:aH E f48 aE [D.agg [sc (bool a),ints u64 c],D.s (sc (int i64 b))]=letI B:=bif kJ.jK (M6.val c) b.toNat then(0:Int)else(5:Int);letI A:=bif kJ.jK (M6.val c) b.toNat then M6.dg (M6.val c*(2:Nat)^b.toNat)else [];letI C:=bif B==0 then zs a (M6.val A)else(0:Int);aB (decide (b<0)) (some [D.agg [sc (bool false),sc (slice none 0 0)],D.s (sc (int i64 1))]) (aO (c.length<=1099511627776) (aB (!fI.nP (a,c)) (some [D.agg [sc (bool false),sc (slice none 0 0)],D.s (sc (int i64 2))]) (aO (M6.cR c/\c.length<=8192/\0<=b/\b<4611686018427387904) (aO (M6.cR A/\A.length<=1099511627776) (some [D.agg [sc (bool (isNeg C)),ints u64 (M6.dg C.natAbs)],D.s (sc (int i64 B))]))))):=eJ aX
theorem Ie(n k:Nat):kJ.jK n k=fit (n*2^k):=by
 unfold kJ.jK fit
 by_cases h:n=0
 ·subst h;rw[Nat.zero_mul];rfl
 ·rw[decide_eq_false h,bWS,bZP,xT h,cAQ]
def sp(x:Bool×List Int)(n:Int):Prop×List D:=(gI x/\0<=n/\n<4611686018427387904,wE (fit (M6.val x.2*2^n.toNat)) (wv x*((2^n.toNat:Nat):Int)))
theorem spec:gU E f48 aE oD (pN .i64) sp:=by
 rintro x n ⟨hx,h0,h1⟩;refine(start x.1 x.2 n).trans ?_;have l1:=hx.len;have f1:=fI.kS hx;obtain⟨p,a⟩:=x;have n1:M6.cR a:=hx.1
 try dsimp only at *
 unfold sp
 try dsimp only
 have hs:wv (p,a)*((2^n.toNat:Nat):Int)=zs p (M6.val a*2^n.toNat):=by
  unfold wv zs;cases p with
  |true=>simp[Int.neg_mul]
  |false=>simp
 rw[aL,gP,f1,bWR,bF,gP ⟨n1,l1,h0,h1⟩,gP (Iv (fun h=>by rw[Ie]at h;exact xN h)),Ia,Ie,hs]
def aJ:dO:=orc2 oD (pN .i64) sp
theorem ok:OK 48 aJ:=(fA E aE (aA fI.ok (aA kJ.ok (aA Ak.ok aD))) func48).mV rfl spec
end Al
namespace uE
def E:=mE [(144,gM.aJ),(145,cP.aJ)] 65 [62] [(8,[0,1,6,7,30,31]),(3,[0,1]),(5,[0,1]),(13,[0,1,6,7,8,9,30,31])] [3,5,13]
def aE:=bd f100
theorem aX:Nk E aE:=nk
def J3 a b:=mT E f100 aE 3 [iK a,iK b]
def J5 a b:=mT E f100 aE 5 [iK a,iK b]
def L8 a b (c:Nat) (d:List Int) e f g:=sJ E f100 aE 8 [iK a,iK b,Ce 2 c 22 d,dG e,cK f,cK g]
def Qb a b (c:Nat) (d:List Int) e f g h i:=mT E f100 aE 13 [iK a,iK b,Ce 2 c 22 d,dG e,cK f,dG g,cK h,cK i]
theorem start a b:aH E f100 aE [D.s (ints u64 a),D.s (ints u64 b)]=letI A:=some [D.s (sc (slice none 0 0)),D.s (sc (int i64 2))];aO (a.length<=1099511627776) (aB (!gM.oN a) A (aO (b.length<=1099511627776) (aB (!gM.oN b) A (uE.J3 a b)))):=eJ aX
theorem iA a b:J3 a b=aB (decide ((a.length:Int)<(b.length:Int))) (uE.J5 b a) (uE.J5 a b):=cJ aX
theorem Wz a b:J5 a b=letI A:=(a.length:Int);letI B:=A+(1:Int);if 0<=i64.wrap B/\i64.wrap B<=i64.wrap B/\i64.wrap B<=8796093022208 then uE.L8 a b (i64.wrap B).toNat (bWU (i64.wrap B).toNat (0:Int)) 0 A 0 else none:=cJ aX
theorem Hm a b c d e f g:L8 a b c d e f g=letI B:=(a.length:Int);letI A:=d.set B.toNat e;aB (decide (g<f)) (aB (decide (g<(b.length:Int))) (if 0<=g/\g<(b.length:Int)then uE.Qb a b c d e g (b.getD g.toNat 0) f g else none) (uE.Qb a b c d e g 0 f g)) (if 0<=B/\B<(c:Int)then aO (M6.cZ A/\A.length<=1099511627776) (some [D.s (ints u64 (bif cP.mL (M6.val A)then M6.dg (M6.val A)else [])),D.s (sc (int i64 (bif cP.mL (M6.val A)then(0:Int)else(5:Int))))])else none):=lJ aX
theorem yD a b c d e f g h i:Qb a b c d e f g h i=letI A:=a.getD f.toNat 0+g+e;if 0<=f/\f<(a.length:Int)then aO (0<=a.getD f.toNat 0/\0<=g/\0<=e/\e<=1) (if 0<=f/\f<(c:Int)then uE.L8 a b c (d.set f.toNat (A%18446744073709551616)) (A/18446744073709551616) h (i64.wrap (i+1))else none)else none:=cJ aX
theorem step{a b pre:List Int}{c:Int}{i k:Nat}(ha:M6.cZ a)(hb:M6.cZ b)(hp:pre.length=i)(hi:i<a.length)(hl:a.length<=8192)(h0:0<=c)(h1:c<=1) :
  L8 a b (i+(k+1)) (pre ++ bWU (k+1) 0) c a.length i=L8 a b ((i+1)+k) ((pre ++ [(a.getD i 0+b.getD i 0+c)%18446744073709551616]) ++ bWU k 0) ((a.getD i 0+b.getD i 0+c)/18446744073709551616) a.length ((i+1:Nat):Int):=by
 have g1:=ha.get i;have g2:=hb.get i;have hJ:∀y:Int,0<=y->Qb a b (i+(k+1)) (pre ++ bWU (k+1) 0) c i y a.length i=L8 a b ((i+1)+k) ((pre ++ [(a.getD i 0+y+c)%18446744073709551616]) ++ bWU k 0) ((a.getD i 0+y+c)/18446744073709551616) a.length ((i+1:Nat):Int):=by
  intro y hy;rw[yD,aW,bYO,gP ⟨g1.1,hy,h0,h1⟩,aW,zA hp,wrap_i64,show i+(k+1)=(i+1)+k from by omega];rfl
 rw[Hm,aQ]
 by_cases h:i<b.length
 ·rw[aQ,aW,bYO,hJ _ g2.1]
 ·rw[aL,hJ 0 (by omega),M6.getD_none (a:=b) (by omega)]
theorem L{a b:List Int}(ha:M6.cZ a)(hb:M6.cZ b)(hl:a.length<=8192)(aSU:b.length<=a.length):∀(k i:Nat) (pre:List Int) (c:Int),i+k=a.length->pre.length=i->M6.cZ pre->0<=c->c<=1 ->
  M6.val pre+18446744073709551616^i*c.toNat=M6.val (a.take i)+M6.val (b.take i) ->
  L8 a b (i+(k+1)) (pre ++ bWU (k+1) 0) c a.length i=some [D.s (.ints .u64 (bif cP.mL (M6.val a+M6.val b)then M6.dg (M6.val a+M6.val b)else [])),D.s (.sc (.int .i64 (bif cP.mL (M6.val a+M6.val b)then 0 else 5)))]:=by
 intro k
 induction k with
 |zero =>
  intro i pre c hi hp hd h0 h1 hv;have bHY:i=a.length:=by omega
  subst bHY;have hs:(pre ++ bWU (0+1) 0).set a.length c=pre ++ [c]:=by rw[zA hp];simp
  have Yr:M6.val (pre ++ [c])=M6.val a+M6.val b:=by
   rw[M6.nU,hp,hv,M6.dR (bUR _),M6.dR (by omega)]
  rw[Hm,aL,aW,bYO,hs,Yr,gP ⟨M6.nZ hd (by omega),by simp;omega⟩]
 |succ k ih =>
  intro i pre c hi hp hd h0 h1 hv;have g1:=ha.get i;have g2:=hb.get i;rw[step ha hb hp (by omega) hl h0 h1];refine ih (i+1) _ _ (by omega) (by simp[hp]) (M6.nZ hd (by omega)) (by omega) (by omega) ?_;rw[M6.nU,M6.dP,M6.dP,hp,bZQ,bZT];generalize a.getD i 0=x at *;generalize b.getD i 0=y at *;generalize 18446744073709551616^i=B at *;have e:18446744073709551616*((x+y+c)/18446744073709551616).toNat+((x+y+c)%18446744073709551616).toNat=c.toNat+x.toNat+y.toNat:=by omega
  have e2:B*(18446744073709551616*((x+y+c)/18446744073709551616).toNat)+B*((x+y+c)%18446744073709551616).toNat=B*c.toNat+B*x.toNat+B*y.toNat:=by
   rw[<-bZR,e,bZR,bZR]
  omega
theorem bNR{a b:List Int}(ha:M6.cZ a)(hb:M6.cZ b)(hl:a.length<=8192)(aSU:b.length<=a.length):J5 a b=some [D.s (.ints .u64 (bif cP.mL (M6.val a+M6.val b)then M6.dg (M6.val a+M6.val b)else [])),D.s (.sc (.int .i64 (bif cP.mL (M6.val a+M6.val b)then 0 else 5)))]:=by
 rw[Wz,wrap_i64,if_pos ⟨by omega,by omega,by omega⟩,show((a.length:Int)+1).toNat=0+(a.length+1)from by omega];have:=L ha hb hl aSU a.length 0 [] 0 (by omega) rfl M6.oX (by omega) (by omega) (by simp[M6.val]);rw[bYU]at this;rw[show 0+(a.length+1)=a.length+1 from by omega]at this ⊢;exact this
def sp(a b:List Int):Prop×List D:=(M6.cR a/\M6.cR b/\a.length<=8192/\b.length<=8192,[.s (.ints .u64 (bif cP.mL (M6.val a+M6.val b)then M6.dg (M6.val a+M6.val b)else [])),.s (.sc (.int .i64 (bif cP.mL (M6.val a+M6.val b)then 0 else 5)))])
theorem spec:gU E f100 aE (pI .u64) (pI .u64) sp:=by
 rintro a b ⟨ha,hb,h1,h2⟩;refine(start a b).trans ?_;rw[gP,gP,gM.nL ha h1,gM.nL hb h2,bWR,bF,bF,iA]
 by_cases hl:a.length<b.length
 ·rw[aQ,bNR hb.kU ha.kU h2 (by omega),cAQ];rfl
 ·rw[aL,bNR ha.kU hb.kU h1 (by omega)];rfl
def aJ:dO:=orc2 (pI .u64) (pI .u64) sp
theorem ok:OK 100 aJ:=(fA E aE (aA gM.ok (aA cP.ok aD)) func100).mV rfl spec
end uE
namespace Aj
def E:=mE [(147,Ah.aJ)] 47 [] [(7,[5,6,7])] []
def aE:=bd f101
theorem aX:Nk E aE:=nk
def L7 a b c:=sJ E f101 aE 7 [iK a,iK b,cK c]
theorem start a b:aH E f101 aE [D.s (ints u64 a),D.s (ints u64 b)]=letI B:=M6.dg (M6.val b);letI A:=(↑(M6.dg (M6.val a)).length:Int);aO (M6.cZ a/\a.length<=1099511627776) (aO (M6.cZ b/\b.length<=1099511627776) (aB (A !=(B.length:Int)) (aB (decide (A<(B.length:Int))) (some [D.s (sc (int i64 (-1:Int)))]) (some [D.s (sc (int i64 1))])) (Aj.L7 (M6.dg (M6.val a)) B (i64.wrap (A-(1:Int)))))):=eJ aX
theorem wX a b c:L7 a b c=aB (decide (0<=c)) (if 0<=c/\c<(a.length:Int)then if 0<=c/\c<(b.length:Int)then aB (a.getD c.toNat 0 !=b.getD c.toNat 0) (if 0<=c/\c<(a.length:Int)then if 0<=c/\c<(b.length:Int)then aB (decide (a.getD c.toNat 0<b.getD c.toNat 0)) (some [D.s (sc (int i64 (-1:Int)))]) (some [D.s (sc (int i64 1))])else none else none) (Aj.L7 a b (i64.wrap (c-1)))else none else none) (some [D.s (sc (int i64 0))]):=lJ aX
def sp(a b:List Int):Prop×List D:=(M6.cZ a/\M6.cZ b/\a.length<=1099511627776/\b.length<=1099511627776,[.s (.sc (.int .i64 (lB (M6.val a) (M6.val b))))])
theorem L{a b:List Int}(ha:M6.cZ a)(hb:M6.cZ b)(hl:a.length=b.length)(hm:a.length<=4398046511104):∀n:Nat,n<=a.length->L7 a b ((n:Int)-1)=some [D.s (.sc (.int .i64 (lB (M6.val (a.take n)) (M6.val (b.take n)))))]
 |0,_=>by
  rw[wX,aL];simp[lB,M6.val]
 |n+1,h=>by
  have e:(((n+1:Nat):Int)-1)=(n:Int):=by omega
  rw[e,wX,aQ,aW,aW,aW,aW,bYO,wrap_i64,L ha hb hl hm n (by omega)];have h1:=ha.get n;have h2:=hb.get n;have l1:=M6.iL ha n;have l2:=M6.iL hb n;rw[M6.dP,M6.dP];generalize a.getD n 0=x at *;generalize b.getD n 0=y at *;generalize M6.val (a.take n)=u at *;generalize M6.val (b.take n)=v at *;generalize 18446744073709551616^n=B at *
  by_cases aUM:x<y
  ·rw[oI,aQ aUM];have:B*x.toNat+B<=B*y.toNat:=by
    have:B*(x.toNat+1)<=B*y.toNat:=bXF _ (by omega);rw[bZR]at this;omega
   unfold lB;rw[aW]
  ·by_cases hyx:y<x
   ·rw[oI,aL aUM];have:B*y.toNat+B<=B*x.toNat:=by
     have:B*(y.toNat+1)<=B*x.toNat:=bXF _ (by omega);rw[bZR]at this;omega
    unfold lB;rw[aU,aW]
   ·have:x=y:=by omega
    subst this;rw[gE rfl,aMC]
theorem spec:gU E f101 aE (pI .u64) (pI .u64) sp:=by
 rintro a b ⟨ha,hb,h1,h2⟩;refine(start a b).trans ?_;have la:=M6.tQ ha;have lb:=M6.tQ hb;rw[gP ⟨ha,h1⟩,gP ⟨hb,h2⟩];show _=some [D.s (.sc (.int .i64 (lB (M6.val a) (M6.val b))))];have na:=M6.aY (M6.val a);have nb:=M6.aY (M6.val b);have va:=M6.bN (M6.val a);have vb:=M6.bN (M6.val b);rw[<-va,<-vb];generalize M6.dg (M6.val a)=x at *;generalize M6.dg (M6.val b)=y at *;have e1:=M6.Iu na;have e2:=M6.Iu nb;rw[e1,e2]
 by_cases hl:x.length=y.length
 ·rw[gE,wrap_i64,L na.kU nb.kU hl (by omega) x.length (bUR _),M6.dR (bUR _),M6.dR (by omega)]
 ·rw[oI]
  by_cases jL:x.length<y.length
  ·have:=M6.uK na.kU nb jL;rw[aQ];unfold lB;rw[if_pos this]
  ·have:=M6.uK nb.kU na (by omega);rw[aL];unfold lB;rw[aU,if_pos this]
def aJ:dO:=orc2 (pI .u64) (pI .u64) sp
theorem ok:OK 101 aJ:=(fA E aE (aA Ah.ok aD) func101).mV rfl spec
end Aj
namespace uD
def E:=mE [(144,gM.aJ),(145,cP.aJ),(101,Aj.aJ)] 56 [53] [(8,[0,1,6,7,26,27]),(3,[0,1]),(13,[0,1,6,7,8,9,26,27])] [3,13]
def aE:=bd f102
theorem aX:Nk E aE:=nk
def J3 a b:=mT E f102 aE 3 [iK a,iK b]
def L8 a b (c:Nat) (d:List Int) e f g:=sJ E f102 aE 8 [iK a,iK b,Ce 2 c 22 d,dG e,cK f,cK g]
def Qb a b (c:Nat) (d:List Int) e f g h i:=mT E f102 aE 13 [iK a,iK b,Ce 2 c 22 d,dG e,cK f,dG g,cK h,cK i]
theorem start a b:aH E f102 aE [D.s (ints u64 a),D.s (ints u64 b)]=letI A:=some [D.s (sc (slice none 0 0)),D.s (sc (int i64 2))];aO (a.length<=1099511627776) (aB (!gM.oN a) A (aO (b.length<=1099511627776) (aB (!gM.oN b) A (uD.J3 a b)))):=eJ aX
theorem iA a b:J3 a b=letI A:=(a.length:Int);aO (M6.cZ a/\M6.cZ b/\a.length<=1099511627776/\b.length<=1099511627776) (aB (decide (lB (M6.val a) (M6.val b)<0)) (some [D.s (sc (slice none 0 0)),D.s (sc (int i64 3))]) (if 0<=A/\A<=A/\A<=(8796093022208:Int)then uD.L8 a b A.toNat (bWU A.toNat (0:Int)) 0 A 0 else none)):=cJ aX
theorem Hm a b c d e f g:L8 a b c d e f g=aB (decide (g<f)) (aB (decide (g<(b.length:Int))) (if 0<=g/\g<(b.length:Int)then uD.Qb a b c d e g (b.getD g.toNat 0) f g else none) (uD.Qb a b c d e g 0 f g)) (aO (M6.cZ d/\d.length<=1099511627776) (some [D.s (ints u64 (bif cP.mL (M6.val d)then M6.dg (M6.val d)else [])),D.s (sc (int i64 (bif cP.mL (M6.val d)then(0:Int)else(5:Int))))])):=lJ aX
theorem yD a b c d e f g h i:Qb a b c d e f g h i=if 0<=f/\f<(a.length:Int)then aO (0<=a.getD f.toNat 0/\0<=g/\g<18446744073709551616/\0<=e/\e<=1) (if 0<=f/\f<(c:Int)then uD.L8 a b c (d.set f.toNat ((a.getD f.toNat 0-g-e)%18446744073709551616)) (if a.getD f.toNat 0<g+e then(1:Int)else(0:Int)) h (i64.wrap (i+1))else none)else none:=cJ aX
theorem step{a b pre:List Int}{o:Int}{i k:Nat}(ha:M6.cZ a)(hb:M6.cZ b)(hp:pre.length=i)(hi:i<a.length)(hl:a.length<=8192)(h0:0<=o)(h1:o<=1) :
  L8 a b (i+(k+1)) (pre ++ bWU (k+1) 0) o a.length i=L8 a b ((i+1)+k) ((pre ++ [(a.getD i 0-b.getD i 0-o)%18446744073709551616]) ++ bWU k 0) (if a.getD i 0<b.getD i 0+o then 1 else 0) a.length ((i+1:Nat):Int):=by
 have g1:=ha.get i;have g2:=hb.get i;have hJ:∀y:Int,0<=y->y<18446744073709551616->Qb a b (i+(k+1)) (pre ++ bWU (k+1) 0) o i y a.length i=L8 a b ((i+1)+k) ((pre ++ [(a.getD i 0-y-o)%18446744073709551616]) ++ bWU k 0) (if a.getD i 0<y+o then 1 else 0) a.length ((i+1:Nat):Int):=by
  intro y hy bGN;rw[yD,aW,bYO,gP ⟨g1.1,hy,bGN,h0,h1⟩,aW,zA hp,wrap_i64,show i+(k+1)=(i+1)+k from by omega];rfl
 rw[Hm,aQ]
 by_cases h:i<b.length
 ·rw[aQ,aW,bYO,hJ _ g2.1 g2.2]
 ·rw[aL,hJ 0 (by omega) (by omega),M6.getD_none (a:=b) (by omega)]
theorem L{a b:List Int}(ha:M6.cZ a)(hb:M6.cZ b)(hl:a.length<=8192)(Tn:b.length<=a.length)(aSU:M6.val b<=M6.val a):∀(k i:Nat) (pre:List Int) (o:Int),i+k=a.length->pre.length=i->M6.cZ pre->0<=o->o<=1 ->
  M6.val pre+M6.val (b.take i)=M6.val (a.take i)+18446744073709551616^i*o.toNat ->
  L8 a b (i+k) (pre ++ bWU k 0) o a.length i=some [D.s (.ints .u64 (M6.dg (M6.val a-M6.val b))),D.s (.sc (.int .i64 0))]:=by
 intro k
 induction k with
 |zero =>
  intro i pre o hi hp hd h0 h1 hv;have bPN:=M6.dS hd;rw[hp]at bPN;rw[M6.dR (by omega),M6.dR (by omega)]at hv;have:o=0:=by
   by_cases ho:o=0
   ·exact ho
   ·exfalso;have:o=1:=by omega
    subst this;rw[show(1:Int).toNat=1 from rfl,Nat.mul_one]at hv;omega
  subst this;simp only[cCD,cBG,bVP]at hv;have hlen:=M6.tQ hd;have Na:cP.mL (M6.val pre)=true:=decide_eq_true (by omega);rw[Hm,aL,cAX,cAP,gP ⟨hd,by omega⟩,Na,cond_true,cond_true,show M6.val pre=M6.val a-M6.val b from by omega]
 |succ k ih =>
  intro i pre o hi hp hd h0 h1 hv;have g1:=ha.get i;have g2:=hb.get i;rw[step ha hb hp (by omega) hl h0 h1];refine ih (i+1) _ _ (by omega) (by simp[hp]) (M6.nZ hd (by omega)) (by split <;> omega) (by split <;> omega) ?_;rw[M6.nU,M6.dP,M6.dP,hp,bZQ,bZT];generalize a.getD i 0=x at *;generalize b.getD i 0=y at *;have e:((x-y-o)%18446744073709551616).toNat+y.toNat+o.toNat=x.toNat+18446744073709551616*(if x<y+o then 1 else 0:Int).toNat:=by split <;> omega
  generalize 18446744073709551616^i=B at *;have e2:=congrArg (B*·) e;simp only[bZR]at e2;omega
def sp(a b:List Int):Prop×List D:=(M6.cR a/\M6.cR b/\a.length<=8192/\b.length<=8192,[.s (.ints .u64 (M6.dg (M6.val a-M6.val b))),.s (.sc (.int .i64 (if M6.val a<M6.val b then 3 else 0)))])
theorem spec:Oe E f102 aE (pI .u64) (pI .u64) sp:=by
 rintro a b ⟨ha,hb,h1,h2⟩;have e:=start a b;rw[gP,gP,gM.nL ha h1,gM.nL hb h2,bWR,bF,bF,iA,gP ⟨ha.kU,hb.kU,by omega,by omega⟩]at e;unfold sp;simp only
 by_cases hc:M6.val a<M6.val b
 ·rw[aQ (by unfold lB;rw[if_pos hc];omega)]at e;rw[if_pos hc,show M6.val a-M6.val b=0 from by omega,M6.cF];exact⟨_,e,.cons (yQ.nil _) (iE.refl _)⟩
 ·have Tn:b.length<=a.length:=by
   rcases bVH a.length b.length with h |h
   ·have:=M6.uK ha.kU hb h;omega
   ·exact h
  have:=L ha.kU hb.kU h1 Tn (by omega) a.length 0 [] 0 (by omega) rfl M6.oX (by omega) (by omega) (by simp[M6.val]);rw[aL (by unfold lB;rw[if_neg hc];split <;> omega),if_pos ⟨by omega,by omega,by omega⟩,bYO]at e;rw[bYU,show 0+a.length=a.length from by omega]at this;rw[if_neg hc];exact⟨_,e.trans this,iE.refl _⟩
def aJ:dO:=orc2 (pI .u64) (pI .u64) sp
theorem ok:OK 102 aJ:=(fA E aE (aA gM.ok (aA cP.ok (aA Aj.ok aD))) func102).aNH rfl spec
end uD
namespace Es
def E:=mE [(96,fI.aJ),(100,uE.aJ),(101,Aj.aJ),(102,uD.aJ),(99,Ak.aJ)] 62 [36,59] [(3,[2,3,4]),(8,[2,3,4])] [3,8]
def aE:=bd f49
theorem aX:Nk E aE:=nk
def J3 a b c d e:=mT E f49 aE 3 [dK 0 27 [cU a,fU b],dK 1 27 [cU c,fU d],dK 2 27 [cU e,sc (slice none 0 0)]]
def J8 a b c d e:=mT E f49 aE 8 [dK 0 27 [cU a,fU b],dK 1 27 [cU c,fU d],dK 2 27 [cU e,sc (slice none 0 0)]]
theorem start a b c d:aH E f49 aE [D.agg [sc (bool a),ints u64 b],D.agg [sc (bool c),ints u64 d]]=letI A:=some [D.agg [sc (bool false),sc (slice none 0 0)],D.s (sc (int i64 2))];aO (b.length<=1099511627776) (aB (!fI.nP (a,b)) A (aO (d.length<=1099511627776) (aB (!fI.nP (c,d)) A (Es.J3 a b c d false)))):=eJ aX
theorem iA a b c d e:J3 a b c d e=letI F:=M6.val b+M6.val d;letI B:=bif cP.mL F then(0:Int)else(5:Int);letI A:=bif cP.mL F then M6.dg F else [];letI C:=bif B==0 then zs a (M6.val A)else(0:Int);aB (a==c) (aO (M6.cR b/\M6.cR d/\b.length<=8192/\d.length<=8192) (aO (M6.cR A/\A.length<=1099511627776) (some [D.agg [sc (bool (isNeg C)),ints u64 (M6.dg C.natAbs)],D.s (sc (int i64 B))]))) (aO (M6.cZ b/\M6.cZ d/\b.length<=1099511627776/\d.length<=1099511627776) (aB (decide (lB (M6.val b) (M6.val d)<0)) (Es.J8 c d a b e) (Es.J8 a b c d e))):=cJ aX
theorem Cb a b c d e:J8 a b c d e=letI B:=M6.dg (M6.val b-M6.val d);letI A:=bif (if M6.val b<M6.val d then(3:Int)else(0:Int))==0 then zs a (M6.val B)else(0:Int);aO (M6.cR b/\M6.cR d/\b.length<=8192/\d.length<=8192) (aO (M6.cR B/\B.length<=1099511627776) (some [D.agg [sc (bool (isNeg A)),ints u64 (M6.dg A.natAbs)],D.s (sc (int i64 (if M6.val b<M6.val d then(3:Int)else(0:Int))))])):=cJ aX
theorem aBZ(n:Nat):cP.mL n=fit n:=Ba
def sp(x y:Bool×List Int):Prop×List D:=(gI x/\gI y,wE (fit (wv x+wv y).natAbs) (wv x+wv y))
theorem spec:gU E f49 aE oD oD sp:=by
 rintro x y ⟨hx,hy⟩;refine(start x.1 x.2 y.1 y.2).trans ?_;have l1:=hx.len;have l2:=hy.len;have f1:=fI.kS hx;have f2:=fI.kS hy;have b1:=hx.bl;have b2:=hy.bl;obtain⟨p,a⟩:=x;obtain⟨q,b⟩:=y;have n1:M6.cR a:=hx.1;have n2:M6.cR b:=hy.1
 try dsimp only at *
 unfold sp
 try dsimp only
 rw[gP,f1,bWR,bF,gP,f2,bWR,bF,iA];have one:∀(s:Bool) (m n:Nat),n<=m->bl m<=524288->some [D.agg [S.sc (.bool (isNeg (bif (if m<n then(3:Int)else 0)==0 then zs s (M6.val (M6.dg (m-n)))else 0))),S.ints .u64 (M6.dg (bif (if m<n then(3:Int)else 0)==0 then zs s (M6.val (M6.dg (m-n)))else 0).natAbs)],D.s (S.sc (.int .i64 (if m<n then 3 else 0)))]=some (wE (fit (zs s (m-n)).natAbs) (zs s (m-n))):=by
  intro s m n h hb;have:fit (zs s (m-n)).natAbs=true:=by
   rw[lP];exact decide_eq_true (bVN (fX (cBH _ _)) hb)
  rw[aU,this,show((0:Int)==0)=true from rfl,cond_true,M6.bN];rfl
 by_cases he:p=q
 ·subst he;have hs:wv (p,a)+wv (p,b)=zs p (M6.val a+M6.val b):=by
   unfold wv zs;cases p <;> simp <;> omega
  rw[aWR (by simp),gP ⟨n1,n2,l1,l2⟩,gP (Iv (fun h=>by rw[aBZ]at h;exact xN h)),Ia,aBZ,hs,lP]
 ·rw[Sj (by simpa using he),gP ⟨n1.kU,n2.kU,by omega,by omega⟩]
  by_cases hc:M6.val b<=M6.val a
  ·have hs:wv (p,a)+wv (q,b)=zs p (M6.val a-M6.val b):=by
    unfold wv zs;cases p <;> cases q <;> simp_all <;> omega
   have l3:=fM (n:=M6.val a-M6.val b) (k:=8192) (bVN (fX (cBH _ _)) b1);rw[aL (by have:=aDH.2 hc;omega),Cb,gP ⟨n1,n2,l1,l2⟩,gP ⟨M6.aY _,by omega⟩,hs,one _ _ _ hc b1]
  ·have hs:wv (p,a)+wv (q,b)=zs q (M6.val b-M6.val a):=by
    unfold wv zs;cases p <;> cases q <;> simp_all <;> omega
   have l3:=fM (n:=M6.val b-M6.val a) (k:=8192) (bVN (fX (cBH _ _)) b2);rw[aQ (by have:=(not_congr aDH).2 hc;omega),Cb,gP ⟨n2,n1,l2,l1⟩,gP ⟨M6.aY _,by omega⟩,hs,one _ _ _ (by omega) b2]
def aJ:dO:=orc2 oD oD sp
theorem ok:OK 49 aJ:=(fA E aE (aA fI.ok (aA uE.ok (aA Aj.ok (aA uD.ok (aA Ak.ok aD))))) func49).mV rfl spec
end Es
namespace aMN
def E:=mE [] 14 [] [] []
def aE:=bd f136
theorem aX:Nk E aE:=nk
theorem start a:aH E f136 aE [D.s (sc (int u64 a))]=letI A:=fY BinOp.and u64 a (u64.wrap ((0:Int)-a))*285870213051353865;aB (a==0) (some [D.s (sc (int i64 64))]) (if 0<=u64.wrap A/288230376151711744/\u64.wrap A/288230376151711744<(64:Int)then some [D.s (sc (int i64 (i64.wrap ([(0:Int),(1:Int),(56:Int),(2:Int),(57:Int),(49:Int),(28:Int),(3:Int),(61:Int),(58:Int),(42:Int),(50:Int),(38:Int),(29:Int),(17:Int),(4:Int),(62:Int),(47:Int),(59:Int),(36:Int),(45:Int),(43:Int),(51:Int),(22:Int),(53:Int),(39:Int),(33:Int),(30:Int),(24:Int),(18:Int),(12:Int),(5:Int),(63:Int),(55:Int),(48:Int),(27:Int),(60:Int),(41:Int),(37:Int),(16:Int),(46:Int),(35:Int),(44:Int),(21:Int),(52:Int),(32:Int),(23:Int),(11:Int),(54:Int),(26:Int),(40:Int),(15:Int),(34:Int),(20:Int),(31:Int),(10:Int),(25:Int),(14:Int),(19:Int),(9:Int),(13:Int),(8:Int),(7:Int),(6:Int)].getD (u64.wrap A/288230376151711744).toNat 0))))]else none):=eJ aX
def aRQ:List Int:=[0,1,56,2,57,49,28,3,61,58,42,50,38,29,17,4,62,47,59,36,45,43,51,22,53,39,33,30,24,18,12,5,63,55,48,27,60,41,37,16,46,35,44,21,52,32,23,11,54,26,40,15,34,20,31,10,25,14,19,9,13,8,7,6]
theorem Qn:(bWE 64).all (fun k=>aRQ.getD (((2^k*285870213051353865%18446744073709551616:Nat):Int)/288230376151711744).toNat 0==(k:Int))=true:=by kernel_rfl
theorem Qm{k:Nat}(h:k<64):aRQ.getD (((2^k*285870213051353865%18446744073709551616:Nat):Int)/288230376151711744).toNat 0=(k:Int):=eq_of_beq (List.all_eq_true.1 Qn k (List.mem_range.2 h))
def sp(a:Int):Prop×List D:=(0<=a/\a<18446744073709551616,[.s (.sc (.int .i64 (if a=0 then 64 else(tz a.toNat:Int))))])
theorem spec:jD E f136 aE (pN .u64) sp:=by
 rintro a ⟨h1,h2⟩;refine(start a).trans ?_;show _=some [D.s (.sc (.int .i64 (if a=0 then 64 else(tz a.toNat:Int))))]
 by_cases hz:a=0
 ·rw[cN hz,if_pos hz]
 ·have jL:tz a.toNat<64:=by
   have:=Ji (n:=a.toNat) (by omega);rcases bVH (tz a.toNat) 64 with h |h
   ·exact h
   ·have h3:2^64<=2^tz a.toNat:=bXS (by omega) h;omega
  have ew:u64.wrap (0-a)=18446744073709551616-a:=by rw[fK];omega
  have el:fY .and .u64 a (u64.wrap (0-a))=((2^tz a.toNat:Nat):Int):=by
   rw[ew,Wn h1 h2 (by omega) (by omega),Uw 64 a.toNat (18446744073709551616-a).toNat (by omega) (by omega) (by omega)]
  have em:u64.wrap (((2^tz a.toNat:Nat):Int)*285870213051353865)=((2^tz a.toNat*285870213051353865%18446744073709551616:Nat):Int):=by
   rw[fK];generalize 2^tz a.toNat=p;omega
  have ht:=Qm jL;have hm:2^tz a.toNat*285870213051353865%18446744073709551616<18446744073709551616:=bWZ _ (by omega);rw[bM hz,if_neg hz,el,em];generalize 2^tz a.toNat*285870213051353865%18446744073709551616=q at *;rw[if_pos ⟨by omega,by omega⟩];have e3:([0,1,56,2,57,49,28,3,61,58,42,50,38,29,17,4,62,47,59,36,45,43,51,22,53,39,33,30,24,18,12,5,63,55,48,27,60,41,37,16,46,35,44,21,52,32,23,11,54,26,40,15,34,20,31,10,25,14,19,9,13,8,7,6]:List Int)=aRQ:=rfl;rw[e3,ht,wrap_i64]
def aJ:dO:=orc1 (pN .u64) sp
theorem ok:OK 136 aJ:=(fA E aE aD func136).pU rfl spec
end aMN
namespace Cx
def E:=mE [(136,aMN.aJ)] 23 [] [(2,[0,5,6])] []
def aE:=bd f103
theorem aX:Nk E aE:=nk
def L2 a b c:=sJ E f103 aE 2 [iK a,cK b,cK c]
theorem start a:aH E f103 aE [D.s (ints u64 a)]=Cx.L2 a (a.length:Int) 0:=eJ aX
theorem lN a b c:L2 a b c=aB (decide (c<b)) (if 0<=c/\c<(a.length:Int)then aB (a.getD c.toNat 0 !=(0:Int)) (if 0<=c/\c<(a.length:Int)then aO (0<=a.getD c.toNat 0/\a.getD c.toNat 0<(18446744073709551616:Int)) (some [D.s (sc (int i64 (i64.wrap (i64.wrap ((64:Int)*c)+if a.getD c.toNat 0=(0:Int)then(64:Int)else(↑(tz (a.getD c.toNat 0).toNat):Int)))))])else none) (Cx.L2 a b (i64.wrap (c+1)))else none) (some [D.s (sc (int i64 0))]):=lJ aX
def sp(a:List Int):Prop×List D:=(M6.cZ a/\a.length<=1099511627776,[.s (.sc (.int .i64 (tz (M6.val a):Nat)))])
theorem L{a:List Int}(ha:M6.cZ a)(hl:a.length<=1099511627776):∀(d i:Nat),i+d=a.length->L2 a a.length i=some [D.s (.sc (.int .i64 (if M6.val (a.drop i)=0 then 0 else(((64*i+tz (M6.val (a.drop i)):Nat)):Int))))]:=by
 intro d
 induction d with
 |zero =>
  intro i hi;rw[lN,aL,cAG (by omega)];rfl
 |succ d ih =>
  intro i hi;have g:=ha.get i;have hv:=M6.jM (a:=a) i;have bRM:=ih (i+1) (by omega);rw[lN,aQ,aW,bYO,aW,gP g,wrap_i64 (n:=(i:Int)+1),wrap_i64 (n:=64*(i:Int)),show(i:Int)+1=((i+1:Nat):Int)from by omega,bRM];generalize a.getD i 0=x at *;rw[hv]
  by_cases hz:x=0
  ·subst hz;rw[gE rfl];simp only[cCD,bUT]
   by_cases aPM:M6.val (a.drop (i+1))=0
   ·rw[if_pos aPM,aW]
   ·have:=Qh aPM 64;rw[show(2:Nat)^64=18446744073709551616 from rfl]at this;rw[if_neg aPM,aU,this];congr 5;omega
  ·have ht:=Ji (n:=x.toNat) (by omega);have bED:tz x.toNat<64:=by
    rcases bVH (tz x.toNat) 64 with h |h
    ·exact h
    ·have h3:2^64<=2^tz x.toNat:=bXS (by omega) h;omega
   have:=aHG (r:=x.toNat) (k:=64) (n:=M6.val (a.drop (i+1))) (by omega) (by omega);rw[show(2:Nat)^64=18446744073709551616 from rfl]at this;rw[oI hz,if_neg hz,aU,this,wrap_i64];congr 5
theorem spec:jD E f103 aE (pI .u64) sp:=by
 rintro a ⟨ha,hl⟩;refine(start a).trans ?_;have:=L ha hl a.length 0 (by omega);rw[show(0:Int)=((0:Nat):Int)from rfl,this,cBE];show _=some [D.s (.sc (.int .i64 (tz (M6.val a):Nat)))]
 by_cases hz:M6.val a=0
 ·rw[if_pos hz,hz];simp[tz]
 ·rw[if_neg hz];congr 5;omega
def aJ:dO:=orc1 (pI .u64) sp
theorem ok:OK 103 aJ:=(fA E aE (aA aMN.ok aD) func103).pU rfl spec
end Cx
namespace Er
def E:=mE [(144,gM.aJ),(145,cP.aJ)] 73 [70] [(10,[0,6,7,8,29,30])] []
def aE:=bd f104
theorem aX:Nk E aE:=nk
def Gy a b c (d:Nat) (e:List Int) f g:=sJ E f104 aE 10 [iK a,cK b,cK c,Ce 3 d 22 e,cK f,cK g]
theorem start a b:aH E f104 aE [D.s (ints u64 a),D.s (sc (int i64 b))]=letI G:=b.tdiv 64;letI C:=sc (slice none 0 0);letI A:=(a.length:Int);letI B:=A-i64.wrap G;letI F:=i64.wrap B;aB (decide (b<0)) (some [D.s C,D.s (sc (int i64 1))]) (aO (a.length<=1099511627776) (aB (!gM.oN a) (some [D.s C,D.s (sc (int i64 2))]) (aB (decide (A<=i64.wrap G)) (some [D.s C,D.s (sc (int i64 0))]) (if 0<=i64.wrap B/\i64.wrap B<=i64.wrap B/\i64.wrap B<=8796093022208 then Er.Gy a (i64.wrap G) (b.tmod 64) F.toNat (bWU F.toNat (0:Int)) (F.toNat:Int) 0 else none)))):=eJ aX
theorem qQ a b c d e f g:Gy a b c d e f g=letI C:=(a.length:Int);letI B:=i64.wrap (b+g)+1;letI A:=e.set g.toNat (a.getD (i64.wrap (b+g)).toNat 0/(↑((2:Nat)^min c.toNat 64):Int));aB (decide (g<f)) (if 0<=i64.wrap (b+g)/\i64.wrap (b+g)<C then if c<0 then none else if 0<=g/\g<(d:Int)then aB (decide (i64.wrap B<C)) (if 0<=g/\g<(d:Int)then if 0<=i64.wrap B/\i64.wrap B<C then if i64.wrap ((63:Int)-c)<0 then none else if 0<=g/\g<(d:Int)then Er.Gy a b c d (A.set g.toNat (fY BinOp.or u64 (A.getD g.toNat 0) (u64.wrap (u64.wrap (a.getD (i64.wrap B).toNat 0*(2:Int))*(↑((2:Nat)^min (i64.wrap ((63:Int)-c)).toNat 64):Int))))) f (i64.wrap (g+1))else none else none else none) (Er.Gy a b c d A f (i64.wrap (g+1)))else none else none) (aO (M6.cZ e/\e.length<=1099511627776) (some [D.s (ints u64 (bif cP.mL (M6.val e)then M6.dg (M6.val e)else [])),D.s (sc (int i64 (bif cP.mL (M6.val e)then(0:Int)else(5:Int))))])):=lJ aX
theorem Zf(a:List Int)(q i:Nat):(a.drop q).getD i 0=a.getD (q+i) 0:=by
 simp[bZU,bVE]
theorem high{x k:Nat}(h:k<64):x*2^(64-k)%18446744073709551616=2^(64-k)*(x%2^k):=by
 rw[show(18446744073709551616:Nat)=2^(64-k)*2^k from by rw[<-bZS,show 64-k+k=64 from by omega],bZP x,Nat.mul_mod_mul_left]
theorem step{a P:List Int}{q k i r:Nat}(ha:M6.cZ a)(hP:P.length=i)(hk:k<64)(hl:a.length<=8192)(hr:q+i+(r+1)=a.length) :
  Gy a q k (a.length-q) (P ++ bWU (r+1) 0) ((a.length-q:Nat):Int) i =
   Gy a q k (a.length-q) ((P ++ [(((a.getD (q+i) 0).toNat/2^k+2^(64-k)*((a.getD (q+i+1) 0).toNat%2^k):Nat):Int)]) ++ bWU r 0) ((a.length-q:Nat):Int) ((i+1:Nat):Int):=by
 have g:=ha.get (q+i);have g1:=ha.get (q+i+1);have w1:i64.wrap ((q:Int)+i)=((q+i:Nat):Int):=by rw[wrap_i64];omega
 have w2:i64.wrap (((q+i:Nat):Int)+1)=((q+i+1:Nat):Int):=by rw[wrap_i64];omega
 have w3:i64.wrap (63-(k:Int))=((63-k:Nat):Int):=by rw[wrap_i64];omega
 have m1:min k 64=k:=by omega
 have m2:min (63-k) 64=63-k:=by omega
 have aSK:(a.getD (q+i) 0)/((2^k:Nat):Int)=(((a.getD (q+i) 0).toNat/2^k:Nat):Int):=by
  obtain⟨x,hx⟩:=bZV g.1;rw[hx,bYO,cAM]
 have Yv:(a.getD (q+i) 0).toNat/2^k<2^(64-k):=by
  apply cAJ;rw[<-bZS,show k+(64-k)=64 from by omega];omega
 rw[qQ,aQ,w1,if_pos ⟨by omega,by omega⟩,aU,if_pos ⟨by omega,by omega⟩,w2,w3,wrap_i64 (n:=(i:Int)+1),
  bYO,bYO,bYO,bYO,bYO,m1,m2,bZZ,Fe hP,Gb hP,aSK]
 by_cases hn:q+i+1<a.length
 ·rw[aQ,if_pos ⟨by omega,by omega⟩,if_pos ⟨by omega,by omega⟩,aU,if_pos ⟨by omega,by omega⟩,Fe hP];have hw:u64.wrap (u64.wrap (a.getD (q+i+1) 0*2)*((2^(63-k):Nat):Int))=((2^(64-k)*((a.getD (q+i+1) 0).toNat%2^k):Nat):Int):=by
   obtain⟨x,hx⟩:=bZV g1.1;have aGK:u64.wrap ((x:Int)*2)=((x*2%18446744073709551616:Nat):Int):=by rw[fK];omega
   have bPR:∀p:Nat,u64.wrap (((x*2%18446744073709551616:Nat):Int)*(p:Int))=((x*2*p%18446744073709551616:Nat):Int):=by
    intro p;rw[fK,<-cAN,show(18446744073709551616:Int)=((18446744073709551616:Nat):Int)from rfl,<-cCB,Nat.mul_mod,Nat.mod_mod,<-Nat.mul_mod]
   rw[hx,aGK,bPR,bYO,<-high hk,show 64-k=(63-k)+1 from by omega,bZQ,bZT,bZP 2]
  have hh:2^(64-k)*((a.getD (q+i+1) 0).toNat%2^k)<18446744073709551616:=by rw[<-high hk];exact bWZ _ (by omega)
  have bNE:2^(64-k)<=2^64:=gN;have bAV:fY .or .u64 (((a.getD (q+i) 0).toNat/2^k:Nat):Int) ((2^(64-k)*((a.getD (q+i+1) 0).toNat%2^k):Nat):Int)=(((a.getD (q+i) 0).toNat/2^k+2^(64-k)*((a.getD (q+i+1) 0).toNat%2^k):Nat):Int):=by
   have:=Fm (n:=(a.getD (q+i+1) 0).toNat%2^k) Yv;rw[<-this];generalize 2^(64-k)*((a.getD (q+i+1) 0).toNat%2^k)=Y at *;generalize (a.getD (q+i) 0).toNat/2^k=X at *;generalize 2^(64-k)=p at *;rw[Uk (by omega) (by omega) (by omega) (by omega),bYO,bYO]
  rw[hw,bAV,bWM,cBF];rfl
 ·rw[aL,M6.getD_none (a:=a) (n:=q+i+1) (by omega),show((0:Int).toNat%2^k)=0 from Nat.zero_mod _,cBG,bVP,bWM,cBF];rfl
theorem L{a:List Int}{q k:Nat}(ha:M6.cR a)(hl:a.length<=8192)(hq:q<a.length)(hk:k<64):∀(r i:Nat) (P:List Int),q+i+r=a.length->P.length=i->M6.cZ P ->
  2^k*M6.val P+(a.getD q 0).toNat%2^k=M6.val ((a.drop q).take i)+18446744073709551616^i*((a.getD (q+i) 0).toNat%2^k) ->
  Gy a q k (a.length-q) (P ++ bWU r 0) ((a.length-q:Nat):Int) i=some [D.s (.ints .u64 (M6.dg (M6.val (a.drop q)/2^k))),D.s (.sc (.int .i64 0))]:=by
 intro r;have bAR:0<2^k:=cY
 induction r with
 |zero =>
  intro i P hi hP hd hv;rw[M6.getD_none (a:=a) (n:=q+i) (by omega),show((0:Int).toNat%2^k)=0 from Nat.zero_mod _,cBG,bVP,M6.dR (by rw[bYR];omega)]at hv;have bLL:M6.val P=M6.val (a.drop q)/2^k:=by
   rw[<-hv,Nat.mul_add_div bAR,cAK (bWZ _ bAR),bVP]
  have Na:cP.mL (M6.val (a.drop q)/2^k)=true:=by
   refine decide_eq_true ?_;rw[<-bLL];have:=M6.tQ hd;omega
  rw[cAX,cAP,qQ,aL,gP ⟨hd,by omega⟩,bLL,Na];rfl
 |succ r ih =>
  intro i P hi hP hd hv;have g:=ha.kU.get (q+i);have Yv:(a.getD (q+i) 0).toNat/2^k<2^(64-k):=by
   apply cAJ;rw[<-bZS,show k+(64-k)=64 from by omega];omega
  have aLO:2^(64-k)*2^k=18446744073709551616:=by rw[<-bZS,show 64-k+k=64 from by omega]
  have hs:(a.getD (q+i) 0).toNat/2^k+2^(64-k)*((a.getD (q+i+1) 0).toNat%2^k)<18446744073709551616:=by
   have hm:(a.getD (q+i+1) 0).toNat%2^k<2^k:=bWZ _ bAR;have h3:2^(64-k)*((a.getD (q+i+1) 0).toNat%2^k+1)<=2^(64-k)*2^k:=bXF _ hm;rw[aLO,bZR]at h3;omega
  rw[step ha.kU hP hk hl (by omega)];refine ih (i+1) _ (by omega) (by simp[hP]) (M6.nZ hd ⟨Int.natCast_nonneg _,by have:=Int.ofNat_lt.2 hs;exact this⟩) ?_;rw[M6.nU,hP,M6.dP,Zf,bYO,<-bYI q i 1,bZR,cBM,hv];have hx:=bZX (a.getD (q+i) 0).toNat (2^k);generalize (a.getD (q+i) 0).toNat=x at *;generalize (a.getD (q+i+1) 0).toNat%2^k=y at *;generalize M6.val ((a.drop q).take i)=v at *;have e1:2^k*(18446744073709551616^i*(x/2^k+2^(64-k)*y))=18446744073709551616^i*(2^k*(x/2^k))+18446744073709551616^(i+1)*y:=by
   rw[bZQ];generalize (18446744073709551616^i)=B;rw[cCG,bZR,<-bZT (2^k) (2^(64-k)),bZP (2^k) (2^(64-k)),aLO,bZR,bZT B]
  rw[e1];have e2:18446744073709551616^i*x=18446744073709551616^i*(2^k*(x/2^k))+18446744073709551616^i*(x%2^k):=by rw[<-bZR,hx]
  rw[e2];omega
def sp(a:List Int)(n:Int):Prop×List D:=(M6.cR a/\a.length<=8192/\0<=n/\n<4611686018427387904,[.s (.ints .u64 (M6.dg (M6.val a/2^n.toNat))),.s (.sc (.int .i64 0))])
theorem spec:Oe E f104 aE (pI .u64) (pN .i64) sp:=by
 rintro a n ⟨ha,hl,h0,h1⟩;have e:=start a n;have eq:n/64=((n.toNat/64:Nat):Int):=by omega
 have ek:n%64=((n.toNat%64:Nat):Int):=by omega
 rw[aL,gP,gM.nL ha hl,bWR,bF,aHS h0,aHO h0,wrap_i64 (n:=n/64),eq,ek]at e;unfold sp;simp only;rw[Kc,<-cAL];generalize hqq:n.toNat/64=q at *;have hk:n.toNat%64<64:=bWZ _ (by omega);generalize n.toNat%64=k at *
 by_cases hz:a.length<=q
 ·have hv:M6.val a/18446744073709551616^q=0:=cAK (bVO (M6.dS ha.kU) (bXS (by omega) hz));rw[aQ]at e;rw[hv,Nat.zero_div,M6.cF];exact⟨_,e,.cons (yQ.nil _) (iE.refl _)⟩
 ·have hval:M6.val a/18446744073709551616^q=M6.val (a.drop q):=by
   rw[M6.iY a (n:=q) (by omega),cBW _ _ (cY),cAK (M6.iL ha.kU _),bUT]
  have w:i64.wrap ((a.length:Int)-(q:Int))=((a.length-q:Nat):Int):=by rw[wrap_i64];omega
  rw[aL,w,if_pos ⟨by omega,by omega,by omega⟩,bYO]at e;have:=L (q:=q) (k:=k) ha hl (by omega) hk (a.length-q) 0 [] (by omega) rfl M6.oX (by simp[M6.val]);rw[hval];exact⟨_,e.trans this,iE.refl _⟩
def aJ:dO:=orc2 (pI .u64) (pN .i64) sp
theorem ok:OK 104 aJ:=(fA E aE (aA gM.ok (aA cP.ok aD)) func104).aNH rfl spec
end Er
namespace iX
def E:=mE [(96,fI.aJ),(103,Cx.aJ),(104,Er.aJ)] 55 [] [(8,[1,2,4,6])] [8]
def aE:=bd f50
theorem aX:Nk E aE:=nk
def J8 a b c d e f:=mT E f50 aE 8 [cK a,dK 1 27 [cU b,fU c],dK 2 29 [cU d,sc (slice none 0 0),cX e],cK f]
theorem start a c b:aH E f50 aE [D.agg [sc (bool a),ints u64 c],D.s (sc (int i64 b))]=letI G:=bool false;letI F:=int i64 0;letI C:=slice none 0 0;letI B:=(↑(tz (M6.val c)):Int);letI A:=some [D.agg [sc G,sc C,sc F],D.s (sc (int i64 5))];aO (c.length<=1099511627776) (aB (!fI.nP (a,c)) (some [D.agg [sc G,sc C,sc F],D.s (sc (int i64 2))]) (aB ((c.length:Int)==(0:Int)) (some [D.agg [sc G,sc C,sc F],D.s (sc F)]) (aO (M6.cZ c/\c.length<=1099511627776) (aB (decide (1048576<b)) A (aB (decide (b<(-1572864:Int))) A (aB (decide (i64.wrap (b+B)<(-1048576:Int))) A (aB (decide (1048576<i64.wrap (b+B))) A (iX.J8 b a c false 0 B)))))))):=eJ aX
theorem Cb a b c d e f:J8 a b c d e f=aO (M6.cR c/\c.length<=8192/\0<=f/\f<4611686018427387904) (some [D.agg [sc (bool b),ints u64 (M6.dg (M6.val c/(2:Nat)^f.toNat)),sc (int i64 (i64.wrap (a+f)))],D.s (sc (int i64 0))]):=cJ aX
def sp(x:Bool×List Int)(e:Int):Prop×List D:=(gI x/\-9223372036854775808<=e/\e<9223372036854775808,dE (gT (wv x) e) (aN (wv x) e))
theorem sH(p:Int×Int):iE [D.agg [.sc (.bool false),.sc (.slice none 0 0),.sc (.int .i64 0)],.s (.sc (.int .i64 5))] (dE false p):=by
 refine .cons ?_ (iE.refl _);show yQ _ (M.dD (0,0));unfold dD;rw[show((0,0):Int×Int).1.natAbs=0 from rfl,M6.cF];exact yQ.agg (.cons (Cu.refl _) (.cons (Cu.nil _) (yE.refl _)))
theorem spec:Oe E f50 aE oD (pN .i64) sp:=by
 rintro x e ⟨hw,h1,h2⟩;have s:=start x.1 x.2 e;have hl:=hw.len;have hf:=fI.kS hw;have hb:=hw.bl;obtain⟨b,a⟩:=x;have hn:M6.cR a:=hw.1
 try dsimp only at *
 unfold sp
 try dsimp only
 rw[gP,hf,bWR,bF]at s;have aKO:=iF (b,a)
 try dsimp only at aKO
 by_cases hz:a.length=0
 ·have hv:=(M6.dY hn).1 hz;have aEL:wv (b,a)=0:=by omega
  rw[cN]at s;refine⟨_,s,?_⟩;rw[aEL];refine .cons ?_ (iE.refl _);show yQ _ (M.dD (0,0));unfold dD;rw[show((0,0):Int×Int).1.natAbs=0 from rfl,M6.cF];exact yQ.agg (.cons (Cu.refl _) (.cons (Cu.nil _) (yE.refl _)))
 ·have hv:M6.val a≠0:=fun h=>hz ((M6.dY hn).2 h)
  have aEL:wv (b,a)≠0:=by omega
  have ht:=Dd hv;have hs:=tK _ hv;have yN:∀p:Bool,(p=(decide (-1048576<=e+(tz (M6.val a):Nat))&&decide (e+(tz (M6.val a):Nat)<=1048576)))->gT (wv (b,a)) e=p:=by
   intro p hp;unfold gT;rw[aKO,decide_eq_false aEL,bWS,hp]
  rw[bM,gP ⟨hn.kU,by omega⟩]at s
  by_cases c1:1048576<e
  ·rw[aQ c1]at s;rw[yN false (by rw[decide_eq_false (show ¬(e+(tz (M6.val a):Nat)<=1048576) by omega),cAD])];exact⟨_,s,sH _⟩
  ·rw[aL c1]at s
   by_cases c2:e < -1572864
   ·rw[aQ c2]at s;rw[yN false (by rw[decide_eq_false (show ¬(-1048576<=e+(tz (M6.val a):Nat)) by omega),cAA])];exact⟨_,s,sH _⟩
   ·have w:i64.wrap (e+(tz (M6.val a):Int))=e+(tz (M6.val a):Int):=wrap_i64;rw[aL c2,w]at s
    by_cases c3:e+(tz (M6.val a):Int) < -1048576
    ·rw[aQ c3]at s;rw[yN false (by rw[decide_eq_false (show ¬(-1048576<=e+(tz (M6.val a):Nat)) by omega),cAA])];exact⟨_,s,sH _⟩
    ·rw[aL c3]at s
     by_cases c4:1048576<e+(tz (M6.val a):Int)
     ·rw[aQ c4]at s;rw[yN false (by rw[decide_eq_false (show ¬(e+(tz (M6.val a):Nat)<=1048576) by omega),cAD])];exact⟨_,s,sH _⟩
     ·rw[aL c4,Cb,gP ⟨hn,hl,by omega,by omega⟩,w,bYO]at s;rw[yN true (by rw[decide_eq_true (show(e+(tz (M6.val a):Nat)<=1048576) by omega),decide_eq_true (show(-1048576<=e+(tz (M6.val a):Nat)) by omega)];rfl)];refine⟨_,s,?_⟩;have:aN (wv (b,a)) e=(zs b (M6.val a/2^tz (M6.val a)),e+(tz (M6.val a):Nat)):=by
       unfold aN;rw[if_neg aEL,aKO];have:=aTE (b:=b) (bXR (n:=tz (M6.val a)) (show 0<2 by decide)) hs.1;rw[<-this];rfl
      rw[this];have hq:M6.val a/2^tz (M6.val a)≠0:=by omega
      show iE _ [M.dD (zs b (M6.val a/2^tz (M6.val a)),e+(tz (M6.val a):Nat)),_];unfold dD
      try dsimp only
      rw[Qd,lP,decide_eq_true hq,Bool.and_true];exact iE.refl _
def aJ:dO:=orc2 oD (pN .i64) sp
theorem ok:OK 50 aJ:=(fA E aE (aA fI.ok (aA Cx.ok (aA Er.ok aD))) func50).aNH rfl spec
end iX
namespace bI
def E:=mE [(45,lO.aJ),(46,mB.aJ),(47,Et.aJ),(48,Al.aJ),(49,Es.aJ),(50,iX.aJ)] 79 [44,67,76] [(7,[2,3,4]),(12,[4,6,7,9])] [7,12]
def aE:=bd f13
theorem aX:Nk E aE:=nk
def J7 a b c d e f g h:=mT E f13 aE 7 [dK 0 29 [cU a,fU b,cX c],dK 1 29 [cU d,fU e,cX f],dK 2 29 [cU g,sc (slice none 0 0),cX h]]
def aXH a b c d e f g:=mT E f13 aE 12 [dK 0 29 [cU a,sc (slice none 0 0),cX b],cK c,dK 2 27 [cU d,fU e],dK 3 27 [cU f,fU g]]
theorem start a b c d e f:aH E f13 aE [D.agg [sc (bool a),ints u64 b,sc (int i64 c)],D.agg [sc (bool d),ints u64 e,sc (int i64 f)]]=aO (aP (a,b,c)) (aO (aP (d,e,f)) (aO True (aB ((b.length:Int)==(0:Int)) (aO (e.length<=1099511627776) (some [D.agg [sc (bool d),ints u64 e,sc (int i64 f)],D.s (sc (int i64 0))])) (aO True (aB ((e.length:Int)==(0:Int)) (aO (b.length<=1099511627776) (some [D.agg [sc (bool a),ints u64 b,sc (int i64 c)],D.s (sc (int i64 0))])) (bI.J7 a b c d e f false 0)))))):=eJ aX
theorem Mr a b c d e f g h:J7 a b c d e f g h=letI G:=i64.wrap (c-if f<c then f else c);letI I:=M6.val b*(2:Nat)^G.toNat;letI F:=i64.wrap (f-if f<c then f else c);letI H:=M6.val e*(2:Nat)^F.toNat;letI C:=some [D.agg [sc (bool false),sc (slice none 0 0),sc (int i64 0)],D.s (sc (int i64 5))];letI B:=bif fit H then wv (d,e)*(↑((2:Nat)^F.toNat):Int)else(0:Int);letI A:=bif fit I then wv (a,b)*(↑((2:Nat)^G.toNat):Int)else(0:Int);aO (gI (a,b)/\0<=i64.wrap (c-if f<c then f else c)/\i64.wrap (c-if f<c then f else c)<4611686018427387904) (aO (gI (d,e)/\0<=i64.wrap (f-if f<c then f else c)/\i64.wrap (f-if f<c then f else c)<4611686018427387904) (aB ((bif fit I then(0:Int)else(5:Int)) !=0) C (aB ((bif fit H then(0:Int)else(5:Int)) !=0) C (bI.aXH g h (if f<c then f else c) (isNeg A) (M6.dg A.natAbs) (isNeg B) (M6.dg B.natAbs))))):=cJ aX
theorem aAG a b c d e f g:aXH a b c d e f g=letI G:=wv (d,e)+wv (f,g);letI F:=bif fit G.natAbs then(0:Int)else(5:Int);letI C:=bif fit G.natAbs then wv (d,e)+wv (f,g)else(0:Int);letI A:=(isNeg C,M6.dg C.natAbs);letI B:=bif gT (wv A) c then aN (wv A) c else((0:Int),(0:Int));aO (gI (d,e)/\gI (f,g)) (aB (F !=0) (some [D.agg [sc (bool false),sc (slice none 0 0),sc (int i64 0)],D.s (sc (int i64 F))]) (aO (gI A/\(-9223372036854775808:Int)<=c/\c<9223372036854775808) (some [D.agg [sc (bool (isNeg B.fst)),ints u64 (M6.dg B.fst.natAbs),sc (int i64 B.snd)],D.s (sc (int i64 (bif gT (wv A) c then(0:Int)else(5:Int))))]))):=cJ aX
def gQ(p q:Int×Int):Int:=if q.2<p.2 then q.2 else p.2
def mY(p q:Int×Int):Int:=p.1*((2^(p.2-gQ p q).toNat:Nat):Int)
def mW(p q:Int×Int):Int:=q.1*((2^(q.2-gQ p q).toNat:Nat):Int)
def nC(p q:Int×Int):Int×Int:=if p.1=0 then q else if q.1=0 then p else aN (mY p q+mW p q) (gQ p q)
def jW(p q:Int×Int):Bool:=decide (p.1=0)||(decide (q.1=0)||(fit (mY p q).natAbs&&(fit (mW p q).natAbs&&(fit (mY p q+mW p q).natAbs&&gT (mY p q+mW p q) (gQ p q)))))
def sp(x y:gB):Prop×List D:=(aP x/\aP y,dE (jW (dv x) (dv y)) (nC (dv x) (dv y)))
theorem spec:Oe E f13 aE iW iW sp:=by
 rintro x y ⟨hx,hy⟩;have s:=start x.1 x.2.1 x.2.2 y.1 y.2.1 y.2.2;have dx:=hx.dD;have dy:=hy.dD;have lx:=hx.len;have ly:=hy.len;have rx:=hx.2.1;have ry:=hy.2.1;have zx:=M6.dY hx.Hp;have zy:=M6.dY hy.Hp;have wx:=hx.Db;have wy:=hy.Db;obtain⟨b,a,e⟩:=x;obtain⟨c,d,f⟩:=y
 try dsimp only at *
 unfold sp
 try dsimp only
 have ax:=iF (b,a);have ay:=iF (c,d)
 try dsimp only at ax ay
 rw[gP hx,gP hy,gP trivial]at s
 by_cases h0:a.length=0
 ·have hw:(dv (b,a,e)).1=0:=by have:=zx.1 h0;show wv (b,a)=0;omega
  rw[cN,gP]at s;refine⟨_,s,?_⟩;unfold jW nC;rw[decide_eq_true hw,cAB,if_pos hw];show iE _ [M.dD (dv (c,d,f)),_];rw[dy];exact iE.refl _
 ·have hw:(dv (b,a,e)).1≠0:=by have:M6.val a≠0:=fun h=>h0 (zx.2 h);show wv (b,a)≠0;omega
  rw[bM,gP trivial]at s
  by_cases g0:d.length=0
  ·have hv:(dv (c,d,f)).1=0:=by have:=zy.1 g0;show wv (c,d)=0;omega
   rw[cN,gP]at s;refine⟨_,s,?_⟩;unfold jW nC;rw[decide_eq_false hw,bWS,decide_eq_true hv,cAB,if_neg hw,if_pos hv];show iE _ [M.dD (dv (b,a,e)),_];rw[dx];exact iE.refl _
  ·have hv:(dv (c,d,f)).1≠0:=by have:M6.val d≠0:=fun h=>g0 (zy.2 h);show wv (c,d)≠0;omega
   have i1:gQ (dv (b,a,e)) (dv (c,d,f))<=e/\gQ (dv (b,a,e)) (dv (c,d,f))<=f/\-1048576<=gQ (dv (b,a,e)) (dv (c,d,f)):=by
    unfold gQ dv
    try dsimp only
    split <;> omega
   have u1:i64.wrap (e-gQ (dv (b,a,e)) (dv (c,d,f)))=e-gQ (dv (b,a,e)) (dv (c,d,f)):=wrap_i64;have u2:i64.wrap (f-gQ (dv (b,a,e)) (dv (c,d,f)))=f-gQ (dv (b,a,e)) (dv (c,d,f)):=wrap_i64;have e1:(if f<e then f else e)=gQ (dv (b,a,e)) (dv (c,d,f)):=rfl;have f1:M6.val a*2^(e-gQ (dv (b,a,e)) (dv (c,d,f))).toNat=(mY (dv (b,a,e)) (dv (c,d,f))).natAbs:=by
    show _=(wv (b,a)*_).natAbs;rw[cAE,ax,cAH];rfl
   have f2:M6.val d*2^(f-gQ (dv (b,a,e)) (dv (c,d,f))).toNat=(mW (dv (b,a,e)) (dv (c,d,f))).natAbs:=by
    show _=(wv (c,d)*_).natAbs;rw[cAE,ay,cAH];rfl
   have f3:wv (b,a)*((2^(e-gQ (dv (b,a,e)) (dv (c,d,f))).toNat:Nat):Int)=mY (dv (b,a,e)) (dv (c,d,f)):=rfl;have f4:wv (c,d)*((2^(f-gQ (dv (b,a,e)) (dv (c,d,f))).toNat:Nat):Int)=mW (dv (b,a,e)) (dv (c,d,f)):=rfl;rw[bM,Mr,e1,u1,u2]at s
   try dsimp only at s
   rw[f1,f2,f3,f4,gP ⟨wx,by omega,by omega⟩,gP ⟨wy,by omega,by omega⟩]at s;have ao:jW (dv (b,a,e)) (dv (c,d,f))=(fit (mY (dv (b,a,e)) (dv (c,d,f))).natAbs&&(fit (mW (dv (b,a,e)) (dv (c,d,f))).natAbs&&(fit (mY (dv (b,a,e)) (dv (c,d,f))+mW (dv (b,a,e)) (dv (c,d,f))).natAbs&&gT (mY (dv (b,a,e)) (dv (c,d,f))+mW (dv (b,a,e)) (dv (c,d,f))) (gQ (dv (b,a,e)) (dv (c,d,f)))))):=by
    unfold jW;rw[decide_eq_false hw,bWS,decide_eq_false hv,bWS]
   have ad:nC (dv (b,a,e)) (dv (c,d,f))=aN (mY (dv (b,a,e)) (dv (c,d,f))+mW (dv (b,a,e)) (dv (c,d,f))) (gQ (dv (b,a,e)) (dv (c,d,f))):=by
    unfold nC;rw[if_neg hw,if_neg hv]
   rw[ao,ad];generalize mY (dv (b,a,e)) (dv (c,d,f))=X at *;generalize mW (dv (b,a,e)) (dv (c,d,f))=Y at *;generalize gQ (dv (b,a,e)) (dv (c,d,f))=k at *;cases c1:fit X.natAbs with
   |false =>
    rw[c1,cond_false,oI]at s;rw[cAA];exact⟨_,s,iX.sH _⟩
   |true =>
    rw[c1,cond_true,gE rfl]at s;cases c2:fit Y.natAbs with
    |false =>
     rw[c2,cond_false,oI]at s;rw[cAA,cAD];exact⟨_,s,iX.sH _⟩
    |true =>
     rw[c2,cond_true,gE rfl,aAG,gP ⟨fT (xN c1),fT (xN c2)⟩]at s
     try dsimp only[cond_true]at s
     rw[nA,nA]at s;cases c3:fit (X+Y).natAbs with
     |false =>
      rw[c3]at s
      try dsimp only[cond_false]at s
      rw[oI]at s;rw[cAA,cAD,cAD];exact⟨_,s,iX.sH _⟩
     |true =>
      rw[c3]at s
      try dsimp only[cond_true]at s
      rw[gE rfl,gP ⟨fT (xN c3),by omega,by omega⟩,nA]at s;rw[bXT,bXT,bXT];exact⟨_,s,iE.refl _⟩
def aJ:dO:=orc2 iW iW sp
theorem ok:OK 13 aJ:=(fA E aE (aA lO.ok (aA mB.ok (aA Et.ok (aA Al.ok (aA Es.ok (aA iX.ok aD)))))) func13).aNH rfl spec
end bI
namespace jQ
def E:=mE [(45,lO.aJ),(46,mB.aJ),(47,Et.aJ)] 45 [] [(7,[1,2,4])] [7]
def aE:=bd f56
theorem aX:Nk E aE:=nk
def J7 a b c d e f:=mT E f56 aE 7 [cK a,dK 1 29 [cU b,fU c,cX d],dK 2 29 [cU e,sc (slice none 0 0),cX f]]
theorem start a c d b:aH E f56 aE [D.agg [sc (bool a),ints u64 c,sc (int i64 d)],D.s (sc (int i64 b))]=letI B:=int i64 0;letI A:=some [D.agg [sc (bool false),sc (slice none 0 0),sc B],D.s (sc (int i64 5))];aO (aP (a,c,d)) (aO True (aB ((c.length:Int)==(0:Int)) (some [D.agg [sc (bool false),sc (slice none 0 0),sc B],D.s (sc B)]) (aB (decide (2097152<b)) A (aB (decide (b<(-2097152:Int))) A (aB (decide (1048576<i64.wrap (d+b))) A (aB (decide (i64.wrap (d+b)<(-1048576:Int))) A (jQ.J7 b a c d false 0))))))):=eJ aX
theorem Mr a b c d e f:J7 a b c d e f=aO (c.length<=1099511627776) (some [D.agg [sc (bool b),ints u64 c,sc (int i64 (i64.wrap (d+a)))],D.s (sc (int i64 0))]):=cJ aX
def Mv(p:Int×Int)(n:Int):Int×Int:=if p.1=0 then(0,0)else(p.1,p.2+n)
def Ff(p:Int×Int)(n:Int):Bool:=decide (p.1=0)||(decide (-1048576<=p.2+n)&&decide (p.2+n<=1048576))
def sp(x:gB)(n:Int):Prop×List D:=(aP x/\-9223372036854775808<=n/\n<9223372036854775808,dE (Ff (dv x) n) (Mv (dv x) n))
theorem spec:Oe E f56 aE iW (pN .i64) sp:=by
 rintro x n ⟨h,h1,h2⟩;have hl:=h.len;have hd:=h.dD;have hr:=h.2.1;have s:=start x.1 x.2.1 x.2.2 n;obtain⟨b,a,e⟩:=x
 try dsimp only at *
 unfold sp
 try dsimp only
 have hz:=M6.dY h.Hp;have ha:=iF (b,a)
 try dsimp only at ha hz
 rw[gP h,gP trivial]at s
 by_cases h0:a.length=0
 ·have hw:(dv (b,a,e)).1=0:=by have:=hz.1 h0;show wv (b,a)=0;omega
  rw[cN]at s;refine⟨_,s,?_⟩;unfold Ff Mv;rw[decide_eq_true hw,cAB,if_pos hw];refine .cons ?_ (iE.refl _);show yQ _ (M.dD (0,0));unfold M.dD;rw[show((0,0):Int×Int).1.natAbs=0 from rfl,M6.cF];exact yQ.agg (.cons (Cu.refl _) (.cons (Cu.nil _) (yE.refl _)))
 ·have hw:(dv (b,a,e)).1≠0:=by have:M6.val a≠0:=fun h=>h0 (hz.2 h);show wv (b,a)≠0;omega
  have yN:∀p:Bool,(p=(decide (-1048576<=e+n)&&decide (e+n<=1048576)))->Ff (dv (b,a,e)) n=p:=by
   intro p hp;unfold Ff;rw[decide_eq_false hw,bWS,hp];rfl
  rw[bM]at s
  by_cases c1:2097152<n
  ·rw[aQ c1]at s;rw[yN false (by rw[decide_eq_false (show ¬(e+n<=1048576) by omega),cAD])];exact⟨_,s,iX.sH _⟩
  ·rw[aL c1]at s
   by_cases c2:n < -2097152
   ·rw[aQ c2]at s;rw[yN false (by rw[decide_eq_false (show ¬(-1048576<=e+n) by omega),cAA])];exact⟨_,s,iX.sH _⟩
   ·have w:i64.wrap (e+n)=e+n:=wrap_i64;rw[aL c2,w]at s
    by_cases c3:1048576<e+n
    ·rw[aQ c3]at s;rw[yN false (by rw[decide_eq_false (show ¬(e+n<=1048576) by omega),cAD])];exact⟨_,s,iX.sH _⟩
    ·rw[aL c3]at s
     by_cases c4:e+n < -1048576
     ·rw[aQ c4]at s;rw[yN false (by rw[decide_eq_false (show ¬(-1048576<=e+n) by omega),cAA])];exact⟨_,s,iX.sH _⟩
     ·rw[aL c4,Mr]at s
      try dsimp only at s
      rw[gP,w]at s;rw[yN true (by rw[decide_eq_true (show(e+n<=1048576) by omega),decide_eq_true (show(-1048576<=e+n) by omega)];rfl)];refine⟨_,s,?_⟩;unfold Mv;rw[if_neg hw];have hc:=h.Db.cells;show iE _ [M.dD (wv (b,a),e+n),_];unfold M.dD
      try dsimp only
      rw[hc.1,hc.2];exact iE.refl _
def aJ:dO:=orc2 iW (pN .i64) sp
theorem ok:OK 56 aJ:=(fA E aE (aA lO.ok (aA mB.ok (aA Et.ok aD))) func56).aNH rfl spec
end jQ
namespace aMW
def E:=mE [(106,rU.aJ)] 11 [] [] []
def aE:=bd f207
theorem aX:Nk E aE:=nk
theorem start a b:aH E f207 aE [D.agg [sc (bool a),ints u64 b]]=aO (M6.cZ b/\b.length<=1099511627776) (aB ((↑(bl (M6.val b)):Int)==(0:Int)) (some [D.s (sc (int i64 0))]) (aB a (some [D.s (sc (int i64 (-1:Int)))]) (some [D.s (sc (int i64 1))]))):=eJ aX
def sp(x:Bool×List Int):Prop×List D:=(gI x,[.s (.sc (.int .i64 (lH (wv x) 0)))])
theorem spec:jD E f207 aE oD sp:=by
 intro x h;refine(start x.1 x.2).trans ?_;have h:gI x:=h;have hl:=h.len;obtain⟨h1,h2,h3⟩:=h;unfold sp;simp only;rw[gP ⟨h1.kU,by omega⟩]
 by_cases hz:M6.val x.2=0
 ·rw[hz,Sh,cN (a:=((0:Nat):Int)) (b:=0) rfl];cases hx:x.1 with
  |true=>exact(h2 hx hz).elim
  |false=>rw[Ev hx,hz];rfl
 ·have:=pA hz;rw[bM];cases hx:x.1 with
  |true=>rw[bT,Qf hx];unfold lH;rw[aW]
  |false=>rw[bF,Ev hx];unfold lH;rw[aU,aW]
def aJ:dO:=orc1 oD sp
theorem ok:OK 207 aJ:=(fA E aE (aA rU.ok aD) func207).pU rfl spec
end aMW
namespace aND
def E:=mE [(106,rU.aJ)] 11 [] [] []
def aE:=bd f234
theorem aX:Nk E aE:=nk
theorem start a b c:aH E f234 aE [D.agg [sc (bool a),ints u64 b,sc (int i64 c)]]=aO (M6.cZ b/\b.length<=1099511627776) (some [D.s (sc (int i64 (i64.wrap (i64.wrap (c+(↑(bl (M6.val b)):Int))-1))))]):=eJ aX
def sp(x:gB):Prop×List D:=(aP x,[.s (.sc (.int .i64 (x.2.2+(bl (M6.val x.2.1):Nat)-1)))])
theorem spec:jD E f234 aE iW sp:=by
 intro x h;have h:aP x:=h;have hl:=h.len;have hb:=h.Db.bl;refine(start x.1 x.2.1 x.2.2).trans ?_;have he:=h.2.1
 try dsimp only at hb
 rw[gP ⟨h.Hp.kU,by omega⟩,wrap_i64 (n:=x.2.2+_),wrap_i64];rfl
def aJ:dO:=orc1 iW sp
theorem ok:OK 234 aJ:=(fA E aE (aA rU.ok aD) func234).pU rfl spec
end aND
namespace aNE
def E:=mE [(234,aND.aJ),(98,kJ.aJ),(101,Aj.aJ)] 54 [53] [] []
def aE:=bd f208
theorem aX:Nk E aE:=nk
theorem start a b c d e f:aH E f208 aE [D.agg [sc (bool a),ints u64 b,sc (int i64 c)],D.agg [sc (bool d),ints u64 e,sc (int i64 f)]]=letI H:=(↑(bl (M6.val e)):Int);letI G:=(↑(bl (M6.val b)):Int);letI F:=i64.wrap (c-if f<c then f else c);letI C:=i64.wrap (f-if f<c then f else c);letI B:=bif kJ.jK (M6.val e) C.toNat then M6.dg (M6.val e*(2:Nat)^C.toNat)else [];letI A:=bif kJ.jK (M6.val b) F.toNat then M6.dg (M6.val b*(2:Nat)^F.toNat)else [];aO (aP (a,b,c)) (aO (aP (d,e,f)) (aB (decide (c+G-(1:Int)<f+H-(1:Int))) (some [D.s (sc (int i64 (-1:Int)))]) (aB (decide (f+H-(1:Int)<c+G-(1:Int))) (some [D.s (sc (int i64 1))]) (aO (M6.cR b/\b.length<=8192/\0<=i64.wrap (c-if f<c then f else c)/\i64.wrap (c-if f<c then f else c)<4611686018427387904) (aO (M6.cR e/\e.length<=8192/\0<=i64.wrap (f-if f<c then f else c)/\i64.wrap (f-if f<c then f else c)<4611686018427387904) (aO (M6.cZ A/\M6.cZ B/\A.length<=1099511627776/\B.length<=1099511627776) (some [D.s (sc (int i64 (lB (M6.val A) (M6.val B))))]))))))):=eJ aX
def sp(x y:gB):Prop×List D:=((aP x/\aP y)/\x.2.1.length≠0/\y.2.1.length≠0,[.s (.sc (.int .i64 (lB (bI.mY (dv x) (dv y)).natAbs (bI.mW (dv x) (dv y)).natAbs)))])
theorem spec:gU E f208 aE iW iW sp:=by
 rintro x y ⟨⟨hx,hy⟩,h0,g0⟩;refine(start x.1 x.2.1 x.2.2 y.1 y.2.1 y.2.2).trans ?_;have lx:=hx.len;have ly:=hy.len;have nx:=hx.Hp;have ny:=hy.Hp;have bx:=hx.Db.bl;have bUH:=hy.Db.bl
 have rx:=hx.2.1;have ry:=hy.2.1;obtain⟨b,a,e⟩:=x;obtain⟨c,d,f⟩:=y
 try dsimp only at *
 unfold sp
 try dsimp only
 have ax:=iF (b,a);have ay:=iF (c,d)
 try dsimp only at ax ay
 have vx:M6.val a≠0:=fun h=>h0 ((M6.dY nx).2 h)
 have vy:M6.val d≠0:=fun h=>g0 ((M6.dY ny).2 h)
 rw[gP hx,gP hy];have i1:bI.gQ (dv (b,a,e)) (dv (c,d,f))<=e/\bI.gQ (dv (b,a,e)) (dv (c,d,f))<=f/\-1048576<=bI.gQ (dv (b,a,e)) (dv (c,d,f))/\(bI.gQ (dv (b,a,e)) (dv (c,d,f))=e\/bI.gQ (dv (b,a,e)) (dv (c,d,f))=f):=by
  unfold bI.gQ dv
  try dsimp only
  split <;> omega
 have u1:i64.wrap (e-bI.gQ (dv (b,a,e)) (dv (c,d,f)))=e-bI.gQ (dv (b,a,e)) (dv (c,d,f)):=wrap_i64;have u2:i64.wrap (f-bI.gQ (dv (b,a,e)) (dv (c,d,f)))=f-bI.gQ (dv (b,a,e)) (dv (c,d,f)):=wrap_i64;have e1:(if f<e then f else e)=bI.gQ (dv (b,a,e)) (dv (c,d,f)):=rfl;have f1:(bI.mY (dv (b,a,e)) (dv (c,d,f))).natAbs=M6.val a*2^(e-bI.gQ (dv (b,a,e)) (dv (c,d,f))).toNat:=by
  show(wv (b,a)*_).natAbs=_;rw[cAE,ax,cAH];rfl
 have f2:(bI.mW (dv (b,a,e)) (dv (c,d,f))).natAbs=M6.val d*2^(f-bI.gQ (dv (b,a,e)) (dv (c,d,f))).toNat:=by
  show(wv (c,d)*_).natAbs=_;rw[cAE,ay,cAH];rfl
 rw[f1,f2,e1,u1,u2];generalize bI.gQ (dv (b,a,e)) (dv (c,d,f))=k at *;have m1:bl (M6.val a*2^(e-k).toNat)=(e-k).toNat+bl (M6.val a):=by rw[bZP,xT vx]
 have m2:bl (M6.val d*2^(f-k).toNat)=(f-k).toNat+bl (M6.val d):=by rw[bZP,xT vy]
 have lt:∀m n:Nat,bl m<bl n->m<n:=fun m n h=>Nat.lt_of_not_le fun hc=>by have:=fX hc;omega
 by_cases c1:e+(bl (M6.val a):Int)-1<f+(bl (M6.val d):Int)-1
 ·have:=lt (M6.val a*2^(e-k).toNat) (M6.val d*2^(f-k).toNat) (by rw[m1,m2];omega);rw[aQ c1];unfold lB;rw[if_pos this]
 ·rw[aL c1]
  by_cases c2:f+(bl (M6.val d):Int)-1<e+(bl (M6.val a):Int)-1
  ·have:=lt (M6.val d*2^(f-k).toNat) (M6.val a*2^(e-k).toNat) (by rw[m1,m2];omega);rw[aQ c2];unfold lB;rw[aU,if_pos this]
  ·have o1:kJ.jK (M6.val a) (e-k).toNat=true:=by
    unfold kJ.jK;rw[decide_eq_true (show bl (M6.val a)+(e-k).toNat<=524288 by omega),cAO]
   have o2:kJ.jK (M6.val d) (f-k).toNat=true:=by
    unfold kJ.jK;rw[decide_eq_true (show bl (M6.val d)+(f-k).toNat<=524288 by omega),cAO]
   have k1:=fM (n:=M6.val a*2^(e-k).toNat) (k:=8192) (by rw[m1];omega);have k2:=fM (n:=M6.val d*2^(f-k).toNat) (k:=8192) (by rw[m2];omega);rw[aL c2,gP ⟨nx,lx,by omega,by omega⟩,gP ⟨ny,ly,by omega,by omega⟩,o1,o2,cond_true,cond_true,gP ⟨M6.lG _,M6.lG _,by omega,by omega⟩,M6.bN,M6.bN]
def aJ:dO:=orc2 iW iW sp
theorem ok:OK 208 aJ:=(fA E aE (aA aND.ok (aA kJ.ok (aA Aj.ok aD))) func208).mV rfl spec
end aNE
namespace Hy
def E:=mE [(45,lO.aJ),(207,aMW.aJ),(208,aNE.aJ)] 38 [] [(3,[2,3])] [3]
def aE:=bd f158
theorem aX:Nk E aE:=nk
def J3 a b c d e f:=mT E f158 aE 3 [dK 0 29 [cU a,fU b,cX c],dK 1 29 [cU d,fU e,cX f]]
theorem start a b c d e f:aH E f158 aE [D.agg [sc (bool a),ints u64 b,sc (int i64 c)],D.agg [sc (bool d),ints u64 e,sc (int i64 f)]]=aO (aP (a,b,c)) (aO (aP (d,e,f)) (Hy.J3 a b c d e f)):=eJ aX
theorem iA a b c d e f:J3 a b c d e f=letI B:=wv (a,b);letI A:=sc (int i64 0);aO (gI (a,b)) (aO (gI (d,e)) (aB (decide (lH B 0<lH (wv (d,e)) 0)) (some [D.s (sc (int i64 (-1:Int))),D.s A]) (aB (decide (lH (wv (d,e)) 0<lH B 0)) (some [D.s (sc (int i64 1)),D.s A]) (aB (lH B 0==(0:Int)) (some [D.s A,D.s A]) (aO ((aP (a,b,c)/\aP (d,e,f))/\b.length≠0/\e.length≠0) (some [D.s (sc (int i64 (i64.wrap (lH B 0*lB (bI.mY (dv (a,b,c)) (dv (d,e,f))).natAbs (bI.mW (dv (a,b,c)) (dv (d,e,f))).natAbs)))),D.s A])))))):=cJ aX
def sp(x y:gB):Prop×List D:=(aP x/\aP y,[.s (.sc (.int .i64 (lH (bI.mY (dv x) (dv y)) (bI.mW (dv x) (dv y))))),.s (.sc (.int .i64 0))])
theorem bFK(z:Int)(P:Nat)(h:0<P):(0<z->0<z*(P:Int))/\(z<0->z*(P:Int)<0)/\(z=0->z*(P:Int)=0) :=
 ⟨fun hz=>Int.mul_pos hz (by omega),fun hz=>Int.mul_neg_of_neg_of_pos hz (by omega),fun hz=>by rw[hz,cAF]⟩
theorem cz(z:Int):(0<z/\lH z 0=1)\/(z<0/\lH z 0=-1)\/(z=0/\lH z 0=0):=by
 unfold lH
 by_cases h:z<0
 ·rw[if_pos h];omega
 ·rw[if_neg h]
  by_cases h':0<z
  ·rw[if_pos h'];omega
  ·rw[if_neg h'];omega
theorem spec:gU E f158 aE iW iW sp:=by
 rintro x y ⟨hx,hy⟩;refine(start x.1 x.2.1 x.2.2 y.1 y.2.1 y.2.2).trans ?_;have wx:=hx.Db;have wy:=hy.Db;have nx:=hx.Hp;have ny:=hy.Hp;obtain⟨b,a,e⟩:=x;obtain⟨c,d,f⟩:=y
 try dsimp only at *
 unfold sp
 try dsimp only
 have ax:=iF (b,a);have ay:=iF (c,d)
 try dsimp only at ax ay
 have zx:=M6.dY nx;have zy:=M6.dY ny;have sX:(0<wv (b,a)->0<bI.mY (dv (b,a,e)) (dv (c,d,f)))/\(wv (b,a)<0->bI.mY (dv (b,a,e)) (dv (c,d,f))<0)/\(wv (b,a)=0->bI.mY (dv (b,a,e)) (dv (c,d,f))=0):=bFK _ _ (bXR (by decide));have sY:(0<wv (c,d)->0<bI.mW (dv (b,a,e)) (dv (c,d,f)))/\(wv (c,d)<0->bI.mW (dv (b,a,e)) (dv (c,d,f))<0)/\(wv (c,d)=0->bI.mW (dv (b,a,e)) (dv (c,d,f))=0):=bFK _ _ (bXR (by decide));rw[gP hx,gP hy,iA,gP wx,gP wy];have guard:wv (b,a)≠0->wv (c,d)≠0->(aP (b,a,e)/\aP (c,d,f))/\a.length≠0/\d.length≠0:=fun h1 h2=>⟨⟨hx,hy⟩,fun h=>h1 (by have:=zx.1 h;omega),fun h=>h2 (by have:=zy.1 h;omega)⟩
 generalize bI.mY (dv (b,a,e)) (dv (c,d,f))=X at *;generalize bI.mW (dv (b,a,e)) (dv (c,d,f))=Y at *;have aWP:∀n:Int,lH X Y=n->some [D.s (.sc (.int .i64 n)),D.s (.sc (.int .i64 0))]=some [D.s (.sc (.int .i64 (lH X Y))),D.s (.sc (.int .i64 0))]:=fun n h=>by rw[h]
 rcases cz (wv (b,a))with ⟨h1,c1⟩ |⟨h1,c1⟩ |⟨h1,c1⟩ <;> rcases cz (wv (c,d))with ⟨h2,c2⟩ |⟨h2,c2⟩ |⟨h2,c2⟩ <;> rw[c1,c2]
 ·rw[aL,aL,bM,gP (guard (by omega) (by omega))];have:=sX.1 h1;have:=sY.1 h2;refine(congrArg (fun n=>some [D.s (.sc (.int .i64 n)),D.s (.sc (.int .i64 0))]) ?_);unfold lB lH;split <;> split <;> (try split) <;> (try split) <;> first |rfl |omega
 ·rw[aL,aQ];refine aWP _ ?_;have:=sX.1 h1;have:=sY.2.1 h2;unfold lH;rw[aU,aW]
 ·rw[aL,aQ];refine aWP _ ?_;have:=sX.1 h1;have:=sY.2.2 h2;unfold lH;rw[aU,aW]
 ·rw[aQ];refine aWP _ ?_;have:=sX.2.1 h1;have:=sY.1 h2;unfold lH;rw[aW]
 ·rw[aL,aL,bM,gP (guard (by omega) (by omega))];have:=sX.2.1 h1;have:=sY.2.1 h2;refine(congrArg (fun n=>some [D.s (.sc (.int .i64 n)),D.s (.sc (.int .i64 0))]) ?_);unfold lB lH;split <;> split <;> (try split) <;> (try split) <;> first |rfl |omega
 ·rw[aQ];refine aWP _ ?_;have:=sX.2.1 h1;have:=sY.2.2 h2;unfold lH;rw[aW]
 ·rw[aQ];refine aWP _ ?_;have:=sX.2.2 h1;have:=sY.1 h2;unfold lH;rw[aW]
 ·rw[aL,aQ];refine aWP _ ?_;have:=sX.2.2 h1;have:=sY.2.1 h2;unfold lH;rw[aU,aW]
 ·rw[aL,aL,cN rfl];refine aWP _ ?_;have:=sX.2.2 h1;have:=sY.2.2 h2;unfold lH;rw[aU,aU]
def aJ:dO:=orc2 iW iW sp
theorem ok:OK 158 aJ:=(fA E aE (aA lO.ok (aA aMW.ok (aA aNE.ok aD))) func158).mV rfl spec
end Hy
end W
namespace M
open Go AI W
def p2(n:Int):Int:=((2^n.toNat:Nat):Int)
theorem Kg(n:Int):0<p2 n:=by unfold p2;have:=bXR (n:=n.toNat) (show 0<2 by decide);omega
theorem sG{m n:Int}(hm:0<=m)(hn:0<=n):p2 (m+n)=p2 m*p2 n:=by
 unfold p2;rw[Int.toNat_add hm hn,bZS,cAN]
theorem Cl(k:Nat):p2 (k:Int)=((2^k:Nat):Int):=by unfold p2;rw[bYO]
theorem aBV:p2 0=1:=rfl
theorem aIQ:p2 1=2:=rfl
theorem fC(e:Int):aN 0 e=(0,0):=by unfold aN;rw[if_pos rfl]
theorem dW{z e:Int}:(aN z e).1=0↔z=0:=by
 constructor
 ·intro h;unfold aN at h
  by_cases hz:z=0
  ·exact hz
  ·rw[if_neg hz]at h;dsimp only at h;have hs:=(tK z.natAbs (by omega)).1;have hd:((2^tz z.natAbs:Nat):Int)∣z:=Int.ofNat_dvd_left.2 (cBI hs);have:=cCH hd;rw[h,cAF]at this;omega
 ·rintro rfl;rw[fC]
theorem lE{z e:Int}(hz:z≠0):z=(aN z e).1*p2 (tz z.natAbs:Nat)/\(aN z e).2=e+(tz z.natAbs:Nat):=by
 unfold aN;rw[if_neg hz];dsimp only;have hs:=(tK z.natAbs (by omega)).1;have hd:((2^tz z.natAbs:Nat):Int)∣z:=Int.ofNat_dvd_left.2 (cBI hs);rw[Cl,cCH hd];exact⟨rfl,rfl⟩
theorem Ay(z e:Int){k:Int}(hk:0<=k):aN (z*p2 k) e=aN z (e+k):=by
 obtain⟨n,rfl⟩:=bZV hk;rw[Cl]
 by_cases hz:z=0
 ·subst hz;rw[cAF,fC,fC]
 ·have hp:0<2^n:=bXR (by decide);have hn:z*((2^n:Nat):Int)≠0:=cCI hz (by omega);have ht:tz (z*((2^n:Nat):Int)).natAbs=n+tz z.natAbs:=by
   rw[cAE,cAH,bZP,Qh (by omega)]
  unfold aN;rw[if_neg hz,if_neg hn,ht,bZS,cAN,Int.mul_comm z,Int.mul_ediv_mul_of_pos _ _ (by omega)];congr 1;omega
theorem Oy{p:Int×Int}(h0:p.1=0->p.2=0)(h1:p.1≠0->p.1%2=1):aN p.1 p.2=p:=by
 unfold aN
 by_cases hz:p.1=0
 ·rw[if_pos hz];exact Prod.ext hz.symm (h0 hz).symm
 ·rw[if_neg hz,yR (by have:=h1 hz;omega)];refine Prod.ext ?_ ?_
  ·show p.1/((2^0:Nat):Int)=p.1;rw[Nat.pow_zero];omega
  ·show p.2+((0:Nat):Int)=p.2;omega
theorem jJ.same{p:Int×Int}(h:jJ p):aN p.1 p.2=p:=Oy h.2.2.1 h.2.2.2
theorem Dn{z e:Int}(h:(aN z e).1≠0):(aN z e).1%2=1:=by
 have hz:z≠0:=fun hz=>h (dW.2 hz)
 have hs:=(tK z.natAbs (by omega));have hv:=(lE (e:=e) hz).1;have ha:z.natAbs=(aN z e).1.natAbs*2^tz z.natAbs:=by
  rw[Cl]at hv;have:=congrArg Int.natAbs hv;rwa [cAE,cAH]at this
 have:z.natAbs/2^tz z.natAbs=(aN z e).1.natAbs:=by
  have hp:0<2^tz z.natAbs:=bXR (by decide);generalize tz z.natAbs=t at *;rw[ha,Nat.mul_div_cancel _ hp]
 rw[this]at hs;omega
theorem Cm{z e:Int}(h:(aN z e).1=0):(aN z e).2=0:=by rw[dW.1 h,fC]
theorem uG{z e G:Int}(hz:z≠0)(h:G<=e):(aN z e).1*p2 ((aN z e).2-G)=z*p2 (e-G):=by
 obtain⟨h1,h2⟩:=lE (e:=e) hz;rw[h2];have:e+(tz z.natAbs:Int)-G=(tz z.natAbs:Int)+(e-G):=by omega
 rw[this,sG (by omega) (by omega),<-cAY,<-h1]
theorem Yk{z e G:Int}(h:G<=e):(aN z e).1*p2 ((aN z e).2-G)=z*p2 (e-G):=by
 by_cases hz:z=0
 ·subst hz;rw[fC,cAF,cAF]
 ·exact uG hz h
theorem qT{z e:Int}(hz:z≠0):e<=(aN z e).2:=by have:=(lE (e:=e) hz).2;omega
theorem aIX(z e:Int):aN (-z) e=(-(aN z e).1,(aN z e).2):=by
 by_cases hz:z=0
 ·subst hz;rw[Int.neg_zero,fC];rfl
 ·have h:=lE (e:=e) hz;unfold aN;rw[if_neg hz,aU,cBC];have hs:=(tK z.natAbs (by omega)).1;have hd:((2^tz z.natAbs:Nat):Int)∣z:=Int.ofNat_dvd_left.2 (cBI hs);rw[Int.neg_ediv_of_dvd hd]
theorem aBI(z e n:Int):jQ.Mv (aN z e) n=aN z (e+n):=by
 unfold jQ.Mv
 by_cases hz:z=0
 ·subst hz;rw[fC,fC];rfl
 ·rw[if_neg (fun h=>hz (dW.1 h))];unfold aN;rw[if_neg hz,if_neg hz];dsimp only;congr 1;omega
theorem Rb{p q:Int×Int}:bI.gQ p q<=p.2/\bI.gQ p q<=q.2:=by unfold bI.gQ;split <;> omega
theorem Ek{a E b F G:Int}(h1:G<=E)(h2:G<=F):bI.nC (aN a E) (aN b F)=aN (a*p2 (E-G)+b*p2 (F-G)) G:=by
 unfold bI.nC
 by_cases ha:a=0
 ·subst ha;rw[if_pos (by rw[fC]),cAF,Int.zero_add,Ay _ _ (by omega),show G+(F-G)=F by omega]
 ·rw[if_neg (fun h=>ha (dW.1 h))]
  by_cases hb:b=0
  ·subst hb;rw[if_pos (by rw[fC]),cAF,Int.add_zero,Ay _ _ (by omega),show G+(E-G)=E by omega]
  ·rw[if_neg (fun h=>hb (dW.1 h))];have ga:=uG (e:=E) ha h1;have gb:=uG (e:=F) hb h2;have la:=qT (e:=E) ha;have lb:=qT (e:=F) hb;have hm:=Rb (p:=aN a E) (q:=aN b F);have hg:G<=bI.gQ (aN a E) (aN b F):=by unfold bI.gQ;split <;> omega
   rw[<-ga,<-gb];unfold bI.mY bI.mW;generalize bI.gQ (aN a E) (aN b F)=m at *;generalize aN a E=p at *;generalize aN b F=q at *;have e1:p2 (p.2-G)=p2 (p.2-m)*p2 (m-G):=by rw[<-sG (by omega) (by omega)];congr 1;omega
   have e2:p2 (q.2-G)=p2 (q.2-m)*p2 (m-G):=by rw[<-sG (by omega) (by omega)];congr 1;omega
   rw[e1,e2,<-cAY,<-cAY,<-Int.add_mul,Ay _ _ (by omega),show G+(m-G)=m by omega];rfl
theorem gO{z e:Int}(h1:-1048576<=e)(h2:e+(bl z.natAbs:Int)<=1048577):gT z e=true:=by
 unfold gT
 by_cases hz:z=0
 ·rw[decide_eq_true hz,cAB]
 ·have:=Dd (n:=z.natAbs) (by omega);rw[decide_eq_true (show -1048576<=e+(tz z.natAbs:Int) by omega),decide_eq_true (show e+(tz z.natAbs:Int)<=1048576 by omega),bXT,cAO]
theorem Kj(z e:Int):(aN z e).1.natAbs<=z.natAbs:=by
 unfold aN;split
 ·simp
 ·exact uA (bXR (by decide))
theorem gJ{z e:Int}(hi:gT z e=true)(hf:bl z.natAbs<=524288):jJ (aN z e):=by
 refine⟨bVN (fX (Kj z e)) hf,?_,Cm,Dn⟩
 by_cases hz:z=0
 ·subst hz;rw[fC];exact⟨by show(-1048576:Int)<=0;omega,by show(0:Int)<=1048576;omega⟩
 ·rw[(lE hz).2];unfold gT at hi;rw[decide_eq_false hz,bWS,bUX]at hi;exact⟨of_decide_eq_true hi.1,of_decide_eq_true hi.2⟩
theorem Zz(z n:Int):(z*p2 n).natAbs=z.natAbs*2^n.toNat:=by
 rw[cAE];rfl
theorem Bi{a E b F G:Int}(h1:G<=E)(h2:G<=F)(h3:-1048576<=G)(f1:bl (a*p2 (E-G)).natAbs<=524287)(f2:bl (b*p2 (F-G)).natAbs<=524287)(f3:G<=524288) :
  bI.jW (aN a E) (aN b F)=true:=by
 unfold bI.jW
 by_cases ha:a=0
 ·rw[decide_eq_true (dW.2 ha),cAB]
 ·by_cases hb:b=0
  ·rw[decide_eq_true (dW.2 hb),cAB,cAO]
  ·have ga:=uG (e:=E) ha h1;have gb:=uG (e:=F) hb h2;have la:=qT (e:=E) ha;have lb:=qT (e:=F) hb;have hm:=Rb (p:=aN a E) (q:=aN b F);have hg:G<=bI.gQ (aN a E) (aN b F):=by unfold bI.gQ;split <;> omega
   rw[<-ga]at f1;rw[<-gb]at f2;have inner:∀(p:Int×Int) (m:Int),G<=m->m<=p.2->bl (p.1*p2 (p.2-G)).natAbs<=524287->p.1≠0->bl (p.1*p2 (p.2-m)).natAbs+(m-G).toNat<=524287:=by
    intro p m h1 h2 h3 hp;have e1:p2 (p.2-G)=p2 (m-G)*p2 (p.2-m):=by rw[<-sG (by omega) (by omega)];congr 1;omega
    rw[e1,Int.mul_comm (p2 (m-G)),<-cAY,Zz,bZP,xT (by
     have:=Kg (p.2-m);have:=cCI hp (show p2 (p.2-m)≠0 by omega);omega)]at h3
    omega
   have i1:=inner _ _ hg hm.1 f1 (fun h=>ha (dW.1 h));have i2:=inner _ _ hg hm.2 f2 (fun h=>hb (dW.1 h));have x1:bl (bI.mY (aN a E) (aN b F)).natAbs+(bI.gQ (aN a E) (aN b F)-G).toNat<=524287:=i1;have x2:bl (bI.mW (aN a E) (aN b F)).natAbs+(bI.gQ (aN a E) (aN b F)-G).toNat<=524287:=i2;generalize bI.mY (aN a E) (aN b F)=X at *;generalize bI.mW (aN a E) (aN b F)=Y at *;have x3:bl (X+Y).natAbs<=max (bl X.natAbs) (bl Y.natAbs)+1:=bVN (fX (cCL _ _)) (Bh _ _);have hi:gT (X+Y) (bI.gQ (aN a E) (aN b F))=true:=gO (by omega) (by omega);have yes:∀n,bl n<=524288->fit n=true:=fun n h=>decide_eq_true h
   rw[decide_eq_false (fun h=>ha (dW.1 h)),decide_eq_false (fun h=>hb (dW.1 h)),hi,yes _ (by omega),yes _ (by omega),yes _ (by omega)];rfl
theorem Ub{z e n:Int}(h1:-1048576<=e+n)(h2:e+n+(bl z.natAbs:Int)<=1048577):jQ.Ff (aN z e) n=true:=by
 unfold jQ.Ff
 by_cases hz:z=0
 ·rw[decide_eq_true (dW.2 hz),cAB]
 ·have:=Dd (n:=z.natAbs) (by omega);have h3:=(lE (e:=e) hz).2;rw[decide_eq_false (fun h=>hz (dW.1 h)),decide_eq_true (by omega),decide_eq_true (by omega)];rfl
theorem zY{z:Int}{b k:Nat}{n:Int}(h:bl z.natAbs<=b)(hn:n<=k):bl (z*p2 n).natAbs<=b+k:=by
 rw[Zz];refine dA.2 ?_;rw[bZS];exact Nat.mul_lt_mul_of_lt_of_le (dA.1 h) (bXS (by decide) (by omega)) (bXR (by decide))
theorem Zs{x y:Int}{n:Nat}(h1:bl x.natAbs<=n)(h2:bl y.natAbs<=n):bl (x+y).natAbs<=n+1:=by
 have:=bVN (fX (cCL x y)) (Bh _ _);omega
theorem aWQ{z:Int}{n:Nat}(h:bl z.natAbs<=n)(k:Int):bl (z/p2 k).natAbs<=n:=bVN (fX (uA (bXR (by decide)))) h
theorem aMJ{z:Int}{n:Nat}(h:bl z.natAbs<=n):bl (-z).natAbs<=n:=by rwa [cBC]
theorem Gl:bl (1:Int).natAbs<=1:=dA.2 (by decide)
theorem Bq{R:Type}(V:Int×Int)(k:Bool->List Int->Int->Option R):(aC (isNeg V.1) fun b=>aC (M6.dg V.1.natAbs) fun l=>aC V.2 fun e=>k b l e)=k (isNeg V.1) (M6.dg V.1.natAbs) V.2:=rfl
theorem vl{α R:Type}(x:α)(k:α->Option R):aC x k=k x:=rfl
end M
namespace AI
open Go Go.RowKit
def allB:Nat->(Nat->Bool)->Bool
 |0,_=>true
 |n+1,f=>f n&&allB n f
theorem Wq{f:Nat->Bool}:∀{n:Nat},allB n f=true->∀i,i<n->f i=true
 |0,_,i,hi=>absurd hi (by omega)
 |n+1,h,i,hi=>by
  simp only[allB,bUX]at h
  by_cases hc:i=n
  ·subst hc;exact h.1
  ·exact Wq h.2 i (by omega)
def pR{β:Type}(p:SPar β)(d:β):kW (Nat×(Nat->β)) where
 put x:=.rows p.n x.1 fun i=>p.put (x.2 i)
 get
  | .rows sz n g=>if sz=p.n/\allB n (fun i=>(p.get (g i)).isSome)=true then some (n,fun i=>(p.get (g i)).getD d)else none
  |_=>none
 le:=by
  intro dd x h
  match dd,h with
  | .rows sz n g,h =>
   dsimp only at h;split at h
   ·rename_i hc;cases h;obtain⟨rfl,zR⟩:=hc;rintro Y w v ⟨A,c,hv,hle,aUR⟩;refine⟨A,c,hv,hle,fun i hi=>?_⟩;obtain⟨h1,b,off,hA,h2⟩:=aUR i hi;have hs:=Wq zR i hi;obtain⟨y,hy⟩:=Option.isSome_iff_exists.1 hs;obtain⟨a1,a2,a3⟩:=p.le hy;dsimp only;rw[hy];refine⟨a2,b,off,hA,fun j s hj=>?_⟩;obtain⟨s0,Xg⟩:=bB (l:=g i) (i:=j) (by have:=aT hj;simp only[Option.getD_some]at this;omega);obtain⟨b1,b2,u,hu,hr⟩:=h2 j s0 Xg;exact⟨b1,b2,u,hu,a3 j s0 s Xg hj Y w u hr⟩
   ·cases h
def pFn(id:FuncId):kW Unit where
 put _:=.s (.sc (.func (.func id) #[] #[]))
 get
  | .s (.sc (.func (.func g) ⟨[]⟩ ⟨[]⟩))=>if g=id then some ()else none
  |_=>none
 le:=by
  intro dd x h;split at h
  ·split at h
   ·rename_i hg;subst hg;exact Cc.refl _
   ·cases h
  ·cases h
end AI
namespace R
def sum(f:Nat->Rat):Nat->Rat
 |0=>0
 |n+1=>sum f n+f n
theorem dM(f:Nat->Rat)(n:Nat):sum f (n+1)=sum f n+f n:=rfl
theorem jX{f g:Nat->Rat}{n:Nat}(h:∀k,k<n->f k=g k):sum f n=sum g n:=by
 induction n with
 |zero=>rfl
 |succ n ih=>rw[dM,dM,ih fun k hk=>h k (by omega),h n (by omega)]
theorem sum_add(f g:Nat->Rat)(n:Nat):sum (fun k=>f k+g k) n=sum f n+sum g n:=by
 induction n with
 |zero=>simp only[sum];grind
 |succ n ih=>simp only[dM,ih];grind
theorem Aw(f g:Nat->Rat)(n:Nat):sum (fun k=>f k-g k) n=sum f n-sum g n:=by
 induction n with
 |zero=>simp only[sum];grind
 |succ n ih=>simp only[dM,ih];grind
theorem mR(c:Rat)(f:Nat->Rat)(n:Nat):sum (fun k=>c*f k) n=c*sum f n:=by
 induction n with
 |zero=>simp only[sum];grind
 |succ n ih=>simp only[dM,ih];grind
theorem vM{f g:Nat->Rat}{n:Nat}(h:∀k,k<n->f k<=g k):sum f n<=sum g n:=by
 induction n with
 |zero=>simp only[sum];grind
 |succ n ih=>simp only[dM];have:=ih fun k hk=>h k (by omega);have:=h n (by omega);grind
def ab(x:Rat):Rat:=if 0<=x then x else -x
theorem aM(x:Rat):0<=ab x:=by unfold ab;split <;> grind
theorem Bs(x:Rat):x<=ab x:=by unfold ab;split <;> grind
theorem nI(x:Rat):-x<=ab x:=by unfold ab;split <;> grind
theorem bW{x a:Rat}:ab x<=a↔-a<=x/\x<=a:=by unfold ab;split <;> grind
theorem iI(x:Rat):ab (-x)=ab x:=by unfold ab;split <;> split <;> grind
theorem Sn(x y:Rat):ab (x+y)<=ab x+ab y:=by unfold ab;split <;> split <;> split <;> grind
theorem aF{a b:Rat}(h:0<=a)(h':0<=b):0<=a*b:=Rat.mul_nonneg h h'
theorem fJ(x y:Rat):ab (x*y)=ab x*ab y:=by
 unfold ab
 by_cases hx:0<=x <;> by_cases hy:0<=y
 ·rw[if_pos hx,if_pos hy,if_pos (aF hx hy)]
 ·rw[if_pos hx,if_neg hy];have:=aF hx (show 0<=-y by grind);split <;> grind
 ·rw[if_neg hx,if_pos hy];have:=aF (show 0<=-x by grind) hy;split <;> grind
 ·rw[if_neg hx,if_neg hy];have:=aF (show 0<=-x by grind) (show 0<=-y by grind);split <;> grind
theorem bR{a b c d:Rat}(h1:0<=a)(h2:a<=b)(h3:0<=c)(h4:c<=d):a*c<=b*d:=by
 have:=aF h1 (show 0<=d-c by grind);have:=aF (show 0<=b-a by grind) (show 0<=d by grind);grind
theorem xY(f:Nat->Rat)(n:Nat):ab (sum f n)<=sum (fun k=>ab (f k)) n:=by
 induction n with
 |zero=>simp[sum,ab]
 |succ n ih=>simp only[dM];have:=Sn (sum f n) (f n);grind
theorem aHW{f:Nat->Rat}{n:Nat}(h:∀k,0<=f k):0<=sum f n:=by
 induction n with
 |zero=>simp only[sum];grind
 |succ n ih=>simp only[dM];have:=h n;grind
def conv(f g:Nat->Rat)(m:Nat):Rat:=sum (fun j=>f j*g (m-j)) (m+1)
theorem aHX(f g:Nat->Rat)(n:Nat):sum (conv f g) n=sum (fun j=>f j*sum g (n-j)) n:=by
 induction n with
 |zero=>rfl
 |succ n ih =>
  rw[dM,ih,conv,dM,dM];rw[show n+1-n=1 by omega,bYW];have:sum (fun j=>f j*sum g (n+1-j)) n=sum (fun j=>f j*sum g (n-j)+f j*g (n-j)) n :=
   jX fun k hk=>by rw[show n+1-k=(n-k)+1 by omega,dM];grind
  rw[this,sum_add];have:sum g 1=g 0:=by simp only[sum];grind
  grind
theorem Dk(f g:Nat->Rat)(n:Nat):sum f n*sum g n=sum (conv f g) n+sum (fun j=>f j*(sum g n-sum g (n-j))) n:=by
 rw[aHX,<-sum_add];have:sum (fun k=>f k*sum g (n-k)+f k*(sum g n-sum g (n-k))) n=sum (fun k=>sum g n*f k) n:=jX fun k _=>by grind
 rw[this,mR];grind
def tm(x:Rat):Nat->Rat
 |0=>1
 |k+1=>tm x k*x/((k+1:Nat):Rat)
theorem cast_pos(k:Nat):(0:Rat)<((k+1:Nat):Rat):=by
 exact_mod_cast Nat.succ_pos k
theorem kE(x:Rat)(k:Nat):((k+1:Nat):Rat)*tm x (k+1)=x*tm x k:=by
 have:=cast_pos k;rw[tm];grind
theorem Qk(x y:Rat):∀m,conv (tm x) (tm y) m=tm (x+y) m
 |0=>by simp only[conv,sum,tm,Nat.sub_zero];grind
 |m+1=>by
  have ih:=Qk x y m;have hp:=cast_pos m;have e:=kE (x+y) m;have h:((m+1:Nat):Rat)*conv (tm x) (tm y) (m+1)=(x+y)*conv (tm x) (tm y) m:=by
   unfold conv;rw[<-mR];have h1:sum (fun k=>((m+1:Nat):Rat)*(tm x k*tm y (m+1-k))) (m+1+1)=sum (fun k=>(k:Rat)*tm x k*tm y (m+1-k)) (m+1+1)+sum (fun k=>tm x k*(((m+1-k:Nat):Rat)*tm y (m+1-k))) (m+1+1):=by
    rw[<-sum_add];refine jX fun k hk=>?_
    have:((m+1:Nat):Rat)=(k:Rat)+((m+1-k:Nat):Rat):=by
     rw[<-Rat.natCast_add];congr 1;omega
    rw[this];grind
   have h2:∀n,sum (fun k=>(k:Rat)*tm x k*tm y (m+1-k)) (n+1)=x*sum (fun k=>tm x k*tm y (m-k)) n:=by
    intro n
    induction n with
    |zero=>simp only[sum];grind
    |succ n ih =>
     rw[dM,ih,dM,show m+1-(n+1)=m-n by omega];have:=kE x n;grind
   have h3:sum (fun k=>tm x k*(((m+1-k:Nat):Rat)*tm y (m+1-k))) (m+1+1)=y*sum (fun k=>tm x k*tm y (m-k)) (m+1):=by
    rw[dM,bYW];have:sum (fun k=>tm x k*(((m+1-k:Nat):Rat)*tm y (m+1-k))) (m+1)=sum (fun k=>y*(tm x k*tm y (m-k))) (m+1):=by
     refine jX fun k hk=>?_
     have:=kE y (m-k);rw[show m+1-k=m-k+1 by omega];grind
    rw[this,mR];grind
   rw[h1,h2,h3];grind
  rw[ih]at h;generalize ((m+1:Nat):Rat)=q at *;generalize conv (tm x) (tm y) (m+1)=u at *;generalize tm (x+y) (m+1)=v at *;have:q*u=q*v:=by rw[h,e]
  have hq:q≠0:=by grind
  clear h e ih;grind
theorem kM(f:Nat->Rat)(a n:Nat):sum f (a+n)=sum f a+sum (fun i=>f (a+i)) n:=by
 induction n with
 |zero=>simp only[sum,bVP];grind
 |succ n ih=>rw[<-bYI,dM,ih,dM];grind
theorem Ts{f:Nat->Rat}(h:∀k,0<=f k){a b:Nat}(aSX:a<=b):sum f a<=sum f b:=by
 obtain⟨n,rfl⟩:=bVW aSX;rw[kM];have:=aHW (f:=fun i=>f (a+i)) (n:=n) fun k=>h _
 grind
def hf:Nat->Rat
 |0=>1
 |k+1=>hf k/2
theorem vR:∀k,0<hf k
 |0=>by simp only[hf];grind
 |k+1=>by have:=vR k;simp only[hf];grind
theorem La(a:Nat):∀b,hf (a+b)=hf a*hf b
 |0=>by simp only[hf,bVP];grind
 |b+1=>by rw[<-bYI,hf,La a b,hf];grind
theorem aKH{a b:Nat}(h:a<=b):hf b<=hf a:=by
 obtain⟨n,rfl⟩:=bVW h;clear h
 induction n with
 |zero=>grind
 |succ n ih=>rw[<-bYI,hf];have:=vR (a+n);grind
theorem Rl(k:Nat):hf k*(2^k:Nat)=1:=by
 induction k with
 |zero=>simp only[hf];grind
 |succ k ih=>rw[hf,bZQ,cBJ];grind
theorem bJR(n:Nat):sum hf n<=2:=by
 have:sum hf n=2-2*hf n:=by
  induction n with
  |zero=>simp only[sum,hf];grind
  |succ n ih=>rw[dM,ih,hf];grind
 have:=vR n;grind
theorem mQ{x:Rat}(h:0<=x):∀k,0<=tm x k
 |0=>by simp only[tm];grind
 |k+1=>by
  have h1:=aF h (mQ h k);have h2:=kE x k;have h3:=cast_pos k;refine Rat.not_lt.1 fun hn=>?_
  have:=cAI h3 (show 0 < -(tm x (k+1)) by grind);grind
theorem Oh(x:Rat):∀k,ab (tm x k)=tm (ab x) k
 |0=>by simp only[tm,ab];grind
 |k+1=>by
  have h3:=cast_pos k;have h1:=Oh x k;have h2:=kE x k;have h4:=kE (ab x) k;have h5:ab (((k+1:Nat):Rat)*tm x (k+1))=ab x*ab (tm x k):=by rw[h2,fJ]
  rw[fJ,h1]at h5;have h6:ab ((k+1:Nat):Rat)=((k+1:Nat):Rat):=by unfold ab;rw[if_pos (by grind)]
  rw[h6]at h5;generalize ((k+1:Nat):Rat)=q at *;generalize ab (tm x (k+1))=u at *;generalize tm (ab x) (k+1)=v at *;have hq:q≠0:=by grind
  have:q*u=q*v:=by grind
  clear h1 h2 h4 h5 h6;grind
theorem aAR{x y:Rat}(h:0<=x)(aUM:x<=y):∀k,tm x k<=tm y k
 |0=>by simp only[tm];grind
 |k+1=>by
  have h1:=bR (mQ h k) (aAR h aUM k) h aUM;have h2:=kE x k;have h4:=kE y k;have h3:=cast_pos k;refine Rat.not_lt.1 fun hn=>?_
  have:=cAI h3 (show 0<tm x (k+1)-tm y (k+1) by grind);grind
theorem aHQ(j:Nat):tm 4 (8+j)<=2*hf j:=by
 induction j with
 |zero =>
  have:tm 4 8=65536/40320:=by simp only[tm];grind
  simp only[hf,bVP,this];grind
 |succ j ih =>
  have h2:=kE 4 (8+j);have h3:(8:Rat)<=((8+j+1:Nat):Rat):=by exact_mod_cast(show 8<=8+j+1 by omega)
  have h4:=mQ (x:=4) (by grind) (8+j+1);rw[<-bYI,hf];have:=aF (show 0<=((8+j+1:Nat):Rat)-8 by grind) h4;grind
theorem yS(m n:Nat):sum (fun i=>tm 4 (8+m+i)) n<=4*hf m:=by
 have h1:sum (fun i=>tm 4 (8+m+i)) n<=sum (fun i=>2*hf m*hf i) n:=vM fun k _=>by
  have:=aHQ (m+k);rw[La,<-bYI]at this;grind
 rw[mR]at h1;have:=aF (show 0<=2*hf m by have:=vR m;grind) (show 0<=2-sum hf n by have:=bJR n;grind);grind
theorem aAS(n:Nat):sum (tm 4) n<=64:=by
 have h0:∀k,0<=tm 4 k:=mQ (by grind);have h1:=Ts h0 (show n<=8+n by omega);have h2:=kM (tm 4) 8 n;have h3:=yS 0 n;have h4:sum (tm 4) 8<=52:=by
  simp only[sum,tm];grind
 simp only[hf,bVP]at h3;grind
theorem Ii{f g:Nat->Rat}(aSP:∀k,ab (f k)<=tm 4 k)(hg:∀k,ab (g k)<=tm 4 k)(m:Nat) :
  ab (sum (fun j=>f j*(sum g (2*(8+m))-sum g (2*(8+m)-j))) (2*(8+m)))<=512*hf m:=by
 have hG:∀a n,ab (sum g (a+n)-sum g a)<=sum (fun i=>tm 4 (a+i)) n:=fun a n=>by
  rw[kM,show sum g a+sum (fun i=>g (a+i)) n-sum g a=sum (fun i=>g (a+i)) n by grind];exact bZW (xY _ _) (vM fun k _=>hg _)
 have h0:∀k,0<=tm 4 k:=mQ (by grind);refine bZW (xY _ _) ?_;have hp:=vR m;have e:2*(8+m)=(8+m)+(8+m):=by omega
 rw[show sum (fun k=>ab (f k*(sum g (2*(8+m))-sum g (2*(8+m)-k)))) (2*(8+m))=sum (fun k=>ab (f k*(sum g (2*(8+m))-sum g (2*(8+m)-k)))) ((8+m)+(8+m)) by rw[<-e],kM];have p1:sum (fun k=>ab (f k*(sum g (2*(8+m))-sum g (2*(8+m)-k)))) (8+m)<=sum (fun k=>4*hf m*tm 4 k) (8+m):=vM fun k hk=>by
  rw[fJ];have h1:=hG (2*(8+m)-k) k;rw[show 2*(8+m)-k+k=2*(8+m) by omega]at h1;have h2:=yS (8+m-k) k;rw[show 8+(8+m-k)=2*(8+m)-k-m by omega]at h2;have h3:=yS (m+(8+m-k)-8+8-8+8) k;have h5:sum (fun i=>tm 4 (2*(8+m)-k+i)) k<=4*hf (2*(8+m)-k-8):=by
   have:=yS (2*(8+m)-k-8) k;rwa [show 8+(2*(8+m)-k-8)=2*(8+m)-k by omega]at this
  have h6:=aKH (show m<=2*(8+m)-k-8 by omega);have:=bR (aM _) (aSP k) (aM _) (show ab (sum g (2*(8+m))-sum g (2*(8+m)-k))<=4*hf m by grind);grind
 have p2:sum (fun i=>ab (f (8+m+i)*(sum g (2*(8+m))-sum g (2*(8+m)-(8+m+i))))) (8+m)<=sum (fun i=>64*tm 4 (8+m+i)) (8+m):=vM fun k hk=>by
  rw[fJ];have h1:=hG (2*(8+m)-(8+m+k)) (8+m+k);rw[show 2*(8+m)-(8+m+k)+(8+m+k)=2*(8+m) by omega]at h1;have h2:=kM (tm 4) (2*(8+m)-(8+m+k)) (8+m+k);have h3:=aAS (2*(8+m)-(8+m+k)+(8+m+k));have h4:=aHW (n:=2*(8+m)-(8+m+k)) h0;have:=bR (aM _) (aSP (8+m+k)) (aM _) (show ab (sum g (2*(8+m))-sum g (2*(8+m)-(8+m+k)))<=64 by grind);grind
 rw[mR]at p1 p2;have t1:=aAS (8+m);have t2:=yS m (8+m);have:=aF (show 0<=4*hf m by grind) (show 0<=64-sum (tm 4) (8+m) by grind);grind
def cc(k:Nat):Rat:=if k%4=0 then 1 else if k%4=2 then -1 else 0
def ss(k:Nat):Rat:=if k%4=1 then 1 else if k%4=3 then -1 else 0
theorem aWO(j l:Nat):cc j*cc l-ss j*ss l=cc (j+l):=by
 unfold cc ss;rw[Nat.add_mod];have h1:=bWZ j (show 4>0 by omega);have h2:=bWZ l (show 4>0 by omega);generalize j%4=a at *;generalize l%4=b at *;have h3:a=0\/a=1\/a=2\/a=3:=by omega
 have h4:b=0\/b=1\/b=2\/b=3:=by omega
 rcases h3 with rfl |rfl |rfl |rfl <;> rcases h4 with rfl |rfl |rfl |rfl <;> simp <;> grind
theorem aTN(j l:Nat):ss j*cc l+cc j*ss l=ss (j+l):=by
 unfold cc ss;rw[Nat.add_mod];have h1:=bWZ j (show 4>0 by omega);have h2:=bWZ l (show 4>0 by omega);generalize j%4=a at *;generalize l%4=b at *;have h3:a=0\/a=1\/a=2\/a=3:=by omega
 have h4:b=0\/b=1\/b=2\/b=3:=by omega
 rcases h3 with rfl |rfl |rfl |rfl <;> rcases h4 with rfl |rfl |rfl |rfl <;> simp <;> grind
theorem aMF(k:Nat):ab (cc k)<=1:=by
 unfold cc ab;split <;> split <;> grind
theorem aAV(k:Nat):ab (ss k)<=1:=by
 unfold ss ab;split <;> split <;> grind
def uC(x:Rat)(n:Nat):Rat:=sum (fun k=>cc k*tm x k) n
def tM(x:Rat)(n:Nat):Rat:=sum (fun k=>ss k*tm x k) n
theorem aDB{x:Rat}(h:ab x<=4)(k:Nat):ab (cc k*tm x k)<=tm 4 k:=by
 rw[fJ,Oh];have:=bR (aM _) (aMF k) (mQ (aM x) k) (aAR (aM x) h k);grind
theorem aAU{x:Rat}(h:ab x<=4)(k:Nat):ab (ss k*tm x k)<=tm 4 k:=by
 rw[fJ,Oh];have:=bR (aM _) (aAV k) (mQ (aM x) k) (aAR (aM x) h k);grind
theorem aWL(x y:Rat)(m:Nat):conv (fun k=>cc k*tm x k) (fun k=>cc k*tm y k) m-conv (fun k=>ss k*tm x k) (fun k=>ss k*tm y k) m=cc m*tm (x+y) m:=by
 rw[<-Qk];unfold conv;rw[<-Aw,<-mR];refine jX fun k hk=>?_
 have:=aWO k (m-k);rw[show k+(m-k)=m by omega]at this;rw[<-this];grind
theorem aWK(x y:Rat)(m:Nat):conv (fun k=>ss k*tm x k) (fun k=>cc k*tm y k) m+conv (fun k=>cc k*tm x k) (fun k=>ss k*tm y k) m=ss m*tm (x+y) m:=by
 rw[<-Qk];unfold conv;rw[<-sum_add,<-mR];refine jX fun k hk=>?_
 have:=aTN k (m-k);rw[show k+(m-k)=m by omega]at this;rw[<-this];grind
theorem aLZ{x y:Rat}(hx:ab x<=4)(hy:ab y<=4)(m:Nat):ab (uC (x+y) (2*(8+m))-(uC x (2*(8+m))*uC y (2*(8+m))-tM x (2*(8+m))*tM y (2*(8+m))))<=1024*hf m:=by
 have h1:=Ii (aDB hx) (aDB hy) m;have h2:=Ii (aAU hx) (aAU hy) m;unfold uC tM;rw[Dk,Dk];have h3:sum (fun k=>cc k*tm (x+y) k) (2*(8+m))=sum (conv (fun k=>cc k*tm x k) (fun k=>cc k*tm y k)) (2*(8+m))-sum (conv (fun k=>ss k*tm x k) (fun k=>ss k*tm y k)) (2*(8+m)):=by
  rw[<-Aw];exact jX fun k _=>(aWL x y k).symm
 rw[h3];rw[bW]at *;grind
theorem aII{x y:Rat}(hx:ab x<=4)(hy:ab y<=4)(m:Nat):ab (tM (x+y) (2*(8+m))-(tM x (2*(8+m))*uC y (2*(8+m))+uC x (2*(8+m))*tM y (2*(8+m))))<=1024*hf m:=by
 have h1:=Ii (aAU hx) (aDB hy) m;have h2:=Ii (aDB hx) (aAU hy) m;unfold uC tM;rw[Dk,Dk];have h3:sum (fun k=>ss k*tm (x+y) k) (2*(8+m))=sum (conv (fun k=>ss k*tm x k) (fun k=>cc k*tm y k)) (2*(8+m))+sum (conv (fun k=>cc k*tm x k) (fun k=>ss k*tm y k)) (2*(8+m)):=by
  rw[<-sum_add];exact jX fun k _=>(aWK x y k).symm
 rw[h3];rw[bW]at *;grind
theorem aMA(x:Rat)(n:Nat):uC (-x) n=uC x n:=by
 refine jX fun k _=>?_
 have:∀k,cc k*tm (-x) k=cc k*tm x k/\ss k*tm (-x) k=- (ss k*tm x k):=by
  intro k;have h:∀j,tm (-x) (2*j)=tm x (2*j)/\tm (-x) (2*j+1)=- tm x (2*j+1):=by
   intro j
   induction j with
   |zero=>simp only[tm];grind
   |succ j ih =>
    rw[show 2*(j+1)=2*j+1+1 by omega];obtain⟨h1,h2⟩:=ih;have e:tm (-x) (2*j+1+1)=tm x (2*j+1+1):=by rw[tm,h2];grind [tm]
    refine⟨e,?_⟩;rw[tm,e];grind [tm]
  have:=h (k/2);unfold cc ss
  by_cases hk:k%2=0
  ·rw[show 2*(k/2)=k by omega]at this;rw[if_neg (show ¬k%4=1 by omega),if_neg (show ¬k%4=3 by omega),this.1];grind
  ·rw[show 2*(k/2)+1=k by omega]at this;rw[if_neg (show ¬k%4=0 by omega),if_neg (show ¬k%4=2 by omega),this.2];grind
 exact(this k).1
theorem aIJ(x:Rat)(n:Nat):tM (-x) n=- tM x n:=by
 unfold tM;rw[show -sum (fun k=>ss k*tm x k) n=(-1)*sum (fun k=>ss k*tm x k) n by grind,<-mR];refine jX fun k _=>?_
 have h:∀j,tm (-x) (2*j)=tm x (2*j)/\tm (-x) (2*j+1)=- tm x (2*j+1):=by
  intro j
  induction j with
  |zero=>simp only[tm];grind
  |succ j ih =>
   rw[show 2*(j+1)=2*j+1+1 by omega];obtain⟨h1,h2⟩:=ih;have e:tm (-x) (2*j+1+1)=tm x (2*j+1+1):=by rw[tm,h2];grind [tm]
   refine⟨e,?_⟩;rw[tm,e];grind [tm]
 have:=h (k/2);unfold ss
 by_cases hk:k%2=0
 ·rw[if_neg (show ¬k%4=1 by omega),if_neg (show ¬k%4=3 by omega)];grind
 ·rw[show 2*(k/2)+1=k by omega]at this;rw[this.2];grind
theorem Jl{x:Rat}(h0:0<=x)(h1:x<=1)(a:Nat)(ha:1<=a)(n:Nat):sum (fun i=>tm x (a+i)) n<=2*tm x a:=by
 have hh:∀i,tm x (a+i)<=tm x a*hf i:=by
  intro i
  induction i with
  |zero=>simp only[hf,bVP];grind
  |succ i ih =>
   have h2:=kE x (a+i);have h3:(2:Rat)<=((a+i+1:Nat):Rat):=by exact_mod_cast(show 2<=a+i+1 by omega)
   have h4:=mQ h0 (a+i+1);have h5:=mQ h0 (a+i);have:=aF (show 0<=((a+i+1:Nat):Rat)-2 by grind) h4;have:=aF (show 0<=1-x by grind) h5;rw[<-bYI,hf];grind
 have h1:sum (fun i=>tm x (a+i)) n<=sum (fun i=>tm x a*hf i) n:=vM fun k _=>hh k
 rw[mR]at h1;have:=aF (mQ h0 a) (show 0<=2-sum hf n by have:=bJR n;grind);grind
theorem aLY{x:Rat}(h:ab x<=1){a n:Nat}(ha:1<=a)(hn:a<=n):ab (uC x n-uC x a)<=2*tm (ab x) a:=by
 obtain⟨m,rfl⟩:=bVW hn;unfold uC;rw[kM,show sum (fun k=>cc k*tm x k) a+sum (fun i=>cc (a+i)*tm x (a+i)) m-sum (fun k=>cc k*tm x k) a=sum (fun i=>cc (a+i)*tm x (a+i)) m by grind];refine bZW (xY _ _) (bZW (vM fun k _=>?_) (Jl (aM x) h a ha m));rw[fJ,Oh];have:=bR (aM _) (aMF (a+k)) (mQ (aM x) (a+k)) cAZ;grind
theorem aIG{x:Rat}(h:ab x<=1){a n:Nat}(ha:1<=a)(hn:a<=n):ab (tM x n-tM x a)<=2*tm (ab x) a:=by
 obtain⟨m,rfl⟩:=bVW hn;unfold tM;rw[kM,show sum (fun k=>ss k*tm x k) a+sum (fun i=>ss (a+i)*tm x (a+i)) m-sum (fun k=>ss k*tm x k) a=sum (fun i=>ss (a+i)*tm x (a+i)) m by grind];refine bZW (xY _ _) (bZW (vM fun k _=>?_) (Jl (aM x) h a ha m));rw[fJ,Oh];have:=bR (aM _) (aAV (a+k)) (mQ (aM x) (a+k)) cAZ;grind
theorem bDM:∃k:Nat,k=1048576:=⟨_,rfl⟩
def K:Nat:=Classical.choose bDM
theorem aXB:K=1048576:=Classical.choose_spec bDM
def aRE:Nat:=2*(8+(K+10))
def vW:Rat:=hf K
def sn(x:Rat):Rat:=tM x aRE
def cs(x:Rat):Rat:=uC x aRE
theorem vG:0<vW:=vR K
theorem aLE:1024*hf (K+10)=vW:=by
 have:=La K 10;have h:hf 10=1/1024:=by simp only[hf];grind
 unfold vW;grind
theorem Bd{n:Nat}(h:n<=1048576):vW<=hf n:=aKH (by rw[aXB];exact h)
theorem Dy:vW<=1/1048576:=by
 have:=Bd (n:=20) (by omega);simp only[hf]at this;grind
theorem Gg{x y:Rat}(hx:ab x<=4)(hy:ab y<=4):ab (cs (x+y)-(cs x*cs y-sn x*sn y))<=vW:=by
 rw[<-aLE];exact aLZ hx hy _
theorem aIE{x y:Rat}(hx:ab x<=4)(hy:ab y<=4):ab (sn (x+y)-(sn x*cs y+cs x*sn y))<=vW:=by
 rw[<-aLE];exact aII hx hy _
theorem Zm(x:Rat):cs (-x)=cs x:=aMA x _
theorem Fa(x:Rat):sn (-x)=- sn x:=aIJ x _
theorem aOA(k:Nat):tm 0 (k+1)=0:=by rw[tm];grind
theorem Si{a:Nat}(h:a<=1048576):a<=aRE:=by unfold aRE;rw[aXB];omega
theorem Iy{x:Rat}(h:ab x<=1){a:Nat}(ha:1<=a)(hn:a<=1048576):ab (cs x-uC x a)<=2*tm (ab x) a:=aLY h ha (Si hn)
theorem Qq{x:Rat}(h:ab x<=1){a:Nat}(ha:1<=a)(hn:a<=1048576):ab (sn x-tM x a)<=2*tm (ab x) a:=aIG h ha (Si hn)
theorem aDC:cs 0=1:=by
 have h:=Iy (x:=0) (by simp only[ab];grind) (a:=1) (by omega) (by omega);rw[show ab 0=0 by simp only[ab];grind,show(1:Nat)=0+1 by rfl,aOA]at h;have h2:uC 0 (0+1)=1:=by simp[uC,sum,cc,tm];grind
 rw[bW,h2]at h;grind
theorem aOR{x:Rat}(hx:ab x<=4):ab (sn x*sn x+cs x*cs x-1)<=vW:=by
 have:=Gg hx (show ab (-x)<=4 by rwa [iI]);rw[show x+-x=0 by grind,aDC,Zm,Fa]at this;rw[bW]at *;grind
theorem Ol{x:Rat}(hx:ab x<=4):ab (sn (2*x)-2*sn x*cs x)<=vW:=by
 have:=aIE hx hx;rw[show x+x=2*x by grind]at this;rw[bW]at *;grind
theorem Pm{x:Rat}(hx:ab x<=4):ab (cs (2*x)-(1-2*(sn x*sn x)))<=2*vW:=by
 have:=Gg hx hx;have:=aOR hx;rw[show x+x=2*x by grind]at *;rw[bW]at *;grind
theorem Jp{a b:Rat}(h:a*a<=b*b)(hb:0<=b):ab a<=b:=by
 rw[bW];constructor
 ·refine Rat.not_lt.1 fun hn=>?_
  have:=cAI (show 0 < -a-b by grind) (show 0 < -a+b by grind);grind
 ·refine Rat.not_lt.1 fun hn=>?_
  have:=cAI (show 0<a-b by grind) (show 0<a+b by grind);grind
theorem bFH(a:Rat):0<=a*a:=by
 by_cases h:0<=a
 ·exact aF h h
 ·have:=aF (show 0<=-a by grind) (show 0<=-a by grind);grind
theorem aBC{x:Rat}(hx:ab x<=4):ab (sn x)<=1+vW:=by
 have h:=aOR hx;have h1:=vG;have h2:=bFH (cs x);have h3:=aF (show 0<=vW by grind) (show 0<=vW by grind);refine Jp ?_ (by grind);rw[bW]at h;grind
theorem aDF{x:Rat}(hx:ab x<=4):ab (cs x)<=1+vW:=by
 have h:=aOR hx;have h1:=vG;have h2:=bFH (sn x);have h3:=aF (show 0<=vW by grind) (show 0<=vW by grind);refine Jp ?_ (by grind);rw[bW]at h;grind
theorem bG{x:Rat}(h:0<=x):ab x=x:=by unfold ab;rw[if_pos h]
theorem Ch(x:Rat):tm x 1=x/\tm x 2=x*x/2/\tm x 3=x*x*x/6/\tm x 4=x*x*x*x/24/\tm x 5=x*x*x*x*x/120/\tm x 6=x*x*x*x*x*x/720:=by
 simp only[tm];refine⟨?_,?_,?_,?_,?_,?_⟩ <;> grind
theorem wF{x:Rat}(h0:0<=x)(h1:x<=1):x-x*x*x/6<=sn x/\sn x<=x-x*x*x/6+x*x*x*x*x/60:=by
 have a1:ab x<=1:=by rwa [bG h0]
 have t5:=Qq a1 (a:=5) (by omega) (by omega);have t7:=Qq a1 (a:=7) (by omega) (by omega);rw[bG h0]at t5 t7;obtain⟨e1,e2,e3,e4,e5,e6⟩:=Ch x;have p5:tM x 5=x-x*x*x/6:=by simp[tM,sum,ss];rw[e1,e3];grind
 have p7:tM x 7=x-x*x*x/6+x*x*x*x*x/120:=by simp[tM,sum,ss];rw[e1,e3,e5];grind
 have e7:tm x 7<=tm x 5/4:=by
  have h2:=kE x 6;have h3:=kE x 5;have:=mQ h0 7;have:=mQ h0 6;have:=mQ h0 5;have:=aF (show 0<=1-x by grind) (mQ h0 6);have:=aF (show 0<=1-x by grind) (mQ h0 5);norm_cast at h2 h3;grind
 rw[bW,p5,e5]at t5;rw[bW,p7]at t7;rw[e5]at e7;grind
theorem Lr{x:Rat}(h0:0<=x)(h1:x<=1):1-x*x/2<=cs x/\cs x<=1-x*x/2+x*x*x*x/12:=by
 have a1:ab x<=1:=by rwa [bG h0]
 have t5:=Iy a1 (a:=4) (by omega) (by omega);have t7:=Iy a1 (a:=6) (by omega) (by omega);rw[bG h0]at t5 t7;obtain⟨e1,e2,e3,e4,e5,e6⟩:=Ch x;have p5:uC x 4=1-x*x/2:=by simp[uC,sum,cc];rw[e2,tm];grind
 have p7:uC x 6=1-x*x/2+x*x*x*x/24:=by simp[uC,sum,cc];rw[e2,e4,tm];grind
 have e7:tm x 6<=tm x 4/4:=by
  have h2:=kE x 5;have h3:=kE x 4;have:=mQ h0 6;have:=mQ h0 5;have:=mQ h0 4;have:=aF (show 0<=1-x by grind) (mQ h0 5);have:=aF (show 0<=1-x by grind) (mQ h0 4);norm_cast at h2 h3;grind
 rw[bW,p5,e4]at t5;rw[bW,p7]at t7;rw[e4]at e7;grind
theorem aHP{x y:Rat}(hx:ab x<=1)(hy:ab y<=1):∀k,ab (tm y (k+1)-tm x (k+1))<=ab (y-x)*tm 1 k
 |0=>by
  obtain⟨e1,_⟩:=Ch x;obtain⟨e2,_⟩:=Ch y;rw[show 0+1=1 by rfl,e1,e2,tm];grind
 |k+1=>by
  have ih:=aHP hx hy k;have h2:=kE x (k+1);have h3:=kE y (k+1);have h1:=kE 1 k;have hp:=cast_pos (k+1);have e:((k+1+1:Nat):Rat)*(tm y (k+1+1)-tm x (k+1+1))=(y-x)*tm y (k+1)+x*(tm y (k+1)-tm x (k+1)):=by grind
  have e2:=congrArg ab e;have e3:=Sn ((y-x)*tm y (k+1)) (x*(tm y (k+1)-tm x (k+1)));rw[fJ,bG (show(0:Rat)<=((k+1+1:Nat):Rat) by grind)]at e2;rw[fJ,fJ,Oh]at e3;have b1:=bR (aM (y-x)) cAZ (mQ (aM y) (k+1)) (aAR (aM y) hy (k+1));have b2:=bR (aM x) hx (aM _) ih;have hc:((k+1+1:Nat):Rat)=((k+1:Nat):Rat)+1:=by norm_cast
  refine Rat.not_lt.1 fun hn=>?_
  have:=cAI hp (show 0<ab (tm y (k+1+1)-tm x (k+1+1))-ab (y-x)*tm 1 (k+1) by grind);have Xj:tm 1 k=((k+1:Nat):Rat)*tm 1 (k+1):=by grind
  rw[Xj]at b2;rw[hc]at this e2;clear e h2 h3 h1 ih Xj hc hp hx hy;generalize ((k+1:Nat):Rat)=q at *;generalize ab (tm y (k+1+1)-tm x (k+1+1))=A at *;generalize ab ((y-x)*tm y (k+1)+x*(tm y (k+1)-tm x (k+1)))=B at *;generalize ab (y-x)=d at *;generalize tm 1 (k+1)=T at *;grind
theorem aHR(a:Nat)(ha:1<=a)(n:Nat):sum (fun i=>tm 1 (a+i)) n<=2*tm 1 a:=Jl (by grind) (by grind) a ha n
theorem aID{x y:Rat}(hx:ab x<=1)(hy:ab y<=1):ab (sn y-sn x-(y-x))<=3/4*ab (y-x):=by
 have hN:=Si (a:=3) (by omega);obtain⟨n,hn⟩:=bVW hN;unfold sn tM;rw[hn,kM,kM];obtain⟨e1,_⟩:=Ch x;obtain⟨e2,_⟩:=Ch y;have p:sum (fun k=>ss k*tm x k) 3=x:=by simp[sum,ss];rw[e1];grind
 have q:sum (fun k=>ss k*tm y k) 3=y:=by simp[sum,ss];rw[e2];grind
 rw[p,q,show y+sum (fun i=>ss (3+i)*tm y (3+i)) n-(x+sum (fun i=>ss (3+i)*tm x (3+i)) n)-(y-x)=sum (fun i=>ss (3+i)*tm y (3+i)) n-sum (fun i=>ss (3+i)*tm x (3+i)) n by grind,<-Aw];refine bZW (xY _ _) ?_;have h1:sum (fun k=>ab (ss (3+k)*tm y (3+k)-ss (3+k)*tm x (3+k))) n<=sum (fun k=>ab (y-x)*tm 1 (2+k)) n:=vM fun k _=>by
  have:=aHP hx hy (2+k);rw[show 2+k+1=3+k by omega]at this;rw[show ss (3+k)*tm y (3+k)-ss (3+k)*tm x (3+k)=ss (3+k)*(tm y (3+k)-tm x (3+k)) by grind,fJ];have:=bR (aM _) (aAV (3+k)) (aM _) this;grind
 rw[mR]at h1;have h2:sum (fun k=>tm 1 (2+k)) n<=3/4:=by
  have h3:=Ts (f:=fun k=>tm 1 (2+k)) (fun k=>mQ (by grind) _) (show n<=2+n by omega);have h4:=kM (fun k=>tm 1 (2+k)) 2 n;have h5:=aHR 4 (by omega) n;obtain⟨_,f2,f3,f4,_⟩:=Ch 1;have h6:sum (fun k=>tm 1 (2+k)) 2=2/3:=by simp[sum];rw[f2,f3];grind
  have h7:sum (fun i=>tm 1 (2+(2+i))) n=sum (fun i=>tm 1 (4+i)) n:=jX fun k _=>by rw[show 2+(2+k)=4+k by omega]
  rw[f4]at h5;grind
 have:=aF (aM (y-x)) (show 0<=3/4-sum (fun k=>tm 1 (2+k)) n by grind);grind
theorem aDE{a b:Rat}(ha:ab a<=4)(hb:ab b<=4):ab (cs (a-b)-cs (a+b)-2*(sn a*sn b))<=2*vW:=by
 have h1:=Gg ha hb;have h2:=Gg ha (show ab (-b)<=4 by rwa [iI]);rw[Zm,Fa,show a+-b=a-b by grind]at h2;rw[bW]at *;grind
theorem Jr{x:Rat}(h0:0<=x)(h1:x<=1):0<=sn x:=by
 have:=(wF h0 h1).1;have h2:=bR h0 h1 h0 h1;have h3:=aF h0 (show 0<=1*1-x*x by grind);grind
theorem aBA{x:Rat}(h0:0<=x)(h1:x<=1):sn x<=x:=by
 have:=(wF h0 h1).2;have h2:=bR h0 h1 h0 h1;have h4:=aF (aF h0 h0) h0;have h3:=aF h4 (show 0<=1*1-x*x by grind);grind
theorem Xw{x:Rat}(h:ab x<=1):ab (sn x)<=ab x:=by
 by_cases h0:0<=x
 ·rw[bG h0]at *;have:=Jr h0 h;have:=aBA h0 h;rw[bW];grind
 ·have e:ab x=-x:=by unfold ab;rw[if_neg h0]
  rw[e]at h;rw[e];have h1:=Jr (show 0<=-x by grind) h;have h2:=aBA (show 0<=-x by grind) h;rw[Fa]at h1 h2;rw[bW];grind
theorem aDD{x y:Rat}(h0:0<=x)(h:x<=y)(h1:y<=1):cs y<=cs x+2*vW:=by
 have h2:=aDE (a:=(x+y)/2) (b:=(y-x)/2) (by rw[bW];grind) (by rw[bW];grind);rw[show(x+y)/2-(y-x)/2=x by grind,show(x+y)/2+(y-x)/2=y by grind,bW]at h2;have h3:=aF (Jr (x:=(x+y)/2) (by grind) (by grind)) (Jr (x:=(y-x)/2) (by grind) (by grind));grind
theorem aLW{x y:Rat}(hx:ab x<=1)(hy:ab y<=1):ab (cs y-cs x)<=ab (y-x)+2*vW:=by
 have b1:ab ((x+y)/2)<=1:=by rw[bW]at *;grind
 have b2:ab ((y-x)/2)<=1:=by rw[bW]at *;grind
 have h2:=aDE (a:=(x+y)/2) (b:=(y-x)/2) (by grind) (by grind);rw[show(x+y)/2-(y-x)/2=x by grind,show(x+y)/2+(y-x)/2=y by grind]at h2;have h3:=bR (aM _) (Xw b1) (aM _) (Xw b2);have h4:=bR (aM _) b1 (aM _) (show ab ((y-x)/2)<=ab ((y-x)/2)from cAZ);rw[<-fJ]at h3;have h5:ab ((y-x)/2)=ab (y-x)/2:=by unfold ab;split <;> split <;> grind
 rw[h5]at h3 h4;have h6:=Bs (sn ((x+y)/2)*sn ((y-x)/2));have h7:=nI (sn ((x+y)/2)*sn ((y-x)/2));rw[bW]at h2 ⊢;clear h5 b1 b2 hx hy;generalize sn ((x+y)/2)*sn ((y-x)/2)=P at *;generalize ab ((x+y)/2)*(ab (y-x)/2)=Q at *;grind
theorem aAZ{x y:Rat}(hx:ab x<=1)(hy:ab y<=1):ab (sn y-sn x)<=2*ab (y-x):=by
 have h:=aID hx hy;have h1:=Bs (y-x);have h2:=nI (y-x);rw[bW]at h ⊢;grind
theorem aAY{x y:Rat}(hx:ab x<=1)(hy:ab y<=1)(h:x<=y):sn x<=sn y:=by
 have h1:=aID hx hy;rw[bG (show 0<=y-x by grind),bW]at h1;grind
theorem xK(a:Nat){b:Nat}(_hb:0<b):(b:Rat)*((a/b:Nat):Rat)<=(a:Rat)/\(a:Rat)<(b:Rat)*((a/b:Nat):Rat)+(b:Rat):=by
 have h1:=bZX a b;have h2:=bWZ a _hb;constructor
 ·exact_mod_cast(show b*(a/b)<=a by omega)
 ·exact_mod_cast(show a<b*(a/b)+b by omega)
theorem bS{q a b:Rat}(hq:0<q)(h:q*a<=q*b):a<=b:=by
 refine Rat.not_lt.1 fun hn=>?_
 have:=cAI hq (show 0<a-b by grind);grind
theorem qO{q a b:Rat}(hq:0<q)(h:q*a<q*b):a<b:=by
 refine Rat.not_le.1 fun hn=>?_
 have:=aF (bZY hq) (show 0<=a-b by grind);grind
def sq(u W:Nat):Nat->Nat
 |0=>W
 |k+1=>sq u W k*u/W/(k+1)
theorem Jq{u W:Nat}(hW:0<W){x:Rat}(hx:x*(W:Rat)=(u:Rat))(h0:0<=x)(h1:x<=1/2):∀k,0<=tm x k*W-sq u W k/\tm x k*W-sq u W k<=2
 |0=>by simp only[tm,sq];grind
 |k+1=>by
  obtain⟨i1,i2⟩:=Jq hW hx h0 h1 k;obtain⟨d1,d2⟩:=xK (sq u W k*u) (b:=W*(k+1)) (cBK hW (by omega));rw[sq,cAL];rw[cBJ,cBJ,<-hx]at d1 d2;have hc:=kE x k;have hp:=cast_pos k;have h1k:(1:Rat)<=((k+1:Nat):Rat):=by exact_mod_cast(show 1<=k+1 by omega)
  have aKP:(0:Rat)<(W:Rat):=by exact_mod_cast hW
  generalize ((sq u W k*u/(W*(k+1)):Nat):Rat)=t' at *;generalize (sq u W k:Rat)=t at *;generalize ((k+1:Nat):Rat)=q at *;have bUD:q*t'<=t*x:=bS aKP (by grind);have bUC:t*x<q*t'+q:=qO aKP (by grind);have hcW:q*tm x (k+1)*(W:Rat)=x*tm x k*(W:Rat):=by rw[hc]
  have e1:=aF h0 i1;have e2:=aF (show 0<=1/2-x by grind) i1;refine⟨bS hp ?_,bS hp ?_⟩ <;> grind
theorem aHV{u W:Nat}(hW:0<W){x:Rat}(hx:x*(W:Rat)=(u:Rat))(h0:0<=x)(h1:x<=1/2){n:Nat}(hn:1<=n)(aEP:n<=1048576)(hz:sq u W n=0) :
  ab (sum (fun k=>cc k*(sq u W k:Rat)) n-W*cs x)<=2*(n:Rat)+4:=by
 have hs:ab (sum (fun k=>cc k*(sq u W k:Rat)) n-W*uC x n)<=2*(n:Rat):=by
  unfold uC;rw[<-mR,<-Aw];refine bZW (xY _ _) ?_;have:∀m,sum (fun k=>ab (cc k*(sq u W k:Rat)-W*(cc k*tm x k))) m<=2*(m:Rat):=by
   intro m
   induction m with
   |zero=>simp only[sum];grind
   |succ m ih =>
    rw[dM];obtain⟨a1,a2⟩:=Jq hW hx h0 h1 m;have:ab (cc m*(sq u W m:Rat)-W*(cc m*tm x m))<=2:=by
     rw[show cc m*(sq u W m:Rat)-W*(cc m*tm x m)=cc m*(sq u W m-tm x m*W) by grind,fJ];have b1:ab (sq u W m-tm x m*W)<=2:=by rw[bW];grind
     have:=bR (aM _) (aMF m) (aM _) b1;grind
    have hc:((m+1:Nat):Rat)=(m:Rat)+1:=by norm_cast
    rw[hc];grind
  exact this n
 have ht:=Iy (x:=x) (by rw[bG h0];grind) hn aEP;obtain⟨a1,a2⟩:=Jq hW hx h0 h1 n;rw[hz]at a2;rw[bG h0]at ht;have aKP:(0:Rat)<(W:Rat):=by exact_mod_cast hW
 rw[bW]at *;have b1:=aF (bZY aKP) (show 0<=2*tm x n-(cs x-uC x n) by grind);have b2:=aF (bZY aKP) (show 0<=2*tm x n+(cs x-uC x n) by grind);have aEJ:((0:Nat):Rat)=0:=by norm_cast
 rw[aEJ]at a2;grind
theorem aHU{u W:Nat}(hW:0<W){x:Rat}(hx:x*(W:Rat)=(u:Rat))(h0:0<=x)(h1:x<=1/2){n:Nat}(hn:1<=n)(aEP:n<=1048576)(hz:sq u W n=0) :
  ab (sum (fun k=>ss k*(sq u W k:Rat)) n-W*sn x)<=2*(n:Rat)+4:=by
 have hs:ab (sum (fun k=>ss k*(sq u W k:Rat)) n-W*tM x n)<=2*(n:Rat):=by
  unfold tM;rw[<-mR,<-Aw];refine bZW (xY _ _) ?_;have:∀m,sum (fun k=>ab (ss k*(sq u W k:Rat)-W*(ss k*tm x k))) m<=2*(m:Rat):=by
   intro m
   induction m with
   |zero=>simp only[sum];grind
   |succ m ih =>
    rw[dM];obtain⟨a1,a2⟩:=Jq hW hx h0 h1 m;have:ab (ss m*(sq u W m:Rat)-W*(ss m*tm x m))<=2:=by
     rw[show ss m*(sq u W m:Rat)-W*(ss m*tm x m)=ss m*(sq u W m-tm x m*W) by grind,fJ];have b1:ab (sq u W m-tm x m*W)<=2:=by rw[bW];grind
     have:=bR (aM _) (aAV m) (aM _) b1;grind
    have hc:((m+1:Nat):Rat)=(m:Rat)+1:=by norm_cast
    rw[hc];grind
  exact this n
 have ht:=Qq (x:=x) (by rw[bG h0];grind) hn aEP;obtain⟨a1,a2⟩:=Jq hW hx h0 h1 n;rw[hz]at a2;rw[bG h0]at ht;have aKP:(0:Rat)<(W:Rat):=by exact_mod_cast hW
 rw[bW]at *;have b1:=aF (bZY aKP) (show 0<=2*tm x n-(sn x-tM x n) by grind);have b2:=aF (bZY aKP) (show 0<=2*tm x n+(sn x-tM x n) by grind);have aEJ:((0:Nat):Rat)=0:=by norm_cast
 rw[aEJ]at a2;grind
theorem qM{W x e s c s' c':Rat}(hW:1<=W)(hx:ab x<=1)(hs:ab (s-W*sn x)<=e)(hc:ab (c-W*cs x)<=e)(he:8*(e*e)<=W)(bAL:(8*e+4*W)*vW<=1/4)
  (h1:ab (W*s'-2*(s*c))<=2*W) (h2:ab (W*c'-(W*W-2*(s*s)))<=2*W):ab (s'-W*sn (2*x))<=4*e+4/\ab (c'-W*cs (2*x))<=4*e+4:=by
 have bDX:ab x<=4:=by grind
 have d1:=Ol bDX;have d2:=Pm bDX;have bs:=aBC bDX;have bc:=aDF bDX;have aPW:0<=e:=bZW (aM _) hs;have aPT:=vG;generalize sn (2*x)=S2 at *;generalize cs (2*x)=C2 at *;generalize sn x=S at *;generalize cs x=C at *;obtain⟨a,ha⟩:∃a,a=s-W*S:=⟨_,rfl⟩;obtain⟨b,hb⟩:∃b,b=c-W*C:=⟨_,rfl⟩;rw[<-ha]at hs;rw[<-hb]at hc;have es:s=W*S+a:=by grind
 have ec:c=W*C+b:=by grind
 subst es;subst ec;have q1:=bR (aM S) bs (aM b) hc;have q2:=bR (aM C) bc (aM a) hs;have q3:=bR (aM a) hs (aM b) hc;have q4:=bR (aM S) bs (aM a) hs;have q5:=bR (aM a) hs (aM a) hs;rw[<-fJ]at q1 q2 q3 q4 q5;have aYN:0<=W:=by grind
 have w1:∀{t r:Rat},ab t<=r->-(W*r)<=W*t/\W*t<=W*r:=fun {t r} h=>by
  rw[bW]at h;have:=aF aYN (show 0<=r-t by grind);have:=aF aYN (show 0<=r+t by grind);constructor <;> grind
 have k1:=w1 q1;have k2:=w1 q2;have k4:=w1 q4;have k6:=w1 (r:=W*vW) (t:=W*(S2-2*S*C)) (by
  have:=w1 d1;rw[bW];grind)
 have k7:=w1 (r:=W*(2*vW)) (t:=W*(C2-(1-2*(S*S)))) (by
  have:=w1 d2;rw[bW];grind)
 have hq:0<W:=by grind
 have z1:=aF aYN (show 0<=1/4-(8*e+4*W)*vW by grind);rw[bW]at h1 h2 q3 q5;constructor
 ·rw[bW];constructor
  ·refine bS hq ?_;grind
  ·refine bS hq ?_;grind
 ·rw[bW];constructor
  ·refine bS hq ?_;grind
  ·refine bS hq ?_;grind
def sg(j:Nat):Rat:=if j%2=0 then 1 else -1
theorem aRU(j:Nat):ab (sg j)=1:=by unfold sg ab;split <;> split <;> grind
def iC(n w j:Nat):Nat:=2^w/n^(2*j+1)/(2*j+1)
def apart(n j:Nat):Rat:=1/((n^(2*j+1)*(2*j+1):Nat):Rat)
def We(n:Nat):Rat:=sum (fun j=>sg j*apart n j) K
theorem wV{n:Nat}(hn:0<n)(j:Nat):0<apart n j/\apart n j*((n^(2*j+1)*(2*j+1):Nat):Rat)=1:=by
 unfold apart;have h:0<n^(2*j+1)*(2*j+1):=cBK (bXR hn) (by omega);have h':(0:Rat)<((n^(2*j+1)*(2*j+1):Nat):Rat):=by exact_mod_cast h
 generalize ((n^(2*j+1)*(2*j+1):Nat):Rat)=q at *;have:q≠0:=by grind
 constructor
 ·have:=Rat.inv_pos.2 h';grind
 ·grind
theorem Pu{n:Nat}(hn:0<n)(w j:Nat):0<=((2^w:Nat):Rat)*apart n j-iC n w j/\((2^w:Nat):Rat)*apart n j-iC n w j<=1:=by
 obtain⟨h1,h2⟩:=wV hn j;have h:0<n^(2*j+1)*(2*j+1):=cBK (bXR hn) (by omega);obtain⟨d1,d2⟩:=xK (2^w) h;unfold iC;rw[cAL];have h':(0:Rat)<((n^(2*j+1)*(2*j+1):Nat):Rat):=by exact_mod_cast h
 generalize ((n^(2*j+1)*(2*j+1):Nat):Rat)=q at *;generalize ((2^w/(n^(2*j+1)*(2*j+1)):Nat):Rat)=t at *;generalize ((2^w:Nat):Rat)=W at *;have e:q*(W*apart n j)=W:=by
  rw[show q*(W*apart n j)=W*(apart n j*q) by grind,h2];grind
 refine⟨?_,?_⟩
 ·have:t<=W*apart n j:=bS h' (by grind);grind
 ·have:W*apart n j<=t+1:=bS h' (by grind);grind
theorem Zx{n:Nat}(hn:2<=n)(j:Nat):apart n (j+1)<=apart n j/2:=by
 obtain⟨h1,h2⟩:=wV (show 0<n by omega) j;obtain⟨h3,h4⟩:=wV (show 0<n by omega) (j+1);have hle:2*(n^(2*j+1)*(2*j+1))<=n^(2*(j+1)+1)*(2*(j+1)+1):=by
  have e:n^(2*(j+1)+1)=n^(2*j+1)*(n*n):=by
   rw[show 2*(j+1)+1=(2*j+1)+2 by omega,bZS,Nat.pow_two]
  have bJM:4<=n*n:=Nat.mul_le_mul hn hn;rw[e,bZT,cCG];refine bXF _ ?_;have:4*(2*(j+1)+1)<=n*n*(2*(j+1)+1):=Nat.mul_le_mul_right _ bJM;omega
 have hle':(2:Rat)*((n^(2*j+1)*(2*j+1):Nat):Rat)<=((n^(2*(j+1)+1)*(2*(j+1)+1):Nat):Rat):=by exact_mod_cast hle
 generalize ((n^(2*j+1)*(2*j+1):Nat):Rat)=p at *;generalize ((n^(2*(j+1)+1)*(2*(j+1)+1):Nat):Rat)=q at *;have hp:0<p:=by
  refine Rat.not_le.1 fun hn=>?_
  have:=aF (bZY h1) (show 0<=-p by grind);grind
 have:=aF (bZY h3) (show 0<=q-2*p by grind);refine bS hp ?_;grind
theorem Zw{n:Nat}(hn:2<=n)(a m:Nat):sum (fun i=>apart n (a+i)) m<=2*apart n a:=by
 have hh:∀i,apart n (a+i)<=apart n a*hf i:=by
  intro i
  induction i with
  |zero=>simp only[hf,bVP];grind
  |succ i ih =>
   have:=Zx hn (a+i);rw[<-bYI,hf];grind
 have h1:sum (fun i=>apart n (a+i)) m<=sum (fun i=>apart n a*hf i) m:=vM fun k _=>hh k
 rw[mR]at h1;have h2:=(wV (show 0<n by omega) a).1;have:=aF (bZY h2) (show 0<=2-sum hf m by have:=bJR m;grind);grind
theorem aDM{n:Nat}(hn:2<=n)(w:Nat){J:Nat}(hJ:J<=1048576)(hz:iC n w J=0):ab (sum (fun j=>sg j*(iC n w j:Rat)) J-((2^w:Nat):Rat)*We n)<=(J:Rat)+2:=by
 obtain⟨m,hm⟩:=bVW (show J<=K by rw[aXB];exact hJ);unfold We;rw[hm,kM];have h1:∀i,ab (sum (fun j=>sg j*(iC n w j:Rat)) i-((2^w:Nat):Rat)*sum (fun j=>sg j*apart n j) i)<=(i:Rat):=by
  intro i;rw[<-mR,<-Aw];refine bZW (xY _ _) ?_
  induction i with
  |zero=>simp only[sum];grind
  |succ i ih =>
   rw[dM];obtain⟨a1,a2⟩:=Pu (show 0<n by omega) w i;have:ab (sg i*(iC n w i:Rat)-((2^w:Nat):Rat)*(sg i*apart n i))<=1:=by
    rw[show sg i*(iC n w i:Rat)-((2^w:Nat):Rat)*(sg i*apart n i)=sg i*(iC n w i-((2^w:Nat):Rat)*apart n i) by grind,fJ,aRU];have b1:ab (iC n w i-((2^w:Nat):Rat)*apart n i)<=1:=by rw[bW];grind
    grind
   have hc:((i+1:Nat):Rat)=(i:Rat)+1:=by norm_cast
   rw[hc];grind
 have h2:ab (sum (fun i=>sg (J+i)*apart n (J+i)) m)<=2*apart n J:=by
  refine bZW (xY _ _) (bZW (vM fun k _=>?_) (Zw hn J m));rw[fJ,aRU,bG (bZY (wV (show 0<n by omega) _).1)];grind
 have h3:=(Pu (show 0<n by omega) w J).2;have h4:=h1 J;have h0:(0:Rat)<=((2^w:Nat):Rat):=by exact_mod_cast cAS _
 rw[hz]at h3;have aEJ:((0:Nat):Rat)=0:=by norm_cast
 rw[aEJ]at h3;rw[bW]at *;have b1:=aF h0 (show 0<=2*apart n J-sum (fun i=>sg (J+i)*apart n (J+i)) m by grind);have b2:=aF h0 (show 0<=2*apart n J+sum (fun i=>sg (J+i)*apart n (J+i)) m by grind);grind
end R
end Go.Proofs.YtplagoepbghhpaaGreatDoor
end
