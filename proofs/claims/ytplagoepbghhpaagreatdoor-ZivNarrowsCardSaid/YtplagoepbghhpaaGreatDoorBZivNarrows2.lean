/- Contracts. -/
import Derived.KernelRfl
import Derived.Laws.Externs
import Derived.Test.YtplagoepbghhpaaGreatDoorProg
import Derived.Shelf.SlGeneric
import Derived.Ground.SlgnProg
import Derived.Shelf.SlicesE.Clone
import Derived.Test.YtplagoepbghhpaaGreatDoorBZivNarrows1
set_option linter.unusedVariables false
set_option linter.unusedSimpArgs false
noncomputable section
open Go.IntKind(i8 i16 i32 i64 u8 u16 u32 u64)
open Go.Proofs.Tryz
open Int renaming toNat_natCast->cFB,eq_ofNat_of_zero_le->cGG,natAbs_mul->cGR,zero_mul->cGS,natCast_ediv->cGU,natAbs_natCast->cGW,natCast_mul->cHC,mul_assoc->cHR,natCast_emod->cHV,natAbs_neg->cHY,tdiv_eq_ediv_of_nonneg->cIS,tmod_eq_emod_of_nonneg->cIT,ediv_eq_zero_of_lt->cIW,toNat_zero->cIY,ediv_mul_cancel->cJB,mul_ne_zero->cJC,natAbs_add_le->cJF
open List renaming replicate->cDH,mem_append->cCH,getD_eq_getElem?_getD->cGI,length_take->cDU,replicate_succ->cGM,length_cons->cEP,append_assoc->cCZ,drop_eq_nil_of_le->cGT,cons_append->cCX,take->cGZ,drop->cHA,append_nil->cHE,getLast?_cons_cons->cHI,take_succ_eq_append_getElem->cHJ,getElem?_eq_none->cDA,drop_zero->cHL,drop_eq_getElem_cons->cHM,replicate_zero->cHQ,getElem?_map->cBI,take_length->cHZ,range->cCR,singleton_append->cIA,mapM_cons->cCN,mem_cons_self->cBL,mem_cons_of_mem->cBP,getElem?_take_of_lt->cBJ,mem_of_getElem?->cBN,nodup_cons->cFS,mem_cons->cCM,length_drop->cFE,getElem?_drop->cBR,mem_of_mem_take->cII,mem_of_mem_drop->cIJ,replicate_succ'->cIK,take_append_drop->cIL,getElem?_eq_getElem->cBV,getLast?_append->cIM,take_of_length_le->cIO,mem_or_eq_of_mem_set->cIP,drop_set->cIQ,set_append_right->cIU,set_cons_zero->cIV,nil_append->cFH
open Nat renaming mul_comm->cGC,pow_succ->cGD,beq->cBF,le_refl->cBE,pow_add->cGE,mul_add->cGF,mul_assoc->cGH,pow_pos->cEE,mod_lt->cDM,lt_or_ge->cBU,eq_of_beq_eq_true->cBT,ble->cBH,le_of_ble_eq_true->cDC,mul_le_mul_left->cDS,add_zero->cCC,div_add_mod->cGK,pow_le_pow_right->cEF,lt_of_lt_of_le->cCB,add_assoc->cEV,zero_add->cBG,le_trans->cCA,strongRecOn->cGP,div_div_eq_div_mul->cGV,exists_eq_add_of_le->cCJ,div_lt_of_lt_mul->cGY,div_eq_of_lt->cHB,blt->cBQ,add_comm->cHF,beq_refl->cFL,zero_le->cHH,min_eq_left->cHK,add_mod->cHN,mul_mod->cHO,sub_le->cHP,sub_self->cFJ,lt_of_le_of_lt->cHT,add_mul_div_left->cHU,pow_mul->cHW,pow_lt_pow_right->cHX,mul_zero->cIB,dvd_of_mod_eq_zero->cIC,mul_pos->cIE,add_right_comm->cIG,mul_left_comm->cJA
open Option renaming bind_some->cCW,isSome_or->cHG
open Rat renaming le_trans->cGJ,le_of_lt->cGL,mul_pos->cGX,le_refl->cHS,natCast_mul->cID
open Bool renaming true_and->cEG,not_true->cDE,false_and->cGN,true_or->cGO,false_or->cDF,and_eq_true->cBK,and_false->cGQ,or_true->cHD,or_eq_true->cCQ,not_eq_true'->cCO
namespace Go.Proofs.YtplagoepbghhpaaGreatDoor
namespace AI
open Go Go.RowKit
theorem sR{P:Program}{f:FuncId}{fn:Func}{c:Code}(hf:P.funcs[f]?=some fn)(hb:fn.body=some c)(hn:(fn.name== "runtime.NumGoroutine")=false):rB P f:=by
 intro vs w;have aIY:¬fn.name= "runtime.NumGoroutine":=by simpa using hn
 simp[callFunc,hf,hb,aIY]
theorem Sm{α β:Type}{P:Program}{w:World}{f:α->Sem β}{g:α->β}:∀{l:List α},(∀x∈l,(f x).run P w=.ok (g x) w)->(l.mapM f).run P w=.ok (l.map g) w
 | [],_=>rfl
 |x :: l,h=>by
  rw[cCN,Sem.run_bind,h x (cBL ..),Result.andThen_ok,Sem.run_bind,Sm fun y hy=>h y (cBP _ hy)];rfl
theorem aNY{α β:Type}{P:Program}{w:World}{f:α->Sem β}{g:α->β}{arr:Array α}(h:∀x∈arr.toList,(f x).run P w=.ok (g x) w) :
  (arr.mapM f).run P w=.ok (arr.toList.map g).toArray w:=by
 rw[Array.mapM_eq_mapM_toList,map_eq_pure_bind,Sem.run_bind,Sm h];rfl
section
variable {P:Program} {E:Env} {X:Nat->Prop} {w0:Old} {ρ:Nat->Nat} {al:Nat->Prop} {st:St} {a:Act} {w:World}
def ownOf(st:St):ResultVar->Option Nat
 | .tmp t=>match st.fr t with
  | .v (.one (.buf i _))=>some i
  | .v (.one (.view i _ _))=>some i
  |_=>none
 | .cell _ _=>none
def Hy(a:Act):ResultVar->Sem Value
 | .tmp t=>pure (a.tmps.getD t undef)
 | .cell d t=>do loadVar t (<-asAddr (a.tmps.getD d undef))
def Good(E:Env)(X:Nat->Prop)(base:Nat)(st:St)(ρ:Nat->Nat)(w:World)(r:ResultVar)(v:Value):D->Prop
 | .own e k ns=>∃i,ownOf st r=some i/\(∃b,st.hp i=some b)/\Tp base w (ρ i) e k ns v
 | .back i off n=>i∈E.io/\∀blk k ns,st.hp i=some blk->blk.cont=.ints k ns->aDZ w (ρ i) ns.length off n v
 |d=>mY (XO X ρ st.hp) w d v
theorem aBX(hT:pK P E.T)(h:jY E X w0 ρ al st.fr st.hp a w){r:ResultVar}{d:D}(hd:resD E st r=some d) :
  ∃v,(Hy a r).run P w=.ok v w/\Good E X w0.w.heap.size st ρ w r v d:=by
 cases r with
 |tmp t =>
  have hr:=h.fr t;refine⟨_,rfl,?_⟩;unfold resD at hd;simp only at hd;split at hd
  ·rename_i cs hf;cases hd;rw[hf]at hr;exact hr
  ·rename_i x hf;cases hd;rw[hf]at hr;exact hr
  ·rename_i i n hf;cases Ip:cBQ i E.n0 with
   |true=>rw[Ip]at hd;cases hd
   |false =>
   rw[Ip]at hd;simp only[cond_false]at hd;have Ip:E.n0<=i:=by
    have:¬i<E.n0:=fun h=>by
     have h2:cBQ i E.n0=true:=by rw[Nat.blt_eq];exact h
     rw[h2]at Ip;cases Ip
    omega
   split at hd
   ·rename_i e k ns hb;cases hd;rw[hf]at hr;obtain⟨cap,hv,hle,hc,_⟩:=hr;obtain⟨e1,e2,e3⟩:=hc _ k ns hb rfl;obtain⟨hw,arr,hg,Vb⟩:=h.blk i _ hb;have hs:cap<=arr.size:=by unfold mM at e3;rw[hg]at e3;exact e3
    refine⟨i,by simp[ownOf,hf],⟨_,hb⟩,arr,cap,by rw[<-e1];exact hv,hw.new Ip,hg,by omega,hs,e2,Vb.2⟩
   ·cases hd
  ·rename_i i off n hf;rw[hf]at hr;obtain⟨o',cap,hv,Dv,hA,hA0,hc⟩:=hr;cases Oc:E.io.elem i with
   |true =>
    rw[Oc]at hd;simp only[cond_true]at hd;cases hd;exact⟨by simpa using Oc,fun blk k ns hb hk=>⟨o',cap,hv,Dv,hA,hA0,hc blk k ns hb hk⟩⟩
   |false =>
   rw[Oc]at hd;simp only[cond_false]at hd;cases Ip:cBQ i E.n0 with
   |true=>rw[Ip]at hd;cases hd
   |false =>
   rw[Ip]at hd;simp only[cond_false]at hd;have Ip:E.n0<=i:=by
    have:¬i<E.n0:=fun h=>by
     have h2:cBQ i E.n0=true:=by rw[Nat.blt_eq];exact h
     rw[h2]at Ip;cases Ip
    omega
   split at hd
   ·rename_i e k ns hb;cases hd;obtain⟨e1,e2,e3⟩:=hc _ k ns hb rfl;obtain⟨hw,arr,hg,Vb⟩:=h.blk i _ hb;have hs:cap<=arr.size:=by unfold mM at e3;rw[hg]at e3;exact e3
    have hl:(ns.take n).length=n:=by rw[cDU];omega
    refine⟨i,by simp[ownOf,hf],⟨_,hb⟩,arr,cap,by rw[hl,<-hA0 rfl];exact hv,hw.new Ip,hg,by rw[hl];exact Dv,hs,e2,fun j m hj=>Vb.2 j m ?_⟩;have aCW:j<n:=by have:=aX hj;omega
    rw[cBJ aCW]at hj;exact hj
   ·cases hd
  ·cases hd
 |cell t ty =>
  have hr:=h.fr t;unfold resD at hd;simp only at hd;split at hd
  ·rename_i i off ti hf yS;rw[hf]at hr;have hr:a.tmps.getD t undef=.pointer (some ⟨ρ i,off,none⟩):=hr;split at hd
   ·rename_i e cs hb;obtain⟨_,arr,hg,Vb⟩:=h.blk i _ hb;have hl:∀x,partOf ti cs off=some x->∃v,(Hy a (.cell t ty)).run P w=.ok v w/\He ρ st.hp (XO X ρ st.hp) w x v/\refsV x=[]:=by
     intro x hx;obtain⟨v,h1,h2,h3⟩:=Ls (P:=P) (hT ty ti yS) (b:=ρ i) (off:=0) (cs:=cs) (fun j s hs=>by
      obtain⟨u,hu,hr⟩:=Vb.2 j s hs;exact⟨u,by rw[cell_of_row w (ρ i) _ arr e (0,0) hg];simpa using hu,hr⟩) hx (ρ:=ρ) (hp':=st.hp)
     rw[cBG]at h1;refine⟨v,?_,h2,h3⟩;unfold Hy;rw[Sem.run_bind,hr];simpa [asAddr] using h1
    split at hd
    ·rename_i Ox hx;cases hd;obtain⟨v,h1,h2,_⟩:=hl _ hx;exact⟨v,h1,h2⟩
    ·rename_i x hx;cases hd;obtain⟨v,h1,h2,_⟩:=hl _ hx;exact⟨v,h1,h2⟩
    ·cases hd
   ·cases hd
  ·cases hd
theorem Bi{α β:Type}{f:α->Option β}:∀{l:List α} {ys:List β},l.mapM f=some ys->ys.length=l.length/\∀(i:Nat) (x:α),l[i]?=some x->∃y,ys[i]?=some y/\f x=some y
 | [],ys,h=>by simp at h;subst h;simp
 |x :: l,ys,h=>by
  rw[cCN]at h;cases hx:f x with
  |none=>rw[hx]at h;cases h
  |some y =>
   cases hl:l.mapM f with
   |none=>rw[hx,hl]at h;cases h
   |some ys' =>
    rw[hx,hl]at h;cases h;obtain⟨h1,h2⟩:=Bi hl;refine⟨by simp[h1],fun i x' hi=>?_⟩
    match i with
    |0=>simp at hi;subst hi;exact⟨y,rfl,hx⟩
    |i+1=>simp at hi;obtain⟨y',e1,e2⟩:=h2 i x' hi;exact⟨y',by simpa using e1,e2⟩
theorem Nh:∀{l:List ResultVar} {j:Nat} {r:ResultVar} {i:Nat},l[j]?=some r->ownOf st r=some i->i∈ownIds st l
 | [],j,r,i,h,_=>by simp at h
 |r0 :: l,0,r,i,h,ho=>by
  simp at h;subst h;cases r0 with
  |cell=>cases ho
  |tmp t =>
   simp only[ownOf]at ho;split at ho
   ·rename_i i' n hf;cases ho;simp[ownIds,hf]
   ·rename_i i' o' n hf;cases ho;simp[ownIds,hf]
   ·cases ho
 |r0 :: l,j+1,r,i,h,ho=>by
  have:=Nh (l:=l) (j:=j) (by simpa using h) ho;cases r0 with
  |cell=>exact this
  |tmp t=>simp only[ownIds];exact List.mem_append_right _ this
theorem Dd:∀{xs ys:List Nat},nodup (xs ++ ys)=true->nodup ys=true/\∀x∈xs,x ∉ ys
 | [],ys,h=>⟨h,by simp⟩
 |x :: xs,ys,h=>by
  simp only[cCX,nodup,cBK]at h;obtain⟨h1,h2⟩:=Dd h.2;refine⟨h1,fun y hy=>?_⟩;rcases List.mem_cons.1 hy with rfl |hy
  ·intro hm;have:(xs ++ ys).elem y=true:=by simp[hm]
   rw[this]at h;simp at h
  ·exact h2 y hy
theorem Ni:∀{l:List ResultVar} {j j':Nat} {r r':ResultVar} {i:Nat},nodup (ownIds st l)=true->l[j]?=some r->l[j']?=some r'->ownOf st r=some i->ownOf st r'=some i->j=j'
 | [],j,j',r,r',i,_,h,_,_,_=>by simp at h
 |r0 :: l,j,j',r,r',i,hn,h,h',ho,aLB=>by
  have Af:nodup (ownIds st l)=true:=by
   cases r0 with
   |cell=>exact hn
   |tmp t=>simp only[ownIds]at hn;exact(Dd hn).1
  have aGO:∀r1,ownOf st r0=some i->∀k:Nat,l[k]?=some r1->ownOf st r1=some i->False:=by
   intro r1 h0 k hk h1;have hm:=Nh hk h1;cases r0 with
   |cell=>cases h0
   |tmp t =>
    simp only[ownOf]at h0;split at h0
    ·rename_i i' n hf;cases h0;simp only[ownIds,hf]at hn;exact(Dd hn).2 i (by simp) hm
    ·rename_i i' o' n hf;cases h0;simp only[ownIds,hf]at hn;exact(Dd hn).2 i (by simp) hm
    ·cases h0
  match j,j' with
  |0,0=>rfl
  |0,j'+1=>simp at h h';subst h;exact(aGO r' ho j' h' aLB).elim
  |j+1,0=>simp at h h';subst h';exact(aGO r aLB j h ho).elim
  |j+1,j'+1=>simp at h h';exact congrArg (·+1) (Ni Af h h' ho aLB)
theorem Pm:∀{ds:List D} {i t:Nat},(∃d,ds[t]?=some d/\argFrI i ds t=argAt (i+t) d)\/argFrI i ds t=.any
 | [],_,_=>.inr (by simp[argFrI])
 |d :: _,_,0=>.inl ⟨d,rfl,rfl⟩
 |_ :: ds,i,t+1=>by
  rcases Pm (ds:=ds) (i:=i+1) (t:=t)with ⟨d,h1,h2⟩ |h
  ·exact .inl ⟨d,by simpa using h1,by rw[show i+(t+1)=i+1+t by omega];exact h2⟩
  ·exact .inr h
theorem Tk:∀{ds:List D} {i j:Nat} {b:kY},argHp i ds j=some b->i<=j/\∃e k ns off n,ds[j-i]?=some (.io e k ns off n)/\b=⟨e,.ints k ns⟩
 | [],_,_,_,h=>by cases h
 |d :: ds,i,j,b,h=>by
  have tail:argHp (i+1) ds j=some b->i<=j/\∃e k ns off n,(d :: ds)[j-i]?=some (.io e k ns off n)/\b=⟨e,.ints k ns⟩:=by
   intro h;obtain⟨h1,e,k,ns,off,n,h2,h3⟩:=Tk h;exact⟨by omega,e,k,ns,off,n,by rw[show j-i=(j-(i+1))+1 by omega];simpa using h2,h3⟩
  cases d with
  |io e k ns off n =>
   simp only[argHp]at h;cases hb:cBF j i with
   |true =>
    rw[hb]at h;have:=cBT hb;subst this;cases h;exact⟨cBE _,e,k,ns,off,n,by simp,rfl⟩
   |false=>rw[hb]at h;exact tail h
  |s=>exact tail h
  |rows=>exact tail h
  |agg=>exact tail h
  |own=>exact tail h
  |back=>exact tail h
theorem aAG:∀{ds:List D} {i t:Nat} {e:TypeId} {k:IntKind} {ns:List Int} {off n:Nat},ds[t]?=some (.io e k ns off n)->argHp i ds (i+t)=some ⟨e,.ints k ns⟩
 | [],_,_,_,_,_,_,_,h=>by simp at h
 |d :: ds,i,0,e,k,ns,off,n,h=>by
  simp at h;subst h;simp[argHp]
 |d :: ds,i,t+1,e,k,ns,off,n,h=>by
  have ih:=aAG (i:=i+1) (ds:=ds) (t:=t) (by simpa using h);rw[show i+1+t=i+(t+1) by omega]at ih;cases d with
  |io e' k' oH bFA n' =>
   simp only[argHp];rw[show cBF (i+(t+1)) i=false from by
    cases hb:cBF (i+(t+1)) i with
    |false=>rfl
    |true=>have:=cBT hb;omega]
   exact ih
  |s=>exact ih
  |rows=>exact ih
  |agg=>exact ih
  |own=>exact ih
  |back=>exact ih
theorem aFO{Y:Nat->Prop}{w:World}{g:Nat->Nat}{i:Nat}{v:Value}{d:D}(hn:Gg d=false)(h:aHU Y w g i v d):mY Y w d v:=by
 cases d with
 |io=>cases hn
 |s x=>exact h
 |rows a b c=>exact h
 |agg cs=>exact h
 |own a b c=>exact h
 |back=>exact h
end
theorem oneOf(vs:List Value):(if h:vs.toArray.size=1 then vs.toArray[0]else Value.tuple vs.toArray)=resV vs:=by
 match vs with
 | []=>simp[resV]
 | [v]=>simp[resV]
 |_ :: _ :: _=>simp[resV]
theorem fn_core{P:Program}{E:Env}(hT:pK P E.T)(hC:kX P E)(hm:P.follows .mixedOrders=true){f:FuncId}{fn:Func}{c:Code}(hf:P.funcs[f]?=some fn)(hb:fn.body=some c)(bGI:E.nt=fn.ntmps)
  {ds rs js:List D} (hle:ds.length<=fn.ntmps) (he:aF E fn c ds=some (rs ++ js)) (aOR:js.length=E.io.length) (kM:∀i,i∈E.io->i<E.n0)
  (Zc:∀(i:Nat) (d:D),ds[i]?=some d->Gg d=true->i∈E.io) (Br:∀i,i∈E.io->∃e k ns off n,ds[i]?=some (.io e k ns off n))
  {Y:Nat->Prop} {w:World} {vs:List Value} {g0:Nat->Nat} (hY:∀b,Y b->b<w.heap.size) (hG:GlobOk E.glob Y w) (hlen:ds.length=vs.length)
  (hargs:∀(i:Nat) (d:D) (v:Value),ds[i]?=some d->vs[i]?=some v->aHU Y w g0 i v d) (bGW:∀i j,i∈E.io->j∈E.io->g0 i=g0 j->i=j) :
  Calls P f vs.toArray w fun e w'=>∃vI,e=.returned (resV vI)/\Fb (Ew E.io g0) w w'/\Wl Y w.heap.size w' E.io js g0 rs vI/\∀(j i:Nat) (d:D),E.io[j]?=some i->js[j]?=some d->Wz w' (g0 i) d:=by
 refine calls_of_wp hf hb ?_;have bPB:∀i e k ns off n,ds[i]?=some (.io e k ns off n)->Y (g0 i)/\∃v,vs[i]?=some v/\bCX w (g0 i) e k ns off n v:=by
  intro i e k ns off n hi;obtain⟨v,hv⟩:=bG (l:=vs) (i:=i) (by have:=aX hi;omega);have:=hargs i _ v hi hv;exact⟨this.1,v,hv,this.2⟩
 have bOX:∀b,Ew E.io g0 b->Y b:=by
  rintro b ⟨i,hi,rfl⟩;obtain⟨e,k,ns,off,n,h⟩:=Br i hi;exact(bPB i e k ns off n h).1
 obtain⟨w0,aIT⟩:∃w0:Old,w0=⟨w,Ew E.io g0,g0,fun b hb=>hY b (bOX b hb)⟩:=⟨_,rfl⟩;have aIS:w0.w=w:=by rw[aIT]
 have aOI:w0.M=Ew E.io g0:=by rw[aIT]
 have bFO:w0.g=g0:=by rw[aIT]
 have bGE:∀j b,argHp 0 ds j=some b->j∈E.io/\∃e k ns off n,ds[j]?=some (.io e k ns off n)/\b=⟨e,.ints k ns⟩:=by
  intro j b hj;obtain⟨_,e,k,ns,off,n,h1,h2⟩:=Tk hj;rw[Nat.sub_zero]at h1;exact⟨Zc j _ h1 rfl,e,k,ns,off,n,h1,h2⟩
 have aCO:jY E (fun b=>Y b/\¬Ew E.io g0 b) w0 g0 (fun i=>i<E.n0) (aAH ds) (argHp 0 ds) { tmps:=vs.toArray ++ Array.replicate (fn.ntmps-vs.toArray.size) undef,defers:=[] } w:=by
  have hx:∀b,XO (fun b=>Y b/\¬Ew E.io g0 b) g0 (argHp 0 ds) b->Y b:=by
   rintro b (h |⟨i,bl,h,rfl⟩)
   ·exact h.1
   ·exact bOX _ ⟨i,(bGE i bl h).1,rfl⟩
  have hl:iT Y w (XO (fun b=>Y b/\¬Ew E.io g0 b) g0 (argHp 0 ds)) w:=⟨cBE _,fun b _ h=>⟨rfl,fun h'=>h (hx b h')⟩⟩;have wO:∀t,(∃d,ds[t]?=some d/\aAH ds t=argAt t d)\/aAH ds t=.any:=by
   intro t;have:=Pm (ds:=ds) (i:=0) (t:=t);rw[cBG]at this;exact this
  refine { fr:=?_,sz:=by simp[bGI];omega,nod:=rfl,blk:=?_,inj:=?_,alh:=?_,alr:=?_,below:=by rw[aIS];exact Kept.refl _ _,x0:=?_,glob:=?_,mg:=?_,al0:=fun _ h=>h,xF:=fun _ _=>by rw[bFO] }
  ·intro t;rcases wO t with ⟨d,h1,h2⟩ |h
   ·rw[h2];have ht:=aX h1;obtain⟨v,hv⟩:=bG (l:=vs) (i:=t) (by omega);have e:(vs.toArray ++ Array.replicate (fn.ntmps-vs.toArray.size) undef).getD t undef=v:=by
     rw[Array.getD_eq_getD_getElem?,Array.getElem?_append_left (by simp;omega)];simp[hv]
    rw[e];cases hd:Gg d with
    |false =>
     have hr:=(aFO hd (hargs t d v h1 hv)).later hl;cases d with
     |io=>cases hd
     |own e k ns=>exact hr
     |s x=>exact hr
     |rows a b c=>exact hr
     |agg cs=>exact hr
     |back=>exact hr.elim
    |true =>
     cases d with
     |io e' k ns off n =>
      obtain⟨_,v',aKZ,⟨o',cap,h3,h4,h5,h6,h7⟩,_⟩:=bPB t _ _ _ _ _ h1;rw[hv]at aKZ;cases aKZ;refine⟨o',cap,h3,h4,h5,h6,fun blk k1 aAY xQ Ko=>?_⟩;have:=aAG (i:=0) h1;rw[cBG]at this;rw[this]at xQ;cases xQ;cases Ko;exact h7
     |own=>cases hd
     |s=>cases hd
     |rows=>cases hd
     |agg=>cases hd
     |back=>cases hd
   ·rw[h];trivial
  ·intro id b hb;obtain⟨h1,e,k,ns,off,n,h2,rfl⟩:=bGE id b hb;obtain⟨_,v,_,_,h3⟩:=bPB id _ _ _ _ _ h2;exact⟨.inr ⟨kM id h1,by rw[aOI];exact⟨id,h1,rfl⟩⟩,h3⟩
  ·intro id aAZ b b' h1 h2 h3;exact bGW id aAZ (bGE id b h1).1 (bGE aAZ b' h2).1 h3
  ·intro id b h1;exact kM id (bGE id b h1).1
  ·intro t i hi;rcases wO t with ⟨d,h1,h2⟩ |h
   ·rw[h2]at hi;cases d with
    |io e' k ns off n =>
     simp[argAt,refs,refsV,refsL]at hi;subst hi;exact kM _ (Zc _ _ h1 rfl)
    |own=>cases hi
    |s=>cases hi
    |rows=>cases hi
    |agg=>cases hi
    |back=>cases hi
   ·rw[h]at hi;cases hi
  ·rintro b ⟨h1,h2⟩ (hm |hm)
   ·rw[aIS]at hm;have:=hY b h1;omega
   ·rw[aOI]at hm;exact h2 hm
  ·rw[aIS];intro g k ns hg;obtain⟨h1,h2,h3⟩:=hG g k ns hg;exact⟨h1,fun h=>h2 h.1,h3.later ⟨cBE _,fun b _ hb=>⟨rfl,fun h=>hb h.1⟩⟩⟩
  ·intro g q hg hm;rw[aOI]at hm;obtain⟨k,ns⟩:=q;exact(hG g k ns hg).2.1 (bOX _ hm)
 have bYV:∀b,Y b->(Y b/\¬Ew E.io g0 b)\/Ew E.io g0 b:=fun b hb=>by
  by_cases h:Ew E.io g0 b
  ·exact .inr h
  ·exact .inl ⟨hb,h⟩
 unfold aF at he;refine aDM hT hC hm _ c _ _ _ g0 _ w aCO he ?_;intro ex st ρ a' w' hK hs;have bNX:(∃i,ex=.exit i)\/(nodup (ownIds st fn.results.toList)=true/\fn.results.toList.mapM (resD E st)=some rs/\E.io.mapM (bFJ st)=some js):=by
  have Af:(bif nodup (ownIds st fn.results.toList)then(match E.io with
  | []=>fn.results.toList.mapM (resD E st)
  |p :: ps=>match fn.results.toList.mapM (resD E st),(p :: ps).mapM (bFJ st)with
   |some rs,some is=>some (rs ++ is)
   |_,_=>none)else none)=some (rs ++ js)->(nodup (ownIds st fn.results.toList)=true/\fn.results.toList.mapM (resD E st)=some rs/\E.io.mapM (bFJ st)=some js):=by
   intro hK;cases hn:nodup (ownIds st fn.results.toList)with
   |false=>rw[hn]at hK;cases hK
   |true =>
    rw[hn]at hK;simp only[cond_true]at hK;refine⟨rfl,?_⟩
    match Oc:E.io,hK with
    | [],hK =>
     rw[Oc]at aOR;have:js=[]:=List.eq_nil_of_length_eq_zero aOR;subst this;rw[cHE]at hK;exact⟨hK,rfl⟩
    |p :: ps,hK =>
     simp only at hK;split at hK
     ·rename_i aTJ js' h1 h2;have bNN:=(Bi h2).1;rw[Oc]at aOR;have:=List.append_inj' (Option.some.inj hK) (by rw[bNN,aOR]);rw[h1,h2,this.1,this.2];exact⟨rfl,rfl⟩
     ·cases hK
  cases ex with
  |exit i=>exact .inl ⟨i,rfl⟩
  |normal=>exact .inr (Af hK)
  |ret=>exact .inr (Af hK)
 rcases bNX with ⟨i,rfl⟩ |⟨hn,bFZ,bXQ⟩
 ·cases hK
 have key:a'.defers=[]/\∃v,(results fn a'.tmps).run P w'=.ok v w'/\∃vI,Ending.returned v=.returned (resV vI)/\Fb (Ew E.io g0) w w'/\Wl Y w.heap.size w' E.io js g0 rs vI/\∀(j i:Nat) (d:D),E.io[j]?=some i->js[j]?=some d->Wz w' (g0 i) d:=by
  refine⟨hs.nod,?_⟩;obtain⟨bGS,aYA⟩:=Bi bFZ
  let X':Nat->Prop:=fun b=>Y b/\¬Ew E.io g0 b
  let bBH (r:ResultVar) (d:D) (v:Value):Prop:=(Hy a' r).run P w'=.ok v w'/\Good E X' w.heap.size st ρ w' r v d
  have hex:∀r,∃v,∀d,resD E st r=some d->bBH r d v:=by
   intro r;cases hd:resD E st r with
   |none=>exact⟨undef,fun d h=>by cases h⟩
   |some d =>
    obtain⟨v,h1,h2⟩:=aBX hT hs hd;rw[aIS]at h2;exact⟨v,fun d' h=>by cases h;exact⟨h1,h2⟩⟩
  obtain⟨g,bYC⟩:=Classical.axiomOfChoice hex;have hg:∀r d,r∈fn.results.toList->resD E st r=some d->bBH r d (g r):=fun r d _ hd=>bYC r d hd
  have gY:(fn.results.mapM (Hy a')).run P w'=.ok (fn.results.toList.map g).toArray w' :=
   aNY fun r hr=>by
    obtain⟨i,hi⟩:=List.mem_iff_getElem?.1 hr;obtain⟨d,_,hd⟩:=aYA i r hi;exact(hg r d hr hd).1
  have Ux:(results fn a'.tmps).run P w'=.ok (resV (fn.results.toList.map g)) w':=by
   have e:results fn a'.tmps=(fn.results.mapM (Hy a') >>= fun vs=>pure (if h:vs.size=1 then vs[0]else Value.tuple vs)):=by
    unfold results;congr 1
   rw[e,Sem.run_bind,gY,Result.andThen_ok,Sem.run_pure];congr 1;exact oneOf _
  have Ob:=hs.below;rw[aIS]at Ob;have bFU:Fb (Ew E.io g0) w w':=⟨Ob.os,Ob.tape,Ob.output,Ob.size,fun b hb hM=>Ob.block b (fun hm=>by
   rcases hm with hm |hm
   ·rw[aIS]at hm;omega
   ·rw[aOI]at hm;exact hM hm),fun b hM=>Ob.room b (by rw[aOI];exact hM)⟩
  have aOS:∀(j i:Nat) (d:D),E.io[j]?=some i->js[j]?=some d->∃e k ns,d=.io e k ns 0 0/\st.hp i=some ⟨e,.ints k ns⟩/\ρ i=g0 i:=by
   intro j i d hj hd;obtain⟨_,h2⟩:=Bi bXQ;obtain⟨d',h3,h4⟩:=h2 j i hj;rw[hd]at h3;cases h3;unfold bFJ at h4;split at h4
   ·rename_i e k ns hb;cases h4;refine⟨e,k,ns,rfl,hb,?_⟩;have:=hs.xF i (kM i (cBN hj));rw[bFO]at this;exact this
   ·cases h4
  have bYW:∀b,Y b->XO X' ρ st.hp b:=by
   intro b hb;rcases bYV b hb with h |⟨i,hi,rfl⟩
   ·exact .inl h
   ·obtain⟨j,hj⟩:=List.mem_iff_getElem?.1 hi;obtain⟨d,hd⟩:=bG (l:=js) (i:=j) (by have:=aX hj;omega);obtain⟨e,k,ns,_,h1,h2⟩:=aOS j i d hj hd;exact .inr ⟨i,_,h1,h2⟩
  refine⟨_,Ux,_,rfl,bFU,?_,?_⟩
  ·have bSS:∀(i:Nat) (d:D),rs[i]?=some d->∃r,fn.results.toList[i]?=some r/\resD E st r=some d/\bBH r d (g r):=by
    intro i d hi;obtain⟨r,hr⟩:=bG (l:=fn.results.toList) (i:=i) (by have:=aX hi;omega);obtain⟨d',h1,h2⟩:=aYA i r hr;rw[hi]at h1;cases h1;exact⟨r,hr,h2,hg r d (cBN hr) h2⟩
   let blk (i:Nat):Nat:=match fn.results.toList[i]? with
    |some r=>match ownOf st r with
     |some j=>ρ j
     |none=>0
    |none=>0
   have uK:∀(i:Nat) (d:D),rs[i]?=some d->lH d=true->∃r j b,fn.results.toList[i]?=some r/\ownOf st r=some j/\st.hp j=some b/\blk i=ρ j:=by
    intro i d hi ho;obtain⟨r,h1,h2,h3⟩:=bSS i d hi;cases d with
    |own e k ns =>
     obtain⟨_,j,h4,⟨b,h5⟩,_⟩:=h3;exact⟨r,j,b,h1,h4,h5,by simp only[blk,h1,h4]⟩
    |_=>cases ho
   refine⟨blk,by simp[bGS],?_,?_⟩
   ·intro i j d d' hi hj ho aLB Df;obtain⟨r,k,b,h1,h2,h3,h4⟩:=uK i d hi ho;obtain⟨r',k',b',aBD,aVF,bPI,bPH⟩:=uK j d' hj aLB;rw[h4,bPH]at Df;have:=hs.inj k k' b b' h3 bPI Df;subst this;exact Ni hn h1 aBD h2 aVF
   ·intro i d v hi hv;obtain⟨r,h1,h2,h3⟩:=bSS i d hi;have e:v=g r:=by
     rw[cBI,h1]at hv;exact(Option.some.inj hv).symm
    subst e;have hl:iT (XO X' ρ st.hp) w' (fun b=>Y b\/∃(j:Nat) (d':D),rs[j]?=some d'/\lH d'=true/\blk j=b) w':=by
     refine⟨cBE _,fun b _ hx=>⟨rfl,fun hb=>hx ?_⟩⟩;rcases hb with hb |⟨j,d',hj,ho,rfl⟩
     ·exact bYW b hb
     ·obtain⟨r',k,b',_,_,h5,h6⟩:=uK j d' hj ho;exact .inr ⟨k,b',h5,h6.symm⟩
    cases d with
    |own e k ns =>
     obtain⟨_,j,h4,_,h5⟩:=h3;have:blk i=ρ j:=by simp only[blk,h1,h4]
     show Tp _ _ (blk i) _ _ _ _;rw[this];exact h5
    |s x=>exact mY.later hl (d:=.s x) h3.2
    |rows sz n fr=>exact mY.later hl (d:=.rows sz n fr) h3.2
    |agg cs=>exact mY.later hl (d:=.agg cs) h3.2
    |io=>exact h3.2.elim
    |back p off n =>
     obtain⟨_,h4,h5⟩:=h3;obtain⟨j,hj⟩:=List.mem_iff_getElem?.1 h4;obtain⟨d,hd⟩:=bG (l:=js) (i:=j) (by have:=aX hj;omega);obtain⟨e,k,ns,rfl,h6,h7⟩:=aOS j p d hj hd;have:=h5 _ k ns h6 rfl;rw[h7]at this;exact⟨j,e,k,ns,hj,hd,this⟩
  ·intro j i d hj hd;obtain⟨e,k,ns,rfl,h1,h2⟩:=aOS j i d hj hd;have:=(hs.blk i _ h1).2;rw[h2]at this;exact this
 cases ex with
 |normal=>exact key
 |ret=>exact key
 |exit i=>cases hK
theorem Fb.below{M:Nat->Prop}(hM:∀b,¬M b){w w':World}(h:Fb M w w'):Below w.heap.size w w':=⟨h.os,h.tape,h.output,h.size,fun k hk=>h.block k hk (hM k)⟩
theorem fn_contract{P:Program}{E:Env}(hT:pK P E.T)(hC:kX P E)(hm:P.follows .mixedOrders=true){f:FuncId}{fn:Func}{c:Code}(hf:P.funcs[f]?=some fn)(hb:fn.body=some c)(bGI:E.nt=fn.ntmps)(Oc:E.io=[])
  {ds rs:List D} (hle:ds.length<=fn.ntmps) (he:aF E fn c ds=some rs):Contract P E.glob f ds rs:=by
 intro Y w vs hY hG hlen hargs;have Al:∀(i:Nat) (d:D),ds[i]?=some d->Gg d=false:=by
  intro i d hi;obtain⟨v,hv⟩:=bG (l:=vs) (i:=i) (by have:=aX hi;omega);have:=hargs i d v hi hv;cases d with
  |io=>exact this.elim
  |s=>rfl
  |rows=>rfl
  |agg=>rfl
  |own=>rfl
  |back=>rfl
 have:=fn_core hT hC hm hf hb bGI (rs:=rs) (js:=[]) hle (by rw[cHE];exact he) (by rw[Oc];rfl) (by rw[Oc];intro i hi;cases hi) (fun i d hi hd=>by rw[Al i d hi]at hd;cases hd) (by rw[Oc];intro i hi;cases hi) (g0:=fun _=>0) hY hG hlen (fun i d v hi hv=>Pl (Al i d hi) (hargs i d v hi hv)) (by rw[Oc];intro i j hi;cases hi);refine this.mono ?_;rintro e w' ⟨vI,h1,h2,⟨g,h3,h4,h5⟩,_⟩;refine⟨vI,h1,h2.below (fun b=>by rintro ⟨i,hi,_⟩;rw[Oc]at hi;cases hi),g,h3,h4,fun i d v hi hv=>?_⟩;have:=h5 i d v hi hv;cases d with
 |own e k ns=>exact this
 |s x=>exact this
 |rows a b c=>exact this
 |agg cs=>exact this
 |io=>exact this
 |back p off n =>
  obtain⟨j,e,k,ns,h6,_⟩:=this;rw[Oc]at h6;simp at h6
theorem Qz{P:Program}{E:Env}(hT:pK P E.T)(hC:kX P E)(hm:P.follows .mixedOrders=true){f:FuncId}{fn:Func}{c:Code}(hf:P.funcs[f]?=some fn)(hb:fn.body=some c)(bGI:E.nt=fn.ntmps)(kM:∀i,i∈E.io->i<E.n0)
  {ds rs js:List D} (hle:ds.length<=fn.ntmps) (he:aF E fn c ds=some (rs ++ js)) (aOR:js.length=E.io.length) (hL:aYH E.io ds js) (Zc:∀(i:Nat) (d:D),ds[i]?=some d->Gg d=true->i∈E.io):qD P E.glob f E.io ds rs js:=by
 refine⟨aOR,hL,fun Y w vs g hY hG hlen hargs Bq=>?_⟩;refine fn_core hT hC hm hf hb bGI hle he aOR kM Zc (fun i hi=>?_) hY hG hlen hargs Bq;obtain⟨j,hj⟩:=List.mem_iff_getElem?.1 hi;obtain⟨e,k,ns,off,n,_,_,_,h1,_⟩:=hL j i hj;exact⟨e,k,ns,off,n,h1⟩
def kindOf(P:Program):TypeDesc->Option TK
 | .bool=>some .bool
 | .int k=>some (.int k)
 | .float k=>some (.float k)
 | .slice e=>some (.slice e)
 | .string=>some .str
 | .struct fields=>(fields.toList.mapM fun(f:Field)=>match P.info? f.type,P.underlying f.type with
  |some fi,some fd=>some (f.offset,fi.size,uJ fd)
  |_,_=>none).map .struct
 | .array len e=>match P.info? e,P.underlying e with
  |some ei,some ed=>some (.arr len ei.size (uJ ed))
  |_,_=>none
 |_=>some .other
def tiOf(P:Program)(t:TypeId):Option TI:=match P.info? t,P.underlying t with
 |some i,some d=>match i.zero,kindOf P d with
  |some z,some k=>some ⟨i.size,i.bytes,z.cells.toList,k⟩
  |_,_=>none
 |_,_=>none
def aYT(ti:TI):Bool:=cBF ti.zero.length ti.size&&ti.zero.all fun v=>v.oneCell'
theorem aIP{P:Program}{d:TypeDesc}{k:TK}(h:kindOf P d=some k):Py P k d:=by
 unfold kindOf at h;split at h
 ·cases h;rfl
 ·cases h;rfl
 ·cases h;rfl
 ·cases h;rfl
 ·cases h;rfl
 ·rename_i fields;cases hm:(fields.toList.mapM fun(f:Field)=>match P.info? f.type,P.underlying f.type with
   |some fi,some fd=>some (f.offset,fi.size,uJ fd)
   |_,_=>none)with
  |none=>rw[hm]at h;cases h
  |some fs =>
   rw[hm]at h;cases h;obtain⟨h1,h2⟩:=Bi hm;refine⟨fields,rfl,by simpa using h1,fun i f hf=>?_⟩;obtain⟨y,e1,e2⟩:=h2 i f (by simpa using hf);split at e2
   ·rename_i fi fd bJZ bYE;cases e2;exact⟨fi,fd,bJZ,bYE,e1⟩
   ·cases e2
 ·rename_i len e;split at h
  ·rename_i ei ed bYL bKA;cases h;exact⟨e,ei,ed,rfl,bYL,rfl,bKA,rfl⟩
  ·cases h
 ·rename_i h1 h2 h3 h4 h5 h6 h7;cases h;show uJ d=false;cases d <;> first |rfl | (exfalso;exact h6 _ rfl) | (exfalso;exact h7 _ _ rfl)
def eqChk(P:Program)(t:TypeId)(ti:TI):Bool:=match yZ ti with
 |some ks=>(match P.underlying t with
  |some (.struct fields)=>!P.stoodInHeld t&&(eqChkF P 0 fields.toList ks&&!P.eqGuardType P.depth t)
  |_=>false)
 |none=>true
theorem aPS{P:Program}{t:TypeId}{ti:TI}(h:eqChk P t ti=true)(ks:List EK)(hk:yZ ti=some ks):bDA P t ks:=by
 unfold eqChk at h;rw[hk]at h;simp only at h;split at h
 ·rename_i fields hf;simp only[cBK,cCO]at h;exact⟨fields,hf,h.1,h.2.1,h.2.2⟩
 ·cases h
theorem aLX{P:Program}{t:TypeId}{ti:TI}(h:tiOf P t=some ti)(hk:aYT ti=true)(hq:eqChk P t ti=true):Cc P t ti:=by
 have heq:=aPS hq;unfold tiOf at h;split at h
 ·rename_i i d hi hd;split at h
  ·rename_i z k hz bXM;cases h;unfold aYT at hk;simp only[cBK]at hk;exact { i:=⟨i,hi,rfl,rfl,z,hz,rfl⟩,zl:=cBT hk.1,zo:=fun v hv=>List.all_eq_true.1 hk.2 v hv,d:=⟨d,hd,aIP bXM⟩,eq:=heq }
  ·cases h
 ·cases h
def tlook{α:Type}:List (Nat×α)->Nat->Option α
 | [],_=>none
 |p :: r,t=>bif cBF p.1 t then some p.2 else tlook r t
theorem xZ{α:Type}:∀{l:List (Nat×α)} {t:Nat} {x:α},tlook l t=some x->(t,x)∈l
 | [],t,x,h=>by cases h
 |p :: r,t,x,h=>by
  simp only[tlook]at h;cases hb:cBF p.1 t with
  |true =>
   rw[hb]at h;cases h;have:=cBT hb;subst this;exact cBL ..
  |false=>rw[hb]at h;exact cBP _ (xZ h)
theorem aSY{P:Program}(Mi:List (Nat×TI))(h:Mi.map (fun p=>tiOf P p.1)=Mi.map fun p=>some p.2)(hk:(Mi.all fun p=>aYT p.2)=true)(hq:(Mi.all fun p=>eqChk P p.1 p.2)=true):pK P (tlook Mi):=by
 intro t ti ht;have hm:=xZ ht;have h1:tiOf P t=some ti:=by
  have:=List.map_inj_left.1 h (t,ti) hm;exact this
 exact aLX h1 (List.all_eq_true.1 hk (t,ti) hm) (List.all_eq_true.1 hq (t,ti) hm)
end AI
namespace AI
open Go Go.RowKit
theorem sH{R:Type}(E:Env)(draw:Bool)(ops:Array Oper)(base:Nat):∀(rest:List Oper) (i:Nat) (pP:List Rec) (st:St) (K:St->Option R),
  opsK E draw ops base rest i pP st K=(opsK E draw ops base rest i pP st some).bind K
 | [],i,pP,st,K=>rfl
 |o :: rest,i,pP,st,K=>by
  unfold opsK;cases (jX E.nt o&&(!draw||zJ i o))with
  |false=>rfl
  |true =>
   simp only[cond_true];split
   ·rw[qJ,qJ];cases rU E (base+8*i) o (evA E st.fr) st.hp with
    |none=>rfl
    |some p =>
     simp only[cCW];cases (!draw||pP.all fun r=>indep ops r i o (vK o (evA E st.fr) p.2) (p.2.map (·.1)))with
     |false=>rfl
     |true=>exact sH E draw ops base rest (i+1) _ _ K
   ·split
    ·split
     ·rename_i want _ _ d _ _ b _;cases b with
      |true =>
       simp only[cond_true];cases (true==want)with
       |true =>
        simp only[cond_true];rw[qJ,qJ];cases rU E (base+8*i) o (evA E (Cy st.fr d (Dr (.bool true)))) st.hp with
        |none=>rfl
        |some p =>
         simp only[cCW];cases (!draw||pP.all fun r=>indep ops r i o (vK o (evA E (Cy st.fr d (Dr (.bool true)))) p.2) (p.2.map (·.1)))with
         |false=>rfl
         |true=>exact sH E draw ops base rest (i+1) _ _ K
       |false =>
        simp only[cond_false];cases (!draw||pP.all fun r=>indep ops r i o [] [])with
        |false=>rfl
        |true=>exact sH E draw ops base rest (i+1) _ _ K
      |false =>
       simp only[cond_false];cases (false==want)with
       |true =>
        simp only[cond_true];rw[qJ,qJ];cases rU E (base+8*i) o (evA E (Cy st.fr d (Dr (.bool false)))) st.hp with
        |none=>rfl
        |some p =>
         simp only[cCW];cases (!draw||pP.all fun r=>indep ops r i o (vK o (evA E (Cy st.fr d (Dr (.bool false)))) p.2) (p.2.map (·.1)))with
         |false=>rfl
         |true=>exact sH E draw ops base rest (i+1) _ _ K
       |false =>
        simp only[cond_false];cases (!draw||pP.all fun r=>indep ops r i o [] [])with
        |false=>rfl
        |true=>exact sH E draw ops base rest (i+1) _ _ K
     ·cases (!draw||pP.all fun r=>indep ops r i o [] [])with
      |false=>rfl
      |true=>exact sH E draw ops base rest (i+1) _ _ K
     ·rfl
    ·rfl
section
variable (n0:Nat) (keep:List Nat) (f:St->Option (Ex×St))
def runs:Nat->List KV->Option (Ex×St)
 |0,_=>none
 |n+1,l=>(f (mk n0 keep l)).bind fun p=>match p.1 with
  | .normal=>runs n (canon n0 keep p.2)
  | .exit i=>some (.exit i,p.2)
  | .ret=>some (.ret,p.2)
theorem Hw:∀(n k:Nat) (l:List KV) (p:Ex×St),runs n0 keep f n l=some p->runs n0 keep f (n+k) l=some p
 |0,_,_,_,h=>by cases h
 |n+1,k,l,p,h=>by
  rw[cIG];simp only[runs]at h ⊢;cases hf:f (mk n0 keep l)with
  |none=>rw[hf]at h;cases h
  |some q =>
   rw[hf]at h;simp only[cCW]at h ⊢;obtain⟨ex,st⟩:=q;cases ex with
   |normal=>exact Hw n k _ p h
   |exit i=>exact h
   |ret=>exact h
theorem My{n m:Nat}{l:List KV}{p q:Ex×St}(h:runs n0 keep f n l=some p)(h':runs n0 keep f m l=some q):p=q:=by
 have h1:=Hw n0 keep f n m l p h;have h2:=Hw n0 keep f m n l q h';rw[cHF m n,h1]at h2;exact Option.some.inj h2
open Classical in
def aKW (l:List KV):Option (Ex×St):=if h:∃p,∃n,runs n0 keep f n l=some p then some (Classical.choose h)else none
theorem Np{n:Nat}{l:List KV}{p:Ex×St}(h:runs n0 keep f n l=some p):aKW n0 keep f l=some p:=by
 unfold aKW;have hex:∃p,∃n,runs n0 keep f n l=some p:=⟨p,n,h⟩;rw[dif_pos hex];obtain⟨m,hm⟩:=Classical.choose_spec hex;rw[My n0 keep f hm h]
theorem Uk{l:List KV}{p:Ex×St}(h:aKW n0 keep f l=some p):∃n,runs n0 keep f n l=some p:=by
 unfold aKW at h;split at h
 ·rename_i hex;cases h;exact Classical.choose_spec hex
 ·cases h
theorem aZT(l:List KV):aKW n0 keep f l=(f (mk n0 keep l)).bind fun p=>match p.1 with
  | .normal=>aKW n0 keep f (canon n0 keep p.2)
  | .exit i=>some (.exit i,p.2)
  | .ret=>some (.ret,p.2):=by
 cases hf:f (mk n0 keep l)with
 |none =>
  cases hl:aKW n0 keep f l with
  |none=>rfl
  |some p =>
   obtain⟨n,hn⟩:=Uk n0 keep f hl;cases n with
   |zero=>cases hn
   |succ n=>simp only[runs,hf]at hn;cases hn
 |some q =>
  obtain⟨ex,st⟩:=q;simp only[cCW];cases ex with
  |normal =>
   simp only;cases hl:aKW n0 keep f (canon n0 keep st)with
   |some p =>
    obtain⟨n,hn⟩:=Uk n0 keep f hl;exact Np n0 keep f (n:=n+1) (by simp only[runs,hf,cCW];exact hn)
   |none =>
    cases bJW:aKW n0 keep f l with
    |none=>rfl
    |some p =>
     obtain⟨n,hn⟩:=Uk n0 keep f bJW;cases n with
     |zero=>cases hn
     |succ n =>
      simp only[runs,hf,cCW]at hn;rw[Np n0 keep f hn]at hl;cases hl
  |exit i=>exact Np n0 keep f (n:=1) (by simp only[runs,hf,cCW])
  |ret=>exact Np n0 keep f (n:=1) (by simp only[runs,hf,cCW])
def aLH{R:Type}(K:Ex->St->Option R)(rec:List KV->Option R)(l:List KV):Option R :=
 (f (mk n0 keep l)).bind fun p=>match p.1 with
  | .normal=>rec (canon n0 keep p.2)
  | .exit i=>K (.exit i) p.2
  | .ret=>K .ret p.2
theorem wF{R:Type}(K:Ex->St->Option R):∀(n:Nat) (l:List KV),iter (aLH n0 keep f K) n l=(runs n0 keep f n l).bind fun p=>K p.1 p.2
 |0,_=>rfl
 |n+1,l=>by
  simp only[iter,aLH,runs];cases f (mk n0 keep l)with
  |none=>rfl
  |some q =>
   obtain⟨ex,st⟩:=q;simp only[cCW];cases ex with
   |normal=>exact wF K n _
   |exit i=>rfl
   |ret=>rfl
theorem Vg{R:Type}(K:Ex->St->Option R)(l:List KV):fix (aLH n0 keep f K) l=(aKW n0 keep f l).bind fun p=>K p.1 p.2:=by
 cases hl:aKW n0 keep f l with
 |none =>
  unfold fix;rw[dif_neg]
  ·rfl
  ·rintro ⟨r,n,h⟩;rw[wF]at h;cases hr:runs n0 keep f n l with
   |none=>rw[hr]at h;cases h
   |some p=>rw[Np n0 keep f hr]at hl;cases hl
 |some p =>
  obtain⟨n,hn⟩:=Uk n0 keep f hl;simp only[cCW];cases hK:K p.1 p.2 with
  |some r =>
   unfold fix;have hex:∃r,∃n,iter (aLH n0 keep f K) n l=some r:=⟨r,n,by rw[wF,hn];exact hK⟩;rw[dif_pos hex];obtain⟨m,hm⟩:=Classical.choose_spec hex;rw[wF]at hm;cases hr:runs n0 keep f m l with
   |none=>rw[hr]at hm;cases hm
   |some q =>
    rw[hr,My n0 keep f hr hn]at hm;simp only[cCW]at hm;rw[hK]at hm;exact hm.symm
  |none =>
   unfold fix;rw[dif_neg];rintro ⟨r,m,h⟩;rw[wF]at h;cases hr:runs n0 keep f m l with
   |none=>rw[hr]at h;cases h
   |some q =>
    rw[hr,My n0 keep f hr hn]at h;simp only[cCW]at h;rw[hK]at h;cases h
theorem aVK{R:Type}(K:Ex->St->Option R)(l:List KV):fix (aLH n0 keep f K) l=aLH n0 keep f K (fix (aLH n0 keep f K)) l:=by
 rw[Vg,aZT];unfold aLH;cases f (mk n0 keep l)with
 |none=>rfl
 |some q =>
  obtain⟨ex,st⟩:=q;simp only[cCW];cases ex with
  |normal=>exact(Vg n0 keep f K _).symm
  |exit i=>rfl
  |ret=>rfl
end
def condSt(c:Operand)(st:St):Option (Bool×St):=match c with
 | .tmp s=>match st.fr s with
  | .v (.one (.s (.sc (.bool t))))=>some (t,⟨Cy st.fr s (Dr (.bool t)),st.hp,st.n⟩)
  |_=>none
 | .const (.bool t)=>some (t,st)
 |_=>none
theorem Zv{R:Type}(E:Env)(c:Operand)(a b:Code)(st:St)(K:Ex->St->Option R):evalCode E (.cond c a b) st K=(condSt c st).bind fun p=>bif p.1 then evalCode E a p.2 K else evalCode E b p.2 K:=by
 cases c with
 |tmp s =>
  simp only[evalCode,condSt];split
  ·rename_i t h;simp only[h,cCW];cases t <;> rfl
  ·rename_i h;split
   ·rename_i t h';exact(h t h').elim
   ·rfl
 |const v=>cases v <;> simp only[evalCode,condSt] <;> rfl
 |_=>simp only[evalCode,condSt];rfl
theorem evalCode_bind(E:Env)(c:Code):∃f:St->Option (Ex×St),∀(st:St) {R:Type} (K:Ex->St->Option R),evalCode E c st K=(f st).bind fun p=>K p.1 p.2:=by
 induction c with
 |skip=>exact⟨fun st=>some (.normal,st),fun st R K=>rfl⟩
 |label l=>exact⟨fun st=>some (.normal,st),fun st R K=>rfl⟩
 |exit id=>exact⟨fun st=>some (.exit id,st),fun st R K=>rfl⟩
 |ret=>exact⟨fun st=>some (.ret,st),fun st R K=>rfl⟩
 |region id ops draw =>
  refine⟨fun st=>(opsK E draw ops st.n ops.toList 0 [] st some).bind fun gE=>some (.normal,⟨gE.fr,gE.hp,st.n+8*ops.size⟩),fun st R K=>?_⟩;unfold evalCode;rw[sH];simp only[];cases opsK E draw ops st.n ops.toList 0 [] st some <;> rfl
 |seq a b Bo Bn =>
  obtain⟨f,hf⟩:=Bo;obtain⟨g,hg⟩:=Bn;refine⟨fun st=>(f st).bind fun p=>match p.1 with
   | .normal=>match E.cut (keyOf b)with
    |some keep=>g (mk E.n0 keep (canon E.n0 keep p.2))
    |none=>g p.2
   | .exit i=>some (.exit i,p.2)
   | .ret=>some (.ret,p.2),fun st R K=>?_⟩
  unfold evalCode;rw[hf];simp only[];cases f st with
  |none=>rfl
  |some q =>
   obtain⟨ex,gE⟩:=q;cases ex with
   |normal =>
    simp only[cCW];cases E.cut (keyOf b)with
    |none=>exact hg gE K
    |some keep=>exact hg _ K
   |exit i=>rfl
   |ret=>rfl
 |cond cd a b Bo Bn =>
  obtain⟨f,hf⟩:=Bo;obtain⟨g,hg⟩:=Bn;refine⟨fun st=>(condSt cd st).bind fun p=>bif p.1 then f p.2 else g p.2,fun st R K=>?_⟩;rw[Zv];simp only[];cases condSt cd st with
  |none=>rfl
  |some p =>
   obtain⟨t,gE⟩:=p;cases t with
   |true=>exact hf _ K
   |false=>exact hg _ K
 |block id c ih =>
  obtain⟨f,hf⟩:=ih;refine⟨fun st=>(f st).bind fun p=>match p.1 with
   | .normal=>some (.normal,p.2)
   | .exit i=>bif cBF i id then some (.normal,p.2)else some (.exit i,p.2)
   | .ret=>some (.ret,p.2),fun st R K=>?_⟩
  unfold evalCode;rw[hf];simp only[];cases f st with
  |none=>rfl
  |some q =>
   obtain⟨ex,gE⟩:=q;cases ex with
   |normal=>rfl
   |exit i =>
    simp only[cCW];cases cBF i id <;> rfl
   |ret=>rfl
 |loop c ih =>
  obtain⟨f,hf⟩:=ih;have hG:∀{R:Type} (keep:List Nat) (K:Ex->St->Option R),(fun(rec:List KV->Option R) l=>evalCode E c (mk E.n0 keep l) fun ex gE=>match ex with
    | .normal=>rec (canon E.n0 keep gE)
    | .exit i=>K (.exit i) gE
    | .ret=>K .ret gE)=aLH E.n0 keep f K:=by
   intro R keep K;funext rec l;rw[hf];unfold aLH;cases f (mk E.n0 keep l)with
   |none=>rfl
   |some q=>obtain⟨ex,gE⟩:=q;cases ex <;> rfl
  refine⟨fun st=>match E.roll (keyOf c)with
   |some n=>runs E.n0 (E.keep (keyOf c)) f n (canon E.n0 (E.keep (keyOf c)) st)
   |none=>aKW E.n0 (E.keep (keyOf c)) f (canon E.n0 (E.keep (keyOf c)) st),fun st R K=>?_⟩
  simp only[evalCode];cases E.roll (keyOf c)with
  |some n=>exact(congrArg (fun G=>iter G n (canon E.n0 (E.keep (keyOf c)) st)) (hG _ K)).trans (wF _ _ _ _ _ _)
  |none=>exact(congrArg (fun G=>fix G (canon E.n0 (E.keep (keyOf c)) st)) (hG _ K)).trans (Vg _ _ _ _ _)
 |rangeFunc f ps x y _ _=>exact⟨fun _=>none,fun st R K=>rfl⟩
 |scope c ih =>
  obtain⟨f,hf⟩:=ih;exact⟨f,fun st R K=>by unfold evalCode;exact hf st K⟩
 |goto l=>exact⟨fun _=>none,fun st R K=>rfl⟩
 |refuse bQO=>exact⟨fun _=>none,fun st R K=>rfl⟩
theorem aUI{R:Type}(E:Env)(keep:List Nat)(c:Code)(K:Ex->St->Option R)(l:List KV) :
  fix (roundOf (evalCode E) E.n0 keep c K) l=roundOf (evalCode E) E.n0 keep c K (fix (roundOf (evalCode E) E.n0 keep c K)) l:=by
 obtain⟨f,hf⟩:=evalCode_bind E c;have hG:roundOf (evalCode E) E.n0 keep c K=aLH E.n0 keep f K:=by
  funext rec l;unfold roundOf;rw[hf];unfold aLH;cases f (mk E.n0 keep l)with
  |none=>rfl
  |some q=>obtain⟨ex,gE⟩:=q;cases ex <;> rfl
 rw[hG];exact aVK E.n0 keep f K l
def Ik(E:Env)(fn:Func)(c:Code)(key:Nat)(l:List KV):Option (List D) :=
 match findLoop E key c (sV E fn)with
 |some (b,K)=>fix (roundOf (evalCode E) E.n0 (E.keep key) b K) l
 |none=>none
def Ud(E:Env)(fn:Func)(c:Code)(key:Nat)(l:List KV):Option (List D) :=
 match findLoop E key c (sV E fn)with
 |some (b,K)=>roundOf (evalCode E) E.n0 (E.keep key) b K (fix (roundOf (evalCode E) E.n0 (E.keep key) b K)) l
 |none=>none
theorem aIN(E:Env)(fn:Func)(c:Code)(key:Nat)(l:List KV):Ik E fn c key l=Ud E fn c key l:=by
 unfold Ik Ud;cases findLoop E key c (sV E fn)with
 |none=>rfl
 |some p=>exact aUI E _ p.1 p.2 l
def cutAt(E:Env)(fn:Func)(c:Code)(key:Nat)(l:List KV):Option (List D) :=
 match fJ E key c (sV E fn),E.cut key with
 |some (b,K),some keep=>Dj key l fun l=>evalCode E b (mk E.n0 keep l) K
 |_,_=>none
def Vs(E:Env)(fn:Func)(c:Code)(key:Nat)(l:List KV):Option (List D) :=
 match fJ E key c (sV E fn),E.cut key with
 |some (b,K),some keep=>evalCode E b (mk E.n0 keep l) K
 |_,_=>none
theorem aQJ(E:Env)(fn:Func)(c:Code)(key:Nat)(l:List KV):cutAt E fn c key l=Vs E fn c key l:=by
 unfold cutAt Vs Dj;rfl
end AI
namespace AI
open Go Go.RowKit
theorem Contract.of{P:Program}{G:Nat->Option (IntKind×List Int)}{f:FuncId}{ds ds' rs:List D}(h:Contract P G f ds' rs)(hl:ds.length=ds'.length)
  (hd:∀(i:Nat) (d d':D),ds[i]?=some d->ds'[i]?=some d'->∀(Y:Nat->Prop) (w:World) (v:Value),mY Y w d v->mY Y w d' v):Contract P G f ds rs:=by
 intro Y w vs hY hG hlen hargs;refine h Y w vs hY hG (by omega) fun i d' v hi hv=>?_
 obtain⟨d,Ee⟩:=bG (l:=ds) (i:=i) (by have:=aX hi;omega);exact hd i d d' Ee hi Y w v (hargs i d v Ee hv)
def dI(k:IntKind):D->Option (List Int)
 | .s (.ints k' ns)=>if _h:k=k' then some ns else none
 | .s (.sc (.slice none 0 0))=>some []
 |_=>none
def dN(k:IntKind):D->Option Int
 | .s (.sc (.int k' n))=>if _h:k=k' then some n else none
 |_=>none
def dB:D->Option Bool
 | .s (.sc (.bool b))=>some b
 |_=>none
def El(d d':D):Prop:=∀(Y:Nat->Prop) (w:World) (v:Value),mY Y w d v->mY Y w d' v
theorem El.refl(d:D):El d d:=fun _ _ _ h=>h
theorem bII{k:IntKind}{d:D}{ns:List Int}(h:dI k d=some ns):El d (.s (.ints k ns)):=by
 intro Y w v hr;unfold dI at h;split at h
 ·split at h
  ·rename_i hk;cases h;subst hk;exact hr
  ·cases h
 ·cases h;obtain⟨rfl,_⟩:=hr;exact⟨none,0,rfl,cBE _,fun i n hn=>by simp at hn⟩
 ·cases h
theorem bIH{k:IntKind}{d:D}{n:Int}(h:dN k d=some n):d=.s (.sc (.int k n)):=by
 unfold dN at h;split at h
 ·split at h
  ·rename_i hk;cases h;subst hk;rfl
  ·cases h
 ·cases h
theorem bIG{k:IntKind}{d:D}{n:Int}(h:dN k d=some n):El d (.s (.sc (.int k n))):=by rw[bIH h];exact El.refl _
theorem bIL{d:D}{b:Bool}(h:dB d=some b):d=.s (.sc (.bool b)):=by
 unfold dB at h;split at h
 ·cases h;rfl
 ·cases h
theorem bIK{d:D}{b:Bool}(h:dB d=some b):El d (.s (.sc (.bool b))):=by rw[bIL h];exact El.refl _
theorem Contract.bLO{P:Program}{G:Nat->Option (IntKind×List Int)}{f:FuncId}{d d':D}{rs:List D}(h:Contract P G f [d'] rs)(hd:El d d'):Contract P G f [d] rs :=
 h.of rfl fun i x x' hx Ae=>by
  match i with
  |0=>simp at hx Ae;subst hx;subst Ae;exact hd
  |i+1=>simp at hx
theorem Contract.bLN{P:Program}{G:Nat->Option (IntKind×List Int)}{f:FuncId}{d d' e e':D}{rs:List D}(h:Contract P G f [d',e'] rs)(hd:El d d')(he:El e e'):Contract P G f [d,e] rs :=
 h.of rfl fun i x x' hx Ae=>by
  match i with
  |0=>simp at hx Ae;subst hx;subst Ae;exact hd
  |1=>simp at hx Ae;subst hx;subst Ae;exact he
  |i+2=>simp at hx
theorem Contract.bQU{P:Program}{G:Nat->Option (IntKind×List Int)}{f:FuncId}{d d' e e' g g':D}{rs:List D}(h:Contract P G f [d',e',g'] rs)(hd:El d d')(he:El e e')(hg:El g g'):Contract P G f [d,e,g] rs :=
 h.of rfl fun i x x' hx Ae=>by
  match i with
  |0=>simp at hx Ae;subst hx;subst Ae;exact hd
  |1=>simp at hx Ae;subst hx;subst Ae;exact he
  |2=>simp at hx Ae;subst hx;subst Ae;exact hg
  |i+3=>simp at hx
theorem Contract.bQT{P:Program}{G:Nat->Option (IntKind×List Int)}{f:FuncId}{d d' e e' g g' k k':D}{rs:List D}(h:Contract P G f [d',e',g',k'] rs)(hd:El d d')(he:El e e')(hg:El g g')(hk:El k k'):Contract P G f [d,e,g,k] rs :=
 h.of rfl fun i x x' hx Ae=>by
  match i with
  |0=>simp at hx Ae;subst hx;subst Ae;exact hd
  |1=>simp at hx Ae;subst hx;subst Ae;exact he
  |2=>simp at hx Ae;subst hx;subst Ae;exact hg
  |3=>simp at hx Ae;subst hx;subst Ae;exact hk
  |i+4=>simp at hx
abbrev dJ:=List D->Option (Prop×List D)
def mN(P:Program)(G:Nat->Option (IntKind×List Int))(f:FuncId)(o:dJ):Prop :=
 ∀ds g rs,o ds=some (g,rs)->g->Contract P G f ds rs/\rB P f
def callsOf(Mi:List (Nat×dJ))(f:FuncId)(ds:List D):Option (Prop×List D):=match tlook Mi f with
 |some o=>o ds
 |none=>none
theorem nJ{P:Program}{E:Env}(Mi:List (Nat×dJ))(hC:E.C=callsOf Mi)(h:∀p∈Mi,mN P E.glob p.1 p.2)
  (hx:∀f vs g rs,E.ext f vs=some (g,rs)->g->(∀v∈rs,v.oneCell'=true)/\∀w,(callFunc f vs.toArray).run P w=.ok (.value (resV rs)) w) (hF:E.ioF=(fun _=>[]):=by rfl):kX P E:=by
 refine⟨fun f ds g rs _ he hg=>?_,fun f p ps ds g rs he=>(by rw[hF]at he;cases he),hx⟩;rw[hC]at he;unfold callsOf at he;split at he
 ·rename_i o ho;exact h _ (xZ ho) ds g rs he hg
 ·cases he
theorem aC{P:Program}{G:Nat->Option (IntKind×List Int)}:∀p∈([]:List (Nat×dJ)),mN P G p.1 p.2:=fun _ h=>by cases h
theorem aA{P:Program}{G:Nat->Option (IntKind×List Int)}{f:Nat}{o:dJ}{Mi:List (Nat×dJ)}(h:mN P G f o)(ht:∀p∈Mi,mN P G p.1 p.2):∀p∈(f,o) :: Mi,mN P G p.1 p.2:=by
 intro p hp;rcases List.mem_cons.1 hp with rfl |hp
 ·exact h
 ·exact ht p hp
def rW(P:Program)(G:Nat->Option (IntKind×List Int))(f:FuncId)(o:dJ):Prop :=
 ∀ds g rs,o ds=some (g,rs)->g->(∃Hx js,rs=Hx ++ js/\qD P G f [0] ds Hx js)/\rB P f
def tK(aTB:List (Nat×dJ))(r:FuncId->List D->Option (Prop×List D))(f:FuncId)(ds:List D):Option (Prop×List D):=match tlook aTB f with
 |some o=>o ds
 |none=>r f ds
def Qu(aTB:List (Nat×dJ))(f:FuncId):List Nat:=match tlook aTB f with
 |some _=>[0]
 |none=>[]
theorem nL{P:Program}{E:Env}(aTB Mi:List (Nat×dJ))(hC:E.C=tK aTB (callsOf Mi))(hF:E.ioF=Qu aTB)(hi:∀p∈aTB,rW P E.glob p.1 p.2)(h:∀p∈Mi,mN P E.glob p.1 p.2)
  (hx:∀f vs g rs,E.ext f vs=some (g,rs)->g->(∀v∈rs,v.oneCell'=true)/\∀w,(callFunc f vs.toArray).run P w=.ok (.value (resV rs)) w):kX P E:=by
 refine⟨fun f ds g rs h0 he hg=>?_,fun f p ps ds g rs h0 he hg=>?_,hx⟩
 ·rw[hF]at h0;rw[hC]at he;unfold Qu at h0;unfold tK at he;cases ht:tlook aTB f with
  |some o=>rw[ht]at h0;cases h0
  |none =>
   rw[ht]at he;simp only at he;unfold callsOf at he;split at he
   ·rename_i o ho;exact h _ (xZ ho) ds g rs he hg
   ·cases he
 ·rw[hF]at h0;rw[hC]at he;unfold Qu at h0;unfold tK at he;cases ht:tlook aTB f with
  |none=>rw[ht]at h0;cases h0
  |some o =>
   rw[ht]at h0 he;simp only at h0 he;cases h0;obtain⟨⟨Hx,js,h1,h2⟩,h3⟩:=hi _ (xZ ht) ds g rs he hg;exact⟨Hx,js,h1,h2,h3⟩
theorem zG{P:Program}{G:Nat->Option (IntKind×List Int)}:∀p∈([]:List (Nat×dJ)),rW P G p.1 p.2:=fun _ h=>by cases h
theorem nQ{P:Program}{G:Nat->Option (IntKind×List Int)}{f:Nat}{o:dJ}{Mi:List (Nat×dJ)}(h:rW P G f o)(ht:∀p∈Mi,rW P G p.1 p.2):∀p∈(f,o) :: Mi,rW P G p.1 p.2:=by
 intro p hp;rcases List.mem_cons.1 hp with rfl |hp
 ·exact h
 ·exact ht p hp
theorem qD.bVC{P:Program}{G:Nat->Option (IntKind×List Int)}{f:FuncId}{d:D}{ds ds' rs js:List D}(h:qD P G f [0] (d :: ds') rs js)(hl:ds.length=ds'.length)
  (hd:∀(i:Nat) (x x':D),ds[i]?=some x->ds'[i]?=some x'->Gg x=false/\Gg x'=false/\El x x'):qD P G f [0] (d :: ds) rs js:=by
 refine⟨h.len,fun j i hj=>?_,fun Y w vs g hY hG hlen hargs Bq=>?_⟩
 ·obtain⟨e,k,ns,off,n,e',k',oH,h1,h2,h3⟩:=h.io j i hj;have hi:i=0:=by
   match j with
   |0=>simp at hj;exact hj.symm
   |j+1=>simp at hj
  subst hi;exact⟨e,k,ns,off,n,e',k',oH,by simpa using h1,h2,h3⟩
 ·refine h.run Y w vs g hY hG (by simp at hlen ⊢;omega) (fun i x' v hi hv=>?_) Bq
  match i with
  |0=>exact hargs 0 x' v (by simpa using hi) hv
  |i+1 =>
   have hi:ds'[i]?=some x':=by simpa using hi
   obtain⟨x,hx⟩:=bG (l:=ds) (i:=i) (by have:=aX hi;omega);obtain⟨h1,h2,h3⟩:=hd i x x' hx hi;exact Pl h2 (h3 Y w v (aFO h1 (hargs (i+1) x v (by simpa using hx) hv)))
def aHT(P:Program)(ext:FuncId->List Value->Option (Prop×List Value)):Prop:=∀f vs g rs,ext f vs=some (g,rs)->g->(∀v∈rs,v.oneCell'=true)/\∀w,(callFunc f vs.toArray).run P w=.ok (.value (resV rs)) w
end AI
namespace AI
open Go Go.RowKit
section
variable {R:Type} (E:Env) (J L:Nat->List KV->Option R)
def evalJ:Code->St->(Ex->St->Option R)->Option R
 | .skip,st,K=>K .normal st
 | .label _,st,K=>K .normal st
 | .region _ ops draw,st,K=>opsK E draw ops st.n ops.toList 0 [] st fun gE=>K .normal ⟨gE.fr,gE.hp,st.n+8*ops.size⟩
 | .seq a b,st,K=>evalJ a st fun ex gE=>match ex with
  | .normal=>match E.cut (keyOf b)with
   |some keep=>J (keyOf b) (canon E.n0 keep gE)
   |none=>evalJ b gE K
  | .exit i=>K (.exit i) gE
  | .ret=>K .ret gE
 | .cond c a b,st,K=>match c with
  | .tmp s=>match st.fr s with
   | .v (.one (.s (.sc (.bool t))))=>aB t (evalJ a ⟨Cy st.fr s (Dr (.bool true)),st.hp,st.n⟩ K) (evalJ b ⟨Cy st.fr s (Dr (.bool false)),st.hp,st.n⟩ K)
   |_=>none
  | .const (.bool t)=>aB t (evalJ a st K) (evalJ b st K)
  |_=>none
 | .block id c,st,K=>evalJ c st fun ex gE=>match ex with
  | .normal=>K .normal gE
  | .exit i=>bif cBF i id then K .normal gE else K (.exit i) gE
  | .ret=>K .ret gE
 | .exit id,st,K=>K (.exit id) st
 | .ret,st,K=>K .ret st
 | .loop c,st,_=>L (keyOf c) (canon E.n0 (E.keep (keyOf c)) st)
 | .scope c,st,K=>evalJ c st K
 |_,_,_=>none
def aFJ(b:Code)(K:Ex->St->Option R)(ex:Ex)(gE:St):Option R:=match ex with
 | .normal=>match E.cut (keyOf b)with
  |some keep=>J (keyOf b) (canon E.n0 keep gE)
  |none=>evalJ E J L b gE K
 | .exit i=>K (.exit i) gE
 | .ret=>K .ret gE
def Ut(c:Code)(K:Ex->St->Option R)(ex:Ex)(gE:St):Option R:=match ex with
 | .normal=>L (keyOf c) (canon E.n0 (E.keep (keyOf c)) gE)
 | .exit i=>K (.exit i) gE
 | .ret=>K .ret gE
def findLoopJ(key:Nat):Code->(Ex->St->Option R)->Option (Code×(Ex->St->Option R))
 | .seq a b,K=>(findLoopJ key a (aFJ E J L b K)).or (findLoopJ key b K)
 | .cond _ a b,K=>(findLoopJ key a K).or (findLoopJ key b K)
 | .block id c,K=>findLoopJ key c (Pf id K)
 | .loop c,K=>bif cBF (keyOf c) key then some (c,K)else findLoopJ key c (Ut E L c K)
 | .scope c,K=>findLoopJ key c K
 |_,_=>none
def mF(key:Nat):Code->(Ex->St->Option R)->Option (Code×(Ex->St->Option R))
 | .seq a b,K=>bif cBF (keyOf b) key then some (b,K)else(mF key a (aFJ E J L b K)).or (mF key b K)
 | .cond _ a b,K=>(mF key a K).or (mF key b K)
 | .block id c,K=>mF key c (Pf id K)
 | .loop c,K=>mF key c (Ut E L c K)
 | .scope c,K=>mF key c K
 |_,_=>none
end
def loopKeys:Code->List Nat
 | .seq a b=>loopKeys a ++ loopKeys b
 | .cond _ a b=>loopKeys a ++ loopKeys b
 | .block _ c=>loopKeys c
 | .loop c=>keyOf c :: loopKeys c
 | .scope c=>loopKeys c
 |_=>[]
def gU(E:Env):Code->List Nat
 | .seq a b=>(match E.cut (keyOf b)with |some _=>[keyOf b] |none=>[]) ++ (gU E a ++ gU E b)
 | .cond _ a b=>gU E a ++ gU E b
 | .block _ c=>gU E c
 | .loop c=>gU E c
 | .scope c=>gU E c
 |_=>[]
theorem nodup_iff:∀{xs:List Nat},nodup xs=true↔xs.Nodup
 | []=>by simp[nodup]
 |x :: xs=>by
  have ih:=nodup_iff (xs:=xs);simp only[nodup,cBK,cCO,cFS,ih];constructor
  ·rintro ⟨h1,h2⟩;refine⟨fun hm=>?_,h2⟩;have:xs.elem x=true:=List.elem_eq_true_of_mem hm;rw[this]at h1;cases h1
  ·rintro ⟨h1,h2⟩;refine⟨?_,h2⟩;cases hb:xs.elem x with
   |false=>rfl
   |true=>exact(h1 (List.mem_of_elem_eq_true hb)).elim
section
variable {R:Type} (E:Env)
theorem tI(key:Nat):∀(c:Code) (K:Ex->St->Option R),(findLoop E key c K).isSome=true↔key∈loopKeys c:=by
 intro c
 induction c with
 |seq a b Bo Bn =>
  intro K;simp only[findLoop,loopKeys,cCH,cHG,cCQ,Bo,Bn]
 |cond cd a b Bo Bn =>
  intro K;simp only[findLoop,loopKeys,cCH,cHG,cCQ,Bo,Bn]
 |block id c ih=>intro K;simp only[findLoop,loopKeys,ih]
 |scope c ih=>intro K;simp only[findLoop,loopKeys,ih]
 |loop c ih =>
  intro K;simp only[findLoop,loopKeys,cCM];cases hb:cBF (keyOf c) key with
  |true=>simp[(cBT hb)]
  |false =>
   have:key≠keyOf c:=fun h=>by subst h;rw[cFL]at hb;cases hb
   simp only[cond_false,ih,this,false_or]
 |_=>intro K;simp[findLoop,loopKeys]
theorem vV{key:Nat}:∀{c:Code},key∈gU E c->(E.cut key).isSome=true:=by
 intro c
 induction c with
 |seq a b Bo Bn =>
  intro h;simp only[gU,cCH]at h;rcases h with h |h |h
  ·split at h
   ·rename_i keep hk;simp at h;subst h;rw[hk];rfl
   ·cases h
  ·exact Bo h
  ·exact Bn h
 |cond cd a b Bo Bn =>
  intro h;simp only[gU,cCH]at h;exact h.elim Bo Bn
 |block id c ih=>intro h;exact ih h
 |scope c ih=>intro h;exact ih h
 |loop c ih=>intro h;exact ih h
 |_=>intro h;simp[gU]at h
theorem vU{key:Nat}(hk:(E.cut key).isSome=true):∀(c:Code) (K:Ex->St->Option R),(fJ E key c K).isSome=true↔key∈gU E c:=by
 intro c
 induction c with
 |seq a b Bo Bn =>
  intro K;simp only[fJ,gU,cCH];cases hb:cBF (keyOf b) key with
  |true =>
   have:=cBT hb;subst this;cases hc:E.cut (keyOf b)with
   |none=>rw[hc]at hk;cases hk
   |some x=>simp
  |false =>
   have hn:key≠keyOf b:=fun h=>by subst h;rw[cFL]at hb;cases hb
   simp only[cond_false,cHG,cCQ,Bo,Bn];constructor
   ·intro h;exact .inr h
   ·rintro (h |h)
    ·split at h
     ·simp at h;exact(hn h).elim
     ·cases h
    ·exact h
 |cond cd a b Bo Bn =>
  intro K;simp only[fJ,gU,cCH,cHG,cCQ,Bo,Bn]
 |block id c ih=>intro K;simp only[fJ,gU,ih]
 |scope c ih=>intro K;simp only[fJ,gU,ih]
 |loop c ih=>intro K;simp only[fJ,gU,ih]
 |_=>intro K;simp[fJ,gU]
theorem Lk{α:Type}{x y:Option α}(h:x.isSome=true):x.or y=x:=by cases x <;> simp_all
theorem Gb{α:Type}{x y:Option α}(h:¬x.isSome=true):x.or y=y:=by cases x <;> simp_all
structure Sub(c0:Code)(K0:Ex->St->Option R)(c:Code)(K:Ex->St->Option R):Prop where
 lp:∀key,key∈loopKeys c->findLoop E key c0 K0=findLoop E key c K
 ct:∀key,key∈gU E c->fJ E key c0 K0=fJ E key c K
 dl:(loopKeys c).Nodup
 dc:(gU E c).Nodup
variable {E} {c0:Code} {K0:Ex->St->Option R}
theorem Sub.seq1{a b:Code}{K:Ex->St->Option R}(h:Sub E c0 K0 (.seq a b) K):Sub E c0 K0 a (aBT E b K):=by
 have hl:=h.dl;have hc:=h.dc;simp only[loopKeys]at hl;simp only[gU]at hc;refine⟨fun key hk=>?_,fun key hk=>?_,(List.nodup_append.1 hl).1,(List.nodup_append.1 (List.nodup_append.1 hc).2.1).1⟩
 ·rw[h.lp key (by simp only[loopKeys,cCH];exact .inl hk),findLoop];exact Lk ((tI E key a _).2 hk)
 ·rw[h.ct key (by simp only[gU,cCH];exact .inr (.inl hk)),fJ];have hs:=vV E hk;cases hb:cBF (keyOf b) key with
  |true =>
   exfalso;have:=cBT hb;subst this;cases hx:E.cut (keyOf b)with
   |none=>rw[hx]at hs;cases hs
   |some x =>
    rw[hx]at hc;exact(List.nodup_append.1 hc).2.2 (keyOf b) (by simp) (keyOf b) (List.mem_append.2 (.inl hk)) rfl
  |false =>
   simp only[cond_false];exact Lk ((vU E hs a _).2 hk)
theorem Sub.aBU{a b:Code}{K:Ex->St->Option R}(h:Sub E c0 K0 (.seq a b) K):Sub E c0 K0 b K:=by
 have hl:=h.dl;have hc:=h.dc;simp only[loopKeys]at hl;simp only[gU]at hc;refine⟨fun key hk=>?_,fun key hk=>?_,(List.nodup_append.1 hl).2.1,(List.nodup_append.1 (List.nodup_append.1 hc).2.1).2.1⟩
 ·rw[h.lp key (by simp only[loopKeys,cCH];exact .inr hk),findLoop];refine Gb fun hx=>?_
  exact(List.nodup_append.1 hl).2.2 key ((tI E key a _).1 hx) key hk rfl
 ·rw[h.ct key (by simp only[gU,cCH];exact .inr (.inr hk)),fJ];have hs:=vV E hk;cases hb:cBF (keyOf b) key with
  |true =>
   exfalso;have:=cBT hb;subst this;cases hx:E.cut (keyOf b)with
   |none=>rw[hx]at hs;cases hs
   |some x =>
    rw[hx]at hc;exact(List.nodup_append.1 hc).2.2 (keyOf b) (by simp) (keyOf b) (List.mem_append.2 (.inr hk)) rfl
  |false =>
   simp only[cond_false];refine Gb fun hx=>?_
   exact(List.nodup_append.1 (List.nodup_append.1 hc).2.1).2.2 key ((vU E hs a _).1 hx) key hk rfl
theorem Sub.Zx{cd:Operand}{a b:Code}{K:Ex->St->Option R}(h:Sub E c0 K0 (.cond cd a b) K):Sub E c0 K0 a K:=by
 have hl:=h.dl;have hc:=h.dc;simp only[loopKeys]at hl;simp only[gU]at hc;refine⟨fun key hk=>?_,fun key hk=>?_,(List.nodup_append.1 hl).1,(List.nodup_append.1 hc).1⟩
 ·rw[h.lp key (by simp only[loopKeys,cCH];exact .inl hk),findLoop];exact Lk ((tI E key a _).2 hk)
 ·rw[h.ct key (by simp only[gU,cCH];exact .inl hk),fJ];exact Lk ((vU E (vV E hk) a _).2 hk)
theorem Sub.Zw{cd:Operand}{a b:Code}{K:Ex->St->Option R}(h:Sub E c0 K0 (.cond cd a b) K):Sub E c0 K0 b K:=by
 have hl:=h.dl;have hc:=h.dc;simp only[loopKeys]at hl;simp only[gU]at hc;refine⟨fun key hk=>?_,fun key hk=>?_,(List.nodup_append.1 hl).2.1,(List.nodup_append.1 hc).2.1⟩
 ·rw[h.lp key (by simp only[loopKeys,cCH];exact .inr hk),findLoop];refine Gb fun hx=>?_
  exact(List.nodup_append.1 hl).2.2 key ((tI E key a _).1 hx) key hk rfl
 ·rw[h.ct key (by simp only[gU,cCH];exact .inr hk),fJ];refine Gb fun hx=>?_
  exact(List.nodup_append.1 hc).2.2 key ((vU E (vV E hk) a _).1 hx) key hk rfl
theorem Sub.block{id:Nat}{c:Code}{K:Ex->St->Option R}(h:Sub E c0 K0 (.block id c) K):Sub E c0 K0 c (Pf id K) :=
 ⟨fun key hk=>h.lp key hk,fun key hk=>h.ct key hk,h.dl,h.dc⟩
theorem Sub.scope{c:Code}{K:Ex->St->Option R}(h:Sub E c0 K0 (.scope c) K):Sub E c0 K0 c K :=
 ⟨fun key hk=>h.lp key hk,fun key hk=>h.ct key hk,h.dl,h.dc⟩
theorem Sub.loop{c:Code}{K:Ex->St->Option R}(h:Sub E c0 K0 (.loop c) K):Sub E c0 K0 c (Sl E c K):=by
 have hl:=h.dl;simp only[loopKeys,cFS]at hl;refine⟨fun key hk=>?_,fun key hk=>h.ct key hk,hl.2,h.dc⟩;rw[h.lp key (by simp only[loopKeys,cCM];exact .inr hk),findLoop];cases hb:cBF (keyOf c) key with
 |true=>have:=cBT hb;subst this;exact(hl.1 hk).elim
 |false=>rfl
def No(E:Env)(c0:Code)(K0:Ex->St->Option R)(key:Nat)(l:List KV):Option R :=
 match findLoop E key c0 K0 with
 |some (b,K)=>fix (roundOf (evalCode E) E.n0 (E.keep key) b K) l
 |none=>none
def Ri(E:Env)(c0:Code)(K0:Ex->St->Option R)(key:Nat)(l:List KV):Option R :=
 match fJ E key c0 K0,E.cut key with
 |some (b,K),some keep=>Dj key l fun l=>evalCode E b (mk E.n0 keep l) K
 |_,_=>none
theorem Sub.aNZ{c:Code}{K:Ex->St->Option R}(h:Sub E c0 K0 (.loop c) K)(l:List KV):No E c0 K0 (keyOf c) l=fix (roundOf (evalCode E) E.n0 (E.keep (keyOf c)) c K) l:=by
 unfold No;rw[h.lp (keyOf c) (by simp[loopKeys]),findLoop,cFL];rfl
theorem Sub.aQK{a b:Code}{K:Ex->St->Option R}(h:Sub E c0 K0 (.seq a b) K){keep:List Nat}(hk:E.cut (keyOf b)=some keep)(l:List KV):Ri E c0 K0 (keyOf b) l=evalCode E b (AI.mk E.n0 keep l) K:=by
 unfold Ri;rw[h.ct (keyOf b) (by simp[gU,hk]),fJ,cFL,hk];rfl
theorem Gl(hr:∀k,E.roll k=none):∀(c:Code) (K:Ex->St->Option R),Sub E c0 K0 c K->∀st,evalJ E (Ri E c0 K0) (No E c0 K0) c st K=evalCode E c st K:=by
 intro c
 induction c with
 |seq a b Bo Bn =>
  intro K h st;simp only[evalJ];have e:(fun(ex:Ex) (gE:St)=>match ex with
   | .normal=>match E.cut (keyOf b)with
    |some keep=>Ri E c0 K0 (keyOf b) (canon E.n0 keep gE)
    |none=>evalJ E (Ri E c0 K0) (No E c0 K0) b gE K
   | .exit i=>K (.exit i) gE
   | .ret=>K .ret gE)=aBT E b K:=by
   funext ex gE;unfold aBT;cases ex with
   |normal =>
    cases hk:E.cut (keyOf b)with
    |some keep=>simp only[];rw[h.aQK hk];rfl
    |none=>simp only[];exact Bn K h.aBU gE
   |exit i=>rfl
   |ret=>rfl
  rw[e,Bo _ h.seq1 st];rfl
 |cond cd a b Bo Bn =>
  intro K h st;simp only[evalJ,evalCode];have ha:=Bo K h.Zx;have hb:=Bn K h.Zw;simp only[ha,hb];rfl
 |block id c ih =>
  intro K h st;exact ih _ h.block st
 |loop c ih =>
  intro K h st;simp only[evalJ,evalCode,hr];rw[h.aNZ]
 |region id ops draw=>intro K h st;rfl
 |skip=>intro K h st;rfl
 |label l=>intro K h st;rfl
 |exit i=>intro K h st;rfl
 |ret=>intro K h st;rfl
 |rangeFunc f ps x y _ _=>intro K h st;rfl
 |scope c ih=>intro K h st;exact ih _ h.scope st
 |goto l=>intro K h st;rfl
 |refuse bQO=>intro K h st;rfl
theorem Xx(hr:∀k,E.roll k=none){a b:Code}{K:Ex->St->Option R}(h:Sub E c0 K0 (.seq a b) K):aFJ E (Ri E c0 K0) (No E c0 K0) b K=aBT E b K:=by
 funext ex gE;unfold aFJ aBT;cases ex with
 |normal =>
  cases hk:E.cut (keyOf b)with
  |some keep=>simp only[];rw[h.aQK hk];rfl
  |none=>simp only[];exact Gl hr b K h.aBU gE
 |exit i=>rfl
 |ret=>rfl
theorem Ii{c:Code}{K:Ex->St->Option R}(h:Sub E c0 K0 (.loop c) K):Ut E (No E c0 K0) c K=Sl E c K:=by
 funext ex gE;unfold Ut Sl;cases ex with
 |normal=>exact h.aNZ _
 |exit i=>rfl
 |ret=>rfl
theorem Vh(hr:∀k,E.roll k=none)(key:Nat):∀(c:Code) (K:Ex->St->Option R),Sub E c0 K0 c K->findLoopJ E (Ri E c0 K0) (No E c0 K0) key c K=findLoop E key c K:=by
 intro c
 induction c with
 |seq a b Bo Bn =>
  intro K h;rw[findLoopJ,findLoop,Xx hr h,Bo _ h.seq1,Bn _ h.aBU]
 |cond cd a b Bo Bn =>
  intro K h;rw[findLoopJ,findLoop,Bo _ h.Zx,Bn _ h.Zw]
 |block id c ih=>intro K h;rw[findLoopJ,findLoop,ih _ h.block]
 |scope c ih=>intro K h;rw[findLoopJ,findLoop,ih _ h.scope]
 |loop c ih=>intro K h;rw[findLoopJ,findLoop,Ii h,ih _ h.loop]
 |_=>intro K h;rfl
theorem Zj(hr:∀k,E.roll k=none)(key:Nat):∀(c:Code) (K:Ex->St->Option R),Sub E c0 K0 c K->mF E (Ri E c0 K0) (No E c0 K0) key c K=fJ E key c K:=by
 intro c
 induction c with
 |seq a b Bo Bn =>
  intro K h;rw[mF,fJ,Xx hr h,Bo _ h.seq1,Bn _ h.aBU]
 |cond cd a b Bo Bn =>
  intro K h;rw[mF,fJ,Bo _ h.Zx,Bn _ h.Zw]
 |block id c ih=>intro K h;rw[mF,fJ,ih _ h.block]
 |scope c ih=>intro K h;rw[mF,fJ,ih _ h.scope]
 |loop c ih=>intro K h;rw[mF,fJ,Ii h,ih _ h.loop]
 |_=>intro K h;rfl
theorem Sub.bCD:∀(c:Code) (K:Ex->St->Option R),Sub E c0 K0 c K->∀{key:Nat} {b:Code} {K':Ex->St->Option R},findLoop E key c K=some (b,K')->key=keyOf b/\Sub E c0 K0 (.loop b) K':=by
 intro c
 induction c with
 |seq a b Bo Bn =>
  intro K h key b' K' hf;rw[findLoop]at hf;rcases Option.or_eq_some_iff.1 hf with hf |⟨_,hf⟩
  ·exact Bo _ h.seq1 hf
  ·exact Bn _ h.aBU hf
 |cond cd a b Bo Bn =>
  intro K h key b' K' hf;rw[findLoop]at hf;rcases Option.or_eq_some_iff.1 hf with hf |⟨_,hf⟩
  ·exact Bo _ h.Zx hf
  ·exact Bn _ h.Zw hf
 |block id c ih=>intro K h key b' K' hf;exact ih _ h.block hf
 |scope c ih=>intro K h key b' K' hf;exact ih _ h.scope hf
 |loop c ih =>
  intro K h key b' K' hf;rw[findLoop]at hf;cases hb:cBF (keyOf c) key with
  |true =>
   rw[hb]at hf;cases hf;exact⟨(cBT hb).symm,h⟩
  |false=>rw[hb]at hf;exact ih _ h.loop hf
 |_=>intro K h key b' K' hf;simp[findLoop]at hf
theorem Sub.bIO:∀(c:Code) (K:Ex->St->Option R),Sub E c0 K0 c K->∀{key:Nat} {b:Code} {K':Ex->St->Option R},fJ E key c K=some (b,K')->Sub E c0 K0 b K':=by
 intro c
 induction c with
 |seq a b Bo Bn =>
  intro K h key b' K' hf;rw[fJ]at hf;cases hb:cBF (keyOf b) key with
  |true=>rw[hb]at hf;cases hf;exact h.aBU
  |false =>
   rw[hb]at hf;rcases Option.or_eq_some_iff.1 hf with hf |⟨_,hf⟩
   ·exact Bo _ h.seq1 hf
   ·exact Bn _ h.aBU hf
 |cond cd a b Bo Bn =>
  intro K h key b' K' hf;rw[fJ]at hf;rcases Option.or_eq_some_iff.1 hf with hf |⟨_,hf⟩
  ·exact Bo _ h.Zx hf
  ·exact Bn _ h.Zw hf
 |block id c ih=>intro K h key b' K' hf;exact ih _ h.block hf
 |scope c ih=>intro K h key b' K' hf;exact ih _ h.scope hf
 |loop c ih=>intro K h key b' K' hf;exact ih _ h.loop hf
 |_=>intro K h key b' K' hf;simp[fJ]at hf
end
def zF(E:Env)(c:Code):Bool:=nodup (loopKeys c)&&nodup (gU E c)
theorem sub_self{E:Env}{c:Code}{K:Ex->St->Option (List D)}(h:zF E c=true):Sub E c K c K:=by
 unfold zF at h;rw[cBK,nodup_iff,nodup_iff]at h;exact⟨fun _ _=>rfl,fun _ _=>rfl,h.1,h.2⟩
section
variable (E:Env) (fn:Func) (c:Code)
def aMT(J L:Nat->List KV->Option (List D))(ds:List D):Option (List D) :=
 evalJ E J L c ⟨aAH ds,argHp 0 ds,E.n0⟩ (sV E fn)
def aBW(J L:Nat->List KV->Option (List D))(key:Nat)(l:List KV):Option (List D) :=
 match findLoopJ E J L key c (sV E fn)with
 |some (b,K)=>evalJ E J L b (mk E.n0 (E.keep key) l) fun ex gE=>match ex with
  | .normal=>L key (canon E.n0 (E.keep key) gE)
  | .exit i=>K (.exit i) gE
  | .ret=>K .ret gE
 |none=>none
def bBS(J L:Nat->List KV->Option (List D))(key:Nat)(l:List KV):Option (List D) :=
 match mF E J L key c (sV E fn),E.cut key with
 |some (b,K),some keep=>evalJ E J L b (mk E.n0 keep l) K
 |_,_=>none
end
variable {E:Env} {fn:Func} {c:Code}
theorem Ov:cutAt E fn c=Ri E c (sV E fn):=by
 funext key l;unfold cutAt Ri;cases fJ E key c (sV E fn) <;> cases E.cut key <;> rfl
theorem Ij:Ik E fn c=No E c (sV E fn):=by
 funext key l;unfold Ik No;cases findLoop E key c (sV E fn) <;> rfl
theorem aQL(E:Env)(fn:Func)(c:Code):∃f:Nat->List KV->Option (List D),f=cutAt E fn c:=⟨_,rfl⟩
def lP(E:Env)(fn:Func)(c:Code):Nat->List KV->Option (List D):=Classical.choose (aQL E fn c)
theorem aDJ:lP E fn c=cutAt E fn c:=Classical.choose_spec (aQL E fn c)
theorem aOA(E:Env)(fn:Func)(c:Code):∃f:Nat->List KV->Option (List D),f=Ik E fn c:=⟨_,rfl⟩
def pZ(E:Env)(fn:Func)(c:Code):Nat->List KV->Option (List D):=Classical.choose (aOA E fn c)
theorem aCJ:pZ E fn c=Ik E fn c:=Classical.choose_spec (aOA E fn c)
theorem aPP(hr:E.roll=fun _=>none)(h:zF E c=true)(ds:List D):aF E fn c ds=aMT E fn c (lP E fn c) (pZ E fn c) ds:=by
 rw[aDJ,aCJ,Ov,Ij];exact(Gl (c0:=c) (K0:=sV E fn) (fun k=>by rw[hr]) c (sV E fn) (sub_self h) _).symm
theorem aOB(hr:E.roll=fun _=>none)(h:zF E c=true)(key:Nat)(l:List KV):pZ E fn c key l=aBW E fn c (lP E fn c) (pZ E fn c) key l:=by
 rw[aDJ,aCJ,aIN,Ov,Ij];unfold Ud aBW;have hs:=sub_self (K:=sV E fn) h;have e:=Vh (c0:=c) (K0:=sV E fn) (fun k=>by rw[hr]) key c (sV E fn) hs;rw[e];cases hf:findLoop E key c (sV E fn)with
 |none=>rfl
 |some p =>
  obtain⟨b,K⟩:=p;simp only[];obtain⟨rfl,hb⟩:=Sub.bCD c (sV E fn) hs hf;have e2:(fun(ex:Ex) (gE:St)=>match ex with
   | .normal=>No E c (sV E fn) (keyOf b) (canon E.n0 (E.keep (keyOf b)) gE)
   | .exit i=>K (.exit i) gE
   | .ret=>K .ret gE)=Sl E b K:=Ii hb
  rw[e2];exact(Gl (c0:=c) (K0:=sV E fn) (fun k=>by rw[hr]) b _ hb.loop _).symm
theorem aVX(hr:E.roll=fun _=>none)(h:zF E c=true)(key:Nat)(l:List KV):lP E fn c key l=bBS E fn c (lP E fn c) (pZ E fn c) key l:=by
 rw[aDJ,aCJ,aQJ,Ov,Ij];unfold Vs bBS;have hs:=sub_self (K:=sV E fn) h;have e:=Zj (c0:=c) (K0:=sV E fn) (fun k=>by rw[hr]) key c (sV E fn) hs;rw[e];cases hf:fJ E key c (sV E fn)with
 |none=>rfl
 |some p =>
  obtain⟨b,K⟩:=p;cases hc:E.cut key with
  |none=>rfl
  |some keep=>exact(Gl (c0:=c) (K0:=sV E fn) (fun k=>by rw[hr]) b _ (Sub.bIO c _ hs hf) _).symm
def Nk(E:Env)(c:Code):Prop:=(E.roll=fun _=>none)/\zF E c=true
theorem nk{E:Env}{c:Code}(h:zF E c=true:=by kernel_rfl)(hr:E.roll=fun _=>none:=by rfl):Nk E c:=⟨hr,h⟩
section
variable {E:Env} {fn:Func} {c:Code} {key:Nat} {l:List KV} {ds:List D} {r:Option (List D)} (h:Nk E c)
include h
theorem eJ(e:aMT E fn c (lP E fn c) (pZ E fn c) ds=r:=by kernel_rfl):aF E fn c ds=r:=(aPP h.1 h.2 ds).trans e
theorem lJ(e:aBW E fn c (lP E fn c) (pZ E fn c) key l=r:=by kernel_rfl):pZ E fn c key l=r:=(aOB h.1 h.2 key l).trans e
theorem cJ(e:bBS E fn c (lP E fn c) (pZ E fn c) key l=r:=by kernel_rfl):lP E fn c key l=r:=(aVX h.1 h.2 key l).trans e
end
end AI
namespace AI
open Go Go.RowKit
structure mJ(α:Type) where
 put:α->D
 get:D->Option α
 le:∀{d x},get d=some x->El d (put x)
def pI(k:IntKind):mJ (List Int):=⟨fun a=>.s (.ints k a),dI k,bII⟩
def pN(k:IntKind):mJ Int:=⟨fun n=>.s (.sc (.int k n)),dN k,bIG⟩
def dIO(e:TypeId)(k:IntKind):D->Option (List Int×Nat×Nat)
 | .io e' k' ns off n=>if _h:e=e'/\k=k' then some (ns,off,n)else none
 |_=>none
theorem Vr{e:TypeId}{k:IntKind}{d:D}{x:List Int×Nat×Nat}(h:dIO e k d=some x):d=.io e k x.1 x.2.1 x.2.2:=by
 unfold dIO at h;split at h
 ·split at h
  ·rename_i hk;obtain⟨rfl,rfl⟩:=hk;cases h;rfl
  ·cases h
 ·cases h
def Ga(e:TypeId)(k:IntKind):mJ (List Int×Nat×Nat):=⟨fun x=>.io e k x.1 x.2.1 x.2.2,dIO e k,fun h=>by rw[Vr h];exact El.refl _⟩
def pB:mJ Bool:=⟨fun b=>.s (.sc (.bool b)),dB,bIK⟩
def dF(k:FloatKind):D->Option Nat
 | .s (.sc (.float k' b))=>if _h:k=k' then some b else none
 |_=>none
theorem bIJ{k:FloatKind}{d:D}{n:Nat}(h:dF k d=some n):El d (.s (.sc (.float k n))):=by
 unfold dF at h;split at h
 ·split at h
  ·rename_i hk;cases h;subst hk;exact El.refl _
  ·cases h
 ·cases h
def pF(k:FloatKind):mJ Nat:=⟨fun b=>.s (.sc (.float k b)),dF k,bIJ⟩
class aKI{α:Type}(p:mJ α):Prop where
 no:∀{d x},p.get d=some x->Gg d=false/\Gg (p.put x)=false
instance {k:IntKind}:aKI (pI k):=⟨fun {d x} h=>⟨by cases d <;> first |rfl | (simp[pI,dI]at h),rfl⟩⟩
instance {k:IntKind}:aKI (pN k):=⟨fun {d x} h=>⟨by cases d <;> first |rfl | (simp[pN,dN]at h),rfl⟩⟩
instance:aKI pB:=⟨fun {d x} h=>⟨by cases d <;> first |rfl | (simp[pB,dB]at h),rfl⟩⟩
structure SPar(α:Type) where
 n:Nat
 put:α->List S
 get:List S->Option α
 le:∀{d x},get d=some x->d.length=n/\(put x).length=n/\∀(i:Nat) (s s':S),d[i]?=some s->(put x)[i]?=some s'->∀X w v,pM X w s v->pM X w s' v
def bJD{α:Type}(p:mJ α)(put:α->S)(h:∀x,p.put x=.s (put x)):SPar α where
 n:=1
 put x:=[put x]
 get
  | [s]=>p.get (.s s)
  |_=>none
 le:=by
  intro d x hd
  match d,hd with
  | [s],hd =>
   refine⟨rfl,rfl,fun i s1 s2 h1 h2=>?_⟩
   match i with
   |0 =>
    simp at h1 h2;subst h1;subst h2;intro X w v hr;have:=p.le hd X w v hr;rw[h]at this;exact this
   |i+1=>simp at h1
def sI(k:IntKind):SPar (List Int):=bJD (pI k) (fun a=>.ints k a) fun _=>rfl
def sN(k:IntKind):SPar Int:=bJD (pN k) (fun n=>.sc (.int k n)) fun _=>rfl
def sB:SPar Bool:=bJD pB (fun b=>.sc (.bool b)) fun _=>rfl
def SPar.pair{α β:Type}(p:SPar α)(q:SPar β):SPar (α×β) where
 n:=p.n+q.n
 put x:=p.put x.1 ++ q.put x.2
 get d:=match p.get (d.take p.n),q.get (d.drop p.n)with
  |some a,some b=>some (a,b)
  |_,_=>none
 le:=by
  intro d x h;split at h
  ·rename_i a b ha hb;cases h;obtain⟨a1,a2,a3⟩:=p.le ha;obtain⟨b1,b2,b3⟩:=q.le hb;simp only[cDU,cFE]at a1 b1;have bQA:(p.put (a,b).fst).length=p.n:=a2;refine⟨by omega,by simp[a2,b2],fun i s s' h1 h2=>?_⟩
   by_cases hi:i<p.n
   ·rw[List.getElem?_append_left (by rw[bQA];exact hi)]at h2;exact a3 i s s' (by rw[cBJ hi];exact h1) h2
   ·rw[List.getElem?_append_right (by rw[bQA];omega),bQA]at h2;exact b3 (i-p.n) s s' (by rw[cBR,show p.n+(i-p.n)=i from by omega];exact h1) h2
  ·cases h
def pG{α:Type}(p:SPar α):mJ α where
 put x:=.agg (p.put x)
 get
  | .agg cs=>p.get cs
  |_=>none
 le:=by
  intro d x h
  match d,h with
  | .agg cs,h =>
   obtain⟨h1,h2,h3⟩:=p.le h;rintro Y w v ⟨arr,rfl,hl,hr⟩;refine⟨arr,rfl,by omega,fun i s u hs hu=>?_⟩;obtain⟨s0,Nz⟩:=bG (l:=cs) (i:=i) (by have:=aX hs;omega);exact h3 i s0 s Nz hs Y w u (hr i s0 u Nz hu)
def Ap(d d':D):Prop:=(d'=d)\/(lH d'=false/\((∃e k ns,d=.own e k ns/\d'=.s (.ints k ns))\/(lH d=false/\El d d')))
theorem Ap.refl(d:D):Ap d d:=.inl rfl
theorem Ap.own(e:TypeId)(k:IntKind)(ns:List Int):Ap (.own e k ns) (.s (.ints k ns)):=.inr ⟨rfl,.inl ⟨e,k,ns,rfl,rfl⟩⟩
theorem Ap.nil(k:IntKind):Ap (.s (.sc (.slice none 0 0))) (.s (.ints k [])) :=
 .inr ⟨rfl,.inr ⟨rfl,fun Y w v h=>by obtain⟨rfl,_⟩:=h;exact⟨none,0,rfl,cBE _,fun i n hn=>by simp at hn⟩⟩⟩
def Fe(s s':S):Prop:=∀X w v,pM X w s v->pM X w s' v
theorem Fe.refl(s:S):Fe s s:=fun _ _ _ h=>h
theorem Fe.nil(k:IntKind):Fe (.sc (.slice none 0 0)) (.ints k []):=fun X w v h=>by
 obtain⟨rfl,_⟩:=h;exact⟨none,0,rfl,cBE _,fun i n hn=>by simp at hn⟩
inductive zZ:List S->List S->Prop where
 |nil:zZ [] []
 |cons {s s':S} {l l':List S}:Fe s s'->zZ l l'->zZ (s :: l) (s' :: l')
theorem zZ.refl:∀l,zZ l l
 | []=>.nil
 |s :: l=>.cons (Fe.refl s) (zZ.refl l)
theorem zZ.len{l l':List S}(h:zZ l l'):l.length=l'.length:=by induction h with |nil=>rfl |cons _ _ ih=>simp[ih]
theorem zZ.at{l l':List S}(h:zZ l l'):∀{i:Nat} {s s':S},l[i]?=some s->l'[i]?=some s'->Fe s s':=by
 induction h with
 |nil=>intro i s s' h;simp at h
 |cons hs _ ih =>
  intro i s s' h1 h2;cases i with
  |zero=>simp at h1 h2;subst h1;subst h2;exact hs
  |succ i=>simp at h1 h2;exact ih h1 h2
theorem Ap.agg{l l':List S}(h:zZ l l'):Ap (.agg l) (.agg l') :=
 .inr ⟨rfl,.inr ⟨rfl,fun Y w v hv=>by
  obtain⟨arr,rfl,hl,hr⟩:=hv;refine⟨arr,rfl,by rw[<-h.len];exact hl,fun i s u hs hu=>?_⟩;obtain⟨s0,Nz⟩:=bG (l:=l) (i:=i) (by have:=aX hs;rw[h.len];exact this);exact h.at Nz hs Y w u (hr i s0 u Nz hu)⟩⟩
inductive iZ:List D->List D->Prop where
 |nil:iZ [] []
 |cons {s s':D} {l l':List D}:Ap s s'->iZ l l'->iZ (s :: l) (s' :: l')
theorem iZ.refl:∀l,iZ l l
 | []=>.nil
 |s :: l=>.cons (Ap.refl s) (iZ.refl l)
theorem iZ.len{l l':List D}(h:iZ l l'):l.length=l'.length:=by induction h with |nil=>rfl |cons _ _ ih=>simp[ih]
theorem iZ.at{l l':List D}(h:iZ l l'):∀{i:Nat} {s s':D},l[i]?=some s->l'[i]?=some s'->Ap s s':=by
 induction h with
 |nil=>intro i s s' h;simp at h
 |cons hs _ ih =>
  intro i s s' h1 h2;cases i with
  |zero=>simp at h1 h2;subst h1;subst h2;exact hs
  |succ i=>simp at h1 h2;exact ih h1 h2
theorem Contract.less{P:Program}{G:Nat->Option (IntKind×List Int)}{f:FuncId}{ds rs aTJ:List D}(h:Contract P G f ds rs)(hr:iZ rs aTJ):Contract P G f ds aTJ:=by
 intro Y w vs hY hG hlen hargs;refine(h Y w vs hY hG hlen hargs).mono ?_;rintro e w' ⟨vI,he,hb,g,hl,Bq,Ux⟩;have uK:∀{i:Nat} {d d':D},rs[i]?=some d->aTJ[i]?=some d'->lH d'=true->d'=d:=by
  intro i d d' h1 h2 ho;rcases hr.at h1 h2 with h3 |⟨h3,_⟩
  ·exact h3
  ·rw[h3]at ho;cases ho
 have wO:∀{i:Nat} {d':D},aTJ[i]?=some d'->∃d,rs[i]?=some d:=fun {i d'} h=>bG (l:=rs) (i:=i) (by have:=aX h;rw[hr.len];exact this)
 have aIU:∀b,(Y b\/∃(j:Nat) (d':D),aTJ[j]?=some d'/\lH d'=true/\g j=b)->(Y b\/∃(j:Nat) (d':D),rs[j]?=some d'/\lH d'=true/\g j=b):=by
  rintro b (hb |⟨j,d',h1,h2,h3⟩)
  ·exact .inl hb
  ·obtain⟨d,hd⟩:=wO h1;have:=uK hd h1 h2;subst this;exact .inr ⟨j,d',hd,h2,h3⟩
 refine⟨vI,he,hb,g,by rw[<-hr.len];exact hl,?_,?_⟩
 ·intro i j d d' h1 h2 h3 h4 h5;obtain⟨e1,aGQ⟩:=wO h1;obtain⟨e2,aUW⟩:=wO h2;have q1:=uK aGQ h1 h3;have q2:=uK aUW h2 h4;subst q1;subst q2;exact Bq i j _ _ aGQ aUW h3 h4 h5
 ·intro i d' v h1 hv;obtain⟨d,hd⟩:=wO h1;have bKB:=Ux i d v hd hv;have bAK:∀(X:Nat->Prop),(∀b,X b->(Y b\/∃(j:Nat) (d':D),rs[j]?=some d'/\lH d'=true/\g j=b))->iT (fun b=>Y b\/∃(j:Nat) (d':D),rs[j]?=some d'/\lH d'=true/\g j=b) w' X w' :=
   fun X hX=>⟨cBE _,fun b _ hn=>⟨rfl,fun hx=>hn (hX b hx)⟩⟩
  have bRW:∀{x:D},lH x=false->mY (fun b=>Y b\/∃(j:Nat) (d':D),rs[j]?=some d'/\lH d'=true/\g j=b) w' x v->mY (fun b=>Y b\/∃(j:Nat) (d':D),aTJ[j]?=some d'/\lH d'=true/\g j=b) w' x v :=
   fun _ hx=>hx.later (bAK _ aIU)
  have bGK:∀{x:D},lH x=false->(match x with
   | .own e k ns=>Tp w.heap.size w' (g i) e k ns v
   |d=>mY (fun b=>Y b\/∃(j:Nat) (d':D),rs[j]?=some d'/\lH d'=true/\g j=b) w' d v)->mY (fun b=>Y b\/∃(j:Nat) (d':D),rs[j]?=some d'/\lH d'=true/\g j=b) w' x v:=by
   intro x hx hm;cases x with
   |own e k ns=>cases hx
   |s x=>exact hm
   |rows a b c=>exact hm
   |agg cs=>exact hm
   |io=>exact hm
   |back=>exact hm
  have aGT:∀{x:D},lH x=false->mY (fun b=>Y b\/∃(j:Nat) (d':D),aTJ[j]?=some d'/\lH d'=true/\g j=b) w' x v->(match x with
   | .own e k ns=>Tp w.heap.size w' (g i) e k ns v
   |d=>mY (fun b=>Y b\/∃(j:Nat) (d':D),aTJ[j]?=some d'/\lH d'=true/\g j=b) w' d v):=by
   intro x hx hm;cases x with
   |own e k ns=>cases hx
   |s x=>exact hm
   |rows a b c=>exact hm
   |agg cs=>exact hm
   |io=>exact hm
   |back=>exact hm
  rcases hr.at hd h1 with rfl |⟨h3,⟨e0,k,ns,rfl,rfl⟩ |⟨h4,h5⟩⟩
  ·cases aXQ:lH d' with
   |true =>
    cases d' with
    |own e k ns=>exact bKB
    |s x=>cases aXQ
    |io=>cases aXQ
    |back=>cases aXQ
    |rows a b c=>cases aXQ
    |agg cs=>cases aXQ
   |false=>exact aGT aXQ (bRW aXQ (bGK aXQ bKB))
  ·obtain⟨arr,cap,aCN,hbg,hh,aCQ,hn1b,aUR,Vb⟩:=bKB;refine⟨_,_,aCN,aCQ,fun j n hj=>⟨g i,0,rfl,?_,?_,?_⟩⟩
   ·exact(Array.getElem?_eq_some_iff.1 hh).1
   ·rintro (hy |⟨j',d',q1,q2,q3⟩)
    ·have:=hY _ hy;omega
    ·obtain⟨d2,bDV⟩:=wO q1;have:=uK bDV q1 q2;subst this;have:=Bq j' i _ _ bDV hd q2 rfl q3;subst this;rw[h1]at q1;cases q1;cases q2
   ·rw[cell_of_row w' (g i) _ arr e0 (0,0) hh];simpa using Vb j n hj
  ·exact aGT h3 (h5 _ _ _ (bRW h4 (bGK h4 bKB)))
def orc0(r:Prop×List D):dJ
 | []=>some r
 |_=>none
def orc1{α:Type}(p:mJ α)(f:α->Prop×List D):dJ
 | [a]=>match p.get a with
  |some x=>some (f x)
  |none=>none
 |_=>none
def orc2{α β:Type}(p:mJ α)(q:mJ β)(f:α->β->Prop×List D):dJ
 | [a,b]=>match p.get a,q.get b with
  |some x,some y=>some (f x y)
  |_,_=>none
 |_=>none
def orc3{α β γ:Type}(p:mJ α)(q:mJ β)(r:mJ γ)(f:α->β->γ->Prop×List D):dJ
 | [a,b,c]=>match p.get a,q.get b,r.get c with
  |some x,some y,some z=>some (f x y z)
  |_,_,_=>none
 |_=>none
def orc4{α β γ δ:Type}(p:mJ α)(q:mJ β)(r:mJ γ)(s:mJ δ)(f:α->β->γ->δ->Prop×List D):dJ
 | [a,b,c,d]=>match p.get a,q.get b,r.get c,s.get d with
  |some x,some y,some z,some u=>some (f x y z u)
  |_,_,_,_=>none
 |_=>none
structure uR(P:Program)(E:Env)(f:FuncId)(fn:Func)(c:Code):Prop where
 ty:pK P E.T
 calls:kX P E
 mix:P.follows .mixedOrders=true
 fnc:P.funcs[f]?=some fn
 body:fn.body=some c
 nt:E.nt=fn.ntmps
 has:rB P f
 io:E.io=[]
theorem aJJ{P:Program}{E:Env}{f:FuncId}{fn:Func}{c:Code}(ty:pK P E.T)(mix:P.follows .mixedOrders=true)(calls:kX P E)(hf:P.funcs[f]?=some fn)(hb:fn.body=some c)(nt:E.nt=fn.ntmps)(hn:(fn.name== "runtime.NumGoroutine")=false)(io:E.io=[]:=by rfl):uR P E f fn c :=
 ⟨ty,calls,mix,hf,hb,nt,sR hf hb hn,io⟩
structure nM(P:Program)(E:Env)(f:FuncId)(fn:Func)(c:Code):Prop where
 ty:pK P E.T
 calls:kX P E
 mix:P.follows .mixedOrders=true
 fnc:P.funcs[f]?=some fn
 body:fn.body=some c
 nt:E.nt=fn.ntmps
 has:rB P f
 io:E.io=[0]
 n0:E.n0=1
theorem xR{P:Program}{E:Env}{f:FuncId}{fn:Func}{c:Code}(ty:pK P E.T)(mix:P.follows .mixedOrders=true)(calls:kX P E)(hf:P.funcs[f]?=some fn)(hb:fn.body=some c)(nt:E.nt=fn.ntmps)(hn:(fn.name== "runtime.NumGoroutine")=false)(io:E.io=[0])(n0:E.n0=1):nM P E f fn c :=
 ⟨ty,calls,mix,hf,hb,nt,sR hf hb hn,io,n0⟩
variable {P:Program} {E:Env} {f:FuncId} {fn:Func} {c:Code}
theorem uR.bLM(h:uR P E f fn c){r:Prop×List D}(hs:r.1->aF E fn c []=some r.2):mN P E.glob f (orc0 r):=by
 intro ds g rs hd hg;unfold orc0 at hd;split at hd
 ·cases hd;exact⟨fn_contract h.ty h.calls h.mix h.fnc h.body h.nt h.io (cHH _) (hs hg),h.has⟩
 ·cases hd
theorem uR.oS{α:Type}(h:uR P E f fn c){p:mJ α}{g:α->Prop×List D}(hn:cBH 1 fn.ntmps=true)(hs:∀x,(g x).1->aF E fn c [p.put x]=some (g x).2):mN P E.glob f (orc1 p g):=by
 intro ds q rs hd hg;unfold orc1 at hd;split at hd
 ·split at hd
  ·rename_i x hx;have hd:=Option.some.inj hd;have e1:q=(g x).1:=by rw[hd]
   have e2:rs=(g x).2:=by rw[hd]
   subst e1;subst e2;exact⟨(fn_contract (ds:=[p.put x]) h.ty h.calls h.mix h.fnc h.body h.nt h.io (cDC hn) (hs x hg)).bLO (p.le hx),h.has⟩
  ·cases hd
 ·cases hd
theorem uR.lF{α β:Type}(h:uR P E f fn c){p:mJ α}{p':mJ β}{g:α->β->Prop×List D}(hn:cBH 2 fn.ntmps=true)(hs:∀x y,(g x y).1->aF E fn c [p.put x,p'.put y]=some (g x y).2):mN P E.glob f (orc2 p p' g):=by
 intro ds q rs hd hg;unfold orc2 at hd;split at hd
 ·split at hd
  ·rename_i x y hx hy;have hd:=Option.some.inj hd;have e1:q=(g x y).1:=by rw[hd]
   have e2:rs=(g x y).2:=by rw[hd]
   subst e1;subst e2;exact⟨(fn_contract (ds:=[p.put x,p'.put y]) h.ty h.calls h.mix h.fnc h.body h.nt h.io (cDC hn) (hs x y hg)).bLN (p.le hx) (p'.le hy),h.has⟩
  ·cases hd
 ·cases hd
theorem uR.xX{α β γ:Type}(h:uR P E f fn c){p:mJ α}{p':mJ β}{Ui:mJ γ}{g:α->β->γ->Prop×List D}(hn:cBH 3 fn.ntmps=true)(hs:∀x y z,(g x y z).1->aF E fn c [p.put x,p'.put y,Ui.put z]=some (g x y z).2):mN P E.glob f (orc3 p p' Ui g):=by
 intro ds q rs hd hg;unfold orc3 at hd;split at hd
 ·split at hd
  ·rename_i x y z hx hy hz;have hd:=Option.some.inj hd;have e1:q=(g x y z).1:=by rw[hd]
   have e2:rs=(g x y z).2:=by rw[hd]
   subst e1;subst e2;exact⟨(fn_contract (ds:=[p.put x,p'.put y,Ui.put z]) h.ty h.calls h.mix h.fnc h.body h.nt h.io (cDC hn) (hs x y z hg)).bQU (p.le hx) (p'.le hy) (Ui.le hz),h.has⟩
  ·cases hd
 ·cases hd
theorem uR.aSJ{α β γ δ:Type}(h:uR P E f fn c){p:mJ α}{p':mJ β}{Ui:mJ γ}{p3:mJ δ}{g:α->β->γ->δ->Prop×List D}(hn:cBH 4 fn.ntmps=true)(hs:∀x y z u,(g x y z u).1->aF E fn c [p.put x,p'.put y,Ui.put z,p3.put u]=some (g x y z u).2):mN P E.glob f (orc4 p p' Ui p3 g):=by
 intro ds q rs hd hg;unfold orc4 at hd;split at hd
 ·split at hd
  ·rename_i x y z u hx hy hz hu;have hd:=Option.some.inj hd;have e1:q=(g x y z u).1:=by rw[hd]
   have e2:rs=(g x y z u).2:=by rw[hd]
   subst e1;subst e2;exact⟨(fn_contract (ds:=[p.put x,p'.put y,Ui.put z,p3.put u]) h.ty h.calls h.mix h.fnc h.body h.nt h.io (cDC hn) (hs x y z u hg)).bQT (p.le hx) (p'.le hy) (Ui.le hz) (p3.le hu),h.has⟩
  ·cases hd
 ·cases hd
theorem nM.bLJ(h:nM P E f fn c){e:TypeId}{k:IntKind}{x:List Int×Nat×Nat}{ds ds' rs:List D}{oH:List Int}(hn:1+ds'.length<=fn.ntmps)
  (hs:aF E fn c ((Ga e k).put x :: ds')=some (rs ++ [.io e k oH 0 0])) (hl:oH.length=x.1.length) (bDU:ds.length=ds'.length)
  (hd:∀(i:Nat) (y y':D),ds[i]?=some y->ds'[i]?=some y'->Gg y=false/\Gg y'=false/\El y y'):qD P E.glob f [0] ((Ga e k).put x :: ds) rs [.io e k oH 0 0]:=by
 have Al:∀(i:Nat) (d:D),ds'[i]?=some d->Gg d=false:=fun i d hi=>by
  obtain⟨y,hy⟩:=bG (l:=ds) (i:=i) (by have:=aX hi;omega);exact(hd i y d hy hi).2.1
 have:=Qz h.ty h.calls h.mix h.fnc h.body h.nt (fun i hi=>by rw[h.io]at hi;rw[h.n0];simp at hi;omega) (ds:=(Ga e k).put x :: ds') (by simp;omega) hs (by rw[h.io];rfl)
  (by
   rw[h.io];intro j i hj
   match j with
   |0 =>
    simp at hj;subst hj;exact⟨e,k,x.1,x.2.1,x.2.2,e,k,oH,rfl,rfl,hl⟩
   |j+1=>simp at hj)
  (by
   rw[h.io];intro i d hi Oc
   match i with
   |0=>simp
   |i+1=>rw[Al i d (by simpa using hi)]at Oc;cases Oc)
 rw[h.io]at this;exact this.bVC bDU hd
theorem nM.oS(h:nM P E f fn c){e:TypeId}{k:IntKind}{g:List Int×Nat×Nat->Prop×List D}(hn:cBH 1 fn.ntmps=true)(hs:∀x,(g x).1->aF E fn c [(Ga e k).put x]=some (g x).2/\∃rs oH,(g x).2=rs ++ [.io e k oH 0 0]/\oH.length=x.1.length):rW P E.glob f (orc1 (Ga e k) g):=by
 intro ds q rs hd hg;unfold orc1 at hd;split at hd
 ·rename_i d1;split at hd
  ·rename_i x hx;have hd:=Option.some.inj hd;have e1:q=(g x).1:=by rw[hd]
   have e2:rs=(g x).2:=by rw[hd]
   subst e1;subst e2;obtain⟨h1,Hx,oH,h2,h3⟩:=hs x hg;rw[h2]at h1 ⊢;refine⟨⟨Hx,_,rfl,?_⟩,h.has⟩;have e3:=Vr (show dIO e k d1=some x from hx);rw[e3];exact h.bLJ (x:=x) (ds':=[]) (by have:=cDC hn;simp;omega) h1 h3 rfl fun i a b ha hb=>by simp at ha
  ·cases hd
 ·cases hd
theorem nM.lF{α:Type}(h:nM P E f fn c){e:TypeId}{k:IntKind}{p:mJ α}[hp:aKI p]{g:List Int×Nat×Nat->α->Prop×List D}(hn:cBH 2 fn.ntmps=true)(hs:∀x y,(g x y).1->aF E fn c [(Ga e k).put x,p.put y]=some (g x y).2/\∃rs oH,(g x y).2=rs ++ [.io e k oH 0 0]/\oH.length=x.1.length):rW P E.glob f (orc2 (Ga e k) p g):=by
 intro ds q rs hd hg;unfold orc2 at hd;split at hd
 ·rename_i d1 d2;split at hd
  ·rename_i x y hx hy;have hd:=Option.some.inj hd;have e1:q=(g x y).1:=by rw[hd]
   have e2:rs=(g x y).2:=by rw[hd]
   subst e1;subst e2;obtain⟨h1,Hx,oH,h2,h3⟩:=hs x y hg;rw[h2]at h1 ⊢;refine⟨⟨Hx,_,rfl,?_⟩,h.has⟩;have e3:=Vr (show dIO e k d1=some x from hx);rw[e3];refine h.bLJ (x:=x) (ds':=[p.put y]) (by have:=cDC hn;simp;omega) h1 h3 rfl fun i a b ha hb=>?_
   match i with
   |0=>simp at ha hb;subst ha;subst hb;exact⟨(hp.no hy).1,(hp.no hy).2,p.le hy⟩
   |i+1=>simp at ha
  ·cases hd
 ·cases hd
theorem nM.xX{α β:Type}(h:nM P E f fn c){e:TypeId}{k:IntKind}{p:mJ α}[hp:aKI p]{p':mJ β}[hp':aKI p']{g:List Int×Nat×Nat->α->β->Prop×List D}(hn:cBH 3 fn.ntmps=true)(hs:∀x y z,(g x y z).1->aF E fn c [(Ga e k).put x,p.put y,p'.put z]=some (g x y z).2/\∃rs oH,(g x y z).2=rs ++ [.io e k oH 0 0]/\oH.length=x.1.length):rW P E.glob f (orc3 (Ga e k) p p' g):=by
 intro ds q rs hd hg;unfold orc3 at hd;split at hd
 ·rename_i d1 d2 d3;split at hd
  ·rename_i x y z hx hy hz;have hd:=Option.some.inj hd;have e1:q=(g x y z).1:=by rw[hd]
   have e2:rs=(g x y z).2:=by rw[hd]
   subst e1;subst e2;obtain⟨h1,Hx,oH,h2,h3⟩:=hs x y z hg;rw[h2]at h1 ⊢;refine⟨⟨Hx,_,rfl,?_⟩,h.has⟩;have e3:=Vr (show dIO e k d1=some x from hx);rw[e3];refine h.bLJ (x:=x) (ds':=[p.put y,p'.put z]) (by have:=cDC hn;simp;omega) h1 h3 rfl fun i a b ha hb=>?_
   match i with
   |0=>simp at ha hb;subst ha;subst hb;exact⟨(hp.no hy).1,(hp.no hy).2,p.le hy⟩
   |1=>simp at ha hb;subst ha;subst hb;exact⟨(hp'.no hz).1,(hp'.no hz).2,p'.le hz⟩
   |i+2=>simp at ha
  ·cases hd
 ·cases hd
theorem uR.bEK{α:Type}(h:uR P E f fn c){p:mJ α}{g:α->Prop×List D}(hn:cBH 1 fn.ntmps=true)(hs:∀x,(g x).1->∃rs,aF E fn c [p.put x]=some rs/\iZ rs (g x).2):mN P E.glob f (orc1 p g):=by
 intro ds q rs hd hg;unfold orc1 at hd;split at hd
 ·split at hd
  ·rename_i x hx;have hd:=Option.some.inj hd;have e1:q=(g x).1:=by rw[hd]
   have e2:rs=(g x).2:=by rw[hd]
   subst e1;subst e2;obtain⟨Uc,he,hle⟩:=hs x hg;exact⟨((fn_contract (ds:=[p.put x]) h.ty h.calls h.mix h.fnc h.body h.nt h.io (cDC hn) he).bLO (p.le hx)).less hle,h.has⟩
  ·cases hd
 ·cases hd
theorem uR.aSD{α β:Type}(h:uR P E f fn c){p:mJ α}{p':mJ β}{g:α->β->Prop×List D}(hn:cBH 2 fn.ntmps=true)(hs:∀x y,(g x y).1->∃rs,aF E fn c [p.put x,p'.put y]=some rs/\iZ rs (g x y).2):mN P E.glob f (orc2 p p' g):=by
 intro ds q rs hd hg;unfold orc2 at hd;split at hd
 ·split at hd
  ·rename_i x y hx hy;have hd:=Option.some.inj hd;have e1:q=(g x y).1:=by rw[hd]
   have e2:rs=(g x y).2:=by rw[hd]
   subst e1;subst e2;obtain⟨Uc,he,hle⟩:=hs x y hg;exact⟨((fn_contract (ds:=[p.put x,p'.put y]) h.ty h.calls h.mix h.fnc h.body h.nt h.io (cDC hn) he).bLN (p.le hx) (p'.le hy)).less hle,h.has⟩
  ·cases hd
 ·cases hd
theorem uR.bKX{α β γ:Type}(h:uR P E f fn c){p:mJ α}{p':mJ β}{Ui:mJ γ}{g:α->β->γ->Prop×List D}(hn:cBH 3 fn.ntmps=true)(hs:∀x y z,(g x y z).1->∃rs,aF E fn c [p.put x,p'.put y,Ui.put z]=some rs/\iZ rs (g x y z).2):mN P E.glob f (orc3 p p' Ui g):=by
 intro ds q rs hd hg;unfold orc3 at hd;split at hd
 ·split at hd
  ·rename_i x y z hx hy hz;have hd:=Option.some.inj hd;have e1:q=(g x y z).1:=by rw[hd]
   have e2:rs=(g x y z).2:=by rw[hd]
   subst e1;subst e2;obtain⟨Uc,he,hle⟩:=hs x y z hg;exact⟨((fn_contract (ds:=[p.put x,p'.put y,Ui.put z]) h.ty h.calls h.mix h.fnc h.body h.nt h.io (cDC hn) he).bQU (p.le hx) (p'.le hy) (Ui.le hz)).less hle,h.has⟩
  ·cases hd
 ·cases hd
def aGY(f:FuncId)(g:List Value->Option (Prop×List Value))(r:FuncId->List Value->Option (Prop×List Value)):FuncId->List Value->Option (Prop×List Value):=fun f' vs=>bif cBF f' f then g vs else r f' vs
def aGX:FuncId->List Value->Option (Prop×List Value):=fun _ _=>none
theorem aDE:aHT P aGX:=fun _ _ _ _ h=>by cases h
structure aYI(P:Program)(f:FuncId)(e:Array Value->Sem Value):Prop where
 run:∀(args:Array Value) (w:World),(callFunc f args).run P w=((e args).run P w).andThen fun v w'=>.ok (.value v) w'
theorem Zl{f:FuncId}{g:List Value->Option (Prop×List Value)}{r:FuncId->List Value->Option (Prop×List Value)}{e:Array Value->Sem Value}(hf:aYI P f e)
  (hg:∀vs q rs,g vs=some (q,rs)->q->(∀v∈rs,v.oneCell'=true)/\∀w,(e vs.toArray).run P w=.ok (resV rs) w) (hr:aHT P r):aHT P (aGY f g r):=by
 intro f' vs q rs h hq;unfold aGY at h;cases hb:cBF f' f with
 |true =>
  rw[hb]at h;have:=cBT hb;subst this;obtain⟨h1,h2⟩:=hg vs q rs h hq;exact⟨h1,fun w=>by rw[hf.run,h2];rfl⟩
 |false=>rw[hb]at h;exact hr f' vs q rs h hq
def gAdd:List Value->Option (Prop×List Value)
 | [.int .u64 x,.int .u64 y,.int .u64 c]=>some ((0<=x/\0<=y/\0<=c/\c<=1),[.int .u64 ((x+y+c)%18446744073709551616),.int .u64 ((x+y+c)/18446744073709551616)])
 |_=>none
theorem aVI(vs:List Value)(q:Prop)(rs:List Value)(h:gAdd vs=some (q,rs))(hq:q):(∀v∈rs,v.oneCell'=true)/\∀w,(add64Entry vs.toArray).run P w=.ok (resV rs) w:=by
 unfold gAdd at h;split at h
 ·cases h;obtain⟨h1,h2,h3,h4⟩:=hq;exact⟨by simp[Value.oneCell'],fun w=>run_add64 _ _ _ h1 h2 h3 h4 w⟩
 ·cases h
def yV:Array Value->Sem Value:=fun args=>do
 let (x,y,b) <-Extern.MathBitsCarry.three "Sub64" args
 pure (Extern.MathBitsCarry.pair ((x+Extern.MathBitsCarry.m64-y-b)%Extern.MathBitsCarry.m64) (if x<y+b then 1 else 0))
theorem aIC(x y c:Int)(hx:0<=x)(hy:0<=y)(bMG:y<18446744073709551616)(bHL:0<=c)(hc:c<=1)(w:World) :
  (yV #[.int .u64 x,.int .u64 y,.int .u64 c]).run P w =
   .ok (.tuple #[.int .u64 ((x-y-c)%18446744073709551616),.int .u64 (if x<y+c then 1 else 0)]) w:=by
 have key:∀k:Nat,k<=1->(yV #[.int .u64 x,.int .u64 y,.int .u64 (k:Int)]).run P w =
   .ok (Extern.MathBitsCarry.pair ((x.toNat+Extern.MathBitsCarry.m64-y.toNat-k)%Extern.MathBitsCarry.m64) (if x.toNat<y.toNat+k then 1 else 0)) w:=by
  intro k hk;have:k=0\/k=1:=by omega
  rcases this with rfl |rfl <;> rfl
 obtain⟨k,rfl⟩:=cGG bHL;rw[key k (by omega)];obtain⟨X,rfl⟩:=cGG hx;obtain⟨Y,rfl⟩:=cGG hy;simp only[Extern.MathBitsCarry.pair,Extern.MathBitsCarry.m64,cFB];have e1:Int.ofNat ((X+2^64-Y-k)%2^64)=((X:Int)-Y-k)%18446744073709551616:=by
  show((((X+2^64-Y-k)%2^64:Nat)):Int)=_;omega
 have e2:Int.ofNat (if X<Y+k then 1 else 0)=if(X:Int)<Y+k then 1 else 0:=by
  show(((if X<Y+k then 1 else 0:Nat)):Int)=_;split <;> split <;> omega
 rw[e1,e2]
def bBI:List Value->Option (Prop×List Value)
 | [.int .u64 x,.int .u64 y,.int .u64 c]=>some ((0<=x/\0<=y/\y<18446744073709551616/\0<=c/\c<=1),[.int .u64 ((x-y-c)%18446744073709551616),.int .u64 (if x<y+c then 1 else 0)])
 |_=>none
theorem aVH(vs:List Value)(q:Prop)(rs:List Value)(h:bBI vs=some (q,rs))(hq:q):(∀v∈rs,v.oneCell'=true)/\∀w,(yV vs.toArray).run P w=.ok (resV rs) w:=by
 unfold bBI at h;split at h
 ·cases h;obtain⟨h1,h2,h3,h4,h5⟩:=hq;exact⟨by simp[Value.oneCell'],fun w=>aIC _ _ _ h1 h2 h3 h4 h5 w⟩
 ·cases h
theorem Zm{f:FuncId}{fn:Func}{e:Array Value->Sem Value}(hf:P.funcs[f]?=some fn)(bGN:(fn.name== "runtime.NumGoroutine")=false)
  (hb:fn.body.isNone=true) (hn:Extern.findNext fn=none) (he:Extern.find fn=some e):aYI P f e:=⟨fun args w=>run_callFunc_extern hf bGN hb hn he args w⟩
end AI
namespace M
open Go
def val:List Int->Nat
 | []=>0
 |d :: r=>d.toNat+4294967296*val r
def dg(n:Nat):List Int:=if h:n=0 then []else((n%4294967296:Nat):Int) :: dg (n/4294967296)
termination_by n
decreasing_by omega
def bZ(a:List Int):Prop:=∀d∈a,0<=d/\d<4294967296
def cG(a:List Int):Prop:=a=dg (val a)
theorem cB:dg 0=[]:=by rw[dg];rfl
theorem oL{n:Nat}(h:n≠0):dg n=((n%4294967296:Nat):Int) :: dg (n/4294967296):=by rw[dg,dif_neg h]
theorem bD(n:Nat):val (dg n)=n:=by
 induction n using cGP with
 |_ n ih =>
  by_cases h:n=0
  ·subst h;rw[cB];rfl
  ·rw[oL h,val,ih _ (by omega)];have:=cGK n 4294967296;omega
theorem mQ:bZ []:=fun _ h=>by cases h
theorem mH{d:Int}{r:List Int}:bZ (d :: r)↔(0<=d/\d<4294967296)/\bZ r:=by
 unfold bZ;simp
theorem qC{a b:List Int}:bZ (a ++ b)↔bZ a/\bZ b:=by
 unfold bZ;simp only[cCH];exact⟨fun h=>⟨fun d hd=>h d (.inl hd),fun d hd=>h d (.inr hd)⟩,fun h d hd=>hd.elim (h.1 d) (h.2 d)⟩
theorem bZ.take{a:List Int}(h:bZ a)(n:Nat):bZ (a.take n):=fun d hd=>h d (cII hd)
theorem bZ.drop{a:List Int}(h:bZ a)(n:Nat):bZ (a.drop n):=fun d hd=>h d (cIJ hd)
theorem jH(n:Nat):bZ (cDH n 0):=fun d hd=>by rw[(List.mem_replicate.1 hd).2];omega
theorem gH(n:Nat):bZ (dg n):=by
 induction n using cGP with
 |_ n ih =>
  by_cases h:n=0
  ·subst h;rw[cB];exact mQ
  ·rw[oL h];exact mH.2 ⟨by omega,ih _ (by omega)⟩
theorem aY(n:Nat):cG (dg n):=by unfold cG;rw[bD]
theorem cG.jE{a:List Int}(h:cG a):bZ a:=by rw[h];exact gH _
theorem jZ:∀(a b:List Int),val (a ++ b)=val a+4294967296^a.length*val b
 | [],b=>by simp[val]
 |d :: a,b=>by
  simp only[cCX,val,jZ a b,cEP,cGD];rw[cGF,<-cGH,cGC 4294967296 (4294967296^a.length)];omega
theorem dR:∀{a:List Int},bZ a->val a<4294967296^a.length
 | [],_=>by simp[val]
 |d :: a,h=>by
  obtain⟨h1,h2⟩:=mH.1 h;have:=dR h2;simp only[val,cEP,cGD];have:d.toNat<4294967296:=by omega
  have:4294967296*val a+4294967296<=4294967296^a.length*4294967296:=by
   rw[cGC (4294967296^a.length)];have:4294967296*(val a+1)<=4294967296*4294967296^a.length:=cDS _ (by omega);omega
  omega
theorem jG:∀n,val (cDH n 0)=0
 |0=>rfl
 |n+1=>by simp[cGM,val,jG n]
theorem Is:∀{a:List Int},bZ a->∃k,a=dg (val a) ++ cDH k 0
 | [],_=>⟨0,by simp[val,cB]⟩
 |d :: a,h=>by
  obtain⟨h1,h2⟩:=mH.1 h;obtain⟨k,hk⟩:=Is h2
  by_cases hz:d.toNat+4294967296*val a=0
  ·have hd:d=0:=by omega
   have hv:val a=0:=by omega
   rw[hv,cB]at hk;refine⟨k+1,?_⟩;simp only[val];rw[hz,cB,hd,hk];simp[cGM]
  ·refine⟨k,?_⟩;simp only[val];rw[oL hz];have e1:(d.toNat+4294967296*val a)%4294967296=d.toNat:=by omega
   have e2:(d.toNat+4294967296*val a)/4294967296=val a:=by omega
   rw[e1,e2,cCX,<-hk];congr 1;omega
theorem Lm:cG []:=by unfold cG;simp[val,cB]
theorem Be{a:List Int}(h:bZ a)(ht:∀d,a.getLast?=some d->d≠0):cG a:=by
 obtain⟨k,hk⟩:=Is h;cases k with
 |zero=>unfold cG;simpa using hk
 |succ k =>
  exfalso;refine ht 0 ?_ rfl;rw[hk,cIK,<-cCZ];simp
theorem cG.top{a:List Int}(h:cG a){d:Int}(hd:a.getLast?=some d):d≠0:=by
 have key:∀n,∀d,(dg n).getLast?=some d->d≠0:=by
  intro n
  induction n using cGP with
  |_ n ih =>
   intro d hd
   by_cases hn:n=0
   ·subst hn;rw[cB]at hd;cases hd
   ·rw[oL hn]at hd
    by_cases hq:n/4294967296=0
    ·rw[hq,cB]at hd;simp at hd;omega
    ·refine ih (n/4294967296) (by omega) d ?_;rw[oL hq]at hd ⊢;rwa [cHI]at hd
 rw[h]at hd;exact key _ d hd
theorem Yl{d:Int}{a:List Int}(h:cG (d :: a)):cG a:=by
 have hd:=h.jE;refine Be (mH.1 hd).2 fun e he=>h.top ?_
 cases a with
 |nil=>cases he
 |cons x r=>rwa [cHI]
theorem dP {n k : Nat} (h : n < 4294967296 ^ k) : (dg n).length ≤ k := by
  induction k generalizing n with
  | zero => have : n = 0 := by simpa using h
            subst this; rw [cB]; exact cBE _
  | succ k ih =>
    by_cases hn : n = 0
    · subst hn; rw [cB]; simp
    · rw [oL hn, cEP]
      have := ih (n := n / 4294967296) (by rw [cGD] at h; exact cGY (by rw [cGC]; exact h))
      omega
theorem qG{n:Nat}:n<4294967296^(dg n).length:=by
 have:=dR (gH n);rwa [bD]at this
theorem qH{n m:Nat}(h:n<=m):(dg n).length<=(dg m).length:=dP (cHT h qG)
theorem tG{a:List Int}(h:bZ a):(dg (val a)).length<=a.length:=dP (dR h)
theorem Dg{n k:Nat}(h:k<(dg n).length):4294967296^k<=n:=by
 rcases cBU n (4294967296^k)with h1 |h1
 ·have:=dP h1;omega
 ·exact h1
theorem mL{a:List Int}{n:Nat}(h:n<a.length):val (a.take (n+1))=val (a.take n)+4294967296^n*(a.getD n 0).toNat:=by
 rw[cHJ h,jZ,cDU,cHK (by omega)];simp[val,cGI,h]
theorem iJ(a:List Int){n:Nat}(h:n<=a.length):val a=val (a.take n)+4294967296^n*val (a.drop n):=by
 have e:=jZ (a.take n) (a.drop n);rw[cIL,cDU,cHK h]at e;exact e
theorem Ol{a:List Int}{n:Nat}(h:n<a.length):a.getD n 0∈a:=by
 rw[cGI,cBV h];simp
theorem bZ.get{a:List Int}(h:bZ a)(n:Nat):0<=a.getD n 0/\a.getD n 0<4294967296:=by
 rcases cBU n a.length with hn |hn
 ·exact h _ (Ol hn)
 ·rw[cGI,cDA hn];simp
theorem getLast_take{a:List Int}{n:Nat}(h:n<a.length):(a.take (n+1)).getLast?=some (a.getD n 0):=by
 rw[cHJ h,cIM];simp[cGI,h]
theorem aQR{xs:List Int}{n:Nat}(h:n<=xs.length):cGZ n (cHA 0 (cGZ n xs)) ++ cHA (min (cHA 0 (cGZ n xs)).length n) (cDH n 0)=xs.take n:=by
 have e:(cHA 0 (cGZ n xs)).length=n:=by simp;omega
 rw[e,Nat.min_self,cHL,List.take_take,Nat.min_self];simp
theorem oM{w:Int}(h:0<=w)(h':w<18446744073709551616):AI.fO .and .u64 w 4294967295=w%4294967296:=by
 obtain⟨n,rfl⟩:=cGG h;rw[AI.wS];unfold AI.bitsI0;simp only;have e:(BitVec.ofInt u64.bits (n:Int) &&& BitVec.ofInt u64.bits 4294967295).toNat=n%4294967296:=by
  show(BitVec.ofInt 64 (n:Int) &&& BitVec.ofInt 64 4294967295).toNat=_;rw[BitVec.toNat_and];have e1:(BitVec.ofInt 64 (n:Int)).toNat=n:=by simp;omega
  have e2:(BitVec.ofInt 64 4294967295).toNat=2^32-1:=by decide
  rw[e1,e2,Nat.and_two_pow_sub_one_eq_mod]
 rw[e,wrap_u64];omega
section
variable {R:Type} {x y:Option R}
theorem aN{p:Prop}[Decidable p](h:p:=by omega):AI.aB (decide p) x y=x:=by simp only[AI.aB,decide_eq_true h,cond_true]
theorem aL{p:Prop}[Decidable p](h:¬p:=by omega):AI.aB (decide p) x y=y:=by simp only[AI.aB,decide_eq_false h,cond_false]
theorem bI{a b:Int}(h:a=b:=by omega):AI.aB (a==b) x y=x:=by subst h;simp[AI.aB]
theorem bA{a b:Int}(h:a≠b:=by omega):AI.aB (a==b) x y=y:=by rw[beq_eq_false_iff_ne.2 h];rfl
theorem nW{a b:Int}(h:a≠b:=by omega):AI.aB (a !=b) x y=x:=by rw[bne_iff_ne.2 h];rfl
theorem gD{a b:Int}(h:a=b:=by omega):AI.aB (a !=b) x y=y:=by subst h;simp[AI.aB]
theorem bT:AI.aB true x y=x:=rfl
theorem bF:AI.aB false x y=y:=rfl
theorem aRC{b:Bool}(h:b=true):AI.aB b x y=x:=by rw[h];rfl
theorem Pj{b:Bool}(h:b=false):AI.aB b x y=y:=by rw[h];rfl
theorem gP{g:Prop}(h:g:=by omega):AI.aM g x=x:=AI.aGV h
end
theorem aHV{n:Int}(h:0<=n/\n<4294967296):u32.wrap n=n:=by rw[wrap_u32];omega
def jK(a b:Nat):Int:=if a<b then -1 else if b<a then 1 else 0
theorem getD_none{a:List Int}{n:Nat}(h:a.length<=n):a.getD n 0=0:=by
 rw[cGI,cDA h];rfl
theorem bV{a:List Int}{n:Nat}(h:a.length<=n):val (a.take n)=val a:=by rw[cIO h]
theorem bJ{a:List Int}(n:Nat):val (a.take (n+1))=val (a.take n)+4294967296^n*(a.getD n 0).toNat:=by
 rcases cBU n a.length with h |h
 ·exact mL h
 ·rw[bV (by omega),bV h,getD_none h];simp
theorem iG{a:List Int}(h:bZ a)(n:Nat):val (a.take n)<4294967296^n:=by
 have:=dR (h.take n);exact cCB this (cEF (by omega) (by rw[cDU];omega))
theorem lY{a:List Int}{d:Int}:val (a ++ [d])=val a+4294967296^a.length*d.toNat:=by
 rw[jZ];simp[val]
theorem mG{a:List Int}{d:Int}(h:bZ a)(hd:0<=d/\d<4294967296):bZ (a ++ [d]):=by
 rw[qC,mH];exact⟨h,hd,mQ⟩
theorem Ln{a:List Int}(h:cG a):dg (val a)=a:=h.symm
theorem oJ{a b:List Int}(ha:bZ a)(hb:cG b)(h:a.length<b.length):val a<val b:=by
 have h1:=dR ha;have h2:4294967296^a.length<=val b:=Dg (by rw[<-hb];exact h);omega
theorem cZ{a:List Int}(ha:cG a):a.length=0↔val a=0:=by
 constructor
 ·intro h;have:a=[]:=List.length_eq_zero_iff.1 h;subst this;rfl
 ·intro h;rw[ha,h,cB];rfl
theorem gM{n:Nat}:(dg n).length=0↔n=0:=by rw[cZ (aY n),bD]
theorem nI{a:List Int}(h:bZ a){n:Nat}{d:Int}(hd:0<=d/\d<4294967296):bZ (a.set n d):=by
 intro x hx;rcases cIP hx with h1 |h1
 ·exact h x h1
 ·subst h1;exact hd
theorem qM{a:List Int}{n:Nat}(h:n<a.length)(d:Int):val ((a.set n d).drop n)=d.toNat+4294967296*val (a.drop (n+1)):=by
 have e:(a.set n d).drop n=d :: a.drop (n+1):=by
  rw[cHM (by simpa using h)];simp[cIQ]
 rw[e];rfl
theorem iL{a:List Int}(n:Nat):val (a.drop n)=(a.getD n 0).toNat+4294967296*val (a.drop (n+1)):=by
 rcases cBU n a.length with h |h
 ·rw[cHM h];simp[val,cGI,h]
 ·rw[cGT h,cGT (by omega),getD_none h];rfl
theorem aQE{l B n d r w:Nat}(hw:0<w):((l*B+d)*n+r)/w=(((l*B+d)%w)*n+r)/w+n*((l*B+d)/w):=by
 have h:=cGK (l*B+d) w;have e:(l*B+d)*n+r=((l*B+d)%w*n+r)+w*(n*((l*B+d)/w)):=by
  generalize l*B+d=t at *;generalize t/w=q at *;generalize t%w=m at *;subst h;rw[Nat.add_mul];have:w*q*n=w*(n*q):=by rw[cGH,cGC q n]
  omega
 rw[e,cHU _ _ hw]
theorem aNV{l B n d r w:Nat}:((l*B+d)*n+r)%w=(((l*B+d)%w)*n+r)%w:=by
 conv=>rhs;rw[cHN,cHO,Nat.mod_mod,<-cHO,<-cHN]
theorem Zy(u v k:Nat):jK (u+k) (v+k)=jK u v:=by
 unfold jK;simp only[Nat.add_lt_add_iff_right]
theorem Xj{a b:Int}(ha:0<=a)(hb:0<=b):(a/b).toNat=a.toNat/b.toNat:=by
 obtain⟨x,rfl⟩:=cGG ha;obtain⟨y,rfl⟩:=cGG hb;rw[<-cGU,cFB,cFB,cFB]
theorem Xi{a b:Int}(ha:0<=a)(hb:0<=b):(a%b).toNat=a.toNat%b.toNat:=by
 obtain⟨x,rfl⟩:=cGG ha;obtain⟨y,rfl⟩:=cGG hb;rw[<-cHV,cFB,cFB,cFB]
end M
namespace M
open Go
def bl(n:Nat):Nat:=if n=0 then 0 else n.log2+1
theorem Vx:bl 0=0:=rfl
theorem wL(n:Nat):n<2^bl n:=by
 unfold bl;split
 ·omega
 ·exact Nat.lt_log2_self
theorem aAB{n:Nat}(h:n≠0):2^(bl n-1)<=n:=by
 unfold bl;rw[if_neg h];exact Nat.log2_self_le h
theorem dK{n k:Nat}:bl n<=k↔n<2^k:=by
 constructor
 ·intro h;exact cCB (wL n) (cEF (by omega) h)
 ·intro h
  by_cases hn:n=0
  ·subst hn;exact cHH _
  ·rcases cBU k (bl n)with h1 |h1
   ·exfalso;have h2:=aAB hn;have h3:2^k<=2^(bl n-1):=fK;omega
   ·exact h1
theorem sL{n k:Nat}:k<bl n↔2^k<=n:=by
 have:=@dK n k;omega
theorem qV{n:Nat}(h:n≠0):0<bl n:=by rw[sL];simp;omega
theorem aYG{n k:Nat}(h:2^k<=n)(h':n<2^(k+1)):bl n=k+1:=by
 have:=dK.2 h';have:=sL.2 h;omega
theorem Bw{r k t:Nat}(hr:r<2^k)(ht:t≠0):bl (r+2^k*t)=k+bl t:=by
 have hp:=qV ht;have e:k+bl t=(k+(bl t-1))+1:=by omega
 rw[e];apply aYG
 ·rw[cGE];have:=cDS (2^k) (aAB ht);omega
 ·have h1:=wL t;have h2:2^k*(t+1)<=2^k*2^bl t:=cDS _ h1;rw[<-cGE]at h2;rw[cGF]at h2;have e2:k+(bl t-1)+1=k+bl t:=by omega
  rw[e2];omega
theorem zO{k t:Nat}(ht:t≠0):bl (2^k*t)=k+bl t:=by
 have:=Bw (r:=0) (k:=k) (t:=t) (cY) ht;rwa [cBG]at this
theorem aWF{n:Nat}(h:n≠0):bl n=bl (n/2)+1:=by
 by_cases h2:n/2=0
 ·rw[h2];have:n=1:=by omega
  subst this;rfl
 ·have:=Bw (r:=n%2) (k:=1) (t:=n/2) (by simp;omega) h2;have e:n%2+2^1*(n/2)=n:=by omega
  rw[e]at this;omega
theorem gF{a b:Nat}(h:a<=b):bl a<=bl b:=dK.2 (cHT h (wL b))
theorem Ju(k:Nat):4294967296^k=2^(32*k):=by rw[cHW]
theorem Bj{n k:Nat}(h:n<2^k):(dg n).length<=k/32+1:=by
 apply dP;rw[Ju];exact cCB h (fK)
theorem aIO(n:Nat):(dg n).length<=bl n/32+1:=Bj (wL n)
theorem Xu{k:Int}(h:0<=k)(h':k<32):u32.wrap (1*((2^(min k.toNat 32):Nat):Int))=((2^k.toNat:Nat):Int):=by
 have e:min k.toNat 32=k.toNat:=by omega
 rw[e,Int.one_mul,wrap_u32];have:2^k.toNat<2^32:=cHX (by omega) (by omega);generalize 2^k.toNat=p at *;omega
theorem aMK{n:Int}(h:0<=n):n.tdiv 32=n/32:=cIS h
theorem aMF{n:Int}(h:0<=n):n.tmod 32=n%32:=cIT h
theorem Db(n:Nat):2^n=4294967296^(n/32)*2^(n%32):=by
 rw[Ju,<-cGE];congr 1;omega
theorem aJU(v n:Nat):v/4294967296^(n/32)/2^(n%32)=v/2^n:=by
 rw[cGV,<-Db]
theorem lZ{a:List Int}(h:bZ a)(n:Nat):val (a.drop n)=val a/4294967296^n:=by
 rcases Nat.le_or_ge n a.length with hn |hn
 ·rw[iJ a hn,cHU _ _ (cY),cHB (iG h n),cBG]
 ·rw[cGT hn,cHB]
  ·rfl
  ·exact cCB (dR h) (cEF (by omega) hn)
end M
namespace M6
open Go
def val:List Int->Nat
 | []=>0
 |d :: r=>d.toNat+18446744073709551616*val r
def dg(n:Nat):List Int:=if h:n=0 then []else((n%18446744073709551616:Nat):Int) :: dg (n/18446744073709551616)
termination_by n
decreasing_by omega
def bZ(a:List Int):Prop:=∀d∈a,0<=d/\d<18446744073709551616
def cG(a:List Int):Prop:=a=dg (val a)
theorem cB:dg 0=[]:=by rw[dg];rfl
theorem oL{n:Nat}(h:n≠0):dg n=((n%18446744073709551616:Nat):Int) :: dg (n/18446744073709551616):=by rw[dg,dif_neg h]
theorem bD(n:Nat):val (dg n)=n:=by
 induction n using cGP with
 |_ n ih =>
  by_cases h:n=0
  ·subst h;rw[cB];rfl
  ·rw[oL h,val,ih _ (by omega)];have:=cGK n 18446744073709551616;omega
theorem mQ:bZ []:=fun _ h=>by cases h
theorem mH{d:Int}{r:List Int}:bZ (d :: r)↔(0<=d/\d<18446744073709551616)/\bZ r:=by
 unfold bZ;simp
theorem qC{a b:List Int}:bZ (a ++ b)↔bZ a/\bZ b:=by
 unfold bZ;simp only[cCH];exact⟨fun h=>⟨fun d hd=>h d (.inl hd),fun d hd=>h d (.inr hd)⟩,fun h d hd=>hd.elim (h.1 d) (h.2 d)⟩
theorem bZ.take{a:List Int}(h:bZ a)(n:Nat):bZ (a.take n):=fun d hd=>h d (cII hd)
theorem bZ.drop{a:List Int}(h:bZ a)(n:Nat):bZ (a.drop n):=fun d hd=>h d (cIJ hd)
theorem jH(n:Nat):bZ (cDH n 0):=fun d hd=>by rw[(List.mem_replicate.1 hd).2];omega
theorem gH(n:Nat):bZ (dg n):=by
 induction n using cGP with
 |_ n ih =>
  by_cases h:n=0
  ·subst h;rw[cB];exact mQ
  ·rw[oL h];exact mH.2 ⟨by omega,ih _ (by omega)⟩
theorem aY(n:Nat):cG (dg n):=by unfold cG;rw[bD]
theorem cG.jE{a:List Int}(h:cG a):bZ a:=by rw[h];exact gH _
theorem jZ:∀(a b:List Int),val (a ++ b)=val a+18446744073709551616^a.length*val b
 | [],b=>by simp[val]
 |d :: a,b=>by
  simp only[cCX,val,jZ a b,cEP,cGD];rw[cGF,<-cGH,cGC 18446744073709551616 (18446744073709551616^a.length)];omega
theorem dR:∀{a:List Int},bZ a->val a<18446744073709551616^a.length
 | [],_=>by simp[val]
 |d :: a,h=>by
  obtain⟨h1,h2⟩:=mH.1 h;have:=dR h2;simp only[val,cEP,cGD];have:d.toNat<18446744073709551616:=by omega
  have:18446744073709551616*val a+18446744073709551616<=18446744073709551616^a.length*18446744073709551616:=by
   rw[cGC (18446744073709551616^a.length)];have:18446744073709551616*(val a+1)<=18446744073709551616*18446744073709551616^a.length:=cDS _ (by omega);omega
  omega
theorem jG:∀n,val (cDH n 0)=0
 |0=>rfl
 |n+1=>by simp[cGM,val,jG n]
theorem Is:∀{a:List Int},bZ a->∃k,a=dg (val a) ++ cDH k 0
 | [],_=>⟨0,by simp[val,cB]⟩
 |d :: a,h=>by
  obtain⟨h1,h2⟩:=mH.1 h;obtain⟨k,hk⟩:=Is h2
  by_cases hz:d.toNat+18446744073709551616*val a=0
  ·have hd:d=0:=by omega
   have hv:val a=0:=by omega
   rw[hv,cB]at hk;refine⟨k+1,?_⟩;simp only[val];rw[hz,cB,hd,hk];simp[cGM]
  ·refine⟨k,?_⟩;simp only[val];rw[oL hz];have e1:(d.toNat+18446744073709551616*val a)%18446744073709551616=d.toNat:=by omega
   have e2:(d.toNat+18446744073709551616*val a)/18446744073709551616=val a:=by omega
   rw[e1,e2,cCX,<-hk];congr 1;omega
theorem Lm:cG []:=by unfold cG;simp[val,cB]
theorem Be{a:List Int}(h:bZ a)(ht:∀d,a.getLast?=some d->d≠0):cG a:=by
 obtain⟨k,hk⟩:=Is h;cases k with
 |zero=>unfold cG;simpa using hk
 |succ k =>
  exfalso;refine ht 0 ?_ rfl;rw[hk,cIK,<-cCZ];simp
theorem cG.top{a:List Int}(h:cG a){d:Int}(hd:a.getLast?=some d):d≠0:=by
 have key:∀n,∀d,(dg n).getLast?=some d->d≠0:=by
  intro n
  induction n using cGP with
  |_ n ih =>
   intro d hd
   by_cases hn:n=0
   ·subst hn;rw[cB]at hd;cases hd
   ·rw[oL hn]at hd
    by_cases hq:n/18446744073709551616=0
    ·rw[hq,cB]at hd;simp at hd;omega
    ·refine ih (n/18446744073709551616) (by omega) d ?_;rw[oL hq]at hd ⊢;rwa [cHI]at hd
 rw[h]at hd;exact key _ d hd
theorem Yl{d:Int}{a:List Int}(h:cG (d :: a)):cG a:=by
 have hd:=h.jE;refine Be (mH.1 hd).2 fun e he=>h.top ?_
 cases a with
 |nil=>cases he
 |cons x r=>rwa [cHI]
theorem dP {n k : Nat} (h : n < 18446744073709551616 ^ k) : (dg n).length ≤ k := by
  induction k generalizing n with
  | zero => have : n = 0 := by simpa using h
            subst this; rw [cB]; exact cBE _
  | succ k ih =>
    by_cases hn : n = 0
    · subst hn; rw [cB]; simp
    · rw [oL hn, cEP]
      have := ih (n := n / 18446744073709551616) (by rw [cGD] at h; exact cGY (by rw [cGC]; exact h))
      omega
theorem qG{n:Nat}:n<18446744073709551616^(dg n).length:=by
 have:=dR (gH n);rwa [bD]at this
theorem qH{n m:Nat}(h:n<=m):(dg n).length<=(dg m).length:=dP (cHT h qG)
theorem tG{a:List Int}(h:bZ a):(dg (val a)).length<=a.length:=dP (dR h)
theorem Dg{n k:Nat}(h:k<(dg n).length):18446744073709551616^k<=n:=by
 rcases cBU n (18446744073709551616^k)with h1 |h1
 ·have:=dP h1;omega
 ·exact h1
theorem mL{a:List Int}{n:Nat}(h:n<a.length):val (a.take (n+1))=val (a.take n)+18446744073709551616^n*(a.getD n 0).toNat:=by
 rw[cHJ h,jZ,cDU,cHK (by omega)];simp[val,cGI,h]
theorem iJ(a:List Int){n:Nat}(h:n<=a.length):val a=val (a.take n)+18446744073709551616^n*val (a.drop n):=by
 have e:=jZ (a.take n) (a.drop n);rw[cIL,cDU,cHK h]at e;exact e
theorem Ol{a:List Int}{n:Nat}(h:n<a.length):a.getD n 0∈a:=by
 rw[cGI,cBV h];simp
theorem bZ.get{a:List Int}(h:bZ a)(n:Nat):0<=a.getD n 0/\a.getD n 0<18446744073709551616:=by
 rcases cBU n a.length with hn |hn
 ·exact h _ (Ol hn)
 ·rw[cGI,cDA hn];simp
theorem getLast_take{a:List Int}{n:Nat}(h:n<a.length):(a.take (n+1)).getLast?=some (a.getD n 0):=by
 rw[cHJ h,cIM];simp[cGI,h]
theorem getD_none{a:List Int}{n:Nat}(h:a.length<=n):a.getD n 0=0:=by
 rw[cGI,cDA h];rfl
theorem bV{a:List Int}{n:Nat}(h:a.length<=n):val (a.take n)=val a:=by rw[cIO h]
theorem bJ{a:List Int}(n:Nat):val (a.take (n+1))=val (a.take n)+18446744073709551616^n*(a.getD n 0).toNat:=by
 rcases cBU n a.length with h |h
 ·exact mL h
 ·rw[bV (by omega),bV h,getD_none h];simp
theorem iG{a:List Int}(h:bZ a)(n:Nat):val (a.take n)<18446744073709551616^n:=by
 have:=dR (h.take n);exact cCB this (cEF (by omega) (by rw[cDU];omega))
theorem lY{a:List Int}{d:Int}:val (a ++ [d])=val a+18446744073709551616^a.length*d.toNat:=by
 rw[jZ];simp[val]
theorem mG{a:List Int}{d:Int}(h:bZ a)(hd:0<=d/\d<18446744073709551616):bZ (a ++ [d]):=by
 rw[qC,mH];exact⟨h,hd,mQ⟩
theorem Ln{a:List Int}(h:cG a):dg (val a)=a:=h.symm
theorem oJ{a b:List Int}(ha:bZ a)(hb:cG b)(h:a.length<b.length):val a<val b:=by
 have h1:=dR ha;have h2:18446744073709551616^a.length<=val b:=Dg (by rw[<-hb];exact h);omega
theorem cZ{a:List Int}(ha:cG a):a.length=0↔val a=0:=by
 constructor
 ·intro h;have:a=[]:=List.length_eq_zero_iff.1 h;subst this;rfl
 ·intro h;rw[ha,h,cB];rfl
theorem gM{n:Nat}:(dg n).length=0↔n=0:=by rw[cZ (aY n),bD]
theorem nI{a:List Int}(h:bZ a){n:Nat}{d:Int}(hd:0<=d/\d<18446744073709551616):bZ (a.set n d):=by
 intro x hx;rcases cIP hx with h1 |h1
 ·exact h x h1
 ·subst h1;exact hd
theorem qM{a:List Int}{n:Nat}(h:n<a.length)(d:Int):val ((a.set n d).drop n)=d.toNat+18446744073709551616*val (a.drop (n+1)):=by
 have e:(a.set n d).drop n=d :: a.drop (n+1):=by
  rw[cHM (by simpa using h)];simp[cIQ]
 rw[e];rfl
theorem iL{a:List Int}(n:Nat):val (a.drop n)=(a.getD n 0).toNat+18446744073709551616*val (a.drop (n+1)):=by
 rcases cBU n a.length with h |h
 ·rw[cHM h];simp[val,cGI,h]
 ·rw[cGT h,cGT (by omega),getD_none h];rfl
end M6
namespace M
open Go AI
def zs(b:Bool)(n:Nat):Int:=bif b then -(n:Int)else n
def zv(x:Bool×List Int):Int:=zs x.1 (val x.2)
def yT(x:Bool×List Int):Prop:=cG x.2/\(x.1=true->val x.2≠0)/\x.2.length<=549755813888
def isNeg(z:Int):Bool:=match z with
 | .negSucc _=>true
 | .ofNat _=>false
def zD(z:Int):D:=.agg [.sc (.bool (isNeg z)),.ints .u32 (dg z.natAbs)]
theorem lT{z:Int}:isNeg z=true↔z<0:=by cases z <;> simp[isNeg] <;> omega
theorem iH{z:Int}:isNeg z=false↔0<=z:=by cases z <;> simp[isNeg] <;> omega
theorem Rs(z:Int):zv (isNeg z,dg z.natAbs)=z:=by
 unfold zv zs;simp only[bD];cases h:isNeg z with
 |true=>have:=lT.1 h;simp only[cond_true];omega
 |false=>have:=iH.1 h;simp only[cond_false];omega
theorem aBL{z:Int}(h:(dg z.natAbs).length<=549755813888):yT (isNeg z,dg z.natAbs):=by
 refine⟨aY _,fun hn=>?_,h⟩;rw[bD];have:=lT.1 hn;omega
theorem aLN{z:Int}{k:Nat}(h:z.natAbs<2^k)(hk:k<=17179869184):yT (isNeg z,dg z.natAbs) :=
 aBL (cCA (Bj h) (by omega))
theorem Hl(b:Bool)(n:Nat):isNeg (zs b n)=(b&&decide (n≠0)):=by
 unfold zs;cases b with
 |false=>simp only[cond_false,cGN];exact iH.2 (by omega)
 |true =>
  simp only[cond_true,cEG]
  by_cases h:n=0
  ·subst h;rfl
  ·rw[decide_eq_true h];exact lT.2 (by omega)
theorem kR(b:Bool)(n:Nat):(zs b n).natAbs=n:=by
 unfold zs;cases b <;> simp
theorem bEH(b:Bool)(n:Nat):zD (zs b n)=.agg [.sc (.bool (b&&decide (n≠0))),.ints .u32 (dg n)]:=by
 unfold zD;rw[Hl,kR]
theorem yT.cells{x:Bool×List Int}(h:yT x):isNeg (zv x)=x.1/\dg (zv x).natAbs=x.2:=by
 obtain⟨h1,h2,h3⟩:=h;unfold zv;rw[Hl,kR,<-h1];refine⟨?_,rfl⟩;cases hx:x.1 with
 |false=>rfl
 |true=>rw[decide_eq_true (h2 hx)];rfl
theorem yT.len{x:Bool×List Int}(h:yT x):x.2.length<=549755813888:=h.2.2
theorem Tr(x:Bool×List Int):(zv x).natAbs=val x.2:=kR _ _
theorem aYJ{x:Bool×List Int}(h:x.1=true):zv x=-(val x.2:Int):=by unfold zv zs;rw[h];rfl
theorem aLL{x:Bool×List Int}(h:x.1=false):zv x=(val x.2:Int):=by unfold zv zs;rw[h];rfl
theorem Nr(a b:Nat):(dg (a+b)).length<=max (dg a).length (dg b).length+1:=by
 apply dP;have h1:=qG (n:=a);have h2:=qG (n:=b);have h3:4294967296^(dg a).length<=4294967296^max (dg a).length (dg b).length:=fK;have h4:4294967296^(dg b).length<=4294967296^max (dg a).length (dg b).length:=fK;rw[cGD];generalize 4294967296^max (dg a).length (dg b).length=p at *;omega
def lI(a b:Int):Int:=if a<b then -1 else if b<a then 1 else 0
theorem aQG:dg 1=[1]:=by simp[dg]
theorem Lv{a b:Nat}:0<=jK a b↔b<=a:=by unfold jK;split <;> (try split) <;> omega
theorem aCK(n k:Nat):(dg (n*2^k)).length<=(dg n).length+k/32+1:=by
 apply dP;have h1:=qG (n:=n);have h2:2^k<=4294967296^(k/32+1):=by rw[Ju];exact fK
 have h3:0<2^k:=cY;rw[show(dg n).length+k/32+1=(dg n).length+(k/32+1)from by omega,cGE];have h4:n*2^k<4294967296^(dg n).length*2^k:=Nat.mul_lt_mul_of_pos_right h1 h3;exact cCB h4 (cDS _ h2)
theorem Eu(a b:Nat):(dg (a-b)).length<=(dg a).length:=qH (cHP _ _)
theorem Ev(a b:Nat):(dg (a/b)).length<=(dg a).length:=qH (Nat.div_le_self _ _)
theorem aRA{a:List Int}(h:bZ a){n:Nat}(hn:a.length<=n):bl (val a)<=32*n:=by
 rw[dK,<-Ju];exact cCB (dR h) (cEF (by omega) hn)
theorem Dl(a b:Nat):bl (a+b)<=max (bl a) (bl b)+1:=by
 rw[dK,cGD];have h1:=wL a;have h2:=wL b;have h3:2^bl a<=2^max (bl a) (bl b):=fK;have h4:2^bl b<=2^max (bl a) (bl b):=fK;omega
theorem Ja(a b:Nat):bl (a*b)<=bl a+bl b:=by
 rw[dK,cGE];exact Nat.mul_lt_mul'' (wL a) (wL b)
theorem aBM{z:Int}{k:Nat}(h:bl z.natAbs<=k)(hk:k<=17179869184):yT (isNeg z,dg z.natAbs):=aLN (dK.1 h) hk
theorem Bk{n k:Nat}(h:bl n<=k):(dg n).length<=k/32+1:=Bj (dK.1 h)
theorem vQ{x:List Int}(h:cG x):(dg (val x)).length=x.length:=by rw[<-h]
abbrev K6:=Int×Int×Int×Int×Int×Int
def kf(w:Bool):K6:=bif w then(9223372036854775808,53,-1074,971,9218868437227405312,9221120237041090561)else(2147483648,24,-149,104,2139095040,2143289345)
def yU(k:K6):Prop:=k=kf true\/k=kf false
def kP(k:K6):Nat:=k.2.1.toNat
def kH(k:K6):Nat:=2^(kP k-1)
def kE(k:K6):Int:=k.2.2.1
def kI(k:K6):Int:=k.2.2.2.2.1
def uV(k:K6)(b:Nat):Nat:=if b/kH k=0 then b else kH k+b%kH k
def tP(k:K6)(b:Nat):Nat:=b/kH k-1
def nU(k:K6)(b:Nat):Nat:=uV k b*2^tP k b
def Xq(k:K6)(n:Nat):Nat:=if bl n<kP k then n else(bl n-kP k)*kH k+n/2^(bl n-kP k)
end M
namespace M
open Go
theorem aAK{a b:Int}(ha:0<=a)(bKG:a<18446744073709551616)(hb:0<=b)(tR:b<18446744073709551616):AI.fO .and .u64 a b=((a.toNat &&& b.toNat:Nat):Int):=by
 obtain⟨n,rfl⟩:=cGG ha;obtain⟨m,rfl⟩:=cGG hb;rw[AI.wS];unfold AI.bitsI0;simp only;have e:(BitVec.ofInt u64.bits (n:Int) &&& BitVec.ofInt u64.bits (m:Int)).toNat=n &&& m:=by
  show(BitVec.ofInt 64 (n:Int) &&& BitVec.ofInt 64 (m:Int)).toNat=_;rw[BitVec.toNat_and];have e1:(BitVec.ofInt 64 (n:Int)).toNat=n:=by simp;omega
  have e2:(BitVec.ofInt 64 (m:Int)).toNat=m:=by simp;omega
  rw[e1,e2]
 have hle:n &&& m<=n:=Nat.and_le_left;rw[e,wrap_u64];rfl
theorem Yg{a b:Int}(ha:0<=a)(bKG:a<18446744073709551616)(hb:0<=b)(tR:b<18446744073709551616):AI.fO .or .u64 a b=((a.toNat |||b.toNat:Nat):Int):=by
 obtain⟨n,rfl⟩:=cGG ha;obtain⟨m,rfl⟩:=cGG hb;rw[AI.wS];unfold AI.bitsI0;simp only;have e:(BitVec.ofInt u64.bits (n:Int) |||BitVec.ofInt u64.bits (m:Int)).toNat=n |||m:=by
  show(BitVec.ofInt 64 (n:Int) |||BitVec.ofInt 64 (m:Int)).toNat=_;rw[BitVec.toNat_or];have e1:(BitVec.ofInt 64 (n:Int)).toNat=n:=by simp;omega
  have e2:(BitVec.ofInt 64 (m:Int)).toNat=m:=by simp;omega
  rw[e1,e2]
 have kM:n |||m<2^64:=Nat.or_lt_two_pow (by omega) (by omega);rw[e,wrap_u64];rfl
def tz:Nat->Nat
 |0=>0
 |n+1=>if(n+1)%2=1 then 0 else tz ((n+1)/2)+1
termination_by n=>n
decreasing_by omega
theorem Aq{n:Nat}(h:n%2=1):tz n=0:=by
 cases n with
 |zero=>omega
 |succ n=>rw[tz,if_pos h]
theorem Fp{n:Nat}(h0:n≠0)(h:n%2=0):tz n=tz (n/2)+1:=by
 cases n with
 |zero=>omega
 |succ n=>rw[tz,aO]
theorem pT:∀n,n≠0->n%2^tz n=0/\(n/2^tz n)%2=1:=by
 intro n
 induction n using cGP with
 |_ n ih =>
  intro h0
  by_cases h:n%2=1
  ·rw[Aq h];simp[Nat.mod_one];exact h
  ·rw[Fp h0 (by omega)];obtain⟨h1,h2⟩:=ih (n/2) (by omega) (by omega);have e:2^(tz (n/2)+1)=2*2^tz (n/2):=by rw[cGD];omega
   rw[e];refine⟨?_,by rw[<-cGV];exact h2⟩;have h3:=cGK (n/2) (2^tz (n/2));rw[h1]at h3;generalize tz (n/2)=t at *;have h4:n=2*2^t*(n/2/2^t):=by rw[cGH];omega
   generalize n/2/2^t=q at *;rw[h4];exact Nat.mul_mod_right _ _
theorem Jp{n:Nat}(h:n≠0):2^tz n<=n:=by
 obtain⟨h1,h2⟩:=pT n h;have h3:=cGK n (2^tz n);rw[h1]at h3;generalize 2^tz n=p at *;generalize n/p=q at *;have:p*1<=p*q:=cDS _ (by omega);omega
theorem Me{n:Nat}(h:n≠0):∀k,tz (2^k*n)=k+tz n
 |0=>by simp
 |k+1=>by
  have hp:0<2^k:=cY;have h0:2^k*n≠0:=Nat.mul_ne_zero (by omega) h;have e:2^(k+1)*n=2*(2^k*n):=by rw[cGD,cGC (2^k) 2,cGH]
  rw[e,Fp (by omega) (by omega),Nat.mul_div_cancel_left _ (by omega),Me h k];omega
theorem aLW{r k n:Nat}(hr:r<2^k)(h:r≠0):tz (r+2^k*n)=tz r:=by
 induction k generalizing r n with
 |zero=>simp at hr;omega
 |succ k ih =>
  have e:2^(k+1)*n=2*(2^k*n):=by rw[cGD,cGC (2^k) 2,cGH]
  rw[e];rw[cGD]at hr
  by_cases ho:r%2=1
  ·rw[Aq ho,Aq (by omega)]
  ·rw[Fp (by omega) (by omega),Fp h (by omega),show(r+2*(2^k*n))/2=r/2+2^k*n from by omega,ih (by omega) (by omega)]
theorem Yu(a b:Nat):a &&& b=2*(a/2 &&& b/2)+(if a%2=1/\b%2=1 then 1 else 0):=by
 have h1:(a &&& b)/2=a/2 &&& b/2:=Nat.and_div_two;have h2:(a &&& b)%2=1↔a%2=1/\b%2=1:=Nat.and_mod_two_eq_one;rw[<-h1];split
 ·rename_i h;have:=h2.2 h;omega
 ·rename_i h;have:¬(a &&& b)%2=1:=fun hh=>h (h2.1 hh)
  omega
theorem Nu:∀(p m:Nat),m<2^p->m &&& (2^p-1-m)=0
 |0,m,h=>by simp at h;subst h;rfl
 |p+1,m,h=>by
  rw[cGD]at h ⊢;rw[Yu,show(2^p*2-1-m)/2=2^p-1-m/2 from by omega,Nu p (m/2) (by omega),aO]
theorem Yt:∀(p a b:Nat),a+b=2^p->a≠0->b≠0->a &&& b=2^tz a
 |0,a,b,h,ha,hb=>by simp at h;omega
 |p+1,a,b,h,ha,hb=>by
  rw[cGD]at h;rw[Yu]
  by_cases ho:a%2=1
  ·rw[Aq ho,show b/2=2^p-1-a/2 from by omega,Nu p (a/2) (by omega),aQ]
  ·rw[Fp ha (by omega),Yt p (a/2) (b/2) (by omega) (by omega) (by omega),aO,cGD,cGC,cCC]
theorem Bb{pre:List Int}{i k:Nat}(h:pre.length=i)(v:Int):(pre ++ cDH (k+1) 0).set i v=(pre ++ [v]) ++ cDH k 0:=by
 subst h;rw[cIU _ _ (cBE _),cFJ,cGM,cIV,cCZ];rfl
theorem Iq{pre:List Int}{i:Nat}(h:pre.length=i)(v:Int)(r:List Int):(pre ++ v :: r).getD i 0=v:=by
 subst h;simp[cGI]
theorem Hu{pre:List Int}{i:Nat}(h:pre.length=i)(v u:Int)(r:List Int):(pre ++ v :: r).set i u=pre ++ u :: r:=by
 subst h;rw[cIU _ _ (cBE _),cFJ,cIV]
theorem Ic{c n k:Nat}(h:c<2^k):c |||2^k*n=c+2^k*n:=by
 rw[Nat.or_comm,<-Nat.two_pow_add_eq_or_of_lt h,cHF]
theorem Se(k:Nat):18446744073709551616^k=2^(64*k):=by rw[cHW]
theorem fZ{n k:Nat}(h:bl n<=64*k):(M6.dg n).length<=k:=by
 apply M6.dP;rw[Se,<-dK];exact h
theorem zP{a:List Int}(h:M6.bZ a){n:Nat}(hn:a.length<=n):bl (M6.val a)<=64*n:=by
 rw[dK,<-Se];exact cCB (M6.dR h) (cEF (by omega) hn)
theorem aNQ{x:List Int}(h:M6.cG x):(M6.dg (M6.val x)).length=x.length:=by rw[<-h]
theorem aMJ{n:Int}(h:0<=n):n.tdiv 64=n/64:=cIS h
theorem aME{n:Int}(h:0<=n):n.tmod 64=n%64:=cIT h
theorem Nd(n:Nat):2^n=18446744073709551616^(n/64)*2^(n%64):=by
 rw[Se,<-cGE];congr 1;omega
theorem Hs(x k:Nat)(h:k<64):x*2^k=18446744073709551616*(x/2^(64-k))+x*2^k%18446744073709551616:=by
 have e:(18446744073709551616:Nat)=2^(64-k)*2^k:=by rw[<-cGE,show 64-k+k=64 from by omega]
 have h1:x*2^k/18446744073709551616=x/2^(64-k):=by
  rw[e,Nat.mul_div_mul_right _ _ (cY)]
 have:=cGK (x*2^k) 18446744073709551616;rw[h1]at this;omega
theorem Ky(x k:Nat)(h:k<64):x*2^k%18446744073709551616=2^k*(x%2^(64-k)):=by
 have e:(18446744073709551616:Nat)=2^(64-k)*2^k:=by rw[<-cGE,show 64-k+k=64 from by omega]
 rw[e,Nat.mul_mod_mul_right,cGC]
end M
namespace W
open Go AI
abbrev Tu(k:IntKind)(b:Nat):TI:={size:=1,bytes:=b,zero:=[.int k 0],kind:=.int k}
abbrev bDE(e:Nat):TI:={size:=1,bytes:=24,zero:=[.slice none 0 0],kind:=.slice e}
abbrev Ak(n b:Nat)(z:List Value)(f:List (Nat×Nat×Bool)):TI:={size:=n,bytes:=b,zero:=z,kind:=.struct f}
abbrev nB(k:IntKind):Value:=.int k 0
def Mi:List (Nat×TI):=[
 (2,Tu .i64 8),
 (3,Tu .i64 8),
 (4,{ size:=1,bytes:=1,zero:=[.bool false],kind:=TK.bool }),
 (5,Tu .u8 1),
 (6,Tu .u8 1),
 (7,Ak 4 24 [nB .i64,nB .i64,.bool false,nB .u8] [(0,1,false),(1,1,false),(2,1,false),(3,1,false)]),
 (8,Ak 4 24 [nB .i64,nB .i64,.bool false,nB .u8] [(0,1,false),(1,1,false),(2,1,false),(3,1,false)]),
 (9,{ size:=1,bytes:=16,zero:=[Value.string ByteArray.empty],kind:=TK.str }),
 (10,{ size:=1,bytes:=16,zero:=[Value.string ByteArray.empty],kind:=TK.str }),
 (11,{ size:=1,bytes:=16,zero:=[Value.string ByteArray.empty],kind:=TK.str }),
 (12,Tu .u64 8),
 (18,Ak 1 8 [.pointer none] [(0,1,false)]),
 (19,Ak 1 8 [.pointer none] [(0,1,false)]),
 (21,Tu .i32 4),
 (22,Tu .u64 8),
 (25,bDE 22),
 (26,Ak 2 32 [.bool false,.slice none 0 0] [(0,1,false),(1,1,false)]),
 (27,Ak 2 32 [.bool false,.slice none 0 0] [(0,1,false),(1,1,false)]),
 (28,Ak 3 40 [.bool false,.slice none 0 0,nB .i64] [(0,2,true),(2,1,false)]),
 (29,Ak 3 40 [.bool false,.slice none 0 0,nB .i64] [(0,2,true),(2,1,false)]),
 (30,Tu .i64 8),
 (33,Tu .i64 8),
 (42,Tu .i64 8),
 (43,Ak 6 80 [.bool false,.slice none 0 0,nB .i64,.bool false,.slice none 0 0,nB .i64] [(0,3,true),(3,3,true)]),
 (44,Ak 6 80 [.bool false,.slice none 0 0,nB .i64,.bool false,.slice none 0 0,nB .i64] [(0,3,true),(3,3,true)]),
 (46,{ size:=1,bytes:=8,zero:=[Value.nilFunc],kind:=TK.other }),
 (51,bDE 3),
 (55,Ak 6 48 [nB .i64,nB .i64,nB .i64,nB .u64,nB .i64,nB .i64] [(0,1,false),(1,1,false),(2,1,false),(3,1,false),(4,1,false),(5,1,false)]),
 (56,Ak 6 48 [nB .i64,nB .i64,nB .i64,nB .u64,nB .i64,nB .i64] [(0,1,false),(1,1,false),(2,1,false),(3,1,false),(4,1,false),(5,1,false)]),
 (57,bDE 56),
 (61,Ak 3 24 [nB .u64,.bool false,nB .i64] [(0,1,false),(1,1,false),(2,1,false)]),
 (62,Ak 3 24 [nB .u64,.bool false,nB .i64] [(0,1,false),(1,1,false),(2,1,false)]),
 (66,Ak 6 48 [nB .u64,nB .i64,nB .i64,nB .i64,nB .u64,nB .u64] [(0,1,false),(1,1,false),(2,1,false),(3,1,false),(4,1,false),(5,1,false)]),
 (67,Ak 6 48 [nB .u64,nB .i64,nB .i64,nB .i64,nB .u64,nB .u64] [(0,1,false),(1,1,false),(2,1,false),(3,1,false),(4,1,false),(5,1,false)]),
 (71,Tu .u32 4),
 (83,Ak 4 32 [nB .i64,nB .i64,nB .i64,nB .u64] [(0,1,false),(1,1,false),(2,1,false),(3,1,false)]),
 (84,Ak 4 32 [nB .i64,nB .i64,nB .i64,nB .u64] [(0,1,false),(1,1,false),(2,1,false),(3,1,false)]),
 (97,Ak 3 24 [nB .i64,nB .i64,nB .i64] [(0,1,false),(1,1,false),(2,1,false)]),
 (98,Ak 3 24 [nB .i64,nB .i64,nB .i64] [(0,1,false),(1,1,false),(2,1,false)]),
 (107,Ak 2 16 [nB .i64,.bool false] [(0,1,false),(1,1,false)]),
 (108,Ak 2 16 [nB .i64,.bool false] [(0,1,false),(1,1,false)]),
 (122,Tu .i64 8),
 (127,{ size:=1,bytes:=8,zero:=[Value.nilFunc],kind:=TK.other }),
 (128,Ak 2 16 [nB .i64,Value.nilFunc] [(0,1,false),(1,1,false)]),
 (129,Ak 2 16 [nB .i64,Value.nilFunc] [(0,1,false),(1,1,false)]),
 (139,Tu .u64 8),
 (164,Tu .i64 8),
 (178,bDE 71),
 (179,Ak 2 32 [.bool false,.slice none 0 0] [(0,1,false),(1,1,false)]),
 (180,Ak 2 32 [.bool false,.slice none 0 0] [(0,1,false),(1,1,false)]),
 (191,Ak 0 0 [] []),
 (192,Ak 0 0 [] []),
 (196,Ak 1 1 [.bool false] [(0,1,false)]),
 (197,Ak 1 1 [.bool false] [(0,1,false)]),
 (199,Ak 1 1 [.bool false] [(0,1,false)]),
 (200,Ak 3 40 [.bool false,.slice none 0 0,nB .i64] [(0,3,true)]),
 (201,Ak 3 40 [.bool false,.slice none 0 0,nB .i64] [(0,3,true)]),
 (211,Tu .i64 8),
 (218,bDE 29),
 (223,bDE 44),
 (241,{ size:=64,bytes:=64,zero:=(cDH 64 (nB .u8)),kind:=TK.arr 64 1 false }),
 (295,{ size:=1,bytes:=16,zero:=[Value.nilIface],kind:=TK.other }),
 (298,{ size:=4,bytes:=96,zero:=[.slice none 0 0,.slice none 0 0,.slice none 0 0,.slice none 0 0],kind:=TK.arr 4 1 false }),
 (311,{ size:=0,bytes:=0,zero:=[],kind:=TK.arr 0 1 false }),
 (312,Ak 0 0 [] [(0,0,true)]),
 (313,Ak 0 0 [] [(0,0,true)]),
 (315,Tu .u8 1),
 (316,Tu .u8 1),
 (319,Tu .i32 4),
 (320,Tu .i32 4),
 (321,Ak 11 48 [nB .u64,nB .u64,nB .u32,nB .u8,nB .u8,nB .u8,nB .u8,Value.nilFunc,.pointer none,nB .i32,nB .i32] [(0,1,false),(1,1,false),(2,1,false),(3,1,false),(4,1,false),(5,1,false),(6,1,false),(7,1,false),(8,1,false),(9,1,false),(10,1,false)]),
 (322,Ak 11 48 [nB .u64,nB .u64,nB .u32,nB .u8,nB .u8,nB .u8,nB .u8,Value.nilFunc,.pointer none,nB .i32,nB .i32] [(0,1,false),(1,1,false),(2,1,false),(3,1,false),(4,1,false),(5,1,false),(6,1,false),(7,1,false),(8,1,false),(9,1,false),(10,1,false)])]
theorem tN:pK prog (tlook Mi):=aSY Mi (by kernel_rfl) (by kernel_rfl) (by kernel_rfl)
def ext:FuncId->List Value->Option (Prop×List Value):=(aGY 148 bBI (aGY 146 gAdd aGX))
theorem pJ:aHT prog ext:=(Zl (Zm (P:=prog) (f:=148) (fn:=f148) (e:=yV) func148 rfl rfl (by kernel_rfl) (by kernel_rfl)) aVH (Zl (Zm (P:=prog) (f:=146) (fn:=f146) (e:=add64Entry) func146 rfl rfl (by kernel_rfl) (by kernel_rfl)) aVI aDE))
def globs(g:Nat):Option (IntKind×List Int):=bif cBF g 0 then some (.u8,[0,1,56,2,57,49,28,3,61,58,42,50,38,29,17,4,62,47,59,36,45,43,51,22,53,39,33,30,24,18,12,5,63,55,48,27,60,41,37,16,46,35,44,21,52,32,23,11,54,26,40,15,34,20,31,10,25,14,19,9,13,8,7,6])else(none)
def base:Env:={ T:=tlook Mi,C:=fun _ _=>none,ext:=ext,glob:=globs,nt:=0,own:=[],keep:=fun _=>[],roll:=fun _=>none,cut:=fun _=>none }
theorem mixed:prog.follows .mixedOrders=true:=by kernel_rfl
abbrev OK(n:Nat)(o:dJ):Prop:=mN prog base.glob n o
theorem eB(E:Env)(c:Code){n:FuncId}{f:Func}{t:List (Nat×dJ)}(h:∀p∈t,mN prog base.glob p.1 p.2)(hf:prog.funcs[n]?=some f)(hb:f.body=some c:=by exact rfl)(hn:(f.name== "runtime.NumGoroutine")=false:=by exact rfl)(hE:E={ base with C:=callsOf t,nt:=f.ntmps,own:=E.own,keep:=E.keep,cut:=E.cut,wide:=E.wide }:=by exact rfl):uR prog E n f c:=by
 have hg:E.glob=base.glob:=by rw[hE]
 exact aJJ (by rw[hE];exact tN) mixed (nJ t (by rw[hE]) (by rw[hg];exact h) (by rw[hE];exact pJ) (by rw[hE];rfl)) hf hb (by rw[hE]) hn (by rw[hE];rfl)
abbrev uD:TypeId:=71
abbrev gX:TypeId:=22
end W
namespace AI
open Go Go.RowKit
theorem Contract.bVB{P:Program}{G:Nat->Option (IntKind×List Int)}{f:FuncId}{d d' e e' g g' k k' l l':D}{rs:List D}(h:Contract P G f [d',e',g',k',l'] rs)(hd:El d d')(he:El e e')(hg:El g g')(hk:El k k')(hl:El l l'):Contract P G f [d,e,g,k,l] rs :=
 h.of rfl fun i x x' hx Ae=>by
  match i with
  |0=>simp at hx Ae;subst hx;subst Ae;exact hd
  |1=>simp at hx Ae;subst hx;subst Ae;exact he
  |2=>simp at hx Ae;subst hx;subst Ae;exact hg
  |3=>simp at hx Ae;subst hx;subst Ae;exact hk
  |4=>simp at hx Ae;subst hx;subst Ae;exact hl
  |i+5=>simp at hx
def orc5{α β γ δ ε:Type}(p:mJ α)(q:mJ β)(r:mJ γ)(s:mJ δ)(t:mJ ε)(f:α->β->γ->δ->ε->Prop×List D):dJ
 | [a,b,c,d,e]=>match p.get a,q.get b,r.get c,s.get d,t.get e with
  |some x,some y,some z,some u,some v=>some (f x y z u v)
  |_,_,_,_,_=>none
 |_=>none
variable {P:Program} {E:Env} {f:FuncId} {fn:Func} {c:Code}
theorem uR.bLL{α β γ δ ε:Type}(h:uR P E f fn c){p:mJ α}{p':mJ β}{Ui:mJ γ}{p3:mJ δ}{p4:mJ ε}{g:α->β->γ->δ->ε->Prop×List D}(hn:cBH 5 fn.ntmps=true)(hs:∀x y z u v,(g x y z u v).1->aF E fn c [p.put x,p'.put y,Ui.put z,p3.put u,p4.put v]=some (g x y z u v).2):mN P E.glob f (orc5 p p' Ui p3 p4 g):=by
 intro ds q rs hd hg;unfold orc5 at hd;split at hd
 ·split at hd
  ·rename_i x y z u v hx hy hz hu hv;have hd:=Option.some.inj hd;have e1:q=(g x y z u v).1:=by rw[hd]
   have e2:rs=(g x y z u v).2:=by rw[hd]
   subst e1;subst e2;exact⟨(fn_contract (ds:=[p.put x,p'.put y,Ui.put z,p3.put u,p4.put v]) h.ty h.calls h.mix h.fnc h.body h.nt h.io (cDC hn) (hs x y z u v hg)).bVB (p.le hx) (p'.le hy) (Ui.le hz) (p3.le hu) (p4.le hv),h.has⟩
  ·cases hd
 ·cases hd
end AI
namespace M
open Go AI
def wv(x:Bool×List Int):Int:=zs x.1 (M6.val x.2)
def iE(x:Bool×List Int):Prop:=M6.cG x.2/\(x.1=true->M6.val x.2≠0)/\x.2.length<=8192
def wD(z:Int):D:=.agg [.sc (.bool (isNeg z)),.ints .u64 (M6.dg z.natAbs)]
def fit(n:Nat):Bool:=decide (bl n<=524288)
theorem jB(x:Bool×List Int):(wv x).natAbs=M6.val x.2:=kR _ _
theorem Tt{x:Bool×List Int}(h:x.1=true):wv x=-(M6.val x.2:Int):=by unfold wv zs;rw[h];rfl
theorem Hm{x:Bool×List Int}(h:x.1=false):wv x=(M6.val x.2:Int):=by unfold wv zs;rw[h];rfl
theorem iE.cells{x:Bool×List Int}(h:iE x):isNeg (wv x)=x.1/\M6.dg (wv x).natAbs=x.2:=by
 obtain⟨h1,h2,h3⟩:=h;unfold wv;rw[Hl,kR,<-h1];refine⟨?_,rfl⟩;cases hx:x.1 with
 |false=>rfl
 |true=>rw[decide_eq_true (h2 hx)];rfl
theorem iE.len{x:Bool×List Int}(h:iE x):x.2.length<=8192:=h.2.2
theorem bEM(b:Bool)(n:Nat):wD (zs b n)=.agg [.sc (.bool (b&&decide (n≠0))),.ints .u64 (M6.dg n)]:=by
 unfold wD;rw[Hl,kR]
theorem oI(z:Int):wv (isNeg z,M6.dg z.natAbs)=z:=by
 unfold wv zs;simp only[M6.bD];cases h:isNeg z with
 |true=>have:=lT.1 h;simp only[cond_true];omega
 |false=>have:=iH.1 h;simp only[cond_false];omega
theorem gN{z:Int}(h:bl z.natAbs<=524288):iE (isNeg z,M6.dg z.natAbs):=by
 refine⟨M6.aY _,fun hn=>?_,fZ (k:=8192) (by omega)⟩;rw[M6.bD];have:=lT.1 hn;omega
theorem aDR{n:Nat}(h:(M6.dg n).length<=8192):bl n<=524288:=by
 have:=zP (M6.gH n) h;rw[M6.bD]at this;omega
theorem iE.bl{x:Bool×List Int}(h:iE x):bl (M6.val x.2)<=524288:=by
 have:=zP h.1.jE h.len;omega
def wE(ok:Bool)(z:Int):List D:=[wD (bif ok then z else 0),.s (.sc (.int .i64 (bif ok then 0 else 5)))]
theorem Kv(neg ok:Bool)(n:Nat):[D.agg [.sc (.bool (isNeg (bif (bif ok then(0:Int)else 5)==0 then zs neg (M6.val (bif ok then M6.dg n else []))else 0))),.ints .u64 (M6.dg (bif (bif ok then(0:Int)else 5)==0 then zs neg (M6.val (bif ok then M6.dg n else []))else 0).natAbs)],D.s (.sc (.int .i64 (bif ok then 0 else 5)))]=wE ok (zs neg n):=by
 cases ok with
 |true=>rw[cond_true,cond_true,show((0:Int)==0)=true from rfl,cond_true,M6.bD];rfl
 |false=>rfl
theorem Lo{ok:Bool}{n:Nat}(h:ok=true->bl n<=524288):M6.cG (bif ok then M6.dg n else [])/\(bif ok then M6.dg n else []).length<=1099511627776:=by
 cases ok with
 |true=>have:=fZ (n:=n) (k:=8192) (by have:=h rfl;omega);exact⟨M6.aY _,by rw[cond_true];omega⟩
 |false=>exact⟨M6.Lm,by simp⟩
theorem De{n:Nat}:decide ((M6.dg n).length<=8192)=fit n:=by
 unfold fit
 by_cases h:bl n<=524288
 ·rw[decide_eq_true h,decide_eq_true (fZ (k:=8192) (by omega))]
 ·rw[decide_eq_false h,decide_eq_false (fun hl=>h (aDR hl))]
theorem zH{n:Nat}(h:fit n=true):bl n<=524288:=of_decide_eq_true h
end M
namespace M
open Go AI
abbrev gW:=Bool×List Int×Int
def aU(x:gW):Prop:=iE (x.1,x.2.1)/\(-1048576<=x.2.2/\x.2.2<=1048576)/\(M6.val x.2.1=0->x.2.2=0)/\(M6.val x.2.1≠0->M6.val x.2.1%2=1)
def dv(x:gW):Int×Int:=(wv (x.1,x.2.1),x.2.2)
def dD(p:Int×Int):D:=.agg [.sc (.bool (isNeg p.1)),.ints .u64 (M6.dg p.1.natAbs),.sc (.int .i64 p.2)]
def dE(ok:Bool)(p:Int×Int):List D:=[dD (bif ok then p else(0,0)),.s (.sc (.int .i64 (bif ok then 0 else 5)))]
def aR(z e:Int):Int×Int:=if z=0 then(0,0)else(z/((2^tz z.natAbs:Nat):Int),e+(tz z.natAbs:Nat))
def iQ(z e:Int):Bool:=decide (z=0)||(decide (-1048576<=e+(tz z.natAbs:Nat))&&decide (e+(tz z.natAbs:Nat)<=1048576))
theorem aU.Fo{x:gW}(h:aU x):iE (x.1,x.2.1):=h.1
theorem aU.len{x:gW}(h:aU x):x.2.1.length<=8192:=h.1.len
theorem aU.Kk{x:gW}(h:aU x):M6.cG x.2.1:=h.1.1
theorem aU.dD{x:gW}(h:aU x):M.dD (dv x)=.agg [.sc (.bool x.1),.ints .u64 x.2.1,.sc (.int .i64 x.2.2)]:=by
 have:=h.Fo.cells;unfold M.dD dv;dsimp only at *;rw[this.1,this.2]
theorem Cv{b:Bool}{n:Nat}:zs b n=0↔n=0:=by
 have:=kR b n;omega
theorem aLM{b:Bool}{n q:Nat}(hq:0<q)(h:n%q=0):zs b n/(q:Int)=zs b (n/q):=by
 have hd:=cGK n q;have e:n=q*(n/q):=by omega
 cases b with
 |false =>
  show((n:Nat):Int)/(q:Int)=((n/q:Nat):Int);rw[cGU]
 |true =>
  show -(n:Int)/(q:Int)=-((n/q:Nat):Int);have e1:-(n:Int)=(q:Int)*(-((n/q:Nat):Int)):=by rw[Int.mul_neg,<-cHC,<-e]
  rw[e1,Int.mul_ediv_cancel_left _ (by omega)]
theorem Dz{n:Nat}(h:n≠0):tz n<bl n:=by
 have h1:=Jp h;exact sL.2 h1
def kT(p:Int×Int):Prop:=bl p.1.natAbs<=524288/\(-1048576<=p.2/\p.2<=1048576)/\(p.1=0->p.2=0)/\(p.1≠0->p.1%2=1)
theorem dY(p:Int×Int):dv (isNeg p.1,M6.dg p.1.natAbs,p.2)=p:=by
 unfold dv;dsimp only;rw[oI]
theorem dV{p:Int×Int}(h:kT p):aU (isNeg p.1,M6.dg p.1.natAbs,p.2):=by
 obtain⟨h1,h2,h3,h4⟩:=h;refine⟨gN h1,h2,fun hz=>h3 ?_,fun hz=>?_⟩
 ·dsimp only at hz;rw[M6.bD]at hz;omega
 ·dsimp only at hz ⊢;rw[M6.bD]at hz ⊢;have:=h4 (by omega);omega
theorem aU.xF{x:gW}(h:aU x):kT (dv x):=by
 obtain⟨h1,h2,h3,h4⟩:=h;have ha:=jB (x.1,x.2.1);dsimp only at ha;refine⟨?_,h2,fun hz=>h3 ?_,fun hz=>?_⟩
 ·show bl (wv _).natAbs<=_;rw[ha];exact h1.bl
 ·have hz:wv (x.1,x.2.1)=0:=hz;omega
 ·have hz:wv (x.1,x.2.1)≠0:=hz;have:=h4 (by omega);show wv (x.1,x.2.1)%2=1;omega
theorem kT.neg{p:Int×Int}(h:kT p):kT (-p.1,p.2):=by
 obtain⟨h1,h2,h3,h4⟩:=h;refine⟨by dsimp only;rwa [cHY],h2,fun hz=>h3 (by dsimp only at hz;omega),fun hz=>?_⟩;have:=h4 (by dsimp only at hz;omega);dsimp only;omega
theorem cAB{z:Int}{m n:Nat}(hm:bl z.natAbs<=m)(hn:bl z.natAbs<=n):z/((2^m:Nat):Int)=z/((2^n:Nat):Int):=by
 have one:∀k,bl z.natAbs<=k->z/((2^k:Nat):Int)=if z<0 then -1 else 0:=by
  intro k hk;have h:=dK.1 hk;have hp:0<2^k:=cEE (by decide);generalize 2^k=q at *
  by_cases hz:z<0
  ·rw[if_pos hz];have e:z=(q+z)+(q:Int)*(-1):=by omega
   rw[e,Int.add_mul_ediv_left _ _ (by omega),cIW (by omega) (by omega)];rfl
  ·rw[if_neg hz,cIW (by omega) (by omega)]
 rw[one m hm,one n hn]
theorem tJ{z:Int}{q:Nat}(hq:0<q):(z/(q:Int)).natAbs<=z.natAbs:=by
 have h:=Int.mul_ediv_add_emod z (q:Int);have h1:=Int.emod_nonneg z (show(q:Int)≠0 by omega);have h2:=Int.emod_lt_of_pos z (show 0<(q:Int) by omega)
 by_cases hz:0<=z
 ·have h3:0<=z/(q:Int):=Int.ediv_nonneg hz (by omega);have h4:z/(q:Int)<=z:=Int.ediv_le_self _ hz;omega
 ·have h3:z/(q:Int)<0:=Int.ediv_neg_of_neg_of_pos (by omega) (by omega);have h4:(q:Int)*(z/(q:Int)+1)<=1*(z/(q:Int)+1):=Int.mul_le_mul_of_nonpos_right (by omega) (by omega);rw[Int.mul_add]at h4;omega
end M
open Go.Value(int bool slice)
open AI.S(sc ints)
namespace W
open Go AI M
def mE(t:List (Nat×dJ))(n:Nat)(o:List Nat)(k:List (Nat×List Nat))(c:List Nat):Env:={({base with C:=callsOf t})with nt:=n,own:=o,keep:=fun j=>(tlook k j).getD [],cut:=fun j=>bif c.elem j then tlook k j else none}
noncomputable def bd(f:Func):Code:=f.body.getD .skip
def vA(s:S):KV:=(A.v (V.one (L.s s)),none)
def jR(l:List Int):KV:=vA (S.ints .u64 l)
def qK(l:List Int):KV:=vA (S.ints .u32 l)
def bN(n:Int):KV:=vA (S.sc (.int .i64 n))
def dO(n:Int):KV:=vA (S.sc (.int .u64 n))
def rY(b:Bool):KV:=vA (S.sc (.bool b))
def dS(i e:Nat)(c:List S):KV:=(A.v (V.one (L.ptr i 0)),some ⟨e,.cells c⟩)
def cP(n:Int):S:=S.sc (.int .i64 n)
def rN(n:Int):S:=S.sc (.int .u64 n)
def dG(b:Bool):S:=S.sc (.bool b)
def gO(l:List Int):S:=S.ints .u64 l
def aYN(l:List Int):S:=S.ints .u32 l
def Dq(i n e:Nat)(l:List Int):KV:=(A.v (V.one (L.buf i n)),some ⟨e,.ints .u64 l⟩)
abbrev iU{α:Type}(E:Env)(f:Func)(c:Code)(p:mJ α)(g:α→Prop×List D):Prop:=∀x,(g x).1→aF E f c [p.put x]=some (g x).2
abbrev fL{α β:Type}(E:Env)(f:Func)(c:Code)(p:mJ α)(q:mJ β)(g:α→β→Prop×List D):Prop:=∀x y,(g x y).1→aF E f c [p.put x,q.put y]=some (g x y).2
abbrev oO{α β γ:Type}(E:Env)(f:Func)(c:Code)(p:mJ α)(q:mJ β)(r:mJ γ)(g:α→β→γ→Prop×List D):Prop:=∀x y z,(g x y z).1→aF E f c [p.put x,q.put y,r.put z]=some (g x y z).2
abbrev Rr{α β γ δ:Type}(E:Env)(f:Func)(c:Code)(p:mJ α)(q:mJ β)(r:mJ γ)(t:mJ δ)(g:α→β→γ→δ→Prop×List D):Prop:=∀x y z u,(g x y z u).1→aF E f c [p.put x,q.put y,r.put z,t.put u]=some (g x y z u).2
abbrev aRI{α:Type}(E:Env)(f:Func)(c:Code)(p:mJ α)(g:α→Prop×List D):Prop:=∀x,(g x).1→∃rs,aF E f c [p.put x]=some rs∧iZ rs (g x).2
abbrev Rq{α β:Type}(E:Env)(f:Func)(c:Code)(p:mJ α)(q:mJ β)(g:α→β→Prop×List D):Prop:=∀x y,(g x y).1→∃rs,aF E f c [p.put x,q.put y]=some rs∧iZ rs (g x y).2
abbrev bCK{α β γ:Type}(E:Env)(f:Func)(c:Code)(p:mJ α)(q:mJ β)(r:mJ γ)(g:α→β→γ→Prop×List D):Prop:=∀x y z,(g x y z).1→∃rs,aF E f c [p.put x,q.put y,r.put z]=some rs∧iZ rs (g x y z).2
abbrev Ab:=pG (.pair sB (.pair (sI .u64) (.pair (sN .i64) (.pair sB (.pair (sI .u64) (sN .i64))))))
abbrev kF:=pG (.pair sB (.pair (sI .u64) (sN .i64)))
abbrev Fl:=pG (.pair sB (sI .u32))
abbrev pV:=pG (.pair sB (sI .u64))
namespace iI
def E:=mE [] 20 [] [] []
def aE:=bd f144
theorem aT:Nk E aE:=nk
theorem start a:aF E f144 aE [D.s (ints u64 a)]=letI A:=(a.length:Int);letI B:=A-(1:Int);aB (decide (A<=(8192:Int))) (aB (A==(0:Int)) (some [D.s (sc (bool true))]) (if 0<=i64.wrap B/\i64.wrap B<A then some [D.s (sc (bool (a.getD (i64.wrap B).toNat 0 !=(0:Int))))]else none)) (some [D.s (sc (bool false))]):=eJ aT
def qI(a:List Int):Bool:=decide (a.length<=8192)&&(a.length==0||a.getD (a.length-1) 0 !=0)
theorem oV{a:List Int}(h:M6.cG a)(hl:a.length<=8192):qI a=true:=by
 unfold qI;rw[decide_eq_true hl,cEG]
 by_cases hz:a.length=0
 ·simp[hz]
 ·have:=M6.getLast_take (a:=a) (n:=a.length-1) (by omega);rw[show a.length-1+1=a.length from by omega,cHZ]at this;have:=h.top this;have e1:(a.getD (a.length-1) 0 !=0)=true:=by simpa using this
  rw[e1,cHD]
def sp(a:List Int):Prop×List D:=(a.length<=1099511627776,[.s (.sc (.bool (qI a)))])
theorem spec:iU E f144 aE (pI .u64) sp:=by
 intro a h;have hl:a.length<=1099511627776:=h;refine(start a).trans ?_;show _=some [D.s (.sc (.bool (qI a)))];unfold qI
 by_cases h1:a.length<=8192
 ·rw[aN,decide_eq_true h1,cEG]
  by_cases hz:a.length=0
  ·rw[bI];simp[hz]
  ·have e:((a.length:Int)-1).toNat=a.length-1:=by omega
   rw[bA,wrap_i64 (n:=(a.length:Int)-1),aQ,e];simp[hz]
 ·rw[aL,decide_eq_false h1];rfl
def aI:dJ:=orc1 (pI .u64) sp
theorem ok:OK 144 aI:=(eB E aE aC func144).oS rfl spec
end iI
namespace fV
def E:=mE [(144,iI.aI)] 17 [] [] []
def aE:=bd f96
theorem aT:Nk E aE:=nk
theorem start a b:aF E f96 aE [D.agg [sc (bool a),ints u64 b]]=aM (b.length<=1099511627776) (aB (iI.qI b) (aB a (some [D.s (sc (bool !(b.length:Int)==(0:Int)))]) (some [D.s (sc (bool true))])) (some [D.s (sc (bool false))])):=eJ aT
def oZ(x:Bool×List Int):Bool:=iI.qI x.2&&!(x.1&&((x.2.length:Int)==0))
theorem mD{x:Bool×List Int}(h:iE x):oZ x=true:=by
 unfold oZ;rw[iI.oV h.1 h.len,cEG];cases hx:x.1 with
 |false=>rfl
 |true =>
  have:=h.2.1 hx;have hz:x.2.length≠0:=fun hl=>this ((M6.cZ h.1).1 hl)
  rw[cEG,beq_eq_false_iff_ne.2 (by omega)];rfl
def sp(x:Bool×List Int):Prop×List D:=(x.2.length<=1099511627776,[.s (.sc (.bool (oZ x)))])
theorem spec:iU E f96 aE pV sp:=by
 intro x h;have hl:x.2.length<=1099511627776:=h;refine(start x.1 x.2).trans ?_;show _=some [D.s (.sc (.bool (oZ x)))];unfold oZ;rw[gP hl];cases iI.qI x.2 with
 |false=>rfl
 |true=>cases x.1 <;> rfl
def aI:dJ:=orc1 pV sp
theorem ok:OK 96 aI:=(eB E aE (aA iI.ok aC) func96).oS rfl spec
end fV
namespace nN
def E:=mE [] 8 [] [] []
def aE:=bd f46
theorem aT:Nk E aE:=nk
theorem start a b c:aF E f46 aE [D.agg [sc (bool a),ints u64 b,sc (int i64 c)]]=some [D.s (sc (bool ((b.length:Int)==(0:Int))))]:=eJ aT
def sp(x:gW):Prop×List D:=(True,[.s (.sc (.bool ((x.2.1.length:Int)==0)))])
theorem spec:iU E f46 aE kF sp:=fun x h=>start x.1 x.2.1 x.2.2
def aI:dJ:=orc1 kF sp
theorem ok:OK 46 aI:=(eB E aE aC func46).oS rfl spec
end nN
namespace nA
def E:=mE [(96,fV.aI),(46,nN.aI)] 29 [] [(3,[1])] [3]
def aE:=bd f45
theorem aT:Nk E aE:=nk
def J3 a b c:=lP E f45 aE 3 [dS 0 29 [dG a,gO b,cP c]]
theorem start a b c:aF E f45 aE [D.agg [sc (bool a),ints u64 b,sc (int i64 c)]]=letI A:=some [D.s (sc (bool false))];aM (b.length<=1099511627776) (aB (!fV.oZ (a,b)) A (aB (decide (c<(-1048576:Int))) A (aB (decide (1048576<c)) A (nA.J3 a b c)))):=eJ aT
theorem iB a b c:J3 a b c=aM True (aB ((b.length:Int)==(0:Int)) (some [D.s (sc (bool (c==0)))]) (if(0:Int)<=(0:Int)/\0<(b.length:Int)then some [D.s (sc (bool (fO BinOp.and u64 (b.getD 0 0) 1==(1:Int))))]else none)):=cJ aT
def sp(x:gW):Prop×List D:=(aU x,[.s (.sc (.bool true))])
theorem aUA{a:List Int}(h:M6.cG a)(hv:M6.val a%2=1):fO .and .u64 (a.getD 0 0) 1=1:=by
 have g:=h.jE.get 0;rw[aAK g.1 g.2 (by omega) (by omega)];have e:M6.val a=(a.getD 0 0).toNat+18446744073709551616*M6.val (a.drop 1):=by
  have:=M6.iL (a:=a) 0;rwa [cHL]at this
 have e1:(a.getD 0 0).toNat &&& (1:Int).toNat=(a.getD 0 0).toNat%2:=Nat.and_one_is_mod _;rw[e1];omega
theorem spec:iU E f45 aE kF sp:=by
 intro x h;have h:aU x:=h;have hl:=h.len;have hf:=fV.mD h.Fo;have hn:=h.Kk;obtain⟨b,a,e⟩:=x;obtain⟨hw,he,h0,h1⟩:=h;refine(start b a e).trans ?_
 try dsimp only at *
 unfold sp
 try dsimp only
 rw[gP,hf,cDE,bF,aL,aL,iB,gP trivial]
 try dsimp only
 by_cases hz:a.length=0
 ·rw[bI,h0 ((M6.cZ hn).1 hz)];rfl
 ·rw[bA,if_pos ⟨by omega,by omega⟩,aUA hn (h1 (fun hv=>hz ((M6.cZ hn).2 hv)))];rfl
def aI:dJ:=orc1 kF sp
theorem ok:OK 45 aI:=(eB E aE (aA fV.ok (aA nN.ok aC)) func45).oS rfl spec
end nA
namespace Clone
def Qt:Go.Shelf.Ren:=⟨fun |41=>97 |n=>n,fun |22=>25 |23=>22 |4=>4 |n=>n,fun |n=>n⟩
theorem Il:Go.Proofs.SlLaysE0.n41 prog Qt:={
 mixed:=by kernel_rfl
 f41:=⟨f97.name,by decide,func97.trans (congrArg some (by kernel_rfl))⟩
 t4:=Tryz.underlying4
 a4:=Tryz.isAgg4
 z4:=Tryz.sizeOf4
 v4:=Tryz.zeroValue4
 t22:=Tryz.underlying25
 a22:=Tryz.isAgg25
 z22:=Tryz.sizeOf25
 v22:=Tryz.zeroValue25 }
def sp(a:List Int):Prop×List D:=(a.length<=1099511627776,[.s (.ints .u64 a)])
section
open Go.Shelf Go.RowKit Go.Lib
set_option maxHeartbeats 2000000
set_option maxRecDepth 100000
theorem zero{P:Program}{ρ:Ren}(L:SlLaysE0.n41 P ρ)(i0:TypeInfo)(z:Value)(bytes:Nat)(hi:P.info? (ρ.t 23)=some i0)(aIR:i0.zero=some z)(bDH:i0.size=1)(aOG:i0.bytes=bytes)(aGJ:z.cells.size=1)
  (z23:∀w,(Go.sizeOf (ρ.t 23)).run P w=.ok 1 w) (a:Addr) (c:Nat) (w:World) :
  Calls P (ρ.f 41) #[.slice (some a) 0 c] w fun e w'=>∃v',e=.returned v'/\w'.ownsRow w.heap.size (ρ.t 23) 1 v' 0 []/\Below w.heap.size w w':=by
 have mixed:=L.mixed;have t4:=L.t4;have a4:=L.a4;have z4:=L.z4;have v4:=L.v4;have t22:=L.t22;have a22:=L.a22;have z22:=L.z22;have v22:=L.v22;have q22:∀(w:World) (a:Option Addr) (n c n' c':Nat),(binOp .eql (ρ.t 22) (.slice a n c) (.slice none n' c')).run P w=.ok (.bool a.isNone) w:=fun w a n c n' c'=>Lib.run_eql_slice_nil w _ _ a n c n' c' L.t22
 have u22:∀w,Sem.run P (underlying (ρ.t 22)) w=.ok (TypeDesc.slice (ρ.t 23)) w:=run_underlying t22;obtain⟨_,_,FG⟩:=L.f41
 go_enter FG,SlBodyN.n41_ntmps ρ
 go_wp2_with (at_builtin;refine wpList_append_own _ rfl _ _ (ρ.t 22) rfl w.heap.size (ρ.t 23) i0 z 1 bytes t22 hi aIR bDH aOG aGJ (by decide) _ _ _ rfl (World.ownsRow_made w #[] 0 (cBE _) (cHH _) (by simp)) a 0 c [] rfl rfl (by intro j u hj;simp at hj) (by intro u hu;cases hu) (by unfold maxLen;omega) (by omega) (by simp) ?_)
 intro v' w1 uK bHB bGM
 go_wp2
 go_ret
 exact⟨v',rfl,by simpa using uK,((Below.refl _ w).alloc (cBE _) _).grown bHB (by simp) (by intro k hk;simp[Value.ownBlock]at hk;omega)⟩
end
theorem aNK{X:Nat->Prop}{w:World}{base:Nat}{e:TypeId}{v:Value}{a:List Int}(hX:∀b,X b->b<base)(h:w.ownsRow base e 1 v a.length (a.map (Value.int .u64))):pM X w (.ints .u64 a) v:=by
 obtain⟨_,⟨rfl,h0⟩ |⟨g,cap,cur,rfl,hg,hb,hn,hm,hs,ht⟩⟩:=h
 ·have:a=[]:=List.length_eq_zero_iff.1 h0;subst this;exact⟨none,0,rfl,cBE _,fun i n hn=>by simp at hn⟩
 ·refine⟨some ⟨g,0,none⟩,cap,rfl,hn,fun i n hi=>⟨g,0,rfl,?_,fun hx=>?_,?_⟩⟩
  ·exact(Array.getElem?_eq_some_iff.1 hb).1
  ·have:=hX g hx;omega
  ·have kM:i<a.length:=(List.getElem?_eq_some_iff.1 hi).1;have e1:(cur.toList.take (a.length*1))[i]?=some (Value.int .u64 n):=by
    rw[ht,cBI,hi];rfl
   rw[List.getElem?_take,aQ]at e1;simp only[World.cell?,hb,cBG];simpa using e1
theorem aTX{Y:Nat->Prop}{base:Nat}{w:World}{d:D}{v:Value}(hd:lH d=false)(h:mY Y w d v):Wm Y base w [d] [v]:=by
 refine⟨fun _=>0,rfl,fun i j d1 d2 h1 h2 o1 _ _=>?_,fun i d1 v1 h1 h2=>?_⟩
 ·have:d1=d:=by
   match i with
   |0=>simpa using h1.symm
   |i+1=>simp at h1
  rw[this,hd]at o1;cases o1
 ·have h3:d1=d/\v1=v:=by
   match i with
   |0=>exact⟨by simpa using h1.symm,by simpa using h2.symm⟩
   |i+1=>simp at h1
  obtain⟨rfl,rfl⟩:=h3;have e:(fun b=>Y b\/∃(j:Nat) (d':D),[d1][j]?=some d'/\lH d'=true/\(fun _:Nat=>0) j=b)=Y:=by
   funext b;refine propext ⟨fun hh=>?_,.inl⟩;rcases hh with hh |⟨j,d',h4,h5,_⟩
   ·exact hh
   ·match j with
    |0 =>
     have:d'=d1:=by simpa using h4.symm
     rw[this,hd]at h5;cases h5
    |j+1=>simp at h4
  rw[e];cases d1 with
  |own=>cases hd
  |_=>exact h
theorem aQS(a:List Int)(hl:a.length<=1099511627776):Contract prog base.glob 97 [(pI .u64).put a] [.s (.ints .u64 a)]:=by
 intro Y w vs hY hG hlen hargs;obtain⟨v,rfl⟩:∃v,vs=[v]:=by
  match vs,hlen with
  | [v],_=>exact⟨v,rfl⟩
 obtain⟨A,c,rfl,hc,kV⟩:pM Y w (.ints .u64 a) v:=hargs 0 _ _ rfl rfl;have t1:=tN gX _ rfl;obtain⟨i0,hi,hs,bHM,z,hz,Qw⟩:=t1.i;have z23:=fun w=>t1.run_sizeOf (w:=w)
 have fin:∀(e:Ending) (w':World),(∃v',e=.returned v'/\w'.ownsRow w.heap.size gX 1 v' a.length (a.map (Value.int .u64))/\RowKit.Below w.heap.size w w')->∃vI,e=.returned (resV vI)/\RowKit.Below w.heap.size w w'/\Wm Y w.heap.size w' [.s (.ints .u64 a)] vI:=by
  rintro e w' ⟨v',rfl,ho,hb⟩;exact⟨[v'],rfl,hb,aTX rfl (aNK hY ho)⟩
 have aGJ:z.cells.size=1:=by
  have:=congrArg List.length Qw;simpa using this
 cases A with
 |none =>
  have ha:a=[]:=by
   cases a with
   |nil=>rfl
   |cons x r=>obtain⟨b,off,h1,_⟩:=kV 0 x rfl;cases h1
  subst ha;refine(AnyE.slices_Clone_nil Il 0 c w).mono ?_;rintro e w' ⟨rfl,rfl⟩;exact fin _ _ ⟨_,rfl,⟨rfl,.inl ⟨rfl,rfl⟩⟩,RowKit.Below.refl _ _⟩
 |some ad =>
  cases a with
  |nil =>
   refine(zero Il i0 z _ hi hz hs bHM aGJ z23 ad c w).mono ?_;rintro e w' ⟨v',rfl,ho,hb⟩;exact fin _ _ ⟨v',rfl,ho,hb⟩
  |cons x r =>
   obtain⟨b,off,h1,_⟩:=kV 0 x rfl;cases h1;refine(AnyE.slices_Clone Il i0 z 1 _ hi hz hs bHM aGJ (by decide) z23 b off (x :: r).length c ((x :: r).map (Value.int .u64)) w (by simp) (by unfold maxLen;omega) (by show(x :: r).length*8<=_;omega) ?_ ?_).mono ?_
   ·intro j u hj;rw[cBI]at hj;obtain⟨n,hn,rfl⟩:=Option.map_eq_some_iff.1 hj;obtain⟨b',bFA,h2,_,_,h3⟩:=kV j n hn;cases h2;exact h3
   ·intro u hu;obtain⟨n,_,rfl⟩:=List.mem_map.1 hu;rfl
   ·rintro e w' ⟨v',rfl,ho,_,hb⟩;exact fin _ _ ⟨v',rfl,ho,hb⟩
theorem bON:rB prog 97:=sR func97 rfl rfl
def aI:dJ:=orc1 (pI .u64) sp
theorem ok:mN prog base.glob 97 aI:=by
 intro ds g rs hd hg;unfold aI orc1 at hd;split at hd
 ·split at hd
  ·rename_i x hx;have hd:=Option.some.inj hd;have e1:g=(sp x).1:=by rw[hd]
   have e2:rs=(sp x).2:=by rw[hd]
   subst e1;subst e2;exact⟨(aQS x hg).bLO ((pI .u64).le hx),bON⟩
  ·cases hd
 ·cases hd
end Clone
namespace Hj
def E:=mE [(97,Clone.aI)] 10 [] [] []
def aE:=bd f47
theorem aT:Nk E aE:=nk
theorem start a b c:aF E f47 aE [D.agg [sc (bool a),ints u64 b,sc (int i64 c)]]=aM (b.length<=1099511627776) (some [D.agg [sc (bool a),ints u64 b,sc (int i64 c)]]):=eJ aT
def sp(x:gW):Prop×List D:=(x.2.1.length<=1099511627776,[.agg [.sc (.bool x.1),.ints .u64 x.2.1,.sc (.int .i64 x.2.2)]])
theorem spec:iU E f47 aE kF sp:=fun x h=>(start x.1 x.2.1 x.2.2).trans (gP h)
def aI:dJ:=orc1 kF sp
theorem ok:OK 47 aI:=(eB E aE (aA Clone.ok aC) func47).oS rfl spec
end Hj
namespace Ck
def E:=mE [] 21 [] [(2,[0,3])] []
def aE:=bd f147
theorem aT:Nk E aE:=nk
def L2 a b:=pZ E f147 aE 2 [jR a,bN b]
theorem start a:aF E f147 aE [D.s (ints u64 a)]=Ck.L2 a (a.length:Int):=eJ aT
theorem mK a b:L2 a b=letI B:=(a.length:Int);letI A:=ints u64 (cHA 0 (cGZ b.toNat a));aB (decide (0<b)) (if 0<=i64.wrap (b-1)/\i64.wrap (b-1)<B then aB (a.getD (i64.wrap (b-1)).toNat 0==(0:Int)) (Ck.L2 a (i64.wrap (b-1))) (if(0:Int)<=(0:Int)/\0<=b/\b<=B then some [D.s A]else none)else none) (if(0:Int)<=(0:Int)/\0<=b/\b<=B then some [D.s A]else none):=lJ aT
def sp(a:List Int):Prop×List D:=(M6.bZ a/\a.length<=1099511627776,[.s (.ints .u64 (M6.dg (M6.val a)))])
theorem L{xs:List Int}(hd:M6.bZ xs)(hl:xs.length<=4398046511104):∀n:Nat,n<=xs.length->L2 xs n=some [D.s (.ints .u64 (M6.dg (M6.val (xs.take n))))]
 |0,h=>by
  rw[mK,aL,aQ];simp[M6.val,M6.cB]
 |n+1,h=>by
  rw[mK];have e:i64.wrap (((n+1:Nat):Int)-1)=(n:Int):=by rw[wrap_i64];omega
  rw[e,aN,aQ,cFB]
  by_cases hz:xs.getD n 0=0
  ·rw[bI hz,L hd hl n (by omega),M6.mL (by omega),hz];simp
  ·rw[bA hz,aQ,cFB,cHL];have:M6.cG (xs.take (n+1)):=M6.Be (hd.take _) fun d hg=>by
    rw[M6.getLast_take (by omega)]at hg;cases hg;exact hz
   rw[<-this]
theorem spec:iU E f147 aE (pI .u64) sp:=by
 rintro a ⟨hd,hl⟩;refine(start a).trans ?_;rw[L hd (by omega) a.length (cBE _),cHZ];rfl
def aI:dJ:=orc1 (pI .u64) sp
theorem ok:OK 147 aI:=(eB E aE aC func147).oS rfl spec
end Ck
namespace dM
def E:=mE [(147,Ck.aI)] 10 [5] [] []
def aE:=bd f145
theorem aT:Nk E aE:=nk
theorem start a:aF E f145 aE [D.s (ints u64 a)]=aM (M6.bZ a/\a.length<=1099511627776) (aB (decide (8192<(↑(M6.dg (M6.val a)).length:Int))) (some [D.s (sc (slice none 0 0)),D.s (sc (int i64 5))]) (some [D.s (ints u64 (M6.dg (M6.val a))),D.s (sc (int i64 0))])):=eJ aT
def nT(n:Nat):Bool:=decide ((M6.dg n).length<=8192)
def sp(a:List Int):Prop×List D:=(M6.bZ a/\a.length<=1099511627776,[.s (.ints .u64 (bif nT (M6.val a)then M6.dg (M6.val a)else [])),.s (.sc (.int .i64 (bif nT (M6.val a)then 0 else 5)))])
theorem spec:aRI E f145 aE (pI .u64) sp:=by
 intro a h;have hl:=M6.tG h.1;have h2:=h.2;have e:=(start a).trans (gP h);unfold sp nT;simp only
 by_cases hc:(M6.dg (M6.val a)).length<=8192
 ·rw[aL]at e;rw[decide_eq_true hc];exact⟨_,e,iZ.refl _⟩
 ·rw[aN]at e;rw[decide_eq_false hc];exact⟨_,e,.cons (Ap.nil _) (iZ.refl _)⟩
def aI:dJ:=orc1 (pI .u64) sp
theorem ok:OK 145 aI:=(eB E aE (aA Ck.ok aC) func145).bEK rfl spec
end dM
namespace Cq
def aWU:ByteArray:=⟨((cCR 256).map fun n=>UInt8.ofNat (bl n)).toArray⟩
def E:=mE [] 25 [] [(4,[0,2]),(7,[0,2])] [4,7]
def aE:=bd f137
theorem aT:Nk E aE:=nk
def J4 a b:=lP E f137 aE 4 [dO a,bN b]
def J7 a b:=lP E f137 aE 7 [dO a,bN b]
theorem start a:aF E f137 aE [D.s (sc (int u64 a))]=aB (decide (4294967296<=a)) (Cq.J4 (a/4294967296) 32) (Cq.J4 a 0):=eJ aT
theorem Ek a b:J4 a b=aB (decide (65536<=a)) (Cq.J7 (a/65536) (i64.wrap (b+16))) (Cq.J7 a b):=cJ aT
theorem Pz a b:J7 a b=aB (decide (256<=a)) (if 0<=u8.wrap (a/256)/\u8.wrap (a/256)<256 then some [D.s (sc (int i64 (i64.wrap (i64.wrap (b+8)+i64.wrap (Jq aWU (u8.wrap (a/256)))))))]else none) (if 0<=u8.wrap a/\u8.wrap a<256 then some [D.s (sc (int i64 (i64.wrap (b+i64.wrap (Jq aWU (u8.wrap a))))))]else none):=cJ aT
theorem Ty:(cCR 256).all (fun n=>Jq aWU (n:Nat)==(bl n:Nat))=true:=by kernel_rfl
theorem Tx{x:Int}(h:0<=x)(h':x<256):Jq aWU x=(bl x.toNat:Nat):=by
 have:=List.all_eq_true.1 Ty x.toNat (List.mem_range.2 (by omega));rw[show((x.toNat:Nat):Int)=x from by omega]at this;exact eq_of_beq this
theorem wrap_u8{x:Int}(h:0<=x)(h':x<256):u8.wrap x=x:=by
 show(if(false&&decide (x%256>=128))=true then x%256-256 else x%256)=x;rw[Int.emod_eq_of_lt h h'];simp
theorem wR{x:Int}{k:Nat}(h:(2:Int)^k<=x):bl x.toNat=k+bl (x/2^k).toNat:=by
 have hp:(0:Int)<2^k:=Int.pow_pos (by omega);have bWY:((2^k:Nat):Int)=2^k:=by rw[Int.natCast_pow];rfl
 obtain⟨n,rfl⟩:=cGG (show 0<=x by omega);rw[<-bWY]at h ⊢;rw[<-cGU,cFB,cFB];have h1:=cGK n (2^k);have h2:=cDM n (cEE (n:=k) (show 0<2 by omega));have h3:n/2^k≠0:=by
  intro h0;have:=(Nat.div_eq_zero_iff_lt (cEE (n:=k) (show 0<2 by omega))).1 h0;omega
 have:=Bw h2 h3;rw[show n%2^k+2^k*(n/2^k)=n from by omega]at this;exact this
theorem bTT{x n:Int}(h:0<=x)(h':x<65536)(hn:0<=n)(aIY:n<=1000):J7 x n=some [D.s (.sc (.int .i64 (n+(bl x.toNat:Nat))))]:=by
 rw[Pz]
 by_cases hc:256<=x
 ·have hb:bl (x/256).toNat<=8:=dK.2 (by omega);have hs:=wR (x:=x) (k:=8) (by omega);rw[show((2:Int)^8)=256 from rfl]at hs;rw[aN hc,wrap_u8 (by omega) (by omega),if_pos ⟨by omega,by omega⟩,Tx (by omega) (by omega),wrap_i64 (n:=n+8),wrap_i64 (n:=((bl (x/256).toNat:Nat):Int)) (by omega) (by omega),wrap_i64,hs];congr 5;omega
 ·have hb:bl x.toNat<=8:=dK.2 (by omega);rw[aL hc,wrap_u8 (by omega) (by omega),if_pos ⟨by omega,by omega⟩,Tx (by omega) (by omega),wrap_i64 (n:=(bl x.toNat:Int)),wrap_i64]
theorem bTV{x n:Int}(h:0<=x)(h':x<4294967296)(hn:0<=n)(aIY:n<=500):J4 x n=some [D.s (.sc (.int .i64 (n+(bl x.toNat:Nat))))]:=by
 rw[Ek]
 by_cases hc:65536<=x
 ·have hs:=wR (x:=x) (k:=16) (by omega);rw[show((2:Int)^16)=65536 from rfl]at hs;rw[aN hc,wrap_i64 (n:=n+16),bTT (by omega) (by omega) (by omega) (by omega),hs];congr 5;omega
 ·rw[aL hc,bTT (by omega) (by omega) (by omega) (by omega)]
def sp(a:Int):Prop×List D:=(0<=a/\a<18446744073709551616,[.s (.sc (.int .i64 (bl a.toNat:Nat)))])
theorem spec:iU E f137 aE (pN .u64) sp:=by
 rintro a ⟨h1,h2⟩;refine(start a).trans ?_;show _=some [D.s (.sc (.int .i64 (bl a.toNat:Nat)))]
 by_cases hc:4294967296<=a
 ·have hs:=wR (x:=a) (k:=32) (by omega);rw[show((2:Int)^32)=4294967296 from rfl]at hs;rw[aN hc,bTV (by omega) (by omega) (by omega) (by omega),hs];congr 5
 ·rw[aL hc,bTV (by omega) (by omega) (by omega) (by omega)];congr 5;omega
def aI:dJ:=orc1 (pN .u64) sp
theorem ok:OK 137 aI:=(eB E aE aC func137).oS rfl spec
end Cq
namespace uA
def E:=mE [(147,Ck.aI),(137,Cq.aI)] 21 [] [] []
def aE:=bd f106
theorem aT:Nk E aE:=nk
theorem start a:aF E f106 aE [D.s (ints u64 a)]=letI B:=M6.dg (M6.val a);letI A:=(B.length:Int);letI C:=A-(1:Int);letI F:=i64.wrap C;aM (M6.bZ a/\a.length<=1099511627776) (aB (A==(0:Int)) (some [D.s (sc (int i64 0))]) (if 0<=i64.wrap C/\i64.wrap C<A then aM (0<=B.getD F.toNat 0/\B.getD F.toNat 0<(18446744073709551616:Int)) (some [D.s (sc (int i64 (i64.wrap (i64.wrap ((64:Int)*i64.wrap C)+(↑(bl (B.getD F.toNat 0).toNat):Int)))))])else none)):=eJ aT
def sp(a:List Int):Prop×List D:=(M6.bZ a/\a.length<=1099511627776,[.s (.sc (.int .i64 (bl (M6.val a):Nat)))])
theorem Se(k:Nat):18446744073709551616^k=2^(64*k):=by rw[cHW]
theorem spec:iU E f106 aE (pI .u64) sp:=by
 intro a h;refine(start a).trans ((gP h).trans ?_);show _=some [D.s (.sc (.int .i64 (bl (M6.val a):Nat)))];have hl:=M6.tG h.1;have h2:=h.2;have hn:=M6.aY (M6.val a);have hv:=M6.bD (M6.val a);generalize M6.dg (M6.val a)=d at *;rw[<-hv]
 by_cases hz:d.length=0
 ·rw[bI,(M6.cZ hn).1 hz];rfl
 ·have hd:=hn.jE.get (d.length-1);have hv:=M6.bJ (a:=d) (d.length-1);rw[show d.length-1+1=d.length from by omega,M6.bV (cBE _)]at hv;have ht:d.getD (d.length-1) 0≠0:=by
   have:=M6.getLast_take (a:=d) (n:=d.length-1) (by omega);rw[show d.length-1+1=d.length from by omega,cHZ]at this;exact hn.top this
  have hb:bl (d.getD (d.length-1) 0).toNat<=64:=dK.2 (by omega);have e:((d.length:Int)-1).toNat=d.length-1:=by omega
  rw[bA,wrap_i64 (n:=(d.length:Int)-1),aQ,e,gP hd,wrap_i64 (n:=64*((d.length:Int)-1)),wrap_i64,
   hv,Se,Bw (by rw[<-Se];exact M6.iG hn.jE _) (by omega)]
  congr 5;omega
def aI:dJ:=orc1 (pI .u64) sp
theorem ok:OK 106 aI:=(eB E aE (aA Ck.ok (aA Cq.ok aC)) func106).oS rfl spec
end uA
namespace lR
def E:=mE [(144,iI.aI),(145,dM.aI),(106,uA.aI)] 71 [68] [(12,[0,6,7,8,34,35])] []
def aE:=bd f98
theorem aT:Nk E aE:=nk
def bEG a b c (d:Nat) (e:List Int) f g:=pZ E f98 aE 12 [jR a,bN b,bN c,Dq 3 d 22 e,bN f,bN g]
theorem start a b:aF E f98 aE [D.s (ints u64 a),D.s (sc (int i64 b))]=letI C:=(a.length:Int);letI B:=sc (slice none 0 0);letI A:=i64.wrap (i64.wrap (b.tdiv 64)+C)+1;aB (decide (b<0)) (some [D.s B,D.s (sc (int i64 1))]) (aM (a.length<=1099511627776) (aB (!iI.qI a) (some [D.s B,D.s (sc (int i64 2))]) (aB (C==(0:Int)) (some [D.s B,D.s (sc (int i64 0))]) (aM (M6.bZ a/\a.length<=1099511627776) (aB (decide (i64.wrap ((524288:Int)-(↑(bl (M6.val a)):Int))<b)) (some [D.s B,D.s (sc (int i64 5))]) (if 0<=i64.wrap A/\i64.wrap A<=i64.wrap A/\i64.wrap A<=8796093022208 then lR.bEG a (i64.wrap (b.tdiv 64)) (b.tmod 64) (i64.wrap A).toNat (cDH (i64.wrap A).toNat (0:Int)) C 0 else none)))))):=eJ aT
theorem aRU a b c d e f g:bEG a b c d e f g=letI A:=i64.wrap (b+g)+1;aB (decide (g<f)) (if 0<=i64.wrap (b+g)/\i64.wrap (b+g)<(d:Int)then if 0<=g/\g<(a.length:Int)then if c<0 then none else if 0<=i64.wrap (b+g)/\i64.wrap (b+g)<(d:Int)then if 0<=g/\g<(a.length:Int)then if i64.wrap ((63:Int)-c)<0 then none else if 0<=i64.wrap A/\i64.wrap A<(d:Int)then lR.bEG a b c d ((e.set (i64.wrap (b+g)).toNat (fO BinOp.or u64 (e.getD (i64.wrap (b+g)).toNat 0) (u64.wrap (a.getD g.toNat 0*(↑((2:Nat)^min c.toNat 64):Int))))).set (i64.wrap A).toNat (a.getD g.toNat 0/(2:Int)/(↑((2:Nat)^min (i64.wrap ((63:Int)-c)).toNat 64):Int))) f (i64.wrap (g+1))else none else none else none else none else none) (aM (M6.bZ e/\e.length<=1099511627776) (some [D.s (ints u64 (bif dM.nT (M6.val e)then M6.dg (M6.val e)else [])),D.s (sc (int i64 (bif dM.nT (M6.val e)then(0:Int)else(5:Int))))])):=lJ aT
theorem step{a P:List Int}{c:Int}{q k i r:Nat}(ha:M6.bZ a)(hP:P.length=q+i)(hi:i<a.length)(hl:a.length<=8192)(hq:q<=8192)(hk:k<64)(h0:0<=c)(h1:c<((2^k:Nat):Int))(hr:i+(r+1)=a.length) :
  bEG a q k (q+a.length+1) (P ++ c :: cDH (r+1) 0) a.length i =
   bEG a q k (q+a.length+1) ((P ++ [c+(((a.getD i 0).toNat*2^k%18446744073709551616:Nat):Int)]) ++ (((a.getD i 0).toNat/2^(64-k):Nat):Int) :: cDH r 0) a.length ((i+1:Nat):Int):=by
 have g:=ha.get i;have w1:i64.wrap ((q:Int)+i)=((q+i:Nat):Int):=by rw[wrap_i64];omega
 have w2:i64.wrap (((q+i:Nat):Int)+1)=((q+i+1:Nat):Int):=by rw[wrap_i64];omega
 have w3:i64.wrap (63-(k:Int))=((63-k:Nat):Int):=by rw[wrap_i64];omega
 have m1:min k 64=k:=by omega
 have m2:min (63-k) 64=63-k:=by omega
 have bGC:2^k<2^64:=cHX (by omega) hk;obtain⟨x,hx⟩:=cGG g.1;rw[aRU,aN,w1,if_pos ⟨by omega,by omega⟩,if_pos ⟨by omega,by omega⟩,aO,if_pos ⟨by omega,by omega⟩,if_pos ⟨by omega,by omega⟩,w3,aO,w2,if_pos ⟨by omega,by omega⟩,
  cFB,cFB,cFB,cFB,cFB,m1,m2,Iq hP,Hu hP,wrap_i64 (n:=(i:Int)+1),hx,cFB]
 have aCU:u64.wrap ((x:Int)*((2^k:Nat):Int))=((x*2^k%18446744073709551616:Nat):Int):=by
  rw[fM,<-cHC,cHV];rfl
 have kM:x*2^k%18446744073709551616<18446744073709551616:=cDM _ (by omega);have bGG:fO .or .u64 c ((x*2^k%18446744073709551616:Nat):Int)=c+((x*2^k%18446744073709551616:Nat):Int):=by
  rw[Yg h0 (by generalize 2^k=p at *;omega) (by omega) (by omega),cFB,Ky x k hk,Ic (by omega)];omega
 have aBC:(x:Int)/2/((2^(63-k):Nat):Int)=((x/2^(64-k):Nat):Int):=by
  have e:2^(64-k)=2*2^(63-k):=by rw[show 64-k=(63-k)+1 from by omega,cGD,cGC]
  rw[e,<-cGV,cGU,cGU];rfl
 rw[aCU,bGG,aBC];have hs:=Hu (pre:=P ++ [c+((x*2^k%18446744073709551616:Nat):Int)]) (i:=q+i+1) (by simp[hP]) 0 ((x/2^(64-k):Nat):Int) (cDH r 0);rw[cCZ,cIA,<-cGM]at hs;rw[hs];rfl
theorem L{a:List Int}{q k:Nat}(ha:M6.cG a)(hl:a.length<=8192)(hq:q<=8192)(hk:k<64)(Qm:dM.nT (M6.val a*2^k*18446744073709551616^q)=true):∀(r i:Nat) (P:List Int) (c:Int),i+r=a.length->P.length=q+i->M6.bZ P->0<=c->c<((2^k:Nat):Int) ->
  M6.val P+18446744073709551616^(q+i)*c.toNat=18446744073709551616^q*(M6.val (a.take i)*2^k) ->
  bEG a q k (q+a.length+1) (P ++ c :: cDH r 0) a.length i=some [D.s (.ints .u64 (M6.dg (M6.val a*2^k*18446744073709551616^q))),D.s (.sc (.int .i64 0))]:=by
 intro r;have bGC:2^k<2^64:=cHX (by omega) hk
 induction r with
 |zero =>
  intro i P c hi hP hd h0 h1 hv;have aCN:M6.val (P ++ c :: cDH 0 0)=M6.val a*2^k*18446744073709551616^q:=by
   rw[cHQ,M6.lY,hP,hv,M6.bV (by omega),cGC]
  have aXV:M6.bZ (P ++ c :: cDH 0 0):=by
   rw[cHQ];exact M6.mG hd ⟨h0,by generalize 2^k=p at *;omega⟩
  rw[aRU,aL,gP ⟨aXV,by simp;omega⟩,aCN,Qm];rfl
 |succ r ih =>
  intro i P c hi hP hd h0 h1 hv;have g:=ha.jE.get i;rw[step ha.jE hP (by omega) hl hq hk h0 h1 (by omega)];have kM:(a.getD i 0).toNat*2^k%18446744073709551616<18446744073709551616:=cDM _ (by omega);have aCT:=Ky (a.getD i 0).toNat k hk;have aXO:=Hs (a.getD i 0).toNat k hk;have aBC:(a.getD i 0).toNat/2^(64-k)<2^k:=by
   apply cGY;rw[<-cGE,show 64-k+k=64 from by omega];omega
  have aUO:c.toNat+(a.getD i 0).toNat*2^k%18446744073709551616<18446744073709551616:=by
   rw[aCT];have hm:(a.getD i 0).toNat%2^(64-k)<2^(64-k):=cDM _ (cY);have e:(18446744073709551616:Nat)=2^k*2^(64-k):=by rw[<-cGE,show k+(64-k)=64 from by omega]
   have h3:2^k*((a.getD i 0).toNat%2^(64-k)+1)<=2^k*2^(64-k):=cDS _ hm;rw[<-e,cGF]at h3;omega
  refine ih (i+1) _ _ (by omega) (by simp[hP];omega) (M6.mG hd ⟨by omega,by omega⟩) (by omega) (by omega) ?_;rw[M6.lY,hP,M6.bJ,cFB,show q+(i+1)=(q+i)+1 from by omega,cGD,cGH];have e1:(c+(((a.getD i 0).toNat*2^k%18446744073709551616:Nat):Int)).toNat=c.toNat+(a.getD i 0).toNat*2^k%18446744073709551616:=by omega
  rw[e1];have e2:18446744073709551616^(q+i)*(c.toNat+(a.getD i 0).toNat*2^k%18446744073709551616)+18446744073709551616^(q+i)*(18446744073709551616*((a.getD i 0).toNat/2^(64-k)))=18446744073709551616^(q+i)*c.toNat+18446744073709551616^(q+i)*((a.getD i 0).toNat*2^k):=by
   rw[<-cGF,<-cGF];congr 1;omega
  have e3:18446744073709551616^q*((M6.val (a.take i)+18446744073709551616^i*(a.getD i 0).toNat)*2^k)=18446744073709551616^q*(M6.val (a.take i)*2^k)+18446744073709551616^(q+i)*((a.getD i 0).toNat*2^k):=by
   rw[Nat.add_mul,cGF,cGE,cGH,cGH]
  rw[e3];omega
def kU(n k:Nat):Bool:=decide (n=0)||decide (bl n+k<=524288)
def sp(a:List Int)(n:Int):Prop×List D:=(M6.cG a/\a.length<=8192/\0<=n/\n<4611686018427387904,[.s (.ints .u64 (bif kU (M6.val a) n.toNat then M6.dg (M6.val a*2^n.toNat)else [])),.s (.sc (.int .i64 (bif kU (M6.val a) n.toNat then 0 else 5)))])
theorem spec:Rq E f98 aE (pI .u64) (pN .i64) sp:=by
 rintro a n ⟨ha,hl,h0,h1⟩;have e:=start a n;have hb:=zP ha.jE hl;rw[aL,gP,iI.oV ha hl,cDE,bF]at e;unfold sp kU;simp only
 by_cases hz:a.length=0
 ·have hv:=(M6.cZ ha).1 hz;rw[bI]at e;rw[hv,Nat.zero_mul,M6.cB,decide_eq_true rfl,cGO];exact⟨_,e,.cons (Ap.nil _) (iZ.refl _)⟩
 ·have hv:M6.val a≠0:=fun h=>hz ((M6.cZ ha).2 h)
  rw[bA,gP ⟨ha.jE,by omega⟩,wrap_i64 (n:=524288-(bl (M6.val a):Int))]at e;rw[decide_eq_false hv,cDF]
  by_cases hc:bl (M6.val a)+n.toNat<=524288
  ·have bSR:=qV hv;have eq:n/64=((n.toNat/64:Nat):Int):=by omega
   have ek:n%64=((n.toNat%64:Nat):Int):=by omega
   rw[aL,aMJ h0,aME h0,wrap_i64 (n:=n/64),wrap_i64 (n:=n/64+a.length),wrap_i64,if_pos ⟨by omega,by omega,by omega⟩,eq,ek,
    show(((n.toNat/64:Nat):Int)+(a.length:Int)+1).toNat=n.toNat/64+a.length+1 from by omega]at e
   have hval:M6.val a*2^n.toNat=M6.val a*2^(n.toNat%64)*18446744073709551616^(n.toNat/64):=by
    rw[Nd,cGH,cGC (2^(n.toNat%64))]
   have Qm:dM.nT (M6.val a*2^(n.toNat%64)*18446744073709551616^(n.toNat/64))=true:=by
    rw[<-hval];exact decide_eq_true (fZ (k:=8192) (by rw[cGC,zO hv];omega))
   have:=L (q:=n.toNat/64) (k:=n.toNat%64) ha hl (by omega) (by omega) Qm a.length 0 (cDH (n.toNat/64) 0) 0 (by omega) (by simp) (M6.jH _) (by omega) (by have:=cEE (n:=n.toNat%64) (show 0<2 by omega);omega) (by rw[M6.jG];simp[M6.val]);rw[show(cDH (n.toNat/64) (0:Int) ++ 0 :: cDH a.length 0)=cDH (n.toNat/64+a.length+1) 0 from by rw[<-cGM,List.replicate_append_replicate,cEV]]at this;rw[decide_eq_true hc,hval];exact⟨_,e.trans this,iZ.refl _⟩
  ·rw[aN]at e;rw[decide_eq_false hc];exact⟨_,e,.cons (Ap.nil _) (iZ.refl _)⟩
def aI:dJ:=orc2 (pI .u64) (pN .i64) sp
theorem ok:OK 98 aI:=(eB E aE (aA iI.ok (aA dM.ok (aA uA.ok aC))) func98).aSD rfl spec
end lR
namespace Fi
def E:=mE [] 13 [] [] []
def aE:=bd f105
theorem aT:Nk E aE:=nk
theorem start a b:aF E f105 aE [D.s (sc (bool a)),D.s (ints u64 b)]=aB a (some [D.agg [sc (bool (decide (0<(b.length:Int)))),ints u64 b]]) (some [D.agg [sc (bool false),ints u64 b]]):=eJ aT
def sp(a:Bool)(b:List Int):Prop×List D:=(M6.cG b/\b.length<=1099511627776,[wD (zs a (M6.val b))])
theorem spec:fL E f105 aE pB (pI .u64) sp:=by
 rintro a b ⟨hb,hl⟩;refine(start a b).trans ?_;show _=some [wD (zs a (M6.val b))];rw[bEM,<-hb];cases a with
 |false=>rfl
 |true =>
  rw[bT,cEG];have:=M6.cZ hb
  by_cases hz:b.length=0
  ·rw[decide_eq_false (show ¬(0<(b.length:Int)) by omega),decide_eq_false (show ¬(M6.val b≠0)from fun h=>h (this.1 hz))]
  ·rw[decide_eq_true (show(0<(b.length:Int)) by omega),decide_eq_true (show(M6.val b≠0)from fun h=>hz (this.2 h))]
def aI:dJ:=orc2 pB (pI .u64) sp
theorem ok:OK 105 aI:=(eB E aE aC func105).lF rfl spec
end Fi
namespace Co
def E:=mE [(105,Fi.aI)] 15 [] [] []
def aE:=bd f99
theorem aT:Nk E aE:=nk
theorem start a b c:aF E f99 aE [D.s (sc (bool a)),D.s (ints u64 b),D.s (sc (int i64 c))]=aB (c !=0) (some [D.agg [sc (bool false),sc (slice none 0 0)],D.s (sc (int i64 c))]) (aM (M6.cG b/\b.length<=1099511627776) (some [D.agg [sc (bool (isNeg (zs a (M6.val b)))),ints u64 (M6.dg (zs a (M6.val b)).natAbs)],D.s (sc (int i64 0))])):=eJ aT
def sp(a:Bool)(b:List Int)(c:Int):Prop×List D:=(M6.cG b/\b.length<=1099511627776,[wD (bif c==0 then zs a (M6.val b)else 0),.s (.sc (.int .i64 c))])
theorem spec:bCK E f99 aE pB (pI .u64) (pN .i64) sp:=by
 intro a b c h;have e:=start a b c;have hg:M6.cG b/\b.length<=1099511627776:=h;unfold sp;simp only
 by_cases hc:c=0
 ·subst hc;rw[gD rfl,gP hg]at e;exact⟨_,e,iZ.refl _⟩
 ·rw[nW hc]at e;rw[beq_eq_false_iff_ne.2 hc,cond_false];refine⟨_,e,.cons ?_ (iZ.refl _)⟩;unfold wD;rw[show(0:Int).natAbs=0 from rfl,M6.cB];exact Ap.agg (.cons (Fe.refl _) (.cons (Fe.nil _) .nil))
def aI:dJ:=orc3 pB (pI .u64) (pN .i64) sp
theorem ok:OK 99 aI:=(eB E aE (aA Fi.ok aC) func99).bKX rfl spec
end Co
namespace Cp
def E:=mE [(96,fV.aI),(98,lR.aI),(99,Co.aI)] 29 [26] [] []
def aE:=bd f48
theorem aT:Nk E aE:=nk
theorem start a c b:aF E f48 aE [D.agg [sc (bool a),ints u64 c],D.s (sc (int i64 b))]=letI B:=bif lR.kU (M6.val c) b.toNat then(0:Int)else(5:Int);letI A:=bif lR.kU (M6.val c) b.toNat then M6.dg (M6.val c*(2:Nat)^b.toNat)else [];letI C:=bif B==0 then zs a (M6.val A)else(0:Int);aB (decide (b<0)) (some [D.agg [sc (bool false),sc (slice none 0 0)],D.s (sc (int i64 1))]) (aM (c.length<=1099511627776) (aB (!fV.oZ (a,c)) (some [D.agg [sc (bool false),sc (slice none 0 0)],D.s (sc (int i64 2))]) (aM (M6.cG c/\c.length<=8192/\0<=b/\b<4611686018427387904) (aM (M6.cG A/\A.length<=1099511627776) (some [D.agg [sc (bool (isNeg C)),ints u64 (M6.dg C.natAbs)],D.s (sc (int i64 B))]))))):=eJ aT
theorem Kz(n k:Nat):lR.kU n k=fit (n*2^k):=by
 unfold lR.kU fit
 by_cases h:n=0
 ·subst h;rw[Nat.zero_mul];rfl
 ·rw[decide_eq_false h,cDF,cGC,zO h,cHF]
def sp(x:Bool×List Int)(n:Int):Prop×List D:=(iE x/\0<=n/\n<4611686018427387904,wE (fit (M6.val x.2*2^n.toNat)) (wv x*((2^n.toNat:Nat):Int)))
theorem spec:fL E f48 aE pV (pN .i64) sp:=by
 rintro x n ⟨hx,h0,h1⟩;refine(start x.1 x.2 n).trans ?_;have l1:=hx.len;have f1:=fV.mD hx;obtain⟨p,a⟩:=x;have n1:M6.cG a:=hx.1
 try dsimp only at *
 unfold sp
 try dsimp only
 have hs:wv (p,a)*((2^n.toNat:Nat):Int)=zs p (M6.val a*2^n.toNat):=by
  unfold wv zs;cases p with
  |true=>simp[Int.neg_mul]
  |false=>simp
 rw[aL,gP,f1,cDE,bF,gP ⟨n1,l1,h0,h1⟩,gP (Lo (fun h=>by rw[Kz]at h;exact zH h)),Kv,Kz,hs]
def aI:dJ:=orc2 pV (pN .i64) sp
theorem ok:OK 48 aI:=(eB E aE (aA fV.ok (aA lR.ok (aA Co.ok aC))) func48).lF rfl spec
end Cp
namespace wA
def E:=mE [(144,iI.aI),(145,dM.aI)] 65 [62] [(8,[0,1,6,7,30,31]),(3,[0,1]),(5,[0,1]),(13,[0,1,6,7,8,9,30,31])] [3,5,13]
def aE:=bd f100
theorem aT:Nk E aE:=nk
def J3 a b:=lP E f100 aE 3 [jR a,jR b]
def J5 a b:=lP E f100 aE 5 [jR a,jR b]
def L8 a b (c:Nat) (d:List Int) e f g:=pZ E f100 aE 8 [jR a,jR b,Dq 2 c 22 d,dO e,bN f,bN g]
def Qc a b (c:Nat) (d:List Int) e f g h i:=lP E f100 aE 13 [jR a,jR b,Dq 2 c 22 d,dO e,bN f,dO g,bN h,bN i]
theorem start a b:aF E f100 aE [D.s (ints u64 a),D.s (ints u64 b)]=letI A:=some [D.s (sc (slice none 0 0)),D.s (sc (int i64 2))];aM (a.length<=1099511627776) (aB (!iI.qI a) A (aM (b.length<=1099511627776) (aB (!iI.qI b) A (wA.J3 a b)))):=eJ aT
theorem iB a b:J3 a b=aB (decide ((a.length:Int)<(b.length:Int))) (wA.J5 b a) (wA.J5 a b):=cJ aT
theorem aAV a b:J5 a b=letI A:=(a.length:Int);letI B:=A+(1:Int);if 0<=i64.wrap B/\i64.wrap B<=i64.wrap B/\i64.wrap B<=8796093022208 then wA.L8 a b (i64.wrap B).toNat (cDH (i64.wrap B).toNat (0:Int)) 0 A 0 else none:=cJ aT
theorem Cr a b c d e f g:L8 a b c d e f g=letI B:=(a.length:Int);letI A:=d.set B.toNat e;aB (decide (g<f)) (aB (decide (g<(b.length:Int))) (if 0<=g/\g<(b.length:Int)then wA.Qc a b c d e g (b.getD g.toNat 0) f g else none) (wA.Qc a b c d e g 0 f g)) (if 0<=B/\B<(c:Int)then aM (M6.bZ A/\A.length<=1099511627776) (some [D.s (ints u64 (bif dM.nT (M6.val A)then M6.dg (M6.val A)else [])),D.s (sc (int i64 (bif dM.nT (M6.val A)then(0:Int)else(5:Int))))])else none):=lJ aT
theorem wW a b c d e f g h i:Qc a b c d e f g h i=letI A:=a.getD f.toNat 0+g+e;if 0<=f/\f<(a.length:Int)then aM (0<=a.getD f.toNat 0/\0<=g/\0<=e/\e<=1) (if 0<=f/\f<(c:Int)then wA.L8 a b c (d.set f.toNat (A%18446744073709551616)) (A/18446744073709551616) h (i64.wrap (i+1))else none)else none:=cJ aT
theorem step{a b pre:List Int}{c:Int}{i k:Nat}(ha:M6.bZ a)(hb:M6.bZ b)(hp:pre.length=i)(hi:i<a.length)(hl:a.length<=8192)(h0:0<=c)(h1:c<=1) :
  L8 a b (i+(k+1)) (pre ++ cDH (k+1) 0) c a.length i=L8 a b ((i+1)+k) ((pre ++ [(a.getD i 0+b.getD i 0+c)%18446744073709551616]) ++ cDH k 0) ((a.getD i 0+b.getD i 0+c)/18446744073709551616) a.length ((i+1:Nat):Int):=by
 have g1:=ha.get i;have g2:=hb.get i;have hJ:∀y:Int,0<=y->Qc a b (i+(k+1)) (pre ++ cDH (k+1) 0) c i y a.length i=L8 a b ((i+1)+k) ((pre ++ [(a.getD i 0+y+c)%18446744073709551616]) ++ cDH k 0) ((a.getD i 0+y+c)/18446744073709551616) a.length ((i+1:Nat):Int):=by
  intro y hy;rw[wW,aQ,cFB,gP ⟨g1.1,hy,h0,h1⟩,aQ,Bb hp,wrap_i64,show i+(k+1)=(i+1)+k from by omega];rfl
 rw[Cr,aN]
 by_cases h:i<b.length
 ·rw[aN,aQ,cFB,hJ _ g2.1]
 ·rw[aL,hJ 0 (by omega),M6.getD_none (a:=b) (by omega)]
theorem L{a b:List Int}(ha:M6.bZ a)(hb:M6.bZ b)(hl:a.length<=8192)(aVA:b.length<=a.length):∀(k i:Nat) (pre:List Int) (c:Int),i+k=a.length->pre.length=i->M6.bZ pre->0<=c->c<=1 ->
  M6.val pre+18446744073709551616^i*c.toNat=M6.val (a.take i)+M6.val (b.take i) ->
  L8 a b (i+(k+1)) (pre ++ cDH (k+1) 0) c a.length i=some [D.s (.ints .u64 (bif dM.nT (M6.val a+M6.val b)then M6.dg (M6.val a+M6.val b)else [])),D.s (.sc (.int .i64 (bif dM.nT (M6.val a+M6.val b)then 0 else 5)))]:=by
 intro k
 induction k with
 |zero =>
  intro i pre c hi hp hd h0 h1 hv;have bNS:i=a.length:=by omega
  subst bNS;have hs:(pre ++ cDH (0+1) 0).set a.length c=pre ++ [c]:=by rw[Bb hp];simp
  have aCN:M6.val (pre ++ [c])=M6.val a+M6.val b:=by
   rw[M6.lY,hp,hv,M6.bV (cBE _),M6.bV (by omega)]
  rw[Cr,aL,aQ,cFB,hs,aCN,gP ⟨M6.mG hd (by omega),by simp;omega⟩]
 |succ k ih =>
  intro i pre c hi hp hd h0 h1 hv;have g1:=ha.get i;have g2:=hb.get i;rw[step ha hb hp (by omega) hl h0 h1];refine ih (i+1) _ _ (by omega) (by simp[hp]) (M6.mG hd (by omega)) (by omega) (by omega) ?_;rw[M6.lY,M6.bJ,M6.bJ,hp,cGD,cGH];generalize a.getD i 0=x at *;generalize b.getD i 0=y at *;generalize 18446744073709551616^i=B at *;have e:18446744073709551616*((x+y+c)/18446744073709551616).toNat+((x+y+c)%18446744073709551616).toNat=c.toNat+x.toNat+y.toNat:=by omega
  have e2:B*(18446744073709551616*((x+y+c)/18446744073709551616).toNat)+B*((x+y+c)%18446744073709551616).toNat=B*c.toNat+B*x.toNat+B*y.toNat:=by
   rw[<-cGF,e,cGF,cGF]
  omega
theorem bTU{a b:List Int}(ha:M6.bZ a)(hb:M6.bZ b)(hl:a.length<=8192)(aVA:b.length<=a.length):J5 a b=some [D.s (.ints .u64 (bif dM.nT (M6.val a+M6.val b)then M6.dg (M6.val a+M6.val b)else [])),D.s (.sc (.int .i64 (bif dM.nT (M6.val a+M6.val b)then 0 else 5)))]:=by
 rw[aAV,wrap_i64,if_pos ⟨by omega,by omega,by omega⟩,show((a.length:Int)+1).toNat=0+(a.length+1)from by omega];have:=L ha hb hl aVA a.length 0 [] 0 (by omega) rfl M6.mQ (by omega) (by omega) (by simp[M6.val]);rw[cFH]at this;rw[show 0+(a.length+1)=a.length+1 from by omega]at this ⊢;exact this
def sp(a b:List Int):Prop×List D:=(M6.cG a/\M6.cG b/\a.length<=8192/\b.length<=8192,[.s (.ints .u64 (bif dM.nT (M6.val a+M6.val b)then M6.dg (M6.val a+M6.val b)else [])),.s (.sc (.int .i64 (bif dM.nT (M6.val a+M6.val b)then 0 else 5)))])
theorem spec:fL E f100 aE (pI .u64) (pI .u64) sp:=by
 rintro a b ⟨ha,hb,h1,h2⟩;refine(start a b).trans ?_;rw[gP,gP,iI.oV ha h1,iI.oV hb h2,cDE,bF,bF,iB]
 by_cases hl:a.length<b.length
 ·rw[aN,bTU hb.jE ha.jE h2 (by omega),cHF];rfl
 ·rw[aL,bTU ha.jE hb.jE h1 (by omega)];rfl
def aI:dJ:=orc2 (pI .u64) (pI .u64) sp
theorem ok:OK 100 aI:=(eB E aE (aA iI.ok (aA dM.ok aC)) func100).lF rfl spec
end wA
namespace Cm
def E:=mE [(147,Ck.aI)] 47 [] [(7,[5,6,7])] []
def aE:=bd f101
theorem aT:Nk E aE:=nk
def L7 a b c:=pZ E f101 aE 7 [jR a,jR b,bN c]
theorem start a b:aF E f101 aE [D.s (ints u64 a),D.s (ints u64 b)]=letI B:=M6.dg (M6.val b);letI A:=(↑(M6.dg (M6.val a)).length:Int);aM (M6.bZ a/\a.length<=1099511627776) (aM (M6.bZ b/\b.length<=1099511627776) (aB (A !=(B.length:Int)) (aB (decide (A<(B.length:Int))) (some [D.s (sc (int i64 (-1:Int)))]) (some [D.s (sc (int i64 1))])) (Cm.L7 (M6.dg (M6.val a)) B (i64.wrap (A-(1:Int)))))):=eJ aT
theorem yO a b c:L7 a b c=aB (decide (0<=c)) (if 0<=c/\c<(a.length:Int)then if 0<=c/\c<(b.length:Int)then aB (a.getD c.toNat 0 !=b.getD c.toNat 0) (if 0<=c/\c<(a.length:Int)then if 0<=c/\c<(b.length:Int)then aB (decide (a.getD c.toNat 0<b.getD c.toNat 0)) (some [D.s (sc (int i64 (-1:Int)))]) (some [D.s (sc (int i64 1))])else none else none) (Cm.L7 a b (i64.wrap (c-1)))else none else none) (some [D.s (sc (int i64 0))]):=lJ aT
def sp(a b:List Int):Prop×List D:=(M6.bZ a/\M6.bZ b/\a.length<=1099511627776/\b.length<=1099511627776,[.s (.sc (.int .i64 (jK (M6.val a) (M6.val b))))])
theorem L{a b:List Int}(ha:M6.bZ a)(hb:M6.bZ b)(hl:a.length=b.length)(hm:a.length<=4398046511104):∀n:Nat,n<=a.length->L7 a b ((n:Int)-1)=some [D.s (.sc (.int .i64 (jK (M6.val (a.take n)) (M6.val (b.take n)))))]
 |0,_=>by
  rw[yO,aL];simp[jK,M6.val]
 |n+1,h=>by
  have e:(((n+1:Nat):Int)-1)=(n:Int):=by omega
  rw[e,yO,aN,aQ,aQ,aQ,aQ,cFB,wrap_i64,L ha hb hl hm n (by omega)];have h1:=ha.get n;have h2:=hb.get n;have l1:=M6.iG ha n;have l2:=M6.iG hb n;rw[M6.bJ,M6.bJ];generalize a.getD n 0=x at *;generalize b.getD n 0=y at *;generalize M6.val (a.take n)=u at *;generalize M6.val (b.take n)=v at *;generalize 18446744073709551616^n=B at *
  by_cases aSL:x<y
  ·rw[nW,aN aSL];have:B*x.toNat+B<=B*y.toNat:=by
    have:B*(x.toNat+1)<=B*y.toNat:=cDS _ (by omega);rw[cGF]at this;omega
   unfold jK;rw[aQ]
  ·by_cases bMD:y<x
   ·rw[nW,aL aSL];have:B*y.toNat+B<=B*x.toNat:=by
     have:B*(y.toNat+1)<=B*x.toNat:=cDS _ (by omega);rw[cGF]at this;omega
    unfold jK;rw[aO,aQ]
   ·have:x=y:=by omega
    subst this;rw[gD rfl,Zy]
theorem spec:fL E f101 aE (pI .u64) (pI .u64) sp:=by
 rintro a b ⟨ha,hb,h1,h2⟩;refine(start a b).trans ?_;have la:=M6.tG ha;have lb:=M6.tG hb;rw[gP ⟨ha,h1⟩,gP ⟨hb,h2⟩];show _=some [D.s (.sc (.int .i64 (jK (M6.val a) (M6.val b))))];have na:=M6.aY (M6.val a);have nb:=M6.aY (M6.val b);have va:=M6.bD (M6.val a);have vb:=M6.bD (M6.val b);rw[<-va,<-vb];generalize M6.dg (M6.val a)=x at *;generalize M6.dg (M6.val b)=y at *;have e1:=M6.Ln na;have e2:=M6.Ln nb;rw[e1,e2]
 by_cases hl:x.length=y.length
 ·rw[gD,wrap_i64,L na.jE nb.jE hl (by omega) x.length (cBE _),M6.bV (cBE _),M6.bV (by omega)]
 ·rw[nW]
  by_cases kM:x.length<y.length
  ·have:=M6.oJ na.jE nb kM;rw[aN];unfold jK;rw[if_pos this]
  ·have:=M6.oJ nb.jE na (by omega);rw[aL];unfold jK;rw[aO,if_pos this]
def aI:dJ:=orc2 (pI .u64) (pI .u64) sp
theorem ok:OK 101 aI:=(eB E aE (aA Ck.ok aC) func101).lF rfl spec
end Cm
namespace vY
def E:=mE [(144,iI.aI),(145,dM.aI),(101,Cm.aI)] 56 [53] [(8,[0,1,6,7,26,27]),(3,[0,1]),(13,[0,1,6,7,8,9,26,27])] [3,13]
def aE:=bd f102
theorem aT:Nk E aE:=nk
def J3 a b:=lP E f102 aE 3 [jR a,jR b]
def L8 a b (c:Nat) (d:List Int) e f g:=pZ E f102 aE 8 [jR a,jR b,Dq 2 c 22 d,dO e,bN f,bN g]
def Qc a b (c:Nat) (d:List Int) e f g h i:=lP E f102 aE 13 [jR a,jR b,Dq 2 c 22 d,dO e,bN f,dO g,bN h,bN i]
theorem start a b:aF E f102 aE [D.s (ints u64 a),D.s (ints u64 b)]=letI A:=some [D.s (sc (slice none 0 0)),D.s (sc (int i64 2))];aM (a.length<=1099511627776) (aB (!iI.qI a) A (aM (b.length<=1099511627776) (aB (!iI.qI b) A (vY.J3 a b)))):=eJ aT
theorem iB a b:J3 a b=letI A:=(a.length:Int);aM (M6.bZ a/\M6.bZ b/\a.length<=1099511627776/\b.length<=1099511627776) (aB (decide (jK (M6.val a) (M6.val b)<0)) (some [D.s (sc (slice none 0 0)),D.s (sc (int i64 3))]) (if 0<=A/\A<=A/\A<=(8796093022208:Int)then vY.L8 a b A.toNat (cDH A.toNat (0:Int)) 0 A 0 else none)):=cJ aT
theorem Cr a b c d e f g:L8 a b c d e f g=aB (decide (g<f)) (aB (decide (g<(b.length:Int))) (if 0<=g/\g<(b.length:Int)then vY.Qc a b c d e g (b.getD g.toNat 0) f g else none) (vY.Qc a b c d e g 0 f g)) (aM (M6.bZ d/\d.length<=1099511627776) (some [D.s (ints u64 (bif dM.nT (M6.val d)then M6.dg (M6.val d)else [])),D.s (sc (int i64 (bif dM.nT (M6.val d)then(0:Int)else(5:Int))))])):=lJ aT
theorem wW a b c d e f g h i:Qc a b c d e f g h i=if 0<=f/\f<(a.length:Int)then aM (0<=a.getD f.toNat 0/\0<=g/\g<18446744073709551616/\0<=e/\e<=1) (if 0<=f/\f<(c:Int)then vY.L8 a b c (d.set f.toNat ((a.getD f.toNat 0-g-e)%18446744073709551616)) (if a.getD f.toNat 0<g+e then(1:Int)else(0:Int)) h (i64.wrap (i+1))else none)else none:=cJ aT
theorem step{a b pre:List Int}{o:Int}{i k:Nat}(ha:M6.bZ a)(hb:M6.bZ b)(hp:pre.length=i)(hi:i<a.length)(hl:a.length<=8192)(h0:0<=o)(h1:o<=1) :
  L8 a b (i+(k+1)) (pre ++ cDH (k+1) 0) o a.length i=L8 a b ((i+1)+k) ((pre ++ [(a.getD i 0-b.getD i 0-o)%18446744073709551616]) ++ cDH k 0) (if a.getD i 0<b.getD i 0+o then 1 else 0) a.length ((i+1:Nat):Int):=by
 have g1:=ha.get i;have g2:=hb.get i;have hJ:∀y:Int,0<=y->y<18446744073709551616->Qc a b (i+(k+1)) (pre ++ cDH (k+1) 0) o i y a.length i=L8 a b ((i+1)+k) ((pre ++ [(a.getD i 0-y-o)%18446744073709551616]) ++ cDH k 0) (if a.getD i 0<y+o then 1 else 0) a.length ((i+1:Nat):Int):=by
  intro y hy bMG;rw[wW,aQ,cFB,gP ⟨g1.1,hy,bMG,h0,h1⟩,aQ,Bb hp,wrap_i64,show i+(k+1)=(i+1)+k from by omega];rfl
 rw[Cr,aN]
 by_cases h:i<b.length
 ·rw[aN,aQ,cFB,hJ _ g2.1 g2.2]
 ·rw[aL,hJ 0 (by omega) (by omega),M6.getD_none (a:=b) (by omega)]
theorem L{a b:List Int}(ha:M6.bZ a)(hb:M6.bZ b)(hl:a.length<=8192)(Qn:b.length<=a.length)(aVA:M6.val b<=M6.val a):∀(k i:Nat) (pre:List Int) (o:Int),i+k=a.length->pre.length=i->M6.bZ pre->0<=o->o<=1 ->
  M6.val pre+M6.val (b.take i)=M6.val (a.take i)+18446744073709551616^i*o.toNat ->
  L8 a b (i+k) (pre ++ cDH k 0) o a.length i=some [D.s (.ints .u64 (M6.dg (M6.val a-M6.val b))),D.s (.sc (.int .i64 0))]:=by
 intro k
 induction k with
 |zero =>
  intro i pre o hi hp hd h0 h1 hv;have bMH:=M6.dR hd;rw[hp]at bMH;rw[M6.bV (by omega),M6.bV (by omega)]at hv;have:o=0:=by
   by_cases ho:o=0
   ·exact ho
   ·exfalso;have:o=1:=by omega
    subst this;rw[show(1:Int).toNat=1 from rfl,Nat.mul_one]at hv;omega
  subst this;simp only[cIY,cIB,cCC]at hv;have hlen:=M6.tG hd;have Qm:dM.nT (M6.val pre)=true:=decide_eq_true (by omega);rw[Cr,aL,cHQ,cHE,gP ⟨hd,by omega⟩,Qm,cond_true,cond_true,show M6.val pre=M6.val a-M6.val b from by omega]
 |succ k ih =>
  intro i pre o hi hp hd h0 h1 hv;have g1:=ha.get i;have g2:=hb.get i;rw[step ha hb hp (by omega) hl h0 h1];refine ih (i+1) _ _ (by omega) (by simp[hp]) (M6.mG hd (by omega)) (by split <;> omega) (by split <;> omega) ?_;rw[M6.lY,M6.bJ,M6.bJ,hp,cGD,cGH];generalize a.getD i 0=x at *;generalize b.getD i 0=y at *;have e:((x-y-o)%18446744073709551616).toNat+y.toNat+o.toNat=x.toNat+18446744073709551616*(if x<y+o then 1 else 0:Int).toNat:=by split <;> omega
  generalize 18446744073709551616^i=B at *;have e2:=congrArg (B*·) e;simp only[cGF]at e2;omega
def sp(a b:List Int):Prop×List D:=(M6.cG a/\M6.cG b/\a.length<=8192/\b.length<=8192,[.s (.ints .u64 (M6.dg (M6.val a-M6.val b))),.s (.sc (.int .i64 (if M6.val a<M6.val b then 3 else 0)))])
theorem spec:Rq E f102 aE (pI .u64) (pI .u64) sp:=by
 rintro a b ⟨ha,hb,h1,h2⟩;have e:=start a b;rw[gP,gP,iI.oV ha h1,iI.oV hb h2,cDE,bF,bF,iB,gP ⟨ha.jE,hb.jE,by omega,by omega⟩]at e;unfold sp;simp only
 by_cases hc:M6.val a<M6.val b
 ·rw[aN (by unfold jK;rw[if_pos hc];omega)]at e;rw[if_pos hc,show M6.val a-M6.val b=0 from by omega,M6.cB];exact⟨_,e,.cons (Ap.nil _) (iZ.refl _)⟩
 ·have Qn:b.length<=a.length:=by
   rcases cBU a.length b.length with h |h
   ·have:=M6.oJ ha.jE hb h;omega
   ·exact h
  have:=L ha.jE hb.jE h1 Qn (by omega) a.length 0 [] 0 (by omega) rfl M6.mQ (by omega) (by omega) (by simp[M6.val]);rw[aL (by unfold jK;rw[if_neg hc];split <;> omega),if_pos ⟨by omega,by omega,by omega⟩,cFB]at e;rw[cFH,show 0+a.length=a.length from by omega]at this;rw[if_neg hc];exact⟨_,e.trans this,iZ.refl _⟩
def aI:dJ:=orc2 (pI .u64) (pI .u64) sp
theorem ok:OK 102 aI:=(eB E aE (aA iI.ok (aA dM.ok (aA Cm.ok aC))) func102).aSD rfl spec
end vY
namespace Hi
def E:=mE [(96,fV.aI),(100,wA.aI),(101,Cm.aI),(102,vY.aI),(99,Co.aI)] 62 [36,59] [(3,[2,3,4]),(8,[2,3,4])] [3,8]
def aE:=bd f49
theorem aT:Nk E aE:=nk
def J3 a b c d e:=lP E f49 aE 3 [dS 0 27 [dG a,gO b],dS 1 27 [dG c,gO d],dS 2 27 [dG e,sc (slice none 0 0)]]
def J8 a b c d e:=lP E f49 aE 8 [dS 0 27 [dG a,gO b],dS 1 27 [dG c,gO d],dS 2 27 [dG e,sc (slice none 0 0)]]
theorem start a b c d:aF E f49 aE [D.agg [sc (bool a),ints u64 b],D.agg [sc (bool c),ints u64 d]]=letI A:=some [D.agg [sc (bool false),sc (slice none 0 0)],D.s (sc (int i64 2))];aM (b.length<=1099511627776) (aB (!fV.oZ (a,b)) A (aM (d.length<=1099511627776) (aB (!fV.oZ (c,d)) A (Hi.J3 a b c d false)))):=eJ aT
theorem iB a b c d e:J3 a b c d e=letI F:=M6.val b+M6.val d;letI B:=bif dM.nT F then(0:Int)else(5:Int);letI A:=bif dM.nT F then M6.dg F else [];letI C:=bif B==0 then zs a (M6.val A)else(0:Int);aB (a==c) (aM (M6.cG b/\M6.cG d/\b.length<=8192/\d.length<=8192) (aM (M6.cG A/\A.length<=1099511627776) (some [D.agg [sc (bool (isNeg C)),ints u64 (M6.dg C.natAbs)],D.s (sc (int i64 B))]))) (aM (M6.bZ b/\M6.bZ d/\b.length<=1099511627776/\d.length<=1099511627776) (aB (decide (jK (M6.val b) (M6.val d)<0)) (Hi.J8 c d a b e) (Hi.J8 a b c d e))):=cJ aT
theorem Ai a b c d e:J8 a b c d e=letI B:=M6.dg (M6.val b-M6.val d);letI A:=bif (if M6.val b<M6.val d then(3:Int)else(0:Int))==0 then zs a (M6.val B)else(0:Int);aM (M6.cG b/\M6.cG d/\b.length<=8192/\d.length<=8192) (aM (M6.cG B/\B.length<=1099511627776) (some [D.agg [sc (bool (isNeg A)),ints u64 (M6.dg A.natAbs)],D.s (sc (int i64 (if M6.val b<M6.val d then(3:Int)else(0:Int))))])):=cJ aT
theorem aGB(n:Nat):dM.nT n=fit n:=De
def sp(x y:Bool×List Int):Prop×List D:=(iE x/\iE y,wE (fit (wv x+wv y).natAbs) (wv x+wv y))
theorem spec:fL E f49 aE pV pV sp:=by
 rintro x y ⟨hx,hy⟩;refine(start x.1 x.2 y.1 y.2).trans ?_;have l1:=hx.len;have l2:=hy.len;have f1:=fV.mD hx;have f2:=fV.mD hy;have b1:=hx.bl;have b2:=hy.bl;obtain⟨p,a⟩:=x;obtain⟨q,b⟩:=y;have n1:M6.cG a:=hx.1;have n2:M6.cG b:=hy.1
 try dsimp only at *
 unfold sp
 try dsimp only
 rw[gP,f1,cDE,bF,gP,f2,cDE,bF,iB];have one:∀(s:Bool) (m n:Nat),n<=m->bl m<=524288->some [D.agg [S.sc (.bool (isNeg (bif (if m<n then(3:Int)else 0)==0 then zs s (M6.val (M6.dg (m-n)))else 0))),S.ints .u64 (M6.dg (bif (if m<n then(3:Int)else 0)==0 then zs s (M6.val (M6.dg (m-n)))else 0).natAbs)],D.s (S.sc (.int .i64 (if m<n then 3 else 0)))]=some (wE (fit (zs s (m-n)).natAbs) (zs s (m-n))):=by
  intro s m n h hb;have:fit (zs s (m-n)).natAbs=true:=by
   rw[kR];exact decide_eq_true (cCA (gF (cHP _ _)) hb)
  rw[aO,this,show((0:Int)==0)=true from rfl,cond_true,M6.bD];rfl
 by_cases he:p=q
 ·subst he;have hs:wv (p,a)+wv (p,b)=zs p (M6.val a+M6.val b):=by
   unfold wv zs;cases p <;> simp <;> omega
  rw[aRC (by simp),gP ⟨n1,n2,l1,l2⟩,gP (Lo (fun h=>by rw[aGB]at h;exact zH h)),Kv,aGB,hs,kR]
 ·rw[Pj (by simpa using he),gP ⟨n1.jE,n2.jE,by omega,by omega⟩]
  by_cases hc:M6.val b<=M6.val a
  ·have hs:wv (p,a)+wv (q,b)=zs p (M6.val a-M6.val b):=by
    unfold wv zs;cases p <;> cases q <;> simp_all <;> omega
   have l3:=fZ (n:=M6.val a-M6.val b) (k:=8192) (cCA (gF (cHP _ _)) b1);rw[aL (by have:=Lv.2 hc;omega),Ai,gP ⟨n1,n2,l1,l2⟩,gP ⟨M6.aY _,by omega⟩,hs,one _ _ _ hc b1]
  ·have hs:wv (p,a)+wv (q,b)=zs q (M6.val b-M6.val a):=by
    unfold wv zs;cases p <;> cases q <;> simp_all <;> omega
   have l3:=fZ (n:=M6.val b-M6.val a) (k:=8192) (cCA (gF (cHP _ _)) b2);rw[aN (by have:=(not_congr Lv).2 hc;omega),Ai,gP ⟨n2,n1,l2,l1⟩,gP ⟨M6.aY _,by omega⟩,hs,one _ _ _ (by omega) b2]
def aI:dJ:=orc2 pV pV sp
theorem ok:OK 49 aI:=(eB E aE (aA fV.ok (aA wA.ok (aA Cm.ok (aA vY.ok (aA Co.ok aC))))) func49).lF rfl spec
end Hi
namespace aRH
def E:=mE [] 14 [] [] []
def aE:=bd f136
theorem aT:Nk E aE:=nk
theorem start a:aF E f136 aE [D.s (sc (int u64 a))]=letI A:=fO BinOp.and u64 a (u64.wrap ((0:Int)-a))*285870213051353865;aB (a==0) (some [D.s (sc (int i64 64))]) (if 0<=u64.wrap A/288230376151711744/\u64.wrap A/288230376151711744<(64:Int)then some [D.s (sc (int i64 (i64.wrap ([(0:Int),(1:Int),(56:Int),(2:Int),(57:Int),(49:Int),(28:Int),(3:Int),(61:Int),(58:Int),(42:Int),(50:Int),(38:Int),(29:Int),(17:Int),(4:Int),(62:Int),(47:Int),(59:Int),(36:Int),(45:Int),(43:Int),(51:Int),(22:Int),(53:Int),(39:Int),(33:Int),(30:Int),(24:Int),(18:Int),(12:Int),(5:Int),(63:Int),(55:Int),(48:Int),(27:Int),(60:Int),(41:Int),(37:Int),(16:Int),(46:Int),(35:Int),(44:Int),(21:Int),(52:Int),(32:Int),(23:Int),(11:Int),(54:Int),(26:Int),(40:Int),(15:Int),(34:Int),(20:Int),(31:Int),(10:Int),(25:Int),(14:Int),(19:Int),(9:Int),(13:Int),(8:Int),(7:Int),(6:Int)].getD (u64.wrap A/288230376151711744).toNat 0))))]else none):=eJ aT
def aWU:List Int:=[0,1,56,2,57,49,28,3,61,58,42,50,38,29,17,4,62,47,59,36,45,43,51,22,53,39,33,30,24,18,12,5,63,55,48,27,60,41,37,16,46,35,44,21,52,32,23,11,54,26,40,15,34,20,31,10,25,14,19,9,13,8,7,6]
theorem Ty:(cCR 64).all (fun k=>aWU.getD (((2^k*285870213051353865%18446744073709551616:Nat):Int)/288230376151711744).toNat 0==(k:Int))=true:=by kernel_rfl
theorem Tx{k:Nat}(h:k<64):aWU.getD (((2^k*285870213051353865%18446744073709551616:Nat):Int)/288230376151711744).toNat 0=(k:Int):=eq_of_beq (List.all_eq_true.1 Ty k (List.mem_range.2 h))
def sp(a:Int):Prop×List D:=(0<=a/\a<18446744073709551616,[.s (.sc (.int .i64 (if a=0 then 64 else(tz a.toNat:Int))))])
theorem spec:iU E f136 aE (pN .u64) sp:=by
 rintro a ⟨h1,h2⟩;refine(start a).trans ?_;show _=some [D.s (.sc (.int .i64 (if a=0 then 64 else(tz a.toNat:Int))))]
 by_cases hz:a=0
 ·rw[bI hz,if_pos hz]
 ·have kM:tz a.toNat<64:=by
   have:=Jp (n:=a.toNat) (by omega);rcases cBU (tz a.toNat) 64 with h |h
   ·exact h
   ·have h3:2^64<=2^tz a.toNat:=cEF (by omega) h;omega
  have ew:u64.wrap (0-a)=18446744073709551616-a:=by rw[fM];omega
  have el:fO .and .u64 a (u64.wrap (0-a))=((2^tz a.toNat:Nat):Int):=by
   rw[ew,aAK h1 h2 (by omega) (by omega),Yt 64 a.toNat (18446744073709551616-a).toNat (by omega) (by omega) (by omega)]
  have em:u64.wrap (((2^tz a.toNat:Nat):Int)*285870213051353865)=((2^tz a.toNat*285870213051353865%18446744073709551616:Nat):Int):=by
   rw[fM];generalize 2^tz a.toNat=p;omega
  have ht:=Tx kM;have hm:2^tz a.toNat*285870213051353865%18446744073709551616<18446744073709551616:=cDM _ (by omega);rw[bA hz,if_neg hz,el,em];generalize 2^tz a.toNat*285870213051353865%18446744073709551616=q at *;rw[if_pos ⟨by omega,by omega⟩];have e3:([0,1,56,2,57,49,28,3,61,58,42,50,38,29,17,4,62,47,59,36,45,43,51,22,53,39,33,30,24,18,12,5,63,55,48,27,60,41,37,16,46,35,44,21,52,32,23,11,54,26,40,15,34,20,31,10,25,14,19,9,13,8,7,6]:List Int)=aWU:=rfl;rw[e3,ht,wrap_i64]
def aI:dJ:=orc1 (pN .u64) sp
theorem ok:OK 136 aI:=(eB E aE aC func136).oS rfl spec
end aRH
namespace Fh
def E:=mE [(136,aRH.aI)] 23 [] [(2,[0,5,6])] []
def aE:=bd f103
theorem aT:Nk E aE:=nk
def L2 a b c:=pZ E f103 aE 2 [jR a,bN b,bN c]
theorem start a:aF E f103 aE [D.s (ints u64 a)]=Fh.L2 a (a.length:Int) 0:=eJ aT
theorem mK a b c:L2 a b c=aB (decide (c<b)) (if 0<=c/\c<(a.length:Int)then aB (a.getD c.toNat 0 !=(0:Int)) (if 0<=c/\c<(a.length:Int)then aM (0<=a.getD c.toNat 0/\a.getD c.toNat 0<(18446744073709551616:Int)) (some [D.s (sc (int i64 (i64.wrap (i64.wrap ((64:Int)*c)+if a.getD c.toNat 0=(0:Int)then(64:Int)else(↑(tz (a.getD c.toNat 0).toNat):Int)))))])else none) (Fh.L2 a b (i64.wrap (c+1)))else none) (some [D.s (sc (int i64 0))]):=lJ aT
def sp(a:List Int):Prop×List D:=(M6.bZ a/\a.length<=1099511627776,[.s (.sc (.int .i64 (tz (M6.val a):Nat)))])
theorem L{a:List Int}(ha:M6.bZ a)(hl:a.length<=1099511627776):∀(d i:Nat),i+d=a.length->L2 a a.length i=some [D.s (.sc (.int .i64 (if M6.val (a.drop i)=0 then 0 else(((64*i+tz (M6.val (a.drop i)):Nat)):Int))))]:=by
 intro d
 induction d with
 |zero =>
  intro i hi;rw[mK,aL,cGT (by omega)];rfl
 |succ d ih =>
  intro i hi;have g:=ha.get i;have hv:=M6.iL (a:=a) i;have bXX:=ih (i+1) (by omega);rw[mK,aN,aQ,cFB,aQ,gP g,wrap_i64 (n:=(i:Int)+1),wrap_i64 (n:=64*(i:Int)),show(i:Int)+1=((i+1:Nat):Int)from by omega,bXX];generalize a.getD i 0=x at *;rw[hv]
  by_cases hz:x=0
  ·subst hz;rw[gD rfl];simp only[cIY,cBG]
   by_cases aOG:M6.val (a.drop (i+1))=0
   ·rw[if_pos aOG,aQ]
   ·have:=Me aOG 64;rw[show(2:Nat)^64=18446744073709551616 from rfl]at this;rw[if_neg aOG,aO,this];congr 5;omega
  ·have ht:=Jp (n:=x.toNat) (by omega);have bJO:tz x.toNat<64:=by
    rcases cBU (tz x.toNat) 64 with h |h
    ·exact h
    ·have h3:2^64<=2^tz x.toNat:=cEF (by omega) h;omega
   have:=aLW (r:=x.toNat) (k:=64) (n:=M6.val (a.drop (i+1))) (by omega) (by omega);rw[show(2:Nat)^64=18446744073709551616 from rfl]at this;rw[nW hz,if_neg hz,aO,this,wrap_i64];congr 5
theorem spec:iU E f103 aE (pI .u64) sp:=by
 rintro a ⟨ha,hl⟩;refine(start a).trans ?_;have:=L ha hl a.length 0 (by omega);rw[show(0:Int)=((0:Nat):Int)from rfl,this,cHL];show _=some [D.s (.sc (.int .i64 (tz (M6.val a):Nat)))]
 by_cases hz:M6.val a=0
 ·rw[if_pos hz,hz];simp[tz]
 ·rw[if_neg hz];congr 5;omega
def aI:dJ:=orc1 (pI .u64) sp
theorem ok:OK 103 aI:=(eB E aE (aA aRH.ok aC) func103).oS rfl spec
end Fh
namespace Hh
def E:=mE [(144,iI.aI),(145,dM.aI)] 73 [70] [(10,[0,6,7,8,29,30])] []
def aE:=bd f104
theorem aT:Nk E aE:=nk
def Jl a b c (d:Nat) (e:List Int) f g:=pZ E f104 aE 10 [jR a,bN b,bN c,Dq 3 d 22 e,bN f,bN g]
theorem start a b:aF E f104 aE [D.s (ints u64 a),D.s (sc (int i64 b))]=letI G:=b.tdiv 64;letI C:=sc (slice none 0 0);letI A:=(a.length:Int);letI B:=A-i64.wrap G;letI F:=i64.wrap B;aB (decide (b<0)) (some [D.s C,D.s (sc (int i64 1))]) (aM (a.length<=1099511627776) (aB (!iI.qI a) (some [D.s C,D.s (sc (int i64 2))]) (aB (decide (A<=i64.wrap G)) (some [D.s C,D.s (sc (int i64 0))]) (if 0<=i64.wrap B/\i64.wrap B<=i64.wrap B/\i64.wrap B<=8796093022208 then Hh.Jl a (i64.wrap G) (b.tmod 64) F.toNat (cDH F.toNat (0:Int)) (F.toNat:Int) 0 else none)))):=eJ aT
theorem tD a b c d e f g:Jl a b c d e f g=letI C:=(a.length:Int);letI B:=i64.wrap (b+g)+1;letI A:=e.set g.toNat (a.getD (i64.wrap (b+g)).toNat 0/(↑((2:Nat)^min c.toNat 64):Int));aB (decide (g<f)) (if 0<=i64.wrap (b+g)/\i64.wrap (b+g)<C then if c<0 then none else if 0<=g/\g<(d:Int)then aB (decide (i64.wrap B<C)) (if 0<=g/\g<(d:Int)then if 0<=i64.wrap B/\i64.wrap B<C then if i64.wrap ((63:Int)-c)<0 then none else if 0<=g/\g<(d:Int)then Hh.Jl a b c d (A.set g.toNat (fO BinOp.or u64 (A.getD g.toNat 0) (u64.wrap (u64.wrap (a.getD (i64.wrap B).toNat 0*(2:Int))*(↑((2:Nat)^min (i64.wrap ((63:Int)-c)).toNat 64):Int))))) f (i64.wrap (g+1))else none else none else none) (Hh.Jl a b c d A f (i64.wrap (g+1)))else none else none) (aM (M6.bZ e/\e.length<=1099511627776) (some [D.s (ints u64 (bif dM.nT (M6.val e)then M6.dg (M6.val e)else [])),D.s (sc (int i64 (bif dM.nT (M6.val e)then(0:Int)else(5:Int))))])):=lJ aT
theorem aDD(a:List Int)(q i:Nat):(a.drop q).getD i 0=a.getD (q+i) 0:=by
 simp[cGI,cBR]
theorem high{x k:Nat}(h:k<64):x*2^(64-k)%18446744073709551616=2^(64-k)*(x%2^k):=by
 rw[show(18446744073709551616:Nat)=2^(64-k)*2^k from by rw[<-cGE,show 64-k+k=64 from by omega],cGC x,Nat.mul_mod_mul_left]
theorem step{a P:List Int}{q k i r:Nat}(ha:M6.bZ a)(hP:P.length=i)(hk:k<64)(hl:a.length<=8192)(hr:q+i+(r+1)=a.length) :
  Jl a q k (a.length-q) (P ++ cDH (r+1) 0) ((a.length-q:Nat):Int) i =
   Jl a q k (a.length-q) ((P ++ [(((a.getD (q+i) 0).toNat/2^k+2^(64-k)*((a.getD (q+i+1) 0).toNat%2^k):Nat):Int)]) ++ cDH r 0) ((a.length-q:Nat):Int) ((i+1:Nat):Int):=by
 have g:=ha.get (q+i);have g1:=ha.get (q+i+1);have w1:i64.wrap ((q:Int)+i)=((q+i:Nat):Int):=by rw[wrap_i64];omega
 have w2:i64.wrap (((q+i:Nat):Int)+1)=((q+i+1:Nat):Int):=by rw[wrap_i64];omega
 have w3:i64.wrap (63-(k:Int))=((63-k:Nat):Int):=by rw[wrap_i64];omega
 have m1:min k 64=k:=by omega
 have m2:min (63-k) 64=63-k:=by omega
 have aUN:(a.getD (q+i) 0)/((2^k:Nat):Int)=(((a.getD (q+i) 0).toNat/2^k:Nat):Int):=by
  obtain⟨x,hx⟩:=cGG g.1;rw[hx,cFB,cGU]
 have aCT:(a.getD (q+i) 0).toNat/2^k<2^(64-k):=by
  apply cGY;rw[<-cGE,show k+(64-k)=64 from by omega];omega
 rw[tD,aN,w1,if_pos ⟨by omega,by omega⟩,aO,if_pos ⟨by omega,by omega⟩,w2,w3,wrap_i64 (n:=(i:Int)+1),
  cFB,cFB,cFB,cFB,cFB,m1,m2,cGM,Hu hP,Iq hP,aUN]
 by_cases hn:q+i+1<a.length
 ·rw[aN,if_pos ⟨by omega,by omega⟩,if_pos ⟨by omega,by omega⟩,aO,if_pos ⟨by omega,by omega⟩,Hu hP];have hw:u64.wrap (u64.wrap (a.getD (q+i+1) 0*2)*((2^(63-k):Nat):Int))=((2^(64-k)*((a.getD (q+i+1) 0).toNat%2^k):Nat):Int):=by
   obtain⟨x,hx⟩:=cGG g1.1;have aKY:u64.wrap ((x:Int)*2)=((x*2%18446744073709551616:Nat):Int):=by rw[fM];omega
   have bWB:∀p:Nat,u64.wrap (((x*2%18446744073709551616:Nat):Int)*(p:Int))=((x*2*p%18446744073709551616:Nat):Int):=by
    intro p;rw[fM,<-cHC,show(18446744073709551616:Int)=((18446744073709551616:Nat):Int)from rfl,<-cHV,cHO,Nat.mod_mod,<-cHO]
   rw[hx,aKY,bWB,cFB,<-high hk,show 64-k=(63-k)+1 from by omega,cGD,cGH,cGC 2]
  have hh:2^(64-k)*((a.getD (q+i+1) 0).toNat%2^k)<18446744073709551616:=by rw[<-high hk];exact cDM _ (by omega)
  have bTF:2^(64-k)<=2^64:=fK;have bGG:fO .or .u64 (((a.getD (q+i) 0).toNat/2^k:Nat):Int) ((2^(64-k)*((a.getD (q+i+1) 0).toNat%2^k):Nat):Int)=(((a.getD (q+i) 0).toNat/2^k+2^(64-k)*((a.getD (q+i+1) 0).toNat%2^k):Nat):Int):=by
   have:=Ic (n:=(a.getD (q+i+1) 0).toNat%2^k) aCT;rw[<-this];generalize 2^(64-k)*((a.getD (q+i+1) 0).toNat%2^k)=Y at *;generalize (a.getD (q+i) 0).toNat/2^k=X at *;generalize 2^(64-k)=p at *;rw[Yg (by omega) (by omega) (by omega) (by omega),cFB,cFB]
  rw[hw,bGG,cCZ,cIA];rfl
 ·rw[aL,M6.getD_none (a:=a) (n:=q+i+1) (by omega),show((0:Int).toNat%2^k)=0 from Nat.zero_mod _,cIB,cCC,cCZ,cIA];rfl
theorem L{a:List Int}{q k:Nat}(ha:M6.cG a)(hl:a.length<=8192)(hq:q<a.length)(hk:k<64):∀(r i:Nat) (P:List Int),q+i+r=a.length->P.length=i->M6.bZ P ->
  2^k*M6.val P+(a.getD q 0).toNat%2^k=M6.val ((a.drop q).take i)+18446744073709551616^i*((a.getD (q+i) 0).toNat%2^k) ->
  Jl a q k (a.length-q) (P ++ cDH r 0) ((a.length-q:Nat):Int) i=some [D.s (.ints .u64 (M6.dg (M6.val (a.drop q)/2^k))),D.s (.sc (.int .i64 0))]:=by
 intro r;have bGC:0<2^k:=cY
 induction r with
 |zero =>
  intro i P hi hP hd hv;rw[M6.getD_none (a:=a) (n:=q+i) (by omega),show((0:Int).toNat%2^k)=0 from Nat.zero_mod _,cIB,cCC,M6.bV (by rw[cFE];omega)]at hv;have bRL:M6.val P=M6.val (a.drop q)/2^k:=by
   rw[<-hv,Nat.mul_add_div bGC,cHB (cDM _ bGC),cCC]
  have Qm:dM.nT (M6.val (a.drop q)/2^k)=true:=by
   refine decide_eq_true ?_;rw[<-bRL];have:=M6.tG hd;omega
  rw[cHQ,cHE,tD,aL,gP ⟨hd,by omega⟩,bRL,Qm];rfl
 |succ r ih =>
  intro i P hi hP hd hv;have g:=ha.jE.get (q+i);have aCT:(a.getD (q+i) 0).toNat/2^k<2^(64-k):=by
   apply cGY;rw[<-cGE,show k+(64-k)=64 from by omega];omega
  have aJT:2^(64-k)*2^k=18446744073709551616:=by rw[<-cGE,show 64-k+k=64 from by omega]
  have hs:(a.getD (q+i) 0).toNat/2^k+2^(64-k)*((a.getD (q+i+1) 0).toNat%2^k)<18446744073709551616:=by
   have hm:(a.getD (q+i+1) 0).toNat%2^k<2^k:=cDM _ bGC;have h3:2^(64-k)*((a.getD (q+i+1) 0).toNat%2^k+1)<=2^(64-k)*2^k:=cDS _ hm;rw[aJT,cGF]at h3;omega
  rw[step ha.jE hP hk hl (by omega)];refine ih (i+1) _ (by omega) (by simp[hP]) (M6.mG hd ⟨Int.natCast_nonneg _,by have:=Int.ofNat_lt.2 hs;exact this⟩) ?_;rw[M6.lY,hP,M6.bJ,aDD,cFB,<-cEV q i 1,cGF,cIG,hv];have hx:=cGK (a.getD (q+i) 0).toNat (2^k);generalize (a.getD (q+i) 0).toNat=x at *;generalize (a.getD (q+i+1) 0).toNat%2^k=y at *;generalize M6.val ((a.drop q).take i)=v at *;have e1:2^k*(18446744073709551616^i*(x/2^k+2^(64-k)*y))=18446744073709551616^i*(2^k*(x/2^k))+18446744073709551616^(i+1)*y:=by
   rw[cGD];generalize (18446744073709551616^i)=B;rw[cJA,cGF,<-cGH (2^k) (2^(64-k)),cGC (2^k) (2^(64-k)),aJT,cGF,cGH B]
  rw[e1];have e2:18446744073709551616^i*x=18446744073709551616^i*(2^k*(x/2^k))+18446744073709551616^i*(x%2^k):=by rw[<-cGF,hx]
  rw[e2];omega
def sp(a:List Int)(n:Int):Prop×List D:=(M6.cG a/\a.length<=8192/\0<=n/\n<4611686018427387904,[.s (.ints .u64 (M6.dg (M6.val a/2^n.toNat))),.s (.sc (.int .i64 0))])
theorem spec:Rq E f104 aE (pI .u64) (pN .i64) sp:=by
 rintro a n ⟨ha,hl,h0,h1⟩;have e:=start a n;have eq:n/64=((n.toNat/64:Nat):Int):=by omega
 have ek:n%64=((n.toNat%64:Nat):Int):=by omega
 rw[aL,gP,iI.oV ha hl,cDE,bF,aMJ h0,aME h0,wrap_i64 (n:=n/64),eq,ek]at e;unfold sp;simp only;rw[Nd,<-cGV];generalize hqq:n.toNat/64=q at *;have hk:n.toNat%64<64:=cDM _ (by omega);generalize n.toNat%64=k at *
 by_cases hz:a.length<=q
 ·have hv:M6.val a/18446744073709551616^q=0:=cHB (cCB (M6.dR ha.jE) (cEF (by omega) hz));rw[aN]at e;rw[hv,Nat.zero_div,M6.cB];exact⟨_,e,.cons (Ap.nil _) (iZ.refl _)⟩
 ·have hval:M6.val a/18446744073709551616^q=M6.val (a.drop q):=by
   rw[M6.iJ a (n:=q) (by omega),cHU _ _ (cY),cHB (M6.iG ha.jE _),cBG]
  have w:i64.wrap ((a.length:Int)-(q:Int))=((a.length-q:Nat):Int):=by rw[wrap_i64];omega
  rw[aL,w,if_pos ⟨by omega,by omega,by omega⟩,cFB]at e;have:=L (q:=q) (k:=k) ha hl (by omega) hk (a.length-q) 0 [] (by omega) rfl M6.mQ (by simp[M6.val]);rw[hval];exact⟨_,e.trans this,iZ.refl _⟩
def aI:dJ:=orc2 (pI .u64) (pN .i64) sp
theorem ok:OK 104 aI:=(eB E aE (aA iI.ok (aA dM.ok aC)) func104).aSD rfl spec
end Hh
namespace kG
def E:=mE [(96,fV.aI),(103,Fh.aI),(104,Hh.aI)] 55 [] [(8,[1,2,4,6])] [8]
def aE:=bd f50
theorem aT:Nk E aE:=nk
def J8 a b c d e f:=lP E f50 aE 8 [bN a,dS 1 27 [dG b,gO c],dS 2 29 [dG d,sc (slice none 0 0),cP e],bN f]
theorem start a c b:aF E f50 aE [D.agg [sc (bool a),ints u64 c],D.s (sc (int i64 b))]=letI G:=bool false;letI F:=int i64 0;letI C:=slice none 0 0;letI B:=(↑(tz (M6.val c)):Int);letI A:=some [D.agg [sc G,sc C,sc F],D.s (sc (int i64 5))];aM (c.length<=1099511627776) (aB (!fV.oZ (a,c)) (some [D.agg [sc G,sc C,sc F],D.s (sc (int i64 2))]) (aB ((c.length:Int)==(0:Int)) (some [D.agg [sc G,sc C,sc F],D.s (sc F)]) (aM (M6.bZ c/\c.length<=1099511627776) (aB (decide (1048576<b)) A (aB (decide (b<(-1572864:Int))) A (aB (decide (i64.wrap (b+B)<(-1048576:Int))) A (aB (decide (1048576<i64.wrap (b+B))) A (kG.J8 b a c false 0 B)))))))):=eJ aT
theorem Ai a b c d e f:J8 a b c d e f=aM (M6.cG c/\c.length<=8192/\0<=f/\f<4611686018427387904) (some [D.agg [sc (bool b),ints u64 (M6.dg (M6.val c/(2:Nat)^f.toNat)),sc (int i64 (i64.wrap (a+f)))],D.s (sc (int i64 0))]):=cJ aT
def sp(x:Bool×List Int)(e:Int):Prop×List D:=(iE x/\-9223372036854775808<=e/\e<9223372036854775808,dE (iQ (wv x) e) (aR (wv x) e))
theorem uI(p:Int×Int):iZ [D.agg [.sc (.bool false),.sc (.slice none 0 0),.sc (.int .i64 0)],.s (.sc (.int .i64 5))] (dE false p):=by
 refine .cons ?_ (iZ.refl _);show Ap _ (M.dD (0,0));unfold dD;rw[show((0,0):Int×Int).1.natAbs=0 from rfl,M6.cB];exact Ap.agg (.cons (Fe.refl _) (.cons (Fe.nil _) (zZ.refl _)))
theorem spec:Rq E f50 aE pV (pN .i64) sp:=by
 rintro x e ⟨hw,h1,h2⟩;have s:=start x.1 x.2 e;have hl:=hw.len;have hf:=fV.mD hw;have hb:=hw.bl;obtain⟨b,a⟩:=x;have hn:M6.cG a:=hw.1
 try dsimp only at *
 unfold sp
 try dsimp only
 rw[gP,hf,cDE,bF]at s;have aPD:=jB (b,a)
 try dsimp only at aPD
 by_cases hz:a.length=0
 ·have hv:=(M6.cZ hn).1 hz;have aIT:wv (b,a)=0:=by omega
  rw[bI]at s;refine⟨_,s,?_⟩;rw[aIT];refine .cons ?_ (iZ.refl _);show Ap _ (M.dD (0,0));unfold dD;rw[show((0,0):Int×Int).1.natAbs=0 from rfl,M6.cB];exact Ap.agg (.cons (Fe.refl _) (.cons (Fe.nil _) (zZ.refl _)))
 ·have hv:M6.val a≠0:=fun h=>hz ((M6.cZ hn).2 h)
  have aIT:wv (b,a)≠0:=by omega
  have ht:=Dz hv;have hs:=pT _ hv;have Al:∀p:Bool,(p=(decide (-1048576<=e+(tz (M6.val a):Nat))&&decide (e+(tz (M6.val a):Nat)<=1048576)))->iQ (wv (b,a)) e=p:=by
   intro p hp;unfold iQ;rw[aPD,decide_eq_false aIT,cDF,hp]
  rw[bA,gP ⟨hn.jE,by omega⟩]at s
  by_cases c1:1048576<e
  ·rw[aN c1]at s;rw[Al false (by rw[decide_eq_false (show ¬(e+(tz (M6.val a):Nat)<=1048576) by omega),cGQ])];exact⟨_,s,uI _⟩
  ·rw[aL c1]at s
   by_cases c2:e < -1572864
   ·rw[aN c2]at s;rw[Al false (by rw[decide_eq_false (show ¬(-1048576<=e+(tz (M6.val a):Nat)) by omega),cGN])];exact⟨_,s,uI _⟩
   ·have w:i64.wrap (e+(tz (M6.val a):Int))=e+(tz (M6.val a):Int):=wrap_i64;rw[aL c2,w]at s
    by_cases c3:e+(tz (M6.val a):Int) < -1048576
    ·rw[aN c3]at s;rw[Al false (by rw[decide_eq_false (show ¬(-1048576<=e+(tz (M6.val a):Nat)) by omega),cGN])];exact⟨_,s,uI _⟩
    ·rw[aL c3]at s
     by_cases c4:1048576<e+(tz (M6.val a):Int)
     ·rw[aN c4]at s;rw[Al false (by rw[decide_eq_false (show ¬(e+(tz (M6.val a):Nat)<=1048576) by omega),cGQ])];exact⟨_,s,uI _⟩
     ·rw[aL c4,Ai,gP ⟨hn,hl,by omega,by omega⟩,w,cFB]at s;rw[Al true (by rw[decide_eq_true (show(e+(tz (M6.val a):Nat)<=1048576) by omega),decide_eq_true (show(-1048576<=e+(tz (M6.val a):Nat)) by omega)];rfl)];refine⟨_,s,?_⟩;have:aR (wv (b,a)) e=(zs b (M6.val a/2^tz (M6.val a)),e+(tz (M6.val a):Nat)):=by
       unfold aR;rw[if_neg aIT,aPD];have:=aLM (b:=b) (cEE (n:=tz (M6.val a)) (show 0<2 by decide)) hs.1;rw[<-this];rfl
      rw[this];have hq:M6.val a/2^tz (M6.val a)≠0:=by omega
      show iZ _ [M.dD (zs b (M6.val a/2^tz (M6.val a)),e+(tz (M6.val a):Nat)),_];unfold dD
      try dsimp only
      rw[Hl,kR,decide_eq_true hq,Bool.and_true];exact iZ.refl _
def aI:dJ:=orc2 pV (pN .i64) sp
theorem ok:OK 50 aI:=(eB E aE (aA fV.ok (aA Fh.ok (aA Hh.ok aC))) func50).aSD rfl spec
end kG
namespace bS
def E:=mE [(45,nA.aI),(46,nN.aI),(47,Hj.aI),(48,Cp.aI),(49,Hi.aI),(50,kG.aI)] 79 [44,67,76] [(7,[2,3,4]),(12,[4,6,7,9])] [7,12]
def aE:=bd f13
theorem aT:Nk E aE:=nk
def J7 a b c d e f g h:=lP E f13 aE 7 [dS 0 29 [dG a,gO b,cP c],dS 1 29 [dG d,gO e,cP f],dS 2 29 [dG g,sc (slice none 0 0),cP h]]
def bCW a b c d e f g:=lP E f13 aE 12 [dS 0 29 [dG a,sc (slice none 0 0),cP b],bN c,dS 2 27 [dG d,gO e],dS 3 27 [dG f,gO g]]
theorem start a b c d e f:aF E f13 aE [D.agg [sc (bool a),ints u64 b,sc (int i64 c)],D.agg [sc (bool d),ints u64 e,sc (int i64 f)]]=aM (aU (a,b,c)) (aM (aU (d,e,f)) (aM True (aB ((b.length:Int)==(0:Int)) (aM (e.length<=1099511627776) (some [D.agg [sc (bool d),ints u64 e,sc (int i64 f)],D.s (sc (int i64 0))])) (aM True (aB ((e.length:Int)==(0:Int)) (aM (b.length<=1099511627776) (some [D.agg [sc (bool a),ints u64 b,sc (int i64 c)],D.s (sc (int i64 0))])) (bS.J7 a b c d e f false 0)))))):=eJ aT
theorem Pz a b c d e f g h:J7 a b c d e f g h=letI G:=i64.wrap (c-if f<c then f else c);letI I:=M6.val b*(2:Nat)^G.toNat;letI F:=i64.wrap (f-if f<c then f else c);letI H:=M6.val e*(2:Nat)^F.toNat;letI C:=some [D.agg [sc (bool false),sc (slice none 0 0),sc (int i64 0)],D.s (sc (int i64 5))];letI B:=bif fit H then wv (d,e)*(↑((2:Nat)^F.toNat):Int)else(0:Int);letI A:=bif fit I then wv (a,b)*(↑((2:Nat)^G.toNat):Int)else(0:Int);aM (iE (a,b)/\0<=i64.wrap (c-if f<c then f else c)/\i64.wrap (c-if f<c then f else c)<4611686018427387904) (aM (iE (d,e)/\0<=i64.wrap (f-if f<c then f else c)/\i64.wrap (f-if f<c then f else c)<4611686018427387904) (aB ((bif fit I then(0:Int)else(5:Int)) !=0) C (aB ((bif fit H then(0:Int)else(5:Int)) !=0) C (bS.bCW g h (if f<c then f else c) (isNeg A) (M6.dg A.natAbs) (isNeg B) (M6.dg B.natAbs))))):=cJ aT
theorem aEH a b c d e f g:bCW a b c d e f g=letI G:=wv (d,e)+wv (f,g);letI F:=bif fit G.natAbs then(0:Int)else(5:Int);letI C:=bif fit G.natAbs then wv (d,e)+wv (f,g)else(0:Int);letI A:=(isNeg C,M6.dg C.natAbs);letI B:=bif iQ (wv A) c then aR (wv A) c else((0:Int),(0:Int));aM (iE (d,e)/\iE (f,g)) (aB (F !=0) (some [D.agg [sc (bool false),sc (slice none 0 0),sc (int i64 0)],D.s (sc (int i64 F))]) (aM (iE A/\(-9223372036854775808:Int)<=c/\c<9223372036854775808) (some [D.agg [sc (bool (isNeg B.fst)),ints u64 (M6.dg B.fst.natAbs),sc (int i64 B.snd)],D.s (sc (int i64 (bif iQ (wv A) c then(0:Int)else(5:Int))))]))):=cJ aT
def iO(p q:Int×Int):Int:=if q.2<p.2 then q.2 else p.2
def oG(p q:Int×Int):Int:=p.1*((2^(p.2-iO p q).toNat:Nat):Int)
def oF(p q:Int×Int):Int:=q.1*((2^(q.2-iO p q).toNat:Nat):Int)
def oN(p q:Int×Int):Int×Int:=if p.1=0 then q else if q.1=0 then p else aR (oG p q+oF p q) (iO p q)
def lA(p q:Int×Int):Bool:=decide (p.1=0)||(decide (q.1=0)||(fit (oG p q).natAbs&&(fit (oF p q).natAbs&&(fit (oG p q+oF p q).natAbs&&iQ (oG p q+oF p q) (iO p q)))))
def sp(x y:gW):Prop×List D:=(aU x/\aU y,dE (lA (dv x) (dv y)) (oN (dv x) (dv y)))
theorem spec:Rq E f13 aE kF kF sp:=by
 rintro x y ⟨hx,hy⟩;have s:=start x.1 x.2.1 x.2.2 y.1 y.2.1 y.2.2;have dx:=hx.dD;have dy:=hy.dD;have lx:=hx.len;have ly:=hy.len;have rx:=hx.2.1;have ry:=hy.2.1;have zx:=M6.cZ hx.Kk;have zy:=M6.cZ hy.Kk;have wx:=hx.Fo;have wy:=hy.Fo;obtain⟨b,a,e⟩:=x;obtain⟨c,d,f⟩:=y
 try dsimp only at *
 unfold sp
 try dsimp only
 have ax:=jB (b,a);have ay:=jB (c,d)
 try dsimp only at ax ay
 rw[gP hx,gP hy,gP trivial]at s
 by_cases h0:a.length=0
 ·have hw:(dv (b,a,e)).1=0:=by have:=zx.1 h0;show wv (b,a)=0;omega
  rw[bI,gP]at s;refine⟨_,s,?_⟩;unfold lA oN;rw[decide_eq_true hw,cGO,if_pos hw];show iZ _ [M.dD (dv (c,d,f)),_];rw[dy];exact iZ.refl _
 ·have hw:(dv (b,a,e)).1≠0:=by have:M6.val a≠0:=fun h=>h0 (zx.2 h);show wv (b,a)≠0;omega
  rw[bA,gP trivial]at s
  by_cases g0:d.length=0
  ·have hv:(dv (c,d,f)).1=0:=by have:=zy.1 g0;show wv (c,d)=0;omega
   rw[bI,gP]at s;refine⟨_,s,?_⟩;unfold lA oN;rw[decide_eq_false hw,cDF,decide_eq_true hv,cGO,if_neg hw,if_pos hv];show iZ _ [M.dD (dv (b,a,e)),_];rw[dx];exact iZ.refl _
  ·have hv:(dv (c,d,f)).1≠0:=by have:M6.val d≠0:=fun h=>g0 (zy.2 h);show wv (c,d)≠0;omega
   have i1:iO (dv (b,a,e)) (dv (c,d,f))<=e/\iO (dv (b,a,e)) (dv (c,d,f))<=f/\-1048576<=iO (dv (b,a,e)) (dv (c,d,f)):=by
    unfold iO dv
    try dsimp only
    split <;> omega
   have u1:i64.wrap (e-iO (dv (b,a,e)) (dv (c,d,f)))=e-iO (dv (b,a,e)) (dv (c,d,f)):=wrap_i64;have u2:i64.wrap (f-iO (dv (b,a,e)) (dv (c,d,f)))=f-iO (dv (b,a,e)) (dv (c,d,f)):=wrap_i64;have e1:(if f<e then f else e)=iO (dv (b,a,e)) (dv (c,d,f)):=rfl;have f1:M6.val a*2^(e-iO (dv (b,a,e)) (dv (c,d,f))).toNat=(oG (dv (b,a,e)) (dv (c,d,f))).natAbs:=by
    show _=(wv (b,a)*_).natAbs;rw[cGR,ax,cGW];rfl
   have f2:M6.val d*2^(f-iO (dv (b,a,e)) (dv (c,d,f))).toNat=(oF (dv (b,a,e)) (dv (c,d,f))).natAbs:=by
    show _=(wv (c,d)*_).natAbs;rw[cGR,ay,cGW];rfl
   have f3:wv (b,a)*((2^(e-iO (dv (b,a,e)) (dv (c,d,f))).toNat:Nat):Int)=oG (dv (b,a,e)) (dv (c,d,f)):=rfl;have f4:wv (c,d)*((2^(f-iO (dv (b,a,e)) (dv (c,d,f))).toNat:Nat):Int)=oF (dv (b,a,e)) (dv (c,d,f)):=rfl;rw[bA,Pz,e1,u1,u2]at s
   try dsimp only at s
   rw[f1,f2,f3,f4,gP ⟨wx,by omega,by omega⟩,gP ⟨wy,by omega,by omega⟩]at s;have ao:lA (dv (b,a,e)) (dv (c,d,f))=(fit (oG (dv (b,a,e)) (dv (c,d,f))).natAbs&&(fit (oF (dv (b,a,e)) (dv (c,d,f))).natAbs&&(fit (oG (dv (b,a,e)) (dv (c,d,f))+oF (dv (b,a,e)) (dv (c,d,f))).natAbs&&iQ (oG (dv (b,a,e)) (dv (c,d,f))+oF (dv (b,a,e)) (dv (c,d,f))) (iO (dv (b,a,e)) (dv (c,d,f)))))):=by
    unfold lA;rw[decide_eq_false hw,cDF,decide_eq_false hv,cDF]
   have ad:oN (dv (b,a,e)) (dv (c,d,f))=aR (oG (dv (b,a,e)) (dv (c,d,f))+oF (dv (b,a,e)) (dv (c,d,f))) (iO (dv (b,a,e)) (dv (c,d,f))):=by
    unfold oN;rw[if_neg hw,if_neg hv]
   rw[ao,ad];generalize oG (dv (b,a,e)) (dv (c,d,f))=X at *;generalize oF (dv (b,a,e)) (dv (c,d,f))=Y at *;generalize iO (dv (b,a,e)) (dv (c,d,f))=k at *;cases c1:fit X.natAbs with
   |false =>
    rw[c1,cond_false,nW]at s;rw[cGN];exact⟨_,s,kG.uI _⟩
   |true =>
    rw[c1,cond_true,gD rfl]at s;cases c2:fit Y.natAbs with
    |false =>
     rw[c2,cond_false,nW]at s;rw[cGN,cGQ];exact⟨_,s,kG.uI _⟩
    |true =>
     rw[c2,cond_true,gD rfl,aEH,gP ⟨gN (zH c1),gN (zH c2)⟩]at s
     try dsimp only[cond_true]at s
     rw[oI,oI]at s;cases c3:fit (X+Y).natAbs with
     |false =>
      rw[c3]at s
      try dsimp only[cond_false]at s
      rw[nW]at s;rw[cGN,cGQ,cGQ];exact⟨_,s,kG.uI _⟩
     |true =>
      rw[c3]at s
      try dsimp only[cond_true]at s
      rw[gD rfl,gP ⟨gN (zH c3),by omega,by omega⟩,oI]at s;rw[cEG,cEG,cEG];exact⟨_,s,iZ.refl _⟩
def aI:dJ:=orc2 kF kF sp
theorem ok:OK 13 aI:=(eB E aE (aA nA.ok (aA nN.ok (aA Hj.ok (aA Cp.ok (aA Hi.ok (aA kG.ok aC)))))) func13).aSD rfl spec
end bS
namespace kW
def E:=mE [(45,nA.aI),(46,nN.aI),(47,Hj.aI)] 45 [] [(7,[1,2,4])] [7]
def aE:=bd f56
theorem aT:Nk E aE:=nk
def J7 a b c d e f:=lP E f56 aE 7 [bN a,dS 1 29 [dG b,gO c,cP d],dS 2 29 [dG e,sc (slice none 0 0),cP f]]
theorem start a c d b:aF E f56 aE [D.agg [sc (bool a),ints u64 c,sc (int i64 d)],D.s (sc (int i64 b))]=letI B:=int i64 0;letI A:=some [D.agg [sc (bool false),sc (slice none 0 0),sc B],D.s (sc (int i64 5))];aM (aU (a,c,d)) (aM True (aB ((c.length:Int)==(0:Int)) (some [D.agg [sc (bool false),sc (slice none 0 0),sc B],D.s (sc B)]) (aB (decide (2097152<b)) A (aB (decide (b<(-2097152:Int))) A (aB (decide (1048576<i64.wrap (d+b))) A (aB (decide (i64.wrap (d+b)<(-1048576:Int))) A (kW.J7 b a c d false 0))))))):=eJ aT
theorem Pz a b c d e f:J7 a b c d e f=aM (c.length<=1099511627776) (some [D.agg [sc (bool b),ints u64 c,sc (int i64 (i64.wrap (d+a)))],D.s (sc (int i64 0))]):=cJ aT
def Qg(p:Int×Int)(n:Int):Int×Int:=if p.1=0 then(0,0)else(p.1,p.2+n)
def Hv(p:Int×Int)(n:Int):Bool:=decide (p.1=0)||(decide (-1048576<=p.2+n)&&decide (p.2+n<=1048576))
def sp(x:gW)(n:Int):Prop×List D:=(aU x/\-9223372036854775808<=n/\n<9223372036854775808,dE (Hv (dv x) n) (Qg (dv x) n))
theorem spec:Rq E f56 aE kF (pN .i64) sp:=by
 rintro x n ⟨h,h1,h2⟩;have hl:=h.len;have hd:=h.dD;have hr:=h.2.1;have s:=start x.1 x.2.1 x.2.2 n;obtain⟨b,a,e⟩:=x
 try dsimp only at *
 unfold sp
 try dsimp only
 have hz:=M6.cZ h.Kk;have ha:=jB (b,a)
 try dsimp only at ha hz
 rw[gP h,gP trivial]at s
 by_cases h0:a.length=0
 ·have hw:(dv (b,a,e)).1=0:=by have:=hz.1 h0;show wv (b,a)=0;omega
  rw[bI]at s;refine⟨_,s,?_⟩;unfold Hv Qg;rw[decide_eq_true hw,cGO,if_pos hw];refine .cons ?_ (iZ.refl _);show Ap _ (M.dD (0,0));unfold M.dD;rw[show((0,0):Int×Int).1.natAbs=0 from rfl,M6.cB];exact Ap.agg (.cons (Fe.refl _) (.cons (Fe.nil _) (zZ.refl _)))
 ·have hw:(dv (b,a,e)).1≠0:=by have:M6.val a≠0:=fun h=>h0 (hz.2 h);show wv (b,a)≠0;omega
  have Al:∀p:Bool,(p=(decide (-1048576<=e+n)&&decide (e+n<=1048576)))->Hv (dv (b,a,e)) n=p:=by
   intro p hp;unfold Hv;rw[decide_eq_false hw,cDF,hp];rfl
  rw[bA]at s
  by_cases c1:2097152<n
  ·rw[aN c1]at s;rw[Al false (by rw[decide_eq_false (show ¬(e+n<=1048576) by omega),cGQ])];exact⟨_,s,kG.uI _⟩
  ·rw[aL c1]at s
   by_cases c2:n < -2097152
   ·rw[aN c2]at s;rw[Al false (by rw[decide_eq_false (show ¬(-1048576<=e+n) by omega),cGN])];exact⟨_,s,kG.uI _⟩
   ·have w:i64.wrap (e+n)=e+n:=wrap_i64;rw[aL c2,w]at s
    by_cases c3:1048576<e+n
    ·rw[aN c3]at s;rw[Al false (by rw[decide_eq_false (show ¬(e+n<=1048576) by omega),cGQ])];exact⟨_,s,kG.uI _⟩
    ·rw[aL c3]at s
     by_cases c4:e+n < -1048576
     ·rw[aN c4]at s;rw[Al false (by rw[decide_eq_false (show ¬(-1048576<=e+n) by omega),cGN])];exact⟨_,s,kG.uI _⟩
     ·rw[aL c4,Pz]at s
      try dsimp only at s
      rw[gP,w]at s;rw[Al true (by rw[decide_eq_true (show(e+n<=1048576) by omega),decide_eq_true (show(-1048576<=e+n) by omega)];rfl)];refine⟨_,s,?_⟩;unfold Qg;rw[if_neg hw];have hc:=h.Fo.cells;show iZ _ [M.dD (wv (b,a),e+n),_];unfold M.dD
      try dsimp only
      rw[hc.1,hc.2];exact iZ.refl _
def aI:dJ:=orc2 kF (pN .i64) sp
theorem ok:OK 56 aI:=(eB E aE (aA nA.ok (aA nN.ok (aA Hj.ok aC))) func56).aSD rfl spec
end kW
namespace aRQ
def E:=mE [(106,uA.aI)] 11 [] [] []
def aE:=bd f207
theorem aT:Nk E aE:=nk
theorem start a b:aF E f207 aE [D.agg [sc (bool a),ints u64 b]]=aM (M6.bZ b/\b.length<=1099511627776) (aB ((↑(bl (M6.val b)):Int)==(0:Int)) (some [D.s (sc (int i64 0))]) (aB a (some [D.s (sc (int i64 (-1:Int)))]) (some [D.s (sc (int i64 1))]))):=eJ aT
def sp(x:Bool×List Int):Prop×List D:=(iE x,[.s (.sc (.int .i64 (lI (wv x) 0)))])
theorem spec:iU E f207 aE pV sp:=by
 intro x h;refine(start x.1 x.2).trans ?_;have h:iE x:=h;have hl:=h.len;obtain⟨h1,h2,h3⟩:=h;unfold sp;simp only;rw[gP ⟨h1.jE,by omega⟩]
 by_cases hz:M6.val x.2=0
 ·rw[hz,Vx,bI (a:=((0:Nat):Int)) (b:=0) rfl];cases hx:x.1 with
  |true=>exact(h2 hx hz).elim
  |false=>rw[Hm hx,hz];rfl
 ·have:=qV hz;rw[bA];cases hx:x.1 with
  |true=>rw[bT,Tt hx];unfold lI;rw[aQ]
  |false=>rw[bF,Hm hx];unfold lI;rw[aO,aQ]
def aI:dJ:=orc1 pV sp
theorem ok:OK 207 aI:=(eB E aE (aA uA.ok aC) func207).oS rfl spec
end aRQ
namespace aRX
def E:=mE [(106,uA.aI)] 11 [] [] []
def aE:=bd f234
theorem aT:Nk E aE:=nk
theorem start a b c:aF E f234 aE [D.agg [sc (bool a),ints u64 b,sc (int i64 c)]]=aM (M6.bZ b/\b.length<=1099511627776) (some [D.s (sc (int i64 (i64.wrap (i64.wrap (c+(↑(bl (M6.val b)):Int))-1))))]):=eJ aT
def sp(x:gW):Prop×List D:=(aU x,[.s (.sc (.int .i64 (x.2.2+(bl (M6.val x.2.1):Nat)-1)))])
theorem spec:iU E f234 aE kF sp:=by
 intro x h;have h:aU x:=h;have hl:=h.len;have hb:=h.Fo.bl;refine(start x.1 x.2.1 x.2.2).trans ?_;have he:=h.2.1
 try dsimp only at hb
 rw[gP ⟨h.Kk.jE,by omega⟩,wrap_i64 (n:=x.2.2+_),wrap_i64];rfl
def aI:dJ:=orc1 kF sp
theorem ok:OK 234 aI:=(eB E aE (aA uA.ok aC) func234).oS rfl spec
end aRX
namespace aRY
def E:=mE [(234,aRX.aI),(98,lR.aI),(101,Cm.aI)] 54 [53] [] []
def aE:=bd f208
theorem aT:Nk E aE:=nk
theorem start a b c d e f:aF E f208 aE [D.agg [sc (bool a),ints u64 b,sc (int i64 c)],D.agg [sc (bool d),ints u64 e,sc (int i64 f)]]=letI H:=(↑(bl (M6.val e)):Int);letI G:=(↑(bl (M6.val b)):Int);letI F:=i64.wrap (c-if f<c then f else c);letI C:=i64.wrap (f-if f<c then f else c);letI B:=bif lR.kU (M6.val e) C.toNat then M6.dg (M6.val e*(2:Nat)^C.toNat)else [];letI A:=bif lR.kU (M6.val b) F.toNat then M6.dg (M6.val b*(2:Nat)^F.toNat)else [];aM (aU (a,b,c)) (aM (aU (d,e,f)) (aB (decide (c+G-(1:Int)<f+H-(1:Int))) (some [D.s (sc (int i64 (-1:Int)))]) (aB (decide (f+H-(1:Int)<c+G-(1:Int))) (some [D.s (sc (int i64 1))]) (aM (M6.cG b/\b.length<=8192/\0<=i64.wrap (c-if f<c then f else c)/\i64.wrap (c-if f<c then f else c)<4611686018427387904) (aM (M6.cG e/\e.length<=8192/\0<=i64.wrap (f-if f<c then f else c)/\i64.wrap (f-if f<c then f else c)<4611686018427387904) (aM (M6.bZ A/\M6.bZ B/\A.length<=1099511627776/\B.length<=1099511627776) (some [D.s (sc (int i64 (jK (M6.val A) (M6.val B))))]))))))):=eJ aT
def sp(x y:gW):Prop×List D:=((aU x/\aU y)/\x.2.1.length≠0/\y.2.1.length≠0,[.s (.sc (.int .i64 (jK (bS.oG (dv x) (dv y)).natAbs (bS.oF (dv x) (dv y)).natAbs)))])
theorem spec:fL E f208 aE kF kF sp:=by
 rintro x y ⟨⟨hx,hy⟩,h0,g0⟩;refine(start x.1 x.2.1 x.2.2 y.1 y.2.1 y.2.2).trans ?_;have lx:=hx.len;have ly:=hy.len;have nx:=hx.Kk;have ny:=hy.Kk;have bx:=hx.Fo.bl;have cAS:=hy.Fo.bl
 have rx:=hx.2.1;have ry:=hy.2.1;obtain⟨b,a,e⟩:=x;obtain⟨c,d,f⟩:=y
 try dsimp only at *
 unfold sp
 try dsimp only
 have ax:=jB (b,a);have ay:=jB (c,d)
 try dsimp only at ax ay
 have vx:M6.val a≠0:=fun h=>h0 ((M6.cZ nx).2 h)
 have vy:M6.val d≠0:=fun h=>g0 ((M6.cZ ny).2 h)
 rw[gP hx,gP hy];have i1:bS.iO (dv (b,a,e)) (dv (c,d,f))<=e/\bS.iO (dv (b,a,e)) (dv (c,d,f))<=f/\-1048576<=bS.iO (dv (b,a,e)) (dv (c,d,f))/\(bS.iO (dv (b,a,e)) (dv (c,d,f))=e\/bS.iO (dv (b,a,e)) (dv (c,d,f))=f):=by
  unfold bS.iO dv
  try dsimp only
  split <;> omega
 have u1:i64.wrap (e-bS.iO (dv (b,a,e)) (dv (c,d,f)))=e-bS.iO (dv (b,a,e)) (dv (c,d,f)):=wrap_i64;have u2:i64.wrap (f-bS.iO (dv (b,a,e)) (dv (c,d,f)))=f-bS.iO (dv (b,a,e)) (dv (c,d,f)):=wrap_i64;have e1:(if f<e then f else e)=bS.iO (dv (b,a,e)) (dv (c,d,f)):=rfl;have f1:(bS.oG (dv (b,a,e)) (dv (c,d,f))).natAbs=M6.val a*2^(e-bS.iO (dv (b,a,e)) (dv (c,d,f))).toNat:=by
  show(wv (b,a)*_).natAbs=_;rw[cGR,ax,cGW];rfl
 have f2:(bS.oF (dv (b,a,e)) (dv (c,d,f))).natAbs=M6.val d*2^(f-bS.iO (dv (b,a,e)) (dv (c,d,f))).toNat:=by
  show(wv (c,d)*_).natAbs=_;rw[cGR,ay,cGW];rfl
 rw[f1,f2,e1,u1,u2];generalize bS.iO (dv (b,a,e)) (dv (c,d,f))=k at *;have m1:bl (M6.val a*2^(e-k).toNat)=(e-k).toNat+bl (M6.val a):=by rw[cGC,zO vx]
 have m2:bl (M6.val d*2^(f-k).toNat)=(f-k).toNat+bl (M6.val d):=by rw[cGC,zO vy]
 have lt:∀m n:Nat,bl m<bl n->m<n:=fun m n h=>Nat.lt_of_not_le fun hc=>by have:=gF hc;omega
 by_cases c1:e+(bl (M6.val a):Int)-1<f+(bl (M6.val d):Int)-1
 ·have:=lt (M6.val a*2^(e-k).toNat) (M6.val d*2^(f-k).toNat) (by rw[m1,m2];omega);rw[aN c1];unfold jK;rw[if_pos this]
 ·rw[aL c1]
  by_cases c2:f+(bl (M6.val d):Int)-1<e+(bl (M6.val a):Int)-1
  ·have:=lt (M6.val d*2^(f-k).toNat) (M6.val a*2^(e-k).toNat) (by rw[m1,m2];omega);rw[aN c2];unfold jK;rw[aO,if_pos this]
  ·have o1:lR.kU (M6.val a) (e-k).toNat=true:=by
    unfold lR.kU;rw[decide_eq_true (show bl (M6.val a)+(e-k).toNat<=524288 by omega),cHD]
   have o2:lR.kU (M6.val d) (f-k).toNat=true:=by
    unfold lR.kU;rw[decide_eq_true (show bl (M6.val d)+(f-k).toNat<=524288 by omega),cHD]
   have k1:=fZ (n:=M6.val a*2^(e-k).toNat) (k:=8192) (by rw[m1];omega);have k2:=fZ (n:=M6.val d*2^(f-k).toNat) (k:=8192) (by rw[m2];omega);rw[aL c2,gP ⟨nx,lx,by omega,by omega⟩,gP ⟨ny,ly,by omega,by omega⟩,o1,o2,cond_true,cond_true,gP ⟨M6.gH _,M6.gH _,by omega,by omega⟩,M6.bD,M6.bD]
def aI:dJ:=orc2 kF kF sp
theorem ok:OK 208 aI:=(eB E aE (aA aRX.ok (aA lR.ok (aA Cm.ok aC))) func208).lF rfl spec
end aRY
namespace Kt
def E:=mE [(45,nA.aI),(207,aRQ.aI),(208,aRY.aI)] 38 [] [(3,[2,3])] [3]
def aE:=bd f158
theorem aT:Nk E aE:=nk
def J3 a b c d e f:=lP E f158 aE 3 [dS 0 29 [dG a,gO b,cP c],dS 1 29 [dG d,gO e,cP f]]
theorem start a b c d e f:aF E f158 aE [D.agg [sc (bool a),ints u64 b,sc (int i64 c)],D.agg [sc (bool d),ints u64 e,sc (int i64 f)]]=aM (aU (a,b,c)) (aM (aU (d,e,f)) (Kt.J3 a b c d e f)):=eJ aT
theorem iB a b c d e f:J3 a b c d e f=letI B:=wv (a,b);letI A:=sc (int i64 0);aM (iE (a,b)) (aM (iE (d,e)) (aB (decide (lI B 0<lI (wv (d,e)) 0)) (some [D.s (sc (int i64 (-1:Int))),D.s A]) (aB (decide (lI (wv (d,e)) 0<lI B 0)) (some [D.s (sc (int i64 1)),D.s A]) (aB (lI B 0==(0:Int)) (some [D.s A,D.s A]) (aM ((aU (a,b,c)/\aU (d,e,f))/\b.length≠0/\e.length≠0) (some [D.s (sc (int i64 (i64.wrap (lI B 0*jK (bS.oG (dv (a,b,c)) (dv (d,e,f))).natAbs (bS.oF (dv (a,b,c)) (dv (d,e,f))).natAbs)))),D.s A])))))):=cJ aT
def sp(x y:gW):Prop×List D:=(aU x/\aU y,[.s (.sc (.int .i64 (lI (bS.oG (dv x) (dv y)) (bS.oF (dv x) (dv y))))),.s (.sc (.int .i64 0))])
theorem Xw(z:Int)(P:Nat)(h:0<P):(0<z->0<z*(P:Int))/\(z<0->z*(P:Int)<0)/\(z=0->z*(P:Int)=0) :=
 ⟨fun hz=>Int.mul_pos hz (by omega),fun hz=>Int.mul_neg_of_neg_of_pos hz (by omega),fun hz=>by rw[hz,cGS]⟩
theorem cz(z:Int):(0<z/\lI z 0=1)\/(z<0/\lI z 0=-1)\/(z=0/\lI z 0=0):=by
 unfold lI
 by_cases h:z<0
 ·rw[if_pos h];omega
 ·rw[if_neg h]
  by_cases h':0<z
  ·rw[if_pos h'];omega
  ·rw[if_neg h'];omega
theorem spec:fL E f158 aE kF kF sp:=by
 rintro x y ⟨hx,hy⟩;refine(start x.1 x.2.1 x.2.2 y.1 y.2.1 y.2.2).trans ?_;have wx:=hx.Fo;have wy:=hy.Fo;have nx:=hx.Kk;have ny:=hy.Kk;obtain⟨b,a,e⟩:=x;obtain⟨c,d,f⟩:=y
 try dsimp only at *
 unfold sp
 try dsimp only
 have ax:=jB (b,a);have ay:=jB (c,d)
 try dsimp only at ax ay
 have zx:=M6.cZ nx;have zy:=M6.cZ ny;have sX:(0<wv (b,a)->0<bS.oG (dv (b,a,e)) (dv (c,d,f)))/\(wv (b,a)<0->bS.oG (dv (b,a,e)) (dv (c,d,f))<0)/\(wv (b,a)=0->bS.oG (dv (b,a,e)) (dv (c,d,f))=0):=Xw _ _ (cEE (by decide));have sY:(0<wv (c,d)->0<bS.oF (dv (b,a,e)) (dv (c,d,f)))/\(wv (c,d)<0->bS.oF (dv (b,a,e)) (dv (c,d,f))<0)/\(wv (c,d)=0->bS.oF (dv (b,a,e)) (dv (c,d,f))=0):=Xw _ _ (cEE (by decide));rw[gP hx,gP hy,iB,gP wx,gP wy];have guard:wv (b,a)≠0->wv (c,d)≠0->(aU (b,a,e)/\aU (c,d,f))/\a.length≠0/\d.length≠0:=fun h1 h2=>⟨⟨hx,hy⟩,fun h=>h1 (by have:=zx.1 h;omega),fun h=>h2 (by have:=zy.1 h;omega)⟩
 generalize bS.oG (dv (b,a,e)) (dv (c,d,f))=X at *;generalize bS.oF (dv (b,a,e)) (dv (c,d,f))=Y at *;have bCB:∀n:Int,lI X Y=n->some [D.s (.sc (.int .i64 n)),D.s (.sc (.int .i64 0))]=some [D.s (.sc (.int .i64 (lI X Y))),D.s (.sc (.int .i64 0))]:=fun n h=>by rw[h]
 rcases cz (wv (b,a))with ⟨h1,c1⟩ |⟨h1,c1⟩ |⟨h1,c1⟩ <;> rcases cz (wv (c,d))with ⟨h2,c2⟩ |⟨h2,c2⟩ |⟨h2,c2⟩ <;> rw[c1,c2]
 ·rw[aL,aL,bA,gP (guard (by omega) (by omega))];have:=sX.1 h1;have:=sY.1 h2;refine(congrArg (fun n=>some [D.s (.sc (.int .i64 n)),D.s (.sc (.int .i64 0))]) ?_);unfold jK lI;split <;> split <;> (try split) <;> (try split) <;> first |rfl |omega
 ·rw[aL,aN];refine bCB _ ?_;have:=sX.1 h1;have:=sY.2.1 h2;unfold lI;rw[aO,aQ]
 ·rw[aL,aN];refine bCB _ ?_;have:=sX.1 h1;have:=sY.2.2 h2;unfold lI;rw[aO,aQ]
 ·rw[aN];refine bCB _ ?_;have:=sX.2.1 h1;have:=sY.1 h2;unfold lI;rw[aQ]
 ·rw[aL,aL,bA,gP (guard (by omega) (by omega))];have:=sX.2.1 h1;have:=sY.2.1 h2;refine(congrArg (fun n=>some [D.s (.sc (.int .i64 n)),D.s (.sc (.int .i64 0))]) ?_);unfold jK lI;split <;> split <;> (try split) <;> (try split) <;> first |rfl |omega
 ·rw[aN];refine bCB _ ?_;have:=sX.2.1 h1;have:=sY.2.2 h2;unfold lI;rw[aQ]
 ·rw[aN];refine bCB _ ?_;have:=sX.2.2 h1;have:=sY.1 h2;unfold lI;rw[aQ]
 ·rw[aL,aN];refine bCB _ ?_;have:=sX.2.2 h1;have:=sY.2.1 h2;unfold lI;rw[aO,aQ]
 ·rw[aL,aL,bI rfl];refine bCB _ ?_;have:=sX.2.2 h1;have:=sY.2.2 h2;unfold lI;rw[aO,aO]
def aI:dJ:=orc2 kF kF sp
theorem ok:OK 158 aI:=(eB E aE (aA nA.ok (aA aRQ.ok (aA aRY.ok aC))) func158).lF rfl spec
end Kt
end W
namespace M
open Go AI W
def p2(n:Int):Int:=((2^n.toNat:Nat):Int)
theorem Ib(n:Int):0<p2 n:=by unfold p2;have:=cEE (n:=n.toNat) (show 0<2 by decide);omega
theorem uH{m n:Int}(hm:0<=m)(hn:0<=n):p2 (m+n)=p2 m*p2 n:=by
 unfold p2;rw[Int.toNat_add hm hn,cGE,cHC]
theorem Bd(k:Nat):p2 (k:Int)=((2^k:Nat):Int):=by unfold p2;rw[cFB]
theorem aFX:p2 0=1:=rfl
theorem aNJ:p2 1=2:=rfl
theorem fR(e:Int):aR 0 e=(0,0):=by unfold aR;rw[if_pos rfl]
theorem dZ{z e:Int}:(aR z e).1=0↔z=0:=by
 constructor
 ·intro h;unfold aR at h
  by_cases hz:z=0
  ·exact hz
  ·rw[if_neg hz]at h;dsimp only at h;have hs:=(pT z.natAbs (by omega)).1;have hd:((2^tz z.natAbs:Nat):Int)∣z:=Int.ofNat_dvd_left.2 (cIC hs);have:=cJB hd;rw[h,cGS]at this;omega
 ·rintro rfl;rw[fR]
theorem mB{z e:Int}(hz:z≠0):z=(aR z e).1*p2 (tz z.natAbs:Nat)/\(aR z e).2=e+(tz z.natAbs:Nat):=by
 unfold aR;rw[if_neg hz];dsimp only;have hs:=(pT z.natAbs (by omega)).1;have hd:((2^tz z.natAbs:Nat):Int)∣z:=Int.ofNat_dvd_left.2 (cIC hs);rw[Bd,cJB hd];exact⟨rfl,rfl⟩
theorem zC(z e:Int){k:Int}(hk:0<=k):aR (z*p2 k) e=aR z (e+k):=by
 obtain⟨n,rfl⟩:=cGG hk;rw[Bd]
 by_cases hz:z=0
 ·subst hz;rw[cGS,fR,fR]
 ·have hp:0<2^n:=cEE (by decide);have hn:z*((2^n:Nat):Int)≠0:=cJC hz (by omega);have ht:tz (z*((2^n:Nat):Int)).natAbs=n+tz z.natAbs:=by
   rw[cGR,cGW,cGC,Me (by omega)]
  unfold aR;rw[if_neg hz,if_neg hn,ht,cGE,cHC,Int.mul_comm z,Int.mul_ediv_mul_of_pos _ _ (by omega)];congr 1;omega
theorem Si{p:Int×Int}(h0:p.1=0->p.2=0)(h1:p.1≠0->p.1%2=1):aR p.1 p.2=p:=by
 unfold aR
 by_cases hz:p.1=0
 ·rw[if_pos hz];exact Prod.ext hz.symm (h0 hz).symm
 ·rw[if_neg hz,Aq (by have:=h1 hz;omega)];refine Prod.ext ?_ ?_
  ·show p.1/((2^0:Nat):Int)=p.1;rw[Nat.pow_zero];omega
  ·show p.2+((0:Nat):Int)=p.2;omega
theorem kT.same{p:Int×Int}(h:kT p):aR p.1 p.2=p:=Si h.2.2.1 h.2.2.2
theorem Gc{z e:Int}(h:(aR z e).1≠0):(aR z e).1%2=1:=by
 have hz:z≠0:=fun hz=>h (dZ.2 hz)
 have hs:=(pT z.natAbs (by omega));have hv:=(mB (e:=e) hz).1;have ha:z.natAbs=(aR z e).1.natAbs*2^tz z.natAbs:=by
  rw[Bd]at hv;have:=congrArg Int.natAbs hv;rwa [cGR,cGW]at this
 have:z.natAbs/2^tz z.natAbs=(aR z e).1.natAbs:=by
  have hp:0<2^tz z.natAbs:=cEE (by decide);generalize tz z.natAbs=t at *;rw[ha,Nat.mul_div_cancel _ hp]
 rw[this]at hs;omega
theorem Es{z e:Int}(h:(aR z e).1=0):(aR z e).2=0:=by rw[dZ.1 h,fR]
theorem wC{z e G:Int}(hz:z≠0)(h:G<=e):(aR z e).1*p2 ((aR z e).2-G)=z*p2 (e-G):=by
 obtain⟨h1,h2⟩:=mB (e:=e) hz;rw[h2];have:e+(tz z.natAbs:Int)-G=(tz z.natAbs:Int)+(e-G):=by omega
 rw[this,uH (by omega) (by omega),<-cHR,<-h1]
theorem aCE{z e G:Int}(h:G<=e):(aR z e).1*p2 ((aR z e).2-G)=z*p2 (e-G):=by
 by_cases hz:z=0
 ·subst hz;rw[fR,cGS,cGS]
 ·exact wC hz h
theorem tF{z e:Int}(hz:z≠0):e<=(aR z e).2:=by have:=(mB (e:=e) hz).2;omega
theorem Yn(z e:Int):aR (-z) e=(-(aR z e).1,(aR z e).2):=by
 by_cases hz:z=0
 ·subst hz;rw[Int.neg_zero,fR];rfl
 ·have h:=mB (e:=e) hz;unfold aR;rw[if_neg hz,aO,cHY];have hs:=(pT z.natAbs (by omega)).1;have hd:((2^tz z.natAbs:Nat):Int)∣z:=Int.ofNat_dvd_left.2 (cIC hs);rw[Int.neg_ediv_of_dvd hd]
theorem aFK(z e n:Int):kW.Qg (aR z e) n=aR z (e+n):=by
 unfold kW.Qg
 by_cases hz:z=0
 ·subst hz;rw[fR,fR];rfl
 ·rw[if_neg (fun h=>hz (dZ.1 h))];unfold aR;rw[if_neg hz,if_neg hz];dsimp only;congr 1;omega
theorem Up{p q:Int×Int}:bS.iO p q<=p.2/\bS.iO p q<=q.2:=by unfold bS.iO;split <;> omega
theorem Gz{a E b F G:Int}(h1:G<=E)(h2:G<=F):bS.oN (aR a E) (aR b F)=aR (a*p2 (E-G)+b*p2 (F-G)) G:=by
 unfold bS.oN
 by_cases ha:a=0
 ·subst ha;rw[if_pos (by rw[fR]),cGS,Int.zero_add,zC _ _ (by omega),show G+(F-G)=F by omega]
 ·rw[if_neg (fun h=>ha (dZ.1 h))]
  by_cases hb:b=0
  ·subst hb;rw[if_pos (by rw[fR]),cGS,Int.add_zero,zC _ _ (by omega),show G+(E-G)=E by omega]
  ·rw[if_neg (fun h=>hb (dZ.1 h))];have ga:=wC (e:=E) ha h1;have gb:=wC (e:=F) hb h2;have la:=tF (e:=E) ha;have lb:=tF (e:=F) hb;have hm:=Up (p:=aR a E) (q:=aR b F);have hg:G<=bS.iO (aR a E) (aR b F):=by unfold bS.iO;split <;> omega
   rw[<-ga,<-gb];unfold bS.oG bS.oF;generalize bS.iO (aR a E) (aR b F)=m at *;generalize aR a E=p at *;generalize aR b F=q at *;have e1:p2 (p.2-G)=p2 (p.2-m)*p2 (m-G):=by rw[<-uH (by omega) (by omega)];congr 1;omega
   have e2:p2 (q.2-G)=p2 (q.2-m)*p2 (m-G):=by rw[<-uH (by omega) (by omega)];congr 1;omega
   rw[e1,e2,<-cHR,<-cHR,<-Int.add_mul,zC _ _ (by omega),show G+(m-G)=m by omega];rfl
theorem iM{z e:Int}(h1:-1048576<=e)(h2:e+(bl z.natAbs:Int)<=1048577):iQ z e=true:=by
 unfold iQ
 by_cases hz:z=0
 ·rw[decide_eq_true hz,cGO]
 ·have:=Dz (n:=z.natAbs) (by omega);rw[decide_eq_true (show -1048576<=e+(tz z.natAbs:Int) by omega),decide_eq_true (show e+(tz z.natAbs:Int)<=1048576 by omega),cEG,cHD]
theorem Ge(z e:Int):(aR z e).1.natAbs<=z.natAbs:=by
 unfold aR;split
 ·simp
 ·exact tJ (cEE (by decide))
theorem iF{z e:Int}(hi:iQ z e=true)(hf:bl z.natAbs<=524288):kT (aR z e):=by
 refine⟨cCA (gF (Ge z e)) hf,?_,Es,Gc⟩
 by_cases hz:z=0
 ·subst hz;rw[fR];exact⟨by show(-1048576:Int)<=0;omega,by show(0:Int)<=1048576;omega⟩
 ·rw[(mB hz).2];unfold iQ at hi;rw[decide_eq_false hz,cDF,cBK]at hi;exact⟨of_decide_eq_true hi.1,of_decide_eq_true hi.2⟩
theorem aDX(z n:Int):(z*p2 n).natAbs=z.natAbs*2^n.toNat:=by
 rw[cGR];rfl
theorem Dm{a E b F G:Int}(h1:G<=E)(h2:G<=F)(h3:-1048576<=G)(f1:bl (a*p2 (E-G)).natAbs<=524287)(f2:bl (b*p2 (F-G)).natAbs<=524287)(f3:G<=524288) :
  bS.lA (aR a E) (aR b F)=true:=by
 unfold bS.lA
 by_cases ha:a=0
 ·rw[decide_eq_true (dZ.2 ha),cGO]
 ·by_cases hb:b=0
  ·rw[decide_eq_true (dZ.2 hb),cGO,cHD]
  ·have ga:=wC (e:=E) ha h1;have gb:=wC (e:=F) hb h2;have la:=tF (e:=E) ha;have lb:=tF (e:=F) hb;have hm:=Up (p:=aR a E) (q:=aR b F);have hg:G<=bS.iO (aR a E) (aR b F):=by unfold bS.iO;split <;> omega
   rw[<-ga]at f1;rw[<-gb]at f2;have inner:∀(p:Int×Int) (m:Int),G<=m->m<=p.2->bl (p.1*p2 (p.2-G)).natAbs<=524287->p.1≠0->bl (p.1*p2 (p.2-m)).natAbs+(m-G).toNat<=524287:=by
    intro p m h1 h2 h3 hp;have e1:p2 (p.2-G)=p2 (m-G)*p2 (p.2-m):=by rw[<-uH (by omega) (by omega)];congr 1;omega
    rw[e1,Int.mul_comm (p2 (m-G)),<-cHR,aDX,cGC,zO (by
     have:=Ib (p.2-m);have:=cJC hp (show p2 (p.2-m)≠0 by omega);omega)]at h3
    omega
   have i1:=inner _ _ hg hm.1 f1 (fun h=>ha (dZ.1 h));have i2:=inner _ _ hg hm.2 f2 (fun h=>hb (dZ.1 h));have x1:bl (bS.oG (aR a E) (aR b F)).natAbs+(bS.iO (aR a E) (aR b F)-G).toNat<=524287:=i1;have x2:bl (bS.oF (aR a E) (aR b F)).natAbs+(bS.iO (aR a E) (aR b F)-G).toNat<=524287:=i2;generalize bS.oG (aR a E) (aR b F)=X at *;generalize bS.oF (aR a E) (aR b F)=Y at *;have x3:bl (X+Y).natAbs<=max (bl X.natAbs) (bl Y.natAbs)+1:=cCA (gF (cJF _ _)) (Dl _ _);have hi:iQ (X+Y) (bS.iO (aR a E) (aR b F))=true:=iM (by omega) (by omega);have yes:∀n,bl n<=524288->fit n=true:=fun n h=>decide_eq_true h
   rw[decide_eq_false (fun h=>ha (dZ.1 h)),decide_eq_false (fun h=>hb (dZ.1 h)),hi,yes _ (by omega),yes _ (by omega),yes _ (by omega)];rfl
theorem Xy{z e n:Int}(h1:-1048576<=e+n)(h2:e+n+(bl z.natAbs:Int)<=1048577):kW.Hv (aR z e) n=true:=by
 unfold kW.Hv
 by_cases hz:z=0
 ·rw[decide_eq_true (dZ.2 hz),cGO]
 ·have:=Dz (n:=z.natAbs) (by omega);have h3:=(mB (e:=e) hz).2;rw[decide_eq_false (fun h=>hz (dZ.1 h)),decide_eq_true (by omega),decide_eq_true (by omega)];rfl
theorem Bv{z:Int}{b k:Nat}{n:Int}(h:bl z.natAbs<=b)(hn:n<=k):bl (z*p2 n).natAbs<=b+k:=by
 rw[aDX];refine dK.2 ?_;rw[cGE];exact Nat.mul_lt_mul_of_lt_of_le (dK.1 h) (cEF (by decide) (by omega)) (cEE (by decide))
theorem aDQ{x y:Int}{n:Nat}(h1:bl x.natAbs<=n)(h2:bl y.natAbs<=n):bl (x+y).natAbs<=n+1:=by
 have:=cCA (gF (cJF x y)) (Dl _ _);omega
theorem bCC{z:Int}{n:Nat}(h:bl z.natAbs<=n)(k:Int):bl (z/p2 k).natAbs<=n:=cCA (gF (tJ (cEE (by decide)))) h
theorem aQZ{z:Int}{n:Nat}(h:bl z.natAbs<=n):bl (-z).natAbs<=n:=by rwa [cHY]
theorem Iz:bl (1:Int).natAbs<=1:=dK.2 (by decide)
theorem Dy{R:Type}(V:Int×Int)(k:Bool->List Int->Int->Option R):(aD (isNeg V.1) fun b=>aD (M6.dg V.1.natAbs) fun l=>aD V.2 fun e=>k b l e)=k (isNeg V.1) (M6.dg V.1.natAbs) V.2:=rfl
theorem aYL{R:Type}(z:Int)(k:Bool->List Int->Option R):(aD (isNeg z) fun b=>aD (dg z.natAbs) fun l=>k b l)=k (isNeg z) (dg z.natAbs):=rfl
theorem vl{α R:Type}(x:α)(k:α->Option R):aD x k=k x:=rfl
end M
namespace AI
open Go Go.RowKit
def allB:Nat->(Nat->Bool)->Bool
 |0,_=>true
 |n+1,f=>f n&&allB n f
theorem aAM{f:Nat->Bool}:∀{n:Nat},allB n f=true->∀i,i<n->f i=true
 |0,_,i,hi=>absurd hi (by omega)
 |n+1,h,i,hi=>by
  simp only[allB,cBK]at h
  by_cases hc:i=n
  ·subst hc;exact h.1
  ·exact aAM h.2 i (by omega)
def pR{β:Type}(p:SPar β)(d:β):mJ (Nat×(Nat->β)) where
 put x:=.rows p.n x.1 fun i=>p.put (x.2 i)
 get
  | .rows sz n g=>if sz=p.n/\allB n (fun i=>(p.get (g i)).isSome)=true then some (n,fun i=>(p.get (g i)).getD d)else none
  |_=>none
 le:=by
  intro dd x h
  match dd,h with
  | .rows sz n g,h =>
   dsimp only at h;split at h
   ·rename_i hc;cases h;obtain⟨rfl,Br⟩:=hc;rintro Y w v ⟨A,c,hv,hle,bAC⟩;refine⟨A,c,hv,hle,fun i hi=>?_⟩;obtain⟨h1,b,off,hA,h2⟩:=bAC i hi;have hs:=aAM Br i hi;obtain⟨y,hy⟩:=Option.isSome_iff_exists.1 hs;obtain⟨a1,a2,a3⟩:=p.le hy;dsimp only;rw[hy];refine⟨a2,b,off,hA,fun j s hj=>?_⟩;obtain⟨s0,Nz⟩:=bG (l:=g i) (i:=j) (by have:=aX hj;simp only[Option.getD_some]at this;omega);obtain⟨b1,b2,u,hu,hr⟩:=h2 j s0 Nz;exact⟨b1,b2,u,hu,a3 j s0 s Nz hj Y w u hr⟩
   ·cases h
def pFn(id:FuncId):mJ Unit where
 put _:=.s (.sc (.func (.func id) #[] #[]))
 get
  | .s (.sc (.func (.func g) ⟨[]⟩ ⟨[]⟩))=>if g=id then some ()else none
  |_=>none
 le:=by
  intro dd x h;split at h
  ·split at h
   ·rename_i hg;subst hg;exact El.refl _
   ·cases h
  ·cases h
end AI
namespace R
def sum(f:Nat->Rat):Nat->Rat
 |0=>0
 |n+1=>sum f n+f n
theorem dX(f:Nat->Rat)(n:Nat):sum f (n+1)=sum f n+f n:=rfl
theorem lB{f g:Nat->Rat}{n:Nat}(h:∀k,k<n->f k=g k):sum f n=sum g n:=by
 induction n with
 |zero=>rfl
 |succ n ih=>rw[dX,dX,ih fun k hk=>h k (by omega),h n (by omega)]
theorem sum_add(f g:Nat->Rat)(n:Nat):sum (fun k=>f k+g k) n=sum f n+sum g n:=by
 induction n with
 |zero=>simp only[sum];grind
 |succ n ih=>simp only[dX,ih];grind
theorem Cz(f g:Nat->Rat)(n:Nat):sum (fun k=>f k-g k) n=sum f n-sum g n:=by
 induction n with
 |zero=>simp only[sum];grind
 |succ n ih=>simp only[dX,ih];grind
theorem oA(c:Rat)(f:Nat->Rat)(n:Nat):sum (fun k=>c*f k) n=c*sum f n:=by
 induction n with
 |zero=>simp only[sum];grind
 |succ n ih=>simp only[dX,ih];grind
theorem xM{f g:Nat->Rat}{n:Nat}(h:∀k,k<n->f k<=g k):sum f n<=sum g n:=by
 induction n with
 |zero=>simp only[sum];grind
 |succ n ih=>simp only[dX];have:=ih fun k hk=>h k (by omega);have:=h n (by omega);grind
def ab(x:Rat):Rat:=if 0<=x then x else -x
theorem aP(x:Rat):0<=ab x:=by unfold ab;split <;> grind
theorem Ec(x:Rat):x<=ab x:=by unfold ab;split <;> grind
theorem oU(x:Rat):-x<=ab x:=by unfold ab;split <;> grind
theorem cN{x a:Rat}:ab x<=a↔-a<=x/\x<=a:=by unfold ab;split <;> grind
theorem jM(x:Rat):ab (-x)=ab x:=by unfold ab;split <;> split <;> grind
theorem Wd(x y:Rat):ab (x+y)<=ab x+ab y:=by unfold ab;split <;> split <;> split <;> grind
theorem aJ{a b:Rat}(h:0<=a)(h':0<=b):0<=a*b:=Rat.mul_nonneg h h'
theorem fX(x y:Rat):ab (x*y)=ab x*ab y:=by
 unfold ab
 by_cases hx:0<=x <;> by_cases hy:0<=y
 ·rw[if_pos hx,if_pos hy,if_pos (aJ hx hy)]
 ·rw[if_pos hx,if_neg hy];have:=aJ hx (show 0<=-y by grind);split <;> grind
 ·rw[if_neg hx,if_pos hy];have:=aJ (show 0<=-x by grind) hy;split <;> grind
 ·rw[if_neg hx,if_neg hy];have:=aJ (show 0<=-x by grind) (show 0<=-y by grind);split <;> grind
theorem cR{a b c d:Rat}(h1:0<=a)(h2:a<=b)(h3:0<=c)(h4:c<=d):a*c<=b*d:=by
 have:=aJ h1 (show 0<=d-c by grind);have:=aJ (show 0<=b-a by grind) (show 0<=d by grind);grind
theorem zR(f:Nat->Rat)(n:Nat):ab (sum f n)<=sum (fun k=>ab (f k)) n:=by
 induction n with
 |zero=>simp[sum,ab]
 |succ n ih=>simp only[dX];have:=Wd (sum f n) (f n);grind
theorem aMO{f:Nat->Rat}{n:Nat}(h:∀k,0<=f k):0<=sum f n:=by
 induction n with
 |zero=>simp only[sum];grind
 |succ n ih=>simp only[dX];have:=h n;grind
def conv(f g:Nat->Rat)(m:Nat):Rat:=sum (fun j=>f j*g (m-j)) (m+1)
theorem aMP(f g:Nat->Rat)(n:Nat):sum (conv f g) n=sum (fun j=>f j*sum g (n-j)) n:=by
 induction n with
 |zero=>rfl
 |succ n ih =>
  rw[dX,ih,conv,dX,dX];rw[show n+1-n=1 by omega,cFJ];have:sum (fun j=>f j*sum g (n+1-j)) n=sum (fun j=>f j*sum g (n-j)+f j*g (n-j)) n :=
   lB fun k hk=>by rw[show n+1-k=(n-k)+1 by omega,dX];grind
  rw[this,sum_add];have:sum g 1=g 0:=by simp only[sum];grind
  grind
theorem Fz(f g:Nat->Rat)(n:Nat):sum f n*sum g n=sum (conv f g) n+sum (fun j=>f j*(sum g n-sum g (n-j))) n:=by
 rw[aMP,<-sum_add];have:sum (fun k=>f k*sum g (n-k)+f k*(sum g n-sum g (n-k))) n=sum (fun k=>sum g n*f k) n:=lB fun k _=>by grind
 rw[this,oA];grind
def tm(x:Rat):Nat->Rat
 |0=>1
 |k+1=>tm x k*x/((k+1:Nat):Rat)
theorem cast_pos(k:Nat):(0:Rat)<((k+1:Nat):Rat):=by
 exact_mod_cast Nat.succ_pos k
theorem lN(x:Rat)(k:Nat):((k+1:Nat):Rat)*tm x (k+1)=x*tm x k:=by
 have:=cast_pos k;rw[tm];grind
theorem Tv(x y:Rat):∀m,conv (tm x) (tm y) m=tm (x+y) m
 |0=>by simp only[conv,sum,tm,Nat.sub_zero];grind
 |m+1=>by
  have ih:=Tv x y m;have hp:=cast_pos m;have e:=lN (x+y) m;have h:((m+1:Nat):Rat)*conv (tm x) (tm y) (m+1)=(x+y)*conv (tm x) (tm y) m:=by
   unfold conv;rw[<-oA];have h1:sum (fun k=>((m+1:Nat):Rat)*(tm x k*tm y (m+1-k))) (m+1+1)=sum (fun k=>(k:Rat)*tm x k*tm y (m+1-k)) (m+1+1)+sum (fun k=>tm x k*(((m+1-k:Nat):Rat)*tm y (m+1-k))) (m+1+1):=by
    rw[<-sum_add];refine lB fun k hk=>?_
    have:((m+1:Nat):Rat)=(k:Rat)+((m+1-k:Nat):Rat):=by
     rw[<-Rat.natCast_add];congr 1;omega
    rw[this];grind
   have h2:∀n,sum (fun k=>(k:Rat)*tm x k*tm y (m+1-k)) (n+1)=x*sum (fun k=>tm x k*tm y (m-k)) n:=by
    intro n
    induction n with
    |zero=>simp only[sum];grind
    |succ n ih =>
     rw[dX,ih,dX,show m+1-(n+1)=m-n by omega];have:=lN x n;grind
   have h3:sum (fun k=>tm x k*(((m+1-k:Nat):Rat)*tm y (m+1-k))) (m+1+1)=y*sum (fun k=>tm x k*tm y (m-k)) (m+1):=by
    rw[dX,cFJ];have:sum (fun k=>tm x k*(((m+1-k:Nat):Rat)*tm y (m+1-k))) (m+1)=sum (fun k=>y*(tm x k*tm y (m-k))) (m+1):=by
     refine lB fun k hk=>?_
     have:=lN y (m-k);rw[show m+1-k=m-k+1 by omega];grind
    rw[this,oA];grind
   rw[h1,h2,h3];grind
  rw[ih]at h;generalize ((m+1:Nat):Rat)=q at *;generalize conv (tm x) (tm y) (m+1)=u at *;generalize tm (x+y) (m+1)=v at *;have:q*u=q*v:=by rw[h,e]
  have hq:q≠0:=by grind
  clear h e ih;grind
theorem lS(f:Nat->Rat)(a n:Nat):sum f (a+n)=sum f a+sum (fun i=>f (a+i)) n:=by
 induction n with
 |zero=>simp only[sum,cCC];grind
 |succ n ih=>rw[<-cEV,dX,ih,dX];grind
theorem Xk{f:Nat->Rat}(h:∀k,0<=f k){a b:Nat}(aYB:a<=b):sum f a<=sum f b:=by
 obtain⟨n,rfl⟩:=cCJ aYB;rw[lS];have:=aMO (f:=fun i=>f (a+i)) (n:=n) fun k=>h _
 grind
def hf:Nat->Rat
 |0=>1
 |k+1=>hf k/2
theorem xP:∀k,0<hf k
 |0=>by simp only[hf];grind
 |k+1=>by have:=xP k;simp only[hf];grind
theorem Od(a:Nat):∀b,hf (a+b)=hf a*hf b
 |0=>by simp only[hf,cCC];grind
 |b+1=>by rw[<-cEV,hf,Od a b,hf];grind
theorem aOX{a b:Nat}(h:a<=b):hf b<=hf a:=by
 obtain⟨n,rfl⟩:=cCJ h;clear h
 induction n with
 |zero=>grind
 |succ n ih=>rw[<-cEV,hf];have:=xP (a+n);grind
theorem Va(k:Nat):hf k*(2^k:Nat)=1:=by
 induction k with
 |zero=>simp only[hf];grind
 |succ k ih=>rw[hf,cGD,cID];grind
theorem bPM(n:Nat):sum hf n<=2:=by
 have:sum hf n=2-2*hf n:=by
  induction n with
  |zero=>simp only[sum,hf];grind
  |succ n ih=>rw[dX,ih,hf];grind
 have:=xP n;grind
theorem nZ{x:Rat}(h:0<=x):∀k,0<=tm x k
 |0=>by simp only[tm];grind
 |k+1=>by
  have h1:=aJ h (nZ h k);have h2:=lN x k;have h3:=cast_pos k;refine Rat.not_lt.1 fun hn=>?_
  have:=cGX h3 (show 0 < -(tm x (k+1)) by grind);grind
theorem Ru(x:Rat):∀k,ab (tm x k)=tm (ab x) k
 |0=>by simp only[tm,ab];grind
 |k+1=>by
  have h3:=cast_pos k;have h1:=Ru x k;have h2:=lN x k;have h4:=lN (ab x) k;have h5:ab (((k+1:Nat):Rat)*tm x (k+1))=ab x*ab (tm x k):=by rw[h2,fX]
  rw[fX,h1]at h5;have h6:ab ((k+1:Nat):Rat)=((k+1:Nat):Rat):=by unfold ab;rw[if_pos (by grind)]
  rw[h6]at h5;generalize ((k+1:Nat):Rat)=q at *;generalize ab (tm x (k+1))=u at *;generalize tm (ab x) (k+1)=v at *;have hq:q≠0:=by grind
  have:q*u=q*v:=by grind
  clear h1 h2 h4 h5 h6;grind
theorem aET{x y:Rat}(h:0<=x)(aSL:x<=y):∀k,tm x k<=tm y k
 |0=>by simp only[tm];grind
 |k+1=>by
  have h1:=cR (nZ h k) (aET h aSL k) h aSL;have h2:=lN x k;have h4:=lN y k;have h3:=cast_pos k;refine Rat.not_lt.1 fun hn=>?_
  have:=cGX h3 (show 0<tm x (k+1)-tm y (k+1) by grind);grind
theorem aMH(j:Nat):tm 4 (8+j)<=2*hf j:=by
 induction j with
 |zero =>
  have:tm 4 8=65536/40320:=by simp only[tm];grind
  simp only[hf,cCC,this];grind
 |succ j ih =>
  have h2:=lN 4 (8+j);have h3:(8:Rat)<=((8+j+1:Nat):Rat):=by exact_mod_cast(show 8<=8+j+1 by omega)
  have h4:=nZ (x:=4) (by grind) (8+j+1);rw[<-cEV,hf];have:=aJ (show 0<=((8+j+1:Nat):Rat)-8 by grind) h4;grind
theorem Ar(m n:Nat):sum (fun i=>tm 4 (8+m+i)) n<=4*hf m:=by
 have h1:sum (fun i=>tm 4 (8+m+i)) n<=sum (fun i=>2*hf m*hf i) n:=xM fun k _=>by
  have:=aMH (m+k);rw[Od,<-cEV]at this;grind
 rw[oA]at h1;have:=aJ (show 0<=2*hf m by have:=xP m;grind) (show 0<=2-sum hf n by have:=bPM n;grind);grind
theorem aEU(n:Nat):sum (tm 4) n<=64:=by
 have h0:∀k,0<=tm 4 k:=nZ (by grind);have h1:=Xk h0 (show n<=8+n by omega);have h2:=lS (tm 4) 8 n;have h3:=Ar 0 n;have h4:sum (tm 4) 8<=52:=by
  simp only[sum,tm];grind
 simp only[hf,cCC]at h3;grind
theorem Lc{f g:Nat->Rat}(aXU:∀k,ab (f k)<=tm 4 k)(hg:∀k,ab (g k)<=tm 4 k)(m:Nat) :
  ab (sum (fun j=>f j*(sum g (2*(8+m))-sum g (2*(8+m)-j))) (2*(8+m)))<=512*hf m:=by
 have hG:∀a n,ab (sum g (a+n)-sum g a)<=sum (fun i=>tm 4 (a+i)) n:=fun a n=>by
  rw[lS,show sum g a+sum (fun i=>g (a+i)) n-sum g a=sum (fun i=>g (a+i)) n by grind];exact cGJ (zR _ _) (xM fun k _=>hg _)
 have h0:∀k,0<=tm 4 k:=nZ (by grind);refine cGJ (zR _ _) ?_;have hp:=xP m;have e:2*(8+m)=(8+m)+(8+m):=by omega
 rw[show sum (fun k=>ab (f k*(sum g (2*(8+m))-sum g (2*(8+m)-k)))) (2*(8+m))=sum (fun k=>ab (f k*(sum g (2*(8+m))-sum g (2*(8+m)-k)))) ((8+m)+(8+m)) by rw[<-e],lS];have p1:sum (fun k=>ab (f k*(sum g (2*(8+m))-sum g (2*(8+m)-k)))) (8+m)<=sum (fun k=>4*hf m*tm 4 k) (8+m):=xM fun k hk=>by
  rw[fX];have h1:=hG (2*(8+m)-k) k;rw[show 2*(8+m)-k+k=2*(8+m) by omega]at h1;have h2:=Ar (8+m-k) k;rw[show 8+(8+m-k)=2*(8+m)-k-m by omega]at h2;have h3:=Ar (m+(8+m-k)-8+8-8+8) k;have h5:sum (fun i=>tm 4 (2*(8+m)-k+i)) k<=4*hf (2*(8+m)-k-8):=by
   have:=Ar (2*(8+m)-k-8) k;rwa [show 8+(2*(8+m)-k-8)=2*(8+m)-k by omega]at this
  have h6:=aOX (show m<=2*(8+m)-k-8 by omega);have:=cR (aP _) (aXU k) (aP _) (show ab (sum g (2*(8+m))-sum g (2*(8+m)-k))<=4*hf m by grind);grind
 have p2:sum (fun i=>ab (f (8+m+i)*(sum g (2*(8+m))-sum g (2*(8+m)-(8+m+i))))) (8+m)<=sum (fun i=>64*tm 4 (8+m+i)) (8+m):=xM fun k hk=>by
  rw[fX];have h1:=hG (2*(8+m)-(8+m+k)) (8+m+k);rw[show 2*(8+m)-(8+m+k)+(8+m+k)=2*(8+m) by omega]at h1;have h2:=lS (tm 4) (2*(8+m)-(8+m+k)) (8+m+k);have h3:=aEU (2*(8+m)-(8+m+k)+(8+m+k));have h4:=aMO (n:=2*(8+m)-(8+m+k)) h0;have:=cR (aP _) (aXU (8+m+k)) (aP _) (show ab (sum g (2*(8+m))-sum g (2*(8+m)-(8+m+k)))<=64 by grind);grind
 rw[oA]at p1 p2;have t1:=aEU (8+m);have t2:=Ar m (8+m);have:=aJ (show 0<=4*hf m by grind) (show 0<=64-sum (tm 4) (8+m) by grind);grind
def cc(k:Nat):Rat:=if k%4=0 then 1 else if k%4=2 then -1 else 0
def ss(k:Nat):Rat:=if k%4=1 then 1 else if k%4=3 then -1 else 0
theorem bCA(j l:Nat):cc j*cc l-ss j*ss l=cc (j+l):=by
 unfold cc ss;rw[cHN];have h1:=cDM j (show 4>0 by omega);have h2:=cDM l (show 4>0 by omega);generalize j%4=a at *;generalize l%4=b at *;have h3:a=0\/a=1\/a=2\/a=3:=by omega
 have h4:b=0\/b=1\/b=2\/b=3:=by omega
 rcases h3 with rfl |rfl |rfl |rfl <;> rcases h4 with rfl |rfl |rfl |rfl <;> simp <;> grind
theorem aYU(j l:Nat):ss j*cc l+cc j*ss l=ss (j+l):=by
 unfold cc ss;rw[cHN];have h1:=cDM j (show 4>0 by omega);have h2:=cDM l (show 4>0 by omega);generalize j%4=a at *;generalize l%4=b at *;have h3:a=0\/a=1\/a=2\/a=3:=by omega
 have h4:b=0\/b=1\/b=2\/b=3:=by omega
 rcases h3 with rfl |rfl |rfl |rfl <;> rcases h4 with rfl |rfl |rfl |rfl <;> simp <;> grind
theorem aQV(k:Nat):ab (cc k)<=1:=by
 unfold cc ab;split <;> split <;> grind
theorem aEX(k:Nat):ab (ss k)<=1:=by
 unfold ss ab;split <;> split <;> grind
def vW(x:Rat)(n:Nat):Rat:=sum (fun k=>cc k*tm x k) n
def vM(x:Rat)(n:Nat):Rat:=sum (fun k=>ss k*tm x k) n
theorem aHG{x:Rat}(h:ab x<=4)(k:Nat):ab (cc k*tm x k)<=tm 4 k:=by
 rw[fX,Ru];have:=cR (aP _) (aQV k) (nZ (aP x) k) (aET (aP x) h k);grind
theorem aEW{x:Rat}(h:ab x<=4)(k:Nat):ab (ss k*tm x k)<=tm 4 k:=by
 rw[fX,Ru];have:=cR (aP _) (aEX k) (nZ (aP x) k) (aET (aP x) h k);grind
theorem bBW(x y:Rat)(m:Nat):conv (fun k=>cc k*tm x k) (fun k=>cc k*tm y k) m-conv (fun k=>ss k*tm x k) (fun k=>ss k*tm y k) m=cc m*tm (x+y) m:=by
 rw[<-Tv];unfold conv;rw[<-Cz,<-oA];refine lB fun k hk=>?_
 have:=bCA k (m-k);rw[show k+(m-k)=m by omega]at this;rw[<-this];grind
theorem bBV(x y:Rat)(m:Nat):conv (fun k=>ss k*tm x k) (fun k=>cc k*tm y k) m+conv (fun k=>cc k*tm x k) (fun k=>ss k*tm y k) m=ss m*tm (x+y) m:=by
 rw[<-Tv];unfold conv;rw[<-sum_add,<-oA];refine lB fun k hk=>?_
 have:=aYU k (m-k);rw[show k+(m-k)=m by omega]at this;rw[<-this];grind
theorem aQP{x y:Rat}(hx:ab x<=4)(hy:ab y<=4)(m:Nat):ab (vW (x+y) (2*(8+m))-(vW x (2*(8+m))*vW y (2*(8+m))-vM x (2*(8+m))*vM y (2*(8+m))))<=1024*hf m:=by
 have h1:=Lc (aHG hx) (aHG hy) m;have h2:=Lc (aEW hx) (aEW hy) m;unfold vW vM;rw[Fz,Fz];have h3:sum (fun k=>cc k*tm (x+y) k) (2*(8+m))=sum (conv (fun k=>cc k*tm x k) (fun k=>cc k*tm y k)) (2*(8+m))-sum (conv (fun k=>ss k*tm x k) (fun k=>ss k*tm y k)) (2*(8+m)):=by
  rw[<-Cz];exact lB fun k _=>(bBW x y k).symm
 rw[h3];rw[cN]at *;grind
theorem aNA{x y:Rat}(hx:ab x<=4)(hy:ab y<=4)(m:Nat):ab (vM (x+y) (2*(8+m))-(vM x (2*(8+m))*vW y (2*(8+m))+vW x (2*(8+m))*vM y (2*(8+m))))<=1024*hf m:=by
 have h1:=Lc (aEW hx) (aHG hy) m;have h2:=Lc (aHG hx) (aEW hy) m;unfold vW vM;rw[Fz,Fz];have h3:sum (fun k=>ss k*tm (x+y) k) (2*(8+m))=sum (conv (fun k=>ss k*tm x k) (fun k=>cc k*tm y k)) (2*(8+m))+sum (conv (fun k=>cc k*tm x k) (fun k=>ss k*tm y k)) (2*(8+m)):=by
  rw[<-sum_add];exact lB fun k _=>(bBV x y k).symm
 rw[h3];rw[cN]at *;grind
theorem aQQ(x:Rat)(n:Nat):vW (-x) n=vW x n:=by
 refine lB fun k _=>?_
 have:∀k,cc k*tm (-x) k=cc k*tm x k/\ss k*tm (-x) k=- (ss k*tm x k):=by
  intro k;have h:∀j,tm (-x) (2*j)=tm x (2*j)/\tm (-x) (2*j+1)=- tm x (2*j+1):=by
   intro j
   induction j with
   |zero=>simp only[tm];grind
   |succ j ih =>
    rw[show 2*(j+1)=2*j+1+1 by omega];obtain⟨h1,h2⟩:=ih;have e:tm (-x) (2*j+1+1)=tm x (2*j+1+1):=by rw[tm,h2];grind [tm]
    refine⟨e,?_⟩;rw[tm,e];grind [tm]
  have:=h (k/2);unfold cc ss
  by_cases hk:k%2=0
  ·rw[show 2*(k/2)=k by omega]at this;rw[if_neg (show ¬k%4=1 by omega),if_neg (show ¬k%4=3 by omega),this.1];grind
  ·rw[show 2*(k/2)+1=k by omega]at this;rw[if_neg (show ¬k%4=0 by omega),if_neg (show ¬k%4=2 by omega),this.2];grind
 exact(this k).1
theorem aNB(x:Rat)(n:Nat):vM (-x) n=- vM x n:=by
 unfold vM;rw[show -sum (fun k=>ss k*tm x k) n=(-1)*sum (fun k=>ss k*tm x k) n by grind,<-oA];refine lB fun k _=>?_
 have h:∀j,tm (-x) (2*j)=tm x (2*j)/\tm (-x) (2*j+1)=- tm x (2*j+1):=by
  intro j
  induction j with
  |zero=>simp only[tm];grind
  |succ j ih =>
   rw[show 2*(j+1)=2*j+1+1 by omega];obtain⟨h1,h2⟩:=ih;have e:tm (-x) (2*j+1+1)=tm x (2*j+1+1):=by rw[tm,h2];grind [tm]
   refine⟨e,?_⟩;rw[tm,e];grind [tm]
 have:=h (k/2);unfold ss
 by_cases hk:k%2=0
 ·rw[if_neg (show ¬k%4=1 by omega),if_neg (show ¬k%4=3 by omega)];grind
 ·rw[show 2*(k/2)+1=k by omega]at this;rw[this.2];grind
theorem Mh{x:Rat}(h0:0<=x)(h1:x<=1)(a:Nat)(ha:1<=a)(n:Nat):sum (fun i=>tm x (a+i)) n<=2*tm x a:=by
 have hh:∀i,tm x (a+i)<=tm x a*hf i:=by
  intro i
  induction i with
  |zero=>simp only[hf,cCC];grind
  |succ i ih =>
   have h2:=lN x (a+i);have h3:(2:Rat)<=((a+i+1:Nat):Rat):=by exact_mod_cast(show 2<=a+i+1 by omega)
   have h4:=nZ h0 (a+i+1);have h5:=nZ h0 (a+i);have:=aJ (show 0<=((a+i+1:Nat):Rat)-2 by grind) h4;have:=aJ (show 0<=1-x by grind) h5;rw[<-cEV,hf];grind
 have h1:sum (fun i=>tm x (a+i)) n<=sum (fun i=>tm x a*hf i) n:=xM fun k _=>hh k
 rw[oA]at h1;have:=aJ (nZ h0 a) (show 0<=2-sum hf n by have:=bPM n;grind);grind
theorem aQO{x:Rat}(h:ab x<=1){a n:Nat}(ha:1<=a)(hn:a<=n):ab (vW x n-vW x a)<=2*tm (ab x) a:=by
 obtain⟨m,rfl⟩:=cCJ hn;unfold vW;rw[lS,show sum (fun k=>cc k*tm x k) a+sum (fun i=>cc (a+i)*tm x (a+i)) m-sum (fun k=>cc k*tm x k) a=sum (fun i=>cc (a+i)*tm x (a+i)) m by grind];refine cGJ (zR _ _) (cGJ (xM fun k _=>?_) (Mh (aP x) h a ha m));rw[fX,Ru];have:=cR (aP _) (aQV (a+k)) (nZ (aP x) (a+k)) cHS;grind
theorem aMY{x:Rat}(h:ab x<=1){a n:Nat}(ha:1<=a)(hn:a<=n):ab (vM x n-vM x a)<=2*tm (ab x) a:=by
 obtain⟨m,rfl⟩:=cCJ hn;unfold vM;rw[lS,show sum (fun k=>ss k*tm x k) a+sum (fun i=>ss (a+i)*tm x (a+i)) m-sum (fun k=>ss k*tm x k) a=sum (fun i=>ss (a+i)*tm x (a+i)) m by grind];refine cGJ (zR _ _) (cGJ (xM fun k _=>?_) (Mh (aP x) h a ha m));rw[fX,Ru];have:=cR (aP _) (aEX (a+k)) (nZ (aP x) (a+k)) cHS;grind
theorem bIY:∃k:Nat,k=1048576:=⟨_,rfl⟩
def K:Nat:=Classical.choose bIY
theorem bCR:K=1048576:=Classical.choose_spec bIY
def aWH:Nat:=2*(8+(K+10))
def xS:Rat:=hf K
def sn(x:Rat):Rat:=vM x aWH
def cs(x:Rat):Rat:=vW x aWH
theorem xI:0<xS:=xP K
theorem aPT:1024*hf (K+10)=xS:=by
 have:=Od K 10;have h:hf 10=1/1024:=by simp only[hf];grind
 unfold xS;grind
theorem Dh{n:Nat}(h:n<=1048576):xS<=hf n:=aOX (by rw[bCR];exact h)
theorem Gm:xS<=1/1048576:=by
 have:=Dh (n:=20) (by omega);simp only[hf]at this;grind
theorem Iu{x y:Rat}(hx:ab x<=4)(hy:ab y<=4):ab (cs (x+y)-(cs x*cs y-sn x*sn y))<=xS:=by
 rw[<-aPT];exact aQP hx hy _
theorem aMW{x y:Rat}(hx:ab x<=4)(hy:ab y<=4):ab (sn (x+y)-(sn x*cs y+cs x*sn y))<=xS:=by
 rw[<-aPT];exact aNA hx hy _
theorem aDK(x:Rat):cs (-x)=cs x:=aQQ x _
theorem Hr(x:Rat):sn (-x)=- sn x:=aNB x _
theorem aTA(k:Nat):tm 0 (k+1)=0:=by rw[tm];grind
theorem Vy{a:Nat}(h:a<=1048576):a<=aWH:=by unfold aWH;rw[bCR];omega
theorem Lu{x:Rat}(h:ab x<=1){a:Nat}(ha:1<=a)(hn:a<=1048576):ab (cs x-vW x a)<=2*tm (ab x) a:=aQO h ha (Vy hn)
theorem Ua{x:Rat}(h:ab x<=1){a:Nat}(ha:1<=a)(hn:a<=1048576):ab (sn x-vM x a)<=2*tm (ab x) a:=aMY h ha (Vy hn)
theorem aHH:cs 0=1:=by
 have h:=Lu (x:=0) (by simp only[ab];grind) (a:=1) (by omega) (by omega);rw[show ab 0=0 by simp only[ab];grind,show(1:Nat)=0+1 by rfl,aTA]at h;have h2:vW 0 (0+1)=1:=by simp[vW,sum,cc,tm];grind
 rw[cN,h2]at h;grind
theorem aTS{x:Rat}(hx:ab x<=4):ab (sn x*sn x+cs x*cs x-1)<=xS:=by
 have:=Iu hx (show ab (-x)<=4 by rwa [jM]);rw[show x+-x=0 by grind,aHH,aDK,Hr]at this;rw[cN]at *;grind
theorem Rx{x:Rat}(hx:ab x<=4):ab (sn (2*x)-2*sn x*cs x)<=xS:=by
 have:=aMW hx hx;rw[show x+x=2*x by grind]at this;rw[cN]at *;grind
theorem Tc{x:Rat}(hx:ab x<=4):ab (cs (2*x)-(1-2*(sn x*sn x)))<=2*xS:=by
 have:=Iu hx hx;have:=aTS hx;rw[show x+x=2*x by grind]at *;rw[cN]at *;grind
theorem Mn{a b:Rat}(h:a*a<=b*b)(hb:0<=b):ab a<=b:=by
 rw[cN];constructor
 ·refine Rat.not_lt.1 fun hn=>?_
  have:=cGX (show 0 < -a-b by grind) (show 0 < -a+b by grind);grind
 ·refine Rat.not_lt.1 fun hn=>?_
  have:=cGX (show 0<a-b by grind) (show 0<a+b by grind);grind
theorem bKY(a:Rat):0<=a*a:=by
 by_cases h:0<=a
 ·exact aJ h h
 ·have:=aJ (show 0<=-a by grind) (show 0<=-a by grind);grind
theorem aFE{x:Rat}(hx:ab x<=4):ab (sn x)<=1+xS:=by
 have h:=aTS hx;have h1:=xI;have h2:=bKY (cs x);have h3:=aJ (show 0<=xS by grind) (show 0<=xS by grind);refine Mn ?_ (by grind);rw[cN]at h;grind
theorem aHK{x:Rat}(hx:ab x<=4):ab (cs x)<=1+xS:=by
 have h:=aTS hx;have h1:=xI;have h2:=bKY (sn x);have h3:=aJ (show 0<=xS by grind) (show 0<=xS by grind);refine Mn ?_ (by grind);rw[cN]at h;grind
theorem bR{x:Rat}(h:0<=x):ab x=x:=by unfold ab;rw[if_pos h]
theorem En(x:Rat):tm x 1=x/\tm x 2=x*x/2/\tm x 3=x*x*x/6/\tm x 4=x*x*x*x/24/\tm x 5=x*x*x*x*x/120/\tm x 6=x*x*x*x*x*x/720:=by
 simp only[tm];refine⟨?_,?_,?_,?_,?_,?_⟩ <;> grind
theorem Ay{x:Rat}(h0:0<=x)(h1:x<=1):x-x*x*x/6<=sn x/\sn x<=x-x*x*x/6+x*x*x*x*x/60:=by
 have a1:ab x<=1:=by rwa [bR h0]
 have t5:=Ua a1 (a:=5) (by omega) (by omega);have t7:=Ua a1 (a:=7) (by omega) (by omega);rw[bR h0]at t5 t7;obtain⟨e1,e2,e3,e4,e5,e6⟩:=En x;have p5:vM x 5=x-x*x*x/6:=by simp[vM,sum,ss];rw[e1,e3];grind
 have p7:vM x 7=x-x*x*x/6+x*x*x*x*x/120:=by simp[vM,sum,ss];rw[e1,e3,e5];grind
 have e7:tm x 7<=tm x 5/4:=by
  have h2:=lN x 6;have h3:=lN x 5;have:=nZ h0 7;have:=nZ h0 6;have:=nZ h0 5;have:=aJ (show 0<=1-x by grind) (nZ h0 6);have:=aJ (show 0<=1-x by grind) (nZ h0 5);norm_cast at h2 h3;grind
 rw[cN,p5,e5]at t5;rw[cN,p7]at t7;rw[e5]at e7;grind
theorem Ow{x:Rat}(h0:0<=x)(h1:x<=1):1-x*x/2<=cs x/\cs x<=1-x*x/2+x*x*x*x/12:=by
 have a1:ab x<=1:=by rwa [bR h0]
 have t5:=Lu a1 (a:=4) (by omega) (by omega);have t7:=Lu a1 (a:=6) (by omega) (by omega);rw[bR h0]at t5 t7;obtain⟨e1,e2,e3,e4,e5,e6⟩:=En x;have p5:vW x 4=1-x*x/2:=by simp[vW,sum,cc];rw[e2,tm];grind
 have p7:vW x 6=1-x*x/2+x*x*x*x/24:=by simp[vW,sum,cc];rw[e2,e4,tm];grind
 have e7:tm x 6<=tm x 4/4:=by
  have h2:=lN x 5;have h3:=lN x 4;have:=nZ h0 6;have:=nZ h0 5;have:=nZ h0 4;have:=aJ (show 0<=1-x by grind) (nZ h0 5);have:=aJ (show 0<=1-x by grind) (nZ h0 4);norm_cast at h2 h3;grind
 rw[cN,p5,e4]at t5;rw[cN,p7]at t7;rw[e4]at e7;grind
theorem aMG{x y:Rat}(hx:ab x<=1)(hy:ab y<=1):∀k,ab (tm y (k+1)-tm x (k+1))<=ab (y-x)*tm 1 k
 |0=>by
  obtain⟨e1,_⟩:=En x;obtain⟨e2,_⟩:=En y;rw[show 0+1=1 by rfl,e1,e2,tm];grind
 |k+1=>by
  have ih:=aMG hx hy k;have h2:=lN x (k+1);have h3:=lN y (k+1);have h1:=lN 1 k;have hp:=cast_pos (k+1);have e:((k+1+1:Nat):Rat)*(tm y (k+1+1)-tm x (k+1+1))=(y-x)*tm y (k+1)+x*(tm y (k+1)-tm x (k+1)):=by grind
  have e2:=congrArg ab e;have e3:=Wd ((y-x)*tm y (k+1)) (x*(tm y (k+1)-tm x (k+1)));rw[fX,bR (show(0:Rat)<=((k+1+1:Nat):Rat) by grind)]at e2;rw[fX,fX,Ru]at e3;have b1:=cR (aP (y-x)) cHS (nZ (aP y) (k+1)) (aET (aP y) hy (k+1));have b2:=cR (aP x) hx (aP _) ih;have hc:((k+1+1:Nat):Rat)=((k+1:Nat):Rat)+1:=by norm_cast
  refine Rat.not_lt.1 fun hn=>?_
  have:=cGX hp (show 0<ab (tm y (k+1+1)-tm x (k+1+1))-ab (y-x)*tm 1 (k+1) by grind);have aBD:tm 1 k=((k+1:Nat):Rat)*tm 1 (k+1):=by grind
  rw[aBD]at b2;rw[hc]at this e2;clear e h2 h3 h1 ih aBD hc hp hx hy;generalize ((k+1:Nat):Rat)=q at *;generalize ab (tm y (k+1+1)-tm x (k+1+1))=A at *;generalize ab ((y-x)*tm y (k+1)+x*(tm y (k+1)-tm x (k+1)))=B at *;generalize ab (y-x)=d at *;generalize tm 1 (k+1)=T at *;grind
theorem aMI(a:Nat)(ha:1<=a)(n:Nat):sum (fun i=>tm 1 (a+i)) n<=2*tm 1 a:=Mh (by grind) (by grind) a ha n
theorem aMV{x y:Rat}(hx:ab x<=1)(hy:ab y<=1):ab (sn y-sn x-(y-x))<=3/4*ab (y-x):=by
 have hN:=Vy (a:=3) (by omega);obtain⟨n,hn⟩:=cCJ hN;unfold sn vM;rw[hn,lS,lS];obtain⟨e1,_⟩:=En x;obtain⟨e2,_⟩:=En y;have p:sum (fun k=>ss k*tm x k) 3=x:=by simp[sum,ss];rw[e1];grind
 have q:sum (fun k=>ss k*tm y k) 3=y:=by simp[sum,ss];rw[e2];grind
 rw[p,q,show y+sum (fun i=>ss (3+i)*tm y (3+i)) n-(x+sum (fun i=>ss (3+i)*tm x (3+i)) n)-(y-x)=sum (fun i=>ss (3+i)*tm y (3+i)) n-sum (fun i=>ss (3+i)*tm x (3+i)) n by grind,<-Cz];refine cGJ (zR _ _) ?_;have h1:sum (fun k=>ab (ss (3+k)*tm y (3+k)-ss (3+k)*tm x (3+k))) n<=sum (fun k=>ab (y-x)*tm 1 (2+k)) n:=xM fun k _=>by
  have:=aMG hx hy (2+k);rw[show 2+k+1=3+k by omega]at this;rw[show ss (3+k)*tm y (3+k)-ss (3+k)*tm x (3+k)=ss (3+k)*(tm y (3+k)-tm x (3+k)) by grind,fX];have:=cR (aP _) (aEX (3+k)) (aP _) this;grind
 rw[oA]at h1;have h2:sum (fun k=>tm 1 (2+k)) n<=3/4:=by
  have h3:=Xk (f:=fun k=>tm 1 (2+k)) (fun k=>nZ (by grind) _) (show n<=2+n by omega);have h4:=lS (fun k=>tm 1 (2+k)) 2 n;have h5:=aMI 4 (by omega) n;obtain⟨_,f2,f3,f4,_⟩:=En 1;have h6:sum (fun k=>tm 1 (2+k)) 2=2/3:=by simp[sum];rw[f2,f3];grind
  have h7:sum (fun i=>tm 1 (2+(2+i))) n=sum (fun i=>tm 1 (4+i)) n:=lB fun k _=>by rw[show 2+(2+k)=4+k by omega]
  rw[f4]at h5;grind
 have:=aJ (aP (y-x)) (show 0<=3/4-sum (fun k=>tm 1 (2+k)) n by grind);grind
theorem aHJ{a b:Rat}(ha:ab a<=4)(hb:ab b<=4):ab (cs (a-b)-cs (a+b)-2*(sn a*sn b))<=2*xS:=by
 have h1:=Iu ha hb;have h2:=Iu ha (show ab (-b)<=4 by rwa [jM]);rw[aDK,Hr,show a+-b=a-b by grind]at h2;rw[cN]at *;grind
theorem Mq{x:Rat}(h0:0<=x)(h1:x<=1):0<=sn x:=by
 have:=(Ay h0 h1).1;have h2:=cR h0 h1 h0 h1;have h3:=aJ h0 (show 0<=1*1-x*x by grind);grind
theorem aFC{x:Rat}(h0:0<=x)(h1:x<=1):sn x<=x:=by
 have:=(Ay h0 h1).2;have h2:=cR h0 h1 h0 h1;have h4:=aJ (aJ h0 h0) h0;have h3:=aJ h4 (show 0<=1*1-x*x by grind);grind
theorem aBR{x:Rat}(h:ab x<=1):ab (sn x)<=ab x:=by
 by_cases h0:0<=x
 ·rw[bR h0]at *;have:=Mq h0 h;have:=aFC h0 h;rw[cN];grind
 ·have e:ab x=-x:=by unfold ab;rw[if_neg h0]
  rw[e]at h;rw[e];have h1:=Mq (show 0<=-x by grind) h;have h2:=aFC (show 0<=-x by grind) h;rw[Hr]at h1 h2;rw[cN];grind
theorem aHI{x y:Rat}(h0:0<=x)(h:x<=y)(h1:y<=1):cs y<=cs x+2*xS:=by
 have h2:=aHJ (a:=(x+y)/2) (b:=(y-x)/2) (by rw[cN];grind) (by rw[cN];grind);rw[show(x+y)/2-(y-x)/2=x by grind,show(x+y)/2+(y-x)/2=y by grind,cN]at h2;have h3:=aJ (Mq (x:=(x+y)/2) (by grind) (by grind)) (Mq (x:=(y-x)/2) (by grind) (by grind));grind
theorem aQM{x y:Rat}(hx:ab x<=1)(hy:ab y<=1):ab (cs y-cs x)<=ab (y-x)+2*xS:=by
 have b1:ab ((x+y)/2)<=1:=by rw[cN]at *;grind
 have b2:ab ((y-x)/2)<=1:=by rw[cN]at *;grind
 have h2:=aHJ (a:=(x+y)/2) (b:=(y-x)/2) (by grind) (by grind);rw[show(x+y)/2-(y-x)/2=x by grind,show(x+y)/2+(y-x)/2=y by grind]at h2;have h3:=cR (aP _) (aBR b1) (aP _) (aBR b2);have h4:=cR (aP _) b1 (aP _) (show ab ((y-x)/2)<=ab ((y-x)/2)from cHS);rw[<-fX]at h3;have h5:ab ((y-x)/2)=ab (y-x)/2:=by unfold ab;split <;> split <;> grind
 rw[h5]at h3 h4;have h6:=Ec (sn ((x+y)/2)*sn ((y-x)/2));have h7:=oU (sn ((x+y)/2)*sn ((y-x)/2));rw[cN]at h2 ⊢;clear h5 b1 b2 hx hy;generalize sn ((x+y)/2)*sn ((y-x)/2)=P at *;generalize ab ((x+y)/2)*(ab (y-x)/2)=Q at *;grind
theorem aFB{x y:Rat}(hx:ab x<=1)(hy:ab y<=1):ab (sn y-sn x)<=2*ab (y-x):=by
 have h:=aMV hx hy;have h1:=Ec (y-x);have h2:=oU (y-x);rw[cN]at h ⊢;grind
theorem aFA{x y:Rat}(hx:ab x<=1)(hy:ab y<=1)(h:x<=y):sn x<=sn y:=by
 have h1:=aMV hx hy;rw[bR (show 0<=y-x by grind),cN]at h1;grind
theorem zE(a:Nat){b:Nat}(_hb:0<b):(b:Rat)*((a/b:Nat):Rat)<=(a:Rat)/\(a:Rat)<(b:Rat)*((a/b:Nat):Rat)+(b:Rat):=by
 have h1:=cGK a b;have h2:=cDM a _hb;constructor
 ·exact_mod_cast(show b*(a/b)<=a by omega)
 ·exact_mod_cast(show a<b*(a/b)+b by omega)
theorem cK{q a b:Rat}(hq:0<q)(h:q*a<=q*b):a<=b:=by
 refine Rat.not_lt.1 fun hn=>?_
 have:=cGX hq (show 0<a-b by grind);grind
theorem tA{q a b:Rat}(hq:0<q)(h:q*a<q*b):a<b:=by
 refine Rat.not_le.1 fun hn=>?_
 have:=aJ (cGL hq) (show 0<=a-b by grind);grind
def sq(u W:Nat):Nat->Nat
 |0=>W
 |k+1=>sq u W k*u/W/(k+1)
theorem Mo{u W:Nat}(hW:0<W){x:Rat}(hx:x*(W:Rat)=(u:Rat))(h0:0<=x)(h1:x<=1/2):∀k,0<=tm x k*W-sq u W k/\tm x k*W-sq u W k<=2
 |0=>by simp only[tm,sq];grind
 |k+1=>by
  obtain⟨i1,i2⟩:=Mo hW hx h0 h1 k;obtain⟨d1,d2⟩:=zE (sq u W k*u) (b:=W*(k+1)) (cIE hW (by omega));rw[sq,cGV];rw[cID,cID,<-hx]at d1 d2;have hc:=lN x k;have hp:=cast_pos k;have h1k:(1:Rat)<=((k+1:Nat):Rat):=by exact_mod_cast(show 1<=k+1 by omega)
  have aPE:(0:Rat)<(W:Rat):=by exact_mod_cast hW
  generalize ((sq u W k*u/(W*(k+1)):Nat):Rat)=t' at *;generalize (sq u W k:Rat)=t at *;generalize ((k+1:Nat):Rat)=q at *;have cAP:q*t'<=t*x:=cK aPE (by grind);have cAO:t*x<q*t'+q:=tA aPE (by grind);have hcW:q*tm x (k+1)*(W:Rat)=x*tm x k*(W:Rat):=by rw[hc]
  have e1:=aJ h0 i1;have e2:=aJ (show 0<=1/2-x by grind) i1;refine⟨cK hp ?_,cK hp ?_⟩ <;> grind
theorem aMN{u W:Nat}(hW:0<W){x:Rat}(hx:x*(W:Rat)=(u:Rat))(h0:0<=x)(h1:x<=1/2){n:Nat}(hn:1<=n)(aIY:n<=1048576)(hz:sq u W n=0) :
  ab (sum (fun k=>cc k*(sq u W k:Rat)) n-W*cs x)<=2*(n:Rat)+4:=by
 have hs:ab (sum (fun k=>cc k*(sq u W k:Rat)) n-W*vW x n)<=2*(n:Rat):=by
  unfold vW;rw[<-oA,<-Cz];refine cGJ (zR _ _) ?_;have:∀m,sum (fun k=>ab (cc k*(sq u W k:Rat)-W*(cc k*tm x k))) m<=2*(m:Rat):=by
   intro m
   induction m with
   |zero=>simp only[sum];grind
   |succ m ih =>
    rw[dX];obtain⟨a1,a2⟩:=Mo hW hx h0 h1 m;have:ab (cc m*(sq u W m:Rat)-W*(cc m*tm x m))<=2:=by
     rw[show cc m*(sq u W m:Rat)-W*(cc m*tm x m)=cc m*(sq u W m-tm x m*W) by grind,fX];have b1:ab (sq u W m-tm x m*W)<=2:=by rw[cN];grind
     have:=cR (aP _) (aQV m) (aP _) b1;grind
    have hc:((m+1:Nat):Rat)=(m:Rat)+1:=by norm_cast
    rw[hc];grind
  exact this n
 have ht:=Lu (x:=x) (by rw[bR h0];grind) hn aIY;obtain⟨a1,a2⟩:=Mo hW hx h0 h1 n;rw[hz]at a2;rw[bR h0]at ht;have aPE:(0:Rat)<(W:Rat):=by exact_mod_cast hW
 rw[cN]at *;have b1:=aJ (cGL aPE) (show 0<=2*tm x n-(cs x-vW x n) by grind);have b2:=aJ (cGL aPE) (show 0<=2*tm x n+(cs x-vW x n) by grind);have aIR:((0:Nat):Rat)=0:=by norm_cast
 rw[aIR]at a2;grind
theorem aMM{u W:Nat}(hW:0<W){x:Rat}(hx:x*(W:Rat)=(u:Rat))(h0:0<=x)(h1:x<=1/2){n:Nat}(hn:1<=n)(aIY:n<=1048576)(hz:sq u W n=0) :
  ab (sum (fun k=>ss k*(sq u W k:Rat)) n-W*sn x)<=2*(n:Rat)+4:=by
 have hs:ab (sum (fun k=>ss k*(sq u W k:Rat)) n-W*vM x n)<=2*(n:Rat):=by
  unfold vM;rw[<-oA,<-Cz];refine cGJ (zR _ _) ?_;have:∀m,sum (fun k=>ab (ss k*(sq u W k:Rat)-W*(ss k*tm x k))) m<=2*(m:Rat):=by
   intro m
   induction m with
   |zero=>simp only[sum];grind
   |succ m ih =>
    rw[dX];obtain⟨a1,a2⟩:=Mo hW hx h0 h1 m;have:ab (ss m*(sq u W m:Rat)-W*(ss m*tm x m))<=2:=by
     rw[show ss m*(sq u W m:Rat)-W*(ss m*tm x m)=ss m*(sq u W m-tm x m*W) by grind,fX];have b1:ab (sq u W m-tm x m*W)<=2:=by rw[cN];grind
     have:=cR (aP _) (aEX m) (aP _) b1;grind
    have hc:((m+1:Nat):Rat)=(m:Rat)+1:=by norm_cast
    rw[hc];grind
  exact this n
 have ht:=Ua (x:=x) (by rw[bR h0];grind) hn aIY;obtain⟨a1,a2⟩:=Mo hW hx h0 h1 n;rw[hz]at a2;rw[bR h0]at ht;have aPE:(0:Rat)<(W:Rat):=by exact_mod_cast hW
 rw[cN]at *;have b1:=aJ (cGL aPE) (show 0<=2*tm x n-(sn x-vM x n) by grind);have b2:=aJ (cGL aPE) (show 0<=2*tm x n+(sn x-vM x n) by grind);have aIR:((0:Nat):Rat)=0:=by norm_cast
 rw[aIR]at a2;grind
theorem sW{W x e s c s' c':Rat}(hW:1<=W)(hx:ab x<=1)(hs:ab (s-W*sn x)<=e)(hc:ab (c-W*cs x)<=e)(he:8*(e*e)<=W)(bFW:(8*e+4*W)*xS<=1/4)
  (h1:ab (W*s'-2*(s*c))<=2*W) (h2:ab (W*c'-(W*W-2*(s*s)))<=2*W):ab (s'-W*sn (2*x))<=4*e+4/\ab (c'-W*cs (2*x))<=4*e+4:=by
 have bJH:ab x<=4:=by grind
 have d1:=Rx bJH;have d2:=Tc bJH;have bs:=aFE bJH;have bc:=aHK bJH;have aUX:0<=e:=cGJ (aP _) hs;have aUU:=xI;generalize sn (2*x)=S2 at *;generalize cs (2*x)=C2 at *;generalize sn x=S at *;generalize cs x=C at *;obtain⟨a,ha⟩:∃a,a=s-W*S:=⟨_,rfl⟩;obtain⟨b,hb⟩:∃b,b=c-W*C:=⟨_,rfl⟩;rw[<-ha]at hs;rw[<-hb]at hc;have es:s=W*S+a:=by grind
 have ec:c=W*C+b:=by grind
 subst es;subst ec;have q1:=cR (aP S) bs (aP b) hc;have q2:=cR (aP C) bc (aP a) hs;have q3:=cR (aP a) hs (aP b) hc;have q4:=cR (aP S) bs (aP a) hs;have q5:=cR (aP a) hs (aP a) hs;rw[<-fX]at q1 q2 q3 q4 q5;have bDY:0<=W:=by grind
 have w1:∀{t r:Rat},ab t<=r->-(W*r)<=W*t/\W*t<=W*r:=fun {t r} h=>by
  rw[cN]at h;have:=aJ bDY (show 0<=r-t by grind);have:=aJ bDY (show 0<=r+t by grind);constructor <;> grind
 have k1:=w1 q1;have k2:=w1 q2;have k4:=w1 q4;have k6:=w1 (r:=W*xS) (t:=W*(S2-2*S*C)) (by
  have:=w1 d1;rw[cN];grind)
 have k7:=w1 (r:=W*(2*xS)) (t:=W*(C2-(1-2*(S*S)))) (by
  have:=w1 d2;rw[cN];grind)
 have hq:0<W:=by grind
 have z1:=aJ bDY (show 0<=1/4-(8*e+4*W)*xS by grind);rw[cN]at h1 h2 q3 q5;constructor
 ·rw[cN];constructor
  ·refine cK hq ?_;grind
  ·refine cK hq ?_;grind
 ·rw[cN];constructor
  ·refine cK hq ?_;grind
  ·refine cK hq ?_;grind
def sg(j:Nat):Rat:=if j%2=0 then 1 else -1
theorem aWX(j:Nat):ab (sg j)=1:=by unfold sg ab;split <;> split <;> grind
def iX(n w j:Nat):Nat:=2^w/n^(2*j+1)/(2*j+1)
def apart(n j:Nat):Rat:=1/((n^(2*j+1)*(2*j+1):Nat):Rat)
def aAD(n:Nat):Rat:=sum (fun j=>sg j*apart n j) K
theorem yM{n:Nat}(hn:0<n)(j:Nat):0<apart n j/\apart n j*((n^(2*j+1)*(2*j+1):Nat):Rat)=1:=by
 unfold apart;have h:0<n^(2*j+1)*(2*j+1):=cIE (cEE hn) (by omega);have h':(0:Rat)<((n^(2*j+1)*(2*j+1):Nat):Rat):=by exact_mod_cast h
 generalize ((n^(2*j+1)*(2*j+1):Nat):Rat)=q at *;have:q≠0:=by grind
 constructor
 ·have:=Rat.inv_pos.2 h';grind
 ·grind
theorem Tj{n:Nat}(hn:0<n)(w j:Nat):0<=((2^w:Nat):Rat)*apart n j-iX n w j/\((2^w:Nat):Rat)*apart n j-iX n w j<=1:=by
 obtain⟨h1,h2⟩:=yM hn j;have h:0<n^(2*j+1)*(2*j+1):=cIE (cEE hn) (by omega);obtain⟨d1,d2⟩:=zE (2^w) h;unfold iX;rw[cGV];have h':(0:Rat)<((n^(2*j+1)*(2*j+1):Nat):Rat):=by exact_mod_cast h
 generalize ((n^(2*j+1)*(2*j+1):Nat):Rat)=q at *;generalize ((2^w/(n^(2*j+1)*(2*j+1)):Nat):Rat)=t at *;generalize ((2^w:Nat):Rat)=W at *;have e:q*(W*apart n j)=W:=by
  rw[show q*(W*apart n j)=W*(apart n j*q) by grind,h2];grind
 refine⟨?_,?_⟩
 ·have:t<=W*apart n j:=cK h' (by grind);grind
 ·have:W*apart n j<=t+1:=cK h' (by grind);grind
theorem aDV{n:Nat}(hn:2<=n)(j:Nat):apart n (j+1)<=apart n j/2:=by
 obtain⟨h1,h2⟩:=yM (show 0<n by omega) j;obtain⟨h3,h4⟩:=yM (show 0<n by omega) (j+1);have hle:2*(n^(2*j+1)*(2*j+1))<=n^(2*(j+1)+1)*(2*(j+1)+1):=by
  have e:n^(2*(j+1)+1)=n^(2*j+1)*(n*n):=by
   rw[show 2*(j+1)+1=(2*j+1)+2 by omega,cGE,Nat.pow_two]
  have bPH:4<=n*n:=Nat.mul_le_mul hn hn;rw[e,cGH,cJA];refine cDS _ ?_;have:4*(2*(j+1)+1)<=n*n*(2*(j+1)+1):=Nat.mul_le_mul_right _ bPH;omega
 have hle':(2:Rat)*((n^(2*j+1)*(2*j+1):Nat):Rat)<=((n^(2*(j+1)+1)*(2*(j+1)+1):Nat):Rat):=by exact_mod_cast hle
 generalize ((n^(2*j+1)*(2*j+1):Nat):Rat)=p at *;generalize ((n^(2*(j+1)+1)*(2*(j+1)+1):Nat):Rat)=q at *;have hp:0<p:=by
  refine Rat.not_le.1 fun hn=>?_
  have:=aJ (cGL h1) (show 0<=-p by grind);grind
 have:=aJ (cGL h3) (show 0<=q-2*p by grind);refine cK hp ?_;grind
theorem aDU{n:Nat}(hn:2<=n)(a m:Nat):sum (fun i=>apart n (a+i)) m<=2*apart n a:=by
 have hh:∀i,apart n (a+i)<=apart n a*hf i:=by
  intro i
  induction i with
  |zero=>simp only[hf,cCC];grind
  |succ i ih =>
   have:=aDV hn (a+i);rw[<-cEV,hf];grind
 have h1:sum (fun i=>apart n (a+i)) m<=sum (fun i=>apart n a*hf i) m:=xM fun k _=>hh k
 rw[oA]at h1;have h2:=(yM (show 0<n by omega) a).1;have:=aJ (cGL h2) (show 0<=2-sum hf m by have:=bPM m;grind);grind
theorem aHQ{n:Nat}(hn:2<=n)(w:Nat){J:Nat}(hJ:J<=1048576)(hz:iX n w J=0):ab (sum (fun j=>sg j*(iX n w j:Rat)) J-((2^w:Nat):Rat)*aAD n)<=(J:Rat)+2:=by
 obtain⟨m,hm⟩:=cCJ (show J<=K by rw[bCR];exact hJ);unfold aAD;rw[hm,lS];have h1:∀i,ab (sum (fun j=>sg j*(iX n w j:Rat)) i-((2^w:Nat):Rat)*sum (fun j=>sg j*apart n j) i)<=(i:Rat):=by
  intro i;rw[<-oA,<-Cz];refine cGJ (zR _ _) ?_
  induction i with
  |zero=>simp only[sum];grind
  |succ i ih =>
   rw[dX];obtain⟨a1,a2⟩:=Tj (show 0<n by omega) w i;have:ab (sg i*(iX n w i:Rat)-((2^w:Nat):Rat)*(sg i*apart n i))<=1:=by
    rw[show sg i*(iX n w i:Rat)-((2^w:Nat):Rat)*(sg i*apart n i)=sg i*(iX n w i-((2^w:Nat):Rat)*apart n i) by grind,fX,aWX];have b1:ab (iX n w i-((2^w:Nat):Rat)*apart n i)<=1:=by rw[cN];grind
    grind
   have hc:((i+1:Nat):Rat)=(i:Rat)+1:=by norm_cast
   rw[hc];grind
 have h2:ab (sum (fun i=>sg (J+i)*apart n (J+i)) m)<=2*apart n J:=by
  refine cGJ (zR _ _) (cGJ (xM fun k _=>?_) (aDU hn J m));rw[fX,aWX,bR (cGL (yM (show 0<n by omega) _).1)];grind
 have h3:=(Tj (show 0<n by omega) w J).2;have h4:=h1 J;have h0:(0:Rat)<=((2^w:Nat):Rat):=by exact_mod_cast cHH _
 rw[hz]at h3;have aIR:((0:Nat):Rat)=0:=by norm_cast
 rw[aIR]at h3;rw[cN]at *;have b1:=aJ h0 (show 0<=2*apart n J-sum (fun i=>sg (J+i)*apart n (J+i)) m by grind);have b2:=aJ h0 (show 0<=2*apart n J+sum (fun i=>sg (J+i)*apart n (J+i)) m by grind);grind
end R
end Go.Proofs.YtplagoepbghhpaaGreatDoor
end
