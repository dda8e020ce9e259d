/- Contracts of functions and laws, for the claim on RefvalDoubles. -/
import Derived.KernelRfl
import Derived.Laws.Externs
import Derived.Test.YtcnlagnipklcmaaGreatDoorProg
import Derived.Shelf.SlGeneric
import Derived.Ground.SlgnProg
import Derived.Shelf.SlicesE.Clone
import Derived.Test.YtcnlagnipklcmaaGreatDoorBRefvalDoubles1
set_option linter.unusedVariables false
set_option linter.unusedSimpArgs false
noncomputable section
open Go.IntKind(i8 i16 i32 i64 u8 u16 u32 u64)
open Go.Proofs.Tryz
open Int renaming toNat_natCast->cCJ,eq_ofNat_of_zero_le->cDO,natCast_ediv->cEA,natAbs_mul->cEC,natAbs_natCast->cED,natCast_mul->cEW,natCast_emod->cFC,zero_mul->cFI,tdiv_eq_ediv_of_nonneg->cFZ,tmod_eq_emod_of_nonneg->cGA,natAbs_neg->cGD,toNat_zero->cGF,ediv_mul_cancel->cGI
open List renaming replicate->cAQ,mem_append->bZP,getD_eq_getElem?_getD->cDR,length_take->cBD,replicate_succ->cDV,length_cons->cBX,append_assoc->cAI,drop_eq_nil_of_le->cDZ,cons_append->cAF,take->cEG,drop->cEH,append_nil->cEK,getLast?_cons_cons->cEO,take_succ_eq_append_getElem->cEP,getElem?_eq_none->cAJ,drop_zero->cER,drop_eq_getElem_cons->cES,replicate_zero->cEY,getElem?_map->bYR,take_length->cFF,range->bZX,singleton_append->cFG,mapM_cons->bZU,mem_cons_self->bYU,mem_cons_of_mem->bZG,getElem?_take_of_lt->bYS,mem_of_getElem?->bYW,nodup_cons->cDA,mem_cons->bZT,length_drop->cCM,getElem?_drop->bYZ,mem_of_mem_take->cFP,mem_of_mem_drop->cFQ,replicate_succ'->cFR,take_append_drop->cFS,getElem?_eq_getElem->bZD,getLast?_append->cFT,take_of_length_le->cFV,mem_or_eq_of_mem_set->cFW,drop_set->cFX,set_append_right->cGB,set_cons_zero->cGC,nil_append->cCP
open Nat renaming pow_succ->cDL,mul_comm->cDM,beq->bYO,le_refl->bYN,mul_add->cDN,pow_add->cDP,mul_assoc->cDQ,mod_lt->cAV,lt_or_ge->bZC,eq_of_beq_eq_true->bZB,ble->bYQ,le_of_ble_eq_true->cAL,mul_le_mul_left->cBB,add_zero->bZO,pow_pos->cBM,div_add_mod->cDT,lt_of_lt_of_le->bZN,pow_le_pow_right->cBN,add_assoc->cCD,zero_add->bYP,strongRecOn->cDX,div_div_eq_div_mul->cEB,exists_eq_add_of_le->bZS,div_lt_of_lt_mul->cEF,div_eq_of_lt->cEI,le_trans->bZJ,blt->bYY,add_comm->cEL,beq_refl->cCT,zero_le->cEN,min_eq_left->cEQ,add_mod->cET,mul_mod->cEU,sub_le->cEV,sub_self->cCR,lt_of_le_of_lt->cFA,add_mul_div_left->cFB,pow_mul->cFD,pow_lt_pow_right->cFE,mul_zero->cFH,dvd_of_mod_eq_zero->cFJ,mul_pos->cFL,add_right_comm->cFN,mul_left_comm->cGH
open Option renaming bind_some->cAE,isSome_or->cEM
open Rat renaming le_trans->cDS,le_of_lt->cDU,mul_pos->cEE,le_refl->cEZ,natCast_mul->cFK
open Bool renaming true_and->cBO,not_true->cAN,false_and->cDW,false_or->cAO,and_eq_true->bYT,and_false->cDY,true_or->cEJ,or_eq_true->bZW,or_true->cEX,not_eq_true'->bZV
namespace Go.Proofs.YtcnlagnipklcmaaGreatDoor
namespace AI
open Go Go.RowKit
theorem wJ{P:Program}{f:FuncId}{fn:Func}{c:Code}(hf:P.funcs[f]?=some fn)(hb:fn.body=some c)(hn:(fn.name== "runtime.NumGoroutine")=false):xC P f:=by
 intro vs w;have aGY:¬fn.name= "runtime.NumGoroutine":=by simpa using hn
 simp[callFunc,hf,hb,aGY]
theorem Ri{α β:Type}{P:Program}{w:World}{f:α->Sem β}{g:α->β}:∀{l:List α},(∀x∈l,(f x).run P w=.ok (g x) w)->(l.mapM f).run P w=.ok (l.map g) w
 | [],_=>rfl
 |x :: l,h=>by
  rw[bZU,Sem.run_bind,h x (bYU ..),Result.andThen_ok,Sem.run_bind,Ri fun y hy=>h y (bZG _ hy)];rfl
theorem aLC{α β:Type}{P:Program}{w:World}{f:α->Sem β}{g:α->β}{arr:Array α}(h:∀x∈arr.toList,(f x).run P w=.ok (g x) w) :
  (arr.mapM f).run P w=.ok (arr.toList.map g).toArray w:=by
 rw[Array.mapM_eq_mapM_toList,map_eq_pure_bind,Sem.run_bind,Ri h];rfl
section
variable {P:Program} {E:Env} {X:Nat->Prop} {w0:Old} {ρ:Nat->Nat} {al:Nat->Prop} {st:St} {a:Act} {w:World}
def ownOf(st:St):ResultVar->Option Nat
 | .tmp t=>match st.fr t with
  | .v (.one (.buf i _))=>some i
  | .v (.one (.view i _ _))=>some i
  |_=>none
 | .cell _ _=>none
def Hw(a:Act):ResultVar->Sem Value
 | .tmp t=>pure (a.tmps.getD t undef)
 | .cell d t=>do loadVar t (<-asAddr (a.tmps.getD d undef))
def Good(E:Env)(X:Nat->Prop)(base:Nat)(st:St)(ρ:Nat->Nat)(w:World)(r:ResultVar)(v:Value):D->Prop
 | .own e k ns=>∃i,ownOf st r=some i/\(∃b,st.hp i=some b)/\Sc base w (ρ i) e k ns v
 | .back i off n=>i∈E.io/\∀blk k ns,st.hp i=some blk->blk.cont=.ints k ns->aCE w (ρ i) ns.length off n v
 |d=>oZ (XO X ρ st.hp) w d v
theorem aAM(hT:qE P E.T)(h:jX E X w0 ρ al st.fr st.hp a w){r:ResultVar}{d:D}(hd:resD E st r=some d) :
  ∃v,(Hw a r).run P w=.ok v w/\Good E X w0.w.heap.size st ρ w r v d:=by
 cases r with
 |tmp t =>
  have hr:=h.fr t;refine⟨_,rfl,?_⟩;unfold resD at hd;simp only at hd;split at hd
  ·rename_i cs hf;cases hd;rw[hf]at hr;exact hr
  ·rename_i x hf;cases hd;rw[hf]at hr;exact hr
  ·rename_i i n hf;cases Ig:bYY i E.n0 with
   |true=>rw[Ig]at hd;cases hd
   |false =>
   rw[Ig]at hd;simp only[cond_false]at hd;have Ig:E.n0<=i:=by
    have:¬i<E.n0:=fun h=>by
     have h2:bYY i E.n0=true:=by rw[Nat.blt_eq];exact h
     rw[h2]at Ig;cases Ig
    omega
   split at hd
   ·rename_i e k ns hb;cases hd;rw[hf]at hr;obtain⟨cap,hv,hle,hc,_⟩:=hr;obtain⟨e1,e2,e3⟩:=hc _ k ns hb rfl;obtain⟨hw,arr,hg,Xx⟩:=h.blk i _ hb;have hs:cap<=arr.size:=by unfold nB at e3;rw[hg]at e3;exact e3
    refine⟨i,by simp[ownOf,hf],⟨_,hb⟩,arr,cap,by rw[<-e1];exact hv,hw.new Ig,hg,by omega,hs,e2,Xx.2⟩
   ·cases hd
  ·rename_i i off n hf;rw[hf]at hr;obtain⟨o',cap,hv,Dj,hA,hA0,hc⟩:=hr;cases Nf:E.io.elem i with
   |true =>
    rw[Nf]at hd;simp only[cond_true]at hd;cases hd;exact⟨by simpa using Nf,fun blk k ns hb hk=>⟨o',cap,hv,Dj,hA,hA0,hc blk k ns hb hk⟩⟩
   |false =>
   rw[Nf]at hd;simp only[cond_false]at hd;cases Ig:bYY i E.n0 with
   |true=>rw[Ig]at hd;cases hd
   |false =>
   rw[Ig]at hd;simp only[cond_false]at hd;have Ig:E.n0<=i:=by
    have:¬i<E.n0:=fun h=>by
     have h2:bYY i E.n0=true:=by rw[Nat.blt_eq];exact h
     rw[h2]at Ig;cases Ig
    omega
   split at hd
   ·rename_i e k ns hb;cases hd;obtain⟨e1,e2,e3⟩:=hc _ k ns hb rfl;obtain⟨hw,arr,hg,Xx⟩:=h.blk i _ hb;have hs:cap<=arr.size:=by unfold nB at e3;rw[hg]at e3;exact e3
    have hl:(ns.take n).length=n:=by rw[cBD];omega
    refine⟨i,by simp[ownOf,hf],⟨_,hb⟩,arr,cap,by rw[hl,<-hA0 rfl];exact hv,hw.new Ig,hg,by rw[hl];exact Dj,hs,e2,fun j m hj=>Xx.2 j m ?_⟩;have aBA:j<n:=by have:=bB hj;omega
    rw[bYS aBA]at hj;exact hj
   ·cases hd
  ·cases hd
 |cell t ty =>
  have hr:=h.fr t;unfold resD at hd;simp only at hd;split at hd
  ·rename_i i off ti hf yR;rw[hf]at hr;have hr:a.tmps.getD t undef=.pointer (some ⟨ρ i,off,none⟩):=hr;split at hd
   ·rename_i e cs hb;obtain⟨_,arr,hg,Xx⟩:=h.blk i _ hb;have hl:∀x,partOf ti cs off=some x->∃v,(Hw a (.cell t ty)).run P w=.ok v w/\Hc ρ st.hp (XO X ρ st.hp) w x v/\refsV x=[]:=by
     intro x hx;obtain⟨v,h1,h2,h3⟩:=Tr (P:=P) (hT ty ti yR) (b:=ρ i) (off:=0) (cs:=cs) (fun j s hs=>by
      obtain⟨u,hu,hr⟩:=Xx.2 j s hs;exact⟨u,by rw[cell_of_row w (ρ i) _ arr e (0,0) hg];simpa using hu,hr⟩) hx (ρ:=ρ) (hp':=st.hp)
     rw[bYP]at h1;refine⟨v,?_,h2,h3⟩;unfold Hw;rw[Sem.run_bind,hr];simpa [asAddr] using h1
    split at hd
    ·rename_i Ns hx;cases hd;obtain⟨v,h1,h2,_⟩:=hl _ hx;exact⟨v,h1,h2⟩
    ·rename_i x hx;cases hd;obtain⟨v,h1,h2,_⟩:=hl _ hx;exact⟨v,h1,h2⟩
    ·cases hd
   ·cases hd
  ·cases hd
theorem Bg{α β:Type}{f:α->Option β}:∀{l:List α} {ys:List β},l.mapM f=some ys->ys.length=l.length/\∀(i:Nat) (x:α),l[i]?=some x->∃y,ys[i]?=some y/\f x=some y
 | [],ys,h=>by simp at h;subst h;simp
 |x :: l,ys,h=>by
  rw[bZU]at h;cases hx:f x with
  |none=>rw[hx]at h;cases h
  |some y =>
   cases hl:l.mapM f with
   |none=>rw[hx,hl]at h;cases h
   |some ys' =>
    rw[hx,hl]at h;cases h;obtain⟨h1,h2⟩:=Bg hl;refine⟨by simp[h1],fun i x' hi=>?_⟩
    match i with
    |0=>simp at hi;subst hi;exact⟨y,rfl,hx⟩
    |i+1=>simp at hi;obtain⟨y',e1,e2⟩:=h2 i x' hi;exact⟨y',by simpa using e1,e2⟩
theorem Ml:∀{l:List ResultVar} {j:Nat} {r:ResultVar} {i:Nat},l[j]?=some r->ownOf st r=some i->i∈ownIds st l
 | [],j,r,i,h,_=>by simp at h
 |r0 :: l,0,r,i,h,ho=>by
  simp at h;subst h;cases r0 with
  |cell=>cases ho
  |tmp t =>
   simp only[ownOf]at ho;split at ho
   ·rename_i i' n hf;cases ho;simp[ownIds,hf]
   ·rename_i i' o' n hf;cases ho;simp[ownIds,hf]
   ·cases ho
 |r0 :: l,j+1,r,i,h,ho=>by
  have:=Ml (l:=l) (j:=j) (by simpa using h) ho;cases r0 with
  |cell=>exact this
  |tmp t=>simp only[ownIds];exact List.mem_append_right _ this
theorem Cw:∀{xs ys:List Nat},nodup (xs ++ ys)=true->nodup ys=true/\∀x∈xs,x ∉ ys
 | [],ys,h=>⟨h,by simp⟩
 |x :: xs,ys,h=>by
  simp only[cAF,nodup,bYT]at h;obtain⟨h1,h2⟩:=Cw h.2;refine⟨h1,fun y hy=>?_⟩;rcases List.mem_cons.1 hy with rfl |hy
  ·intro hm;have:(xs ++ ys).elem y=true:=by simp[hm]
   rw[this]at h;simp at h
  ·exact h2 y hy
theorem Mn:∀{l:List ResultVar} {j j':Nat} {r r':ResultVar} {i:Nat},nodup (ownIds st l)=true->l[j]?=some r->l[j']?=some r'->ownOf st r=some i->ownOf st r'=some i->j=j'
 | [],j,j',r,r',i,_,h,_,_,_=>by simp at h
 |r0 :: l,j,j',r,r',i,hn,h,h',ho,aIP=>by
  have Ah:nodup (ownIds st l)=true:=by
   cases r0 with
   |cell=>exact hn
   |tmp t=>simp only[ownIds]at hn;exact(Cw hn).1
  have Rl:∀r1,ownOf st r0=some i->∀k:Nat,l[k]?=some r1->ownOf st r1=some i->False:=by
   intro r1 h0 k hk h1;have hm:=Ml hk h1;cases r0 with
   |cell=>cases h0
   |tmp t =>
    simp only[ownOf]at h0;split at h0
    ·rename_i i' n hf;cases h0;simp only[ownIds,hf]at hn;exact(Cw hn).2 i (by simp) hm
    ·rename_i i' o' n hf;cases h0;simp only[ownIds,hf]at hn;exact(Cw hn).2 i (by simp) hm
    ·cases h0
  match j,j' with
  |0,0=>rfl
  |0,j'+1=>simp at h h';subst h;exact(Rl r' ho j' h' aIP).elim
  |j+1,0=>simp at h h';subst h';exact(Rl r aIP j h ho).elim
  |j+1,j'+1=>simp at h h';exact congrArg (·+1) (Mn Ah h h' ho aIP)
theorem Od:∀{ds:List D} {i t:Nat},(∃d,ds[t]?=some d/\argFrI i ds t=argAt (i+t) d)\/argFrI i ds t=.any
 | [],_,_=>.inr (by simp[argFrI])
 |d :: _,_,0=>.inl ⟨d,rfl,rfl⟩
 |_ :: ds,i,t+1=>by
  rcases Od (ds:=ds) (i:=i+1) (t:=t)with ⟨d,h1,h2⟩ |h
  ·exact .inl ⟨d,by simpa using h1,by rw[show i+(t+1)=i+1+t by omega];exact h2⟩
  ·exact .inr h
theorem Rz:∀{ds:List D} {i j:Nat} {b:lO},argHp i ds j=some b->i<=j/\∃e k ns off n,ds[j-i]?=some (.io e k ns off n)/\b=⟨e,.ints k ns⟩
 | [],_,_,_,h=>by cases h
 |d :: ds,i,j,b,h=>by
  have tail:argHp (i+1) ds j=some b->i<=j/\∃e k ns off n,(d :: ds)[j-i]?=some (.io e k ns off n)/\b=⟨e,.ints k ns⟩:=by
   intro h;obtain⟨h1,e,k,ns,off,n,h2,h3⟩:=Rz h;exact⟨by omega,e,k,ns,off,n,by rw[show j-i=(j-(i+1))+1 by omega];simpa using h2,h3⟩
  cases d with
  |io e k ns off n =>
   simp only[argHp]at h;cases hb:bYO j i with
   |true =>
    rw[hb]at h;have:=bZB hb;subst this;cases h;exact⟨bYN _,e,k,ns,off,n,by simp,rfl⟩
   |false=>rw[hb]at h;exact tail h
  |s=>exact tail h
  |rows=>exact tail h
  |agg=>exact tail h
  |own=>exact tail h
  |back=>exact tail h
theorem Yy:∀{ds:List D} {i t:Nat} {e:TypeId} {k:IntKind} {ns:List Int} {off n:Nat},ds[t]?=some (.io e k ns off n)->argHp i ds (i+t)=some ⟨e,.ints k ns⟩
 | [],_,_,_,_,_,_,_,h=>by simp at h
 |d :: ds,i,0,e,k,ns,off,n,h=>by
  simp at h;subst h;simp[argHp]
 |d :: ds,i,t+1,e,k,ns,off,n,h=>by
  have ih:=Yy (i:=i+1) (ds:=ds) (t:=t) (by simpa using h);rw[show i+1+t=i+(t+1) by omega]at ih;cases d with
  |io e' k' oR bCT n' =>
   simp only[argHp];rw[show bYO (i+(t+1)) i=false from by
    cases hb:bYO (i+(t+1)) i with
    |false=>rfl
    |true=>have:=bZB hb;omega]
   exact ih
  |s=>exact ih
  |rows=>exact ih
  |agg=>exact ih
  |own=>exact ih
  |back=>exact ih
theorem aDX{Y:Nat->Prop}{w:World}{g:Nat->Nat}{i:Nat}{v:Value}{d:D}(hn:Gi d=false)(h:aGC Y w g i v d):oZ Y w d v:=by
 cases d with
 |io=>cases hn
 |s x=>exact h
 |rows a b c=>exact h
 |agg cs=>exact h
 |own a b c=>exact h
 |back=>exact h
end
theorem oneOf(vs:List Value):(if h:vs.toArray.size=1 then vs.toArray[0]else Value.tuple vs.toArray)=resV vs:=by
 match vs with
 | []=>simp[resV]
 | [v]=>simp[resV]
 |_ :: _ :: _=>simp[resV]
theorem fn_core{P:Program}{E:Env}(hT:qE P E.T)(hC:mD P E)(hm:P.follows .mixedOrders=true){f:FuncId}{fn:Func}{c:Code}(hf:P.funcs[f]?=some fn)(hb:fn.body=some c)(bDV:E.nt=fn.ntmps)
  {ds rs js:List D} (hle:ds.length<=fn.ntmps) (he:aG E fn c ds=some (rs ++ js)) (aLT:js.length=E.io.length) (jM:∀i,i∈E.io->i<E.n0)
  (aBB:∀(i:Nat) (d:D),ds[i]?=some d->Gi d=true->i∈E.io) (Bn:∀i,i∈E.io->∃e k ns off n,ds[i]?=some (.io e k ns off n))
  {Y:Nat->Prop} {w:World} {vs:List Value} {g0:Nat->Nat} (hY:∀b,Y b->b<w.heap.size) (hG:GlobOk E.glob Y w) (hlen:ds.length=vs.length)
  (hargs:∀(i:Nat) (d:D) (v:Value),ds[i]?=some d->vs[i]?=some v->aGC Y w g0 i v d) (bEJ:∀i j,i∈E.io->j∈E.io->g0 i=g0 j->i=j) :
  Calls P f vs.toArray w fun e w'=>∃Ae,e=.returned (resV Ae)/\Ew (En E.io g0) w w'/\Vg Y w.heap.size w' E.io js g0 rs Ae/\∀(j i:Nat) (d:D),E.io[j]?=some i->js[j]?=some d->Vr w' (g0 i) d:=by
 refine calls_of_wp hf hb ?_;have bLY:∀i e k ns off n,ds[i]?=some (.io e k ns off n)->Y (g0 i)/\∃v,vs[i]?=some v/\bAU w (g0 i) e k ns off n v:=by
  intro i e k ns off n hi;obtain⟨v,hv⟩:=bV (l:=vs) (i:=i) (by have:=bB hi;omega);have:=hargs i _ v hi hv;exact⟨this.1,v,hv,this.2⟩
 have bLV:∀b,En E.io g0 b->Y b:=by
  rintro b ⟨i,hi,rfl⟩;obtain⟨e,k,ns,off,n,h⟩:=Bn i hi;exact(bLY i e k ns off n h).1
 obtain⟨w0,aAV⟩:∃w0:Old,w0=⟨w,En E.io g0,g0,fun b hb=>hY b (bLV b hb)⟩:=⟨_,rfl⟩;have aGT:w0.w=w:=by rw[aAV]
 have aLM:w0.M=En E.io g0:=by rw[aAV]
 have bDI:w0.g=g0:=by rw[aAV]
 have aXZ:∀j b,argHp 0 ds j=some b->j∈E.io/\∃e k ns off n,ds[j]?=some (.io e k ns off n)/\b=⟨e,.ints k ns⟩:=by
  intro j b hj;obtain⟨_,e,k,ns,off,n,h1,h2⟩:=Rz hj;rw[Nat.sub_zero]at h1;exact⟨aBB j _ h1 rfl,e,k,ns,off,n,h1,h2⟩
 have aAW:jX E (fun b=>Y b/\¬En E.io g0 b) w0 g0 (fun i=>i<E.n0) (Yz ds) (argHp 0 ds) { tmps:=vs.toArray ++ Array.replicate (fn.ntmps-vs.toArray.size) undef,defers:=[] } w:=by
  have hx:∀b,XO (fun b=>Y b/\¬En E.io g0 b) g0 (argHp 0 ds) b->Y b:=by
   rintro b (h |⟨i,bl,h,rfl⟩)
   ·exact h.1
   ·exact bLV _ ⟨i,(aXZ i bl h).1,rfl⟩
  have hl:jB Y w (XO (fun b=>Y b/\¬En E.io g0 b) g0 (argHp 0 ds)) w:=⟨bYN _,fun b _ h=>⟨rfl,fun h'=>h (hx b h')⟩⟩;have wH:∀t,(∃d,ds[t]?=some d/\Yz ds t=argAt t d)\/Yz ds t=.any:=by
   intro t;have:=Od (ds:=ds) (i:=0) (t:=t);rw[bYP]at this;exact this
  refine { fr:=?_,sz:=by simp[bDV];omega,nod:=rfl,blk:=?_,inj:=?_,alh:=?_,alr:=?_,below:=by rw[aGT];exact Kept.refl _ _,x0:=?_,glob:=?_,mg:=?_,al0:=fun _ h=>h,pK:=fun _ _=>by rw[bDI] }
  ·intro t;rcases wH t with ⟨d,h1,h2⟩ |h
   ·rw[h2];have ht:=bB h1;obtain⟨v,hv⟩:=bV (l:=vs) (i:=t) (by omega);have e:(vs.toArray ++ Array.replicate (fn.ntmps-vs.toArray.size) undef).getD t undef=v:=by
     rw[Array.getD_eq_getD_getElem?,Array.getElem?_append_left (by simp;omega)];simp[hv]
    rw[e];cases hd:Gi d with
    |false =>
     have hr:=(aDX hd (hargs t d v h1 hv)).later hl;cases d with
     |io=>cases hd
     |own e k ns=>exact hr
     |s x=>exact hr
     |rows a b c=>exact hr
     |agg cs=>exact hr
     |back=>exact hr.elim
    |true =>
     cases d with
     |io e' k ns off n =>
      obtain⟨_,v',bOK,⟨o',cap,h3,h4,h5,h6,h7⟩,_⟩:=bLY t _ _ _ _ _ h1;rw[hv]at bOK;cases bOK;refine⟨o',cap,h3,h4,h5,h6,fun blk k1 Zn Bm Jz=>?_⟩;have:=Yy (i:=0) h1;rw[bYP]at this;rw[this]at Bm;cases Bm;cases Jz;exact h7
     |own=>cases hd
     |s=>cases hd
     |rows=>cases hd
     |agg=>cases hd
     |back=>cases hd
   ·rw[h];trivial
  ·intro id b hb;obtain⟨h1,e,k,ns,off,n,h2,rfl⟩:=aXZ id b hb;obtain⟨_,v,_,_,h3⟩:=bLY id _ _ _ _ _ h2;exact⟨.inr ⟨jM id h1,by rw[aLM];exact⟨id,h1,rfl⟩⟩,h3⟩
  ·intro id Zo b b' h1 h2 h3;exact bEJ id Zo (aXZ id b h1).1 (aXZ Zo b' h2).1 h3
  ·intro id b h1;exact jM id (aXZ id b h1).1
  ·intro t i hi;rcases wH t with ⟨d,h1,h2⟩ |h
   ·rw[h2]at hi;cases d with
    |io e' k ns off n =>
     simp[argAt,refs,refsV,refsL]at hi;subst hi;exact jM _ (aBB _ _ h1 rfl)
    |own=>cases hi
    |s=>cases hi
    |rows=>cases hi
    |agg=>cases hi
    |back=>cases hi
   ·rw[h]at hi;cases hi
  ·rintro b ⟨h1,h2⟩ (hm |hm)
   ·rw[aGT]at hm;have:=hY b h1;omega
   ·rw[aLM]at hm;exact h2 hm
  ·rw[aGT];intro g k ns hg;obtain⟨h1,h2,h3⟩:=hG g k ns hg;exact⟨h1,fun h=>h2 h.1,h3.later ⟨bYN _,fun b _ hb=>⟨rfl,fun h=>hb h.1⟩⟩⟩
  ·intro g q hg hm;rw[aLM]at hm;obtain⟨k,ns⟩:=q;exact(hG g k ns hg).2.1 (bLV _ hm)
 have bVU:∀b,Y b->(Y b/\¬En E.io g0 b)\/En E.io g0 b:=fun b hb=>by
  by_cases h:En E.io g0 b
  ·exact .inr h
  ·exact .inl ⟨hb,h⟩
 unfold aG at he;refine aBU hT hC hm _ c _ _ _ g0 _ w aAW he ?_;intro ex st ρ a' w' hK hs;have bKZ:(∃i,ex=.exit i)\/(nodup (ownIds st fn.results.toList)=true/\fn.results.toList.mapM (resD E st)=some rs/\E.io.mapM (bDD st)=some js):=by
  have Ah:(bif nodup (ownIds st fn.results.toList)then(match E.io with
  | []=>fn.results.toList.mapM (resD E st)
  |p :: ps=>match fn.results.toList.mapM (resD E st),(p :: ps).mapM (bDD st)with
   |some rs,some is=>some (rs ++ is)
   |_,_=>none)else none)=some (rs ++ js)->(nodup (ownIds st fn.results.toList)=true/\fn.results.toList.mapM (resD E st)=some rs/\E.io.mapM (bDD st)=some js):=by
   intro hK;cases hn:nodup (ownIds st fn.results.toList)with
   |false=>rw[hn]at hK;cases hK
   |true =>
    rw[hn]at hK;simp only[cond_true]at hK;refine⟨rfl,?_⟩
    match Nf:E.io,hK with
    | [],hK =>
     rw[Nf]at aLT;have:js=[]:=List.eq_nil_of_length_eq_zero aLT;subst this;rw[cEK]at hK;exact⟨hK,rfl⟩
    |p :: ps,hK =>
     simp only at hK;split at hK
     ·rename_i aQW js' h1 h2;have bBI:=(Bg h2).1;rw[Nf]at aLT;have:=List.append_inj' (Option.some.inj hK) (by rw[bBI,aLT]);rw[h1,h2,this.1,this.2];exact⟨rfl,rfl⟩
     ·cases hK
  cases ex with
  |exit i=>exact .inl ⟨i,rfl⟩
  |normal=>exact .inr (Ah hK)
  |ret=>exact .inr (Ah hK)
 rcases bKZ with ⟨i,rfl⟩ |⟨hn,bDO,bUO⟩
 ·cases hK
 have key:a'.defers=[]/\∃v,(results fn a'.tmps).run P w'=.ok v w'/\∃Ae,Ending.returned v=.returned (resV Ae)/\Ew (En E.io g0) w w'/\Vg Y w.heap.size w' E.io js g0 rs Ae/\∀(j i:Nat) (d:D),E.io[j]?=some i->js[j]?=some d->Vr w' (g0 i) d:=by
  refine⟨hs.nod,?_⟩;obtain⟨bEF,aVL⟩:=Bg bDO
  let X':Nat->Prop:=fun b=>Y b/\¬En E.io g0 b
  let aZE (r:ResultVar) (d:D) (v:Value):Prop:=(Hw a' r).run P w'=.ok v w'/\Good E X' w.heap.size st ρ w' r v d
  have hex:∀r,∃v,∀d,resD E st r=some d->aZE r d v:=by
   intro r;cases hd:resD E st r with
   |none=>exact⟨undef,fun d h=>by cases h⟩
   |some d =>
    obtain⟨v,h1,h2⟩:=aAM hT hs hd;rw[aGT]at h2;exact⟨v,fun d' h=>by cases h;exact⟨h1,h2⟩⟩
  obtain⟨g,bVB⟩:=Classical.axiomOfChoice hex;have hg:∀r d,r∈fn.results.toList->resD E st r=some d->aZE r d (g r):=fun r d _ hd=>bVB r d hd
  have hI:(fn.results.mapM (Hw a')).run P w'=.ok (fn.results.toList.map g).toArray w' :=
   aLC fun r hr=>by
    obtain⟨i,hi⟩:=List.mem_iff_getElem?.1 hr;obtain⟨d,_,hd⟩:=aVL i r hi;exact(hg r d hr hd).1
  have aAX:(results fn a'.tmps).run P w'=.ok (resV (fn.results.toList.map g)) w':=by
   have e:results fn a'.tmps=(fn.results.mapM (Hw a') >>= fun vs=>pure (if h:vs.size=1 then vs[0]else Value.tuple vs)):=by
    unfold results;congr 1
   rw[e,Sem.run_bind,hI,Result.andThen_ok,Sem.run_pure];congr 1;exact oneOf _
  have Nd:=hs.below;rw[aGT]at Nd;have bDK:Ew (En E.io g0) w w':=⟨Nd.os,Nd.tape,Nd.output,Nd.size,fun b hb hM=>Nd.block b (fun hm=>by
   rcases hm with hm |hm
   ·rw[aGT]at hm;omega
   ·rw[aLM]at hm;exact hM hm),fun b hM=>Nd.room b (by rw[aLM];exact hM)⟩
  have aLU:∀(j i:Nat) (d:D),E.io[j]?=some i->js[j]?=some d->∃e k ns,d=.io e k ns 0 0/\st.hp i=some ⟨e,.ints k ns⟩/\ρ i=g0 i:=by
   intro j i d hj hd;obtain⟨_,h2⟩:=Bg bUO;obtain⟨d',h3,h4⟩:=h2 j i hj;rw[hd]at h3;cases h3;unfold bDD at h4;split at h4
   ·rename_i e k ns hb;cases h4;refine⟨e,k,ns,rfl,hb,?_⟩;have:=hs.pK i (jM i (bYW hj));rw[bDI]at this;exact this
   ·cases h4
  have bVV:∀b,Y b->XO X' ρ st.hp b:=by
   intro b hb;rcases bVU b hb with h |⟨i,hi,rfl⟩
   ·exact .inl h
   ·obtain⟨j,hj⟩:=List.mem_iff_getElem?.1 hi;obtain⟨d,hd⟩:=bV (l:=js) (i:=j) (by have:=bB hj;omega);obtain⟨e,k,ns,_,h1,h2⟩:=aLU j i d hj hd;exact .inr ⟨i,_,h1,h2⟩
  refine⟨_,aAX,_,rfl,bDK,?_,?_⟩
  ·have bPQ:∀(i:Nat) (d:D),rs[i]?=some d->∃r,fn.results.toList[i]?=some r/\resD E st r=some d/\aZE r d (g r):=by
    intro i d hi;obtain⟨r,hr⟩:=bV (l:=fn.results.toList) (i:=i) (by have:=bB hi;omega);obtain⟨d',h1,h2⟩:=aVL i r hr;rw[hi]at h1;cases h1;exact⟨r,hr,h2,hg r d (bYW hr) h2⟩
   let blk (i:Nat):Nat:=match fn.results.toList[i]? with
    |some r=>match ownOf st r with
     |some j=>ρ j
     |none=>0
    |none=>0
   have uK:∀(i:Nat) (d:D),rs[i]?=some d->mF d=true->∃r j b,fn.results.toList[i]?=some r/\ownOf st r=some j/\st.hp j=some b/\blk i=ρ j:=by
    intro i d hi ho;obtain⟨r,h1,h2,h3⟩:=bPQ i d hi;cases d with
    |own e k ns =>
     obtain⟨_,j,h4,⟨b,h5⟩,_⟩:=h3;exact⟨r,j,b,h1,h4,h5,by simp only[blk,h1,h4]⟩
    |_=>cases ho
   refine⟨blk,by simp[bEF],?_,?_⟩
   ·intro i j d d' hi hj ho aIP Dk;obtain⟨r,k,b,h1,h2,h3,h4⟩:=uK i d hi ho;obtain⟨r',k',b',aBG,aVO,aZD,bMD⟩:=uK j d' hj aIP;rw[h4,bMD]at Dk;have:=hs.inj k k' b b' h3 aZD Dk;subst this;exact Mn hn h1 aBG h2 aVO
   ·intro i d v hi hv;obtain⟨r,h1,h2,h3⟩:=bPQ i d hi;have e:v=g r:=by
     rw[bYR,h1]at hv;exact(Option.some.inj hv).symm
    subst e;have hl:jB (XO X' ρ st.hp) w' (fun b=>Y b\/∃(j:Nat) (d':D),rs[j]?=some d'/\mF d'=true/\blk j=b) w':=by
     refine⟨bYN _,fun b _ hx=>⟨rfl,fun hb=>hx ?_⟩⟩;rcases hb with hb |⟨j,d',hj,ho,rfl⟩
     ·exact bVV b hb
     ·obtain⟨r',k,b',_,_,h5,h6⟩:=uK j d' hj ho;exact .inr ⟨k,b',h5,h6.symm⟩
    cases d with
    |own e k ns =>
     obtain⟨_,j,h4,_,h5⟩:=h3;have:blk i=ρ j:=by simp only[blk,h1,h4]
     show Sc _ _ (blk i) _ _ _ _;rw[this];exact h5
    |s x=>exact oZ.later hl (d:=.s x) h3.2
    |rows sz n fr=>exact oZ.later hl (d:=.rows sz n fr) h3.2
    |agg cs=>exact oZ.later hl (d:=.agg cs) h3.2
    |io=>exact h3.2.elim
    |back p off n =>
     obtain⟨_,h4,h5⟩:=h3;obtain⟨j,hj⟩:=List.mem_iff_getElem?.1 h4;obtain⟨d,hd⟩:=bV (l:=js) (i:=j) (by have:=bB hj;omega);obtain⟨e,k,ns,rfl,h6,h7⟩:=aLU j p d hj hd;have:=h5 _ k ns h6 rfl;rw[h7]at this;exact⟨j,e,k,ns,hj,hd,this⟩
  ·intro j i d hj hd;obtain⟨e,k,ns,rfl,h1,h2⟩:=aLU j i d hj hd;have:=(hs.blk i _ h1).2;rw[h2]at this;exact this
 cases ex with
 |normal=>exact key
 |ret=>exact key
 |exit i=>cases hK
theorem Ew.below{M:Nat->Prop}(hM:∀b,¬M b){w w':World}(h:Ew M w w'):Below w.heap.size w w':=⟨h.os,h.tape,h.output,h.size,fun k hk=>h.block k hk (hM k)⟩
theorem fn_contract{P:Program}{E:Env}(hT:qE P E.T)(hC:mD P E)(hm:P.follows .mixedOrders=true){f:FuncId}{fn:Func}{c:Code}(hf:P.funcs[f]?=some fn)(hb:fn.body=some c)(bDV:E.nt=fn.ntmps)(Nf:E.io=[])
  {ds rs:List D} (hle:ds.length<=fn.ntmps) (he:aG E fn c ds=some rs):Contract P E.glob f ds rs:=by
 intro Y w vs hY hG hlen hargs;have Cy:∀(i:Nat) (d:D),ds[i]?=some d->Gi d=false:=by
  intro i d hi;obtain⟨v,hv⟩:=bV (l:=vs) (i:=i) (by have:=bB hi;omega);have:=hargs i d v hi hv;cases d with
  |io=>exact this.elim
  |s=>rfl
  |rows=>rfl
  |agg=>rfl
  |own=>rfl
  |back=>rfl
 have:=fn_core hT hC hm hf hb bDV (rs:=rs) (js:=[]) hle (by rw[cEK];exact he) (by rw[Nf];rfl) (by rw[Nf];intro i hi;cases hi) (fun i d hi hd=>by rw[Cy i d hi]at hd;cases hd) (by rw[Nf];intro i hi;cases hi) (g0:=fun _=>0) hY hG hlen (fun i d v hi hv=>Oc (Cy i d hi) (hargs i d v hi hv)) (by rw[Nf];intro i j hi;cases hi);refine this.mono ?_;rintro e w' ⟨Ae,h1,h2,⟨g,h3,h4,h5⟩,_⟩;refine⟨Ae,h1,h2.below (fun b=>by rintro ⟨i,hi,_⟩;rw[Nf]at hi;cases hi),g,h3,h4,fun i d v hi hv=>?_⟩;have:=h5 i d v hi hv;cases d with
 |own e k ns=>exact this
 |s x=>exact this
 |rows a b c=>exact this
 |agg cs=>exact this
 |io=>exact this
 |back p off n =>
  obtain⟨j,e,k,ns,h6,_⟩:=this;rw[Nf]at h6;simp at h6
theorem Qd{P:Program}{E:Env}(hT:qE P E.T)(hC:mD P E)(hm:P.follows .mixedOrders=true){f:FuncId}{fn:Func}{c:Code}(hf:P.funcs[f]?=some fn)(hb:fn.body=some c)(bDV:E.nt=fn.ntmps)(jM:∀i,i∈E.io->i<E.n0)
  {ds rs js:List D} (hle:ds.length<=fn.ntmps) (he:aG E fn c ds=some (rs ++ js)) (aLT:js.length=E.io.length) (hL:aVQ E.io ds js) (aBB:∀(i:Nat) (d:D),ds[i]?=some d->Gi d=true->i∈E.io):qN P E.glob f E.io ds rs js:=by
 refine⟨aLT,hL,fun Y w vs g hY hG hlen hargs Bk=>?_⟩;refine fn_core hT hC hm hf hb bDV hle he aLT jM aBB (fun i hi=>?_) hY hG hlen hargs Bk;obtain⟨j,hj⟩:=List.mem_iff_getElem?.1 hi;obtain⟨e,k,ns,off,n,_,_,_,h1,_⟩:=hL j i hj;exact⟨e,k,ns,off,n,h1⟩
def kindOf(P:Program):TypeDesc->Option TK
 | .bool=>some .bool
 | .int k=>some (.int k)
 | .float k=>some (.float k)
 | .slice e=>some (.slice e)
 | .string=>some .str
 | .struct fields=>(fields.toList.mapM fun(f:Field)=>match P.info? f.type,P.underlying f.type with
  |some fi,some fd=>some (f.offset,fi.size,uI fd)
  |_,_=>none).map .struct
 | .array len e=>match P.info? e,P.underlying e with
  |some ei,some ed=>some (.arr len ei.size (uI ed))
  |_,_=>none
 |_=>some .other
def tiOf(P:Program)(t:TypeId):Option TI:=match P.info? t,P.underlying t with
 |some i,some d=>match i.zero,kindOf P d with
  |some z,some k=>some ⟨i.size,i.bytes,z.cells.toList,k⟩
  |_,_=>none
 |_,_=>none
def aWF(ti:TI):Bool:=bYO ti.zero.length ti.size&&ti.zero.all fun v=>v.oneCell'
theorem aGQ{P:Program}{d:TypeDesc}{k:TK}(h:kindOf P d=some k):Pa P k d:=by
 unfold kindOf at h;split at h
 ·cases h;rfl
 ·cases h;rfl
 ·cases h;rfl
 ·cases h;rfl
 ·cases h;rfl
 ·rename_i fields;cases hm:(fields.toList.mapM fun(f:Field)=>match P.info? f.type,P.underlying f.type with
   |some fi,some fd=>some (f.offset,fi.size,uI fd)
   |_,_=>none)with
  |none=>rw[hm]at h;cases h
  |some fs =>
   rw[hm]at h;cases h;obtain⟨h1,h2⟩:=Bg hm;refine⟨fields,rfl,by simpa using h1,fun i f hf=>?_⟩;obtain⟨y,e1,e2⟩:=h2 i f (by simpa using hf);split at e2
   ·rename_i fi fd bHG bVD;cases e2;exact⟨fi,fd,bHG,bVD,e1⟩
   ·cases e2
 ·rename_i len e;split at h
  ·rename_i ei ed bVK bHH;cases h;exact⟨e,ei,ed,rfl,bVK,rfl,bHH,rfl⟩
  ·cases h
 ·rename_i h1 h2 h3 h4 h5 h6 h7;cases h;show uI d=false;cases d <;> first |rfl | (exfalso;exact h6 _ rfl) | (exfalso;exact h7 _ _ rfl)
def eqChk(P:Program)(t:TypeId)(ti:TI):Bool:=match yY ti with
 |some ks=>(match P.underlying t with
  |some (.struct fields)=>!P.stoodInHeld t&&(eqChkF P 0 fields.toList ks&&!P.eqGuardType P.depth t)
  |_=>false)
 |none=>true
theorem aMV{P:Program}{t:TypeId}{ti:TI}(h:eqChk P t ti=true)(ks:List IntKind)(hk:yY ti=some ks):bAW P t ks:=by
 unfold eqChk at h;rw[hk]at h;simp only at h;split at h
 ·rename_i fields hf;simp only[bYT,bZV]at h;exact⟨fields,hf,h.1,h.2.1,h.2.2⟩
 ·cases h
theorem aJC{P:Program}{t:TypeId}{ti:TI}(h:tiOf P t=some ti)(hk:aWF ti=true)(hq:eqChk P t ti=true):By P t ti:=by
 have heq:=aMV hq;unfold tiOf at h;split at h
 ·rename_i i d hi hd;split at h
  ·rename_i z k hz bUM;cases h;unfold aWF at hk;simp only[bYT]at hk;exact { i:=⟨i,hi,rfl,rfl,z,hz,rfl⟩,zl:=bZB hk.1,zo:=fun v hv=>List.all_eq_true.1 hk.2 v hv,d:=⟨d,hd,aGQ bUM⟩,eq:=heq }
  ·cases h
 ·cases h
def tlook{α:Type}:List (Nat×α)->Nat->Option α
 | [],_=>none
 |p :: r,t=>bif bYO p.1 t then some p.2 else tlook r t
theorem xQ{α:Type}:∀{l:List (Nat×α)} {t:Nat} {x:α},tlook l t=some x->(t,x)∈l
 | [],t,x,h=>by cases h
 |p :: r,t,x,h=>by
  simp only[tlook]at h;cases hb:bYO p.1 t with
  |true =>
   rw[hb]at h;cases h;have:=bZB hb;subst this;exact bYU ..
  |false=>rw[hb]at h;exact bZG _ (xQ h)
theorem aQF{P:Program}(Lt:List (Nat×TI))(h:Lt.map (fun p=>tiOf P p.1)=Lt.map fun p=>some p.2)(hk:(Lt.all fun p=>aWF p.2)=true)(hq:(Lt.all fun p=>eqChk P p.1 p.2)=true):qE P (tlook Lt):=by
 intro t ti ht;have hm:=xQ ht;have h1:tiOf P t=some ti:=by
  have:=List.map_inj_left.1 h (t,ti) hm;exact this
 exact aJC h1 (List.all_eq_true.1 hk (t,ti) hm) (List.all_eq_true.1 hq (t,ti) hm)
end AI
namespace AI
open Go Go.RowKit
theorem tB{R:Type}(E:Env)(draw:Bool)(ops:Array Oper)(base:Nat):∀(rest:List Oper) (i:Nat) (qG:List Rec) (st:St) (K:St->Option R),
  opsK E draw ops base rest i qG st K=(opsK E draw ops base rest i qG st some).bind K
 | [],i,qG,st,K=>rfl
 |o :: rest,i,qG,st,K=>by
  unfold opsK;cases (kD E.nt o&&(!draw||zJ i o))with
  |false=>rfl
  |true =>
   simp only[cond_true];split
   ·rw[qT,qT];cases tM E (base+8*i) o (evA E st.fr) st.hp with
    |none=>rfl
    |some p =>
     simp only[cAE];cases (!draw||qG.all fun r=>indep ops r i o (uW o (evA E st.fr) p.2) (p.2.map (·.1)))with
     |false=>rfl
     |true=>exact tB E draw ops base rest (i+1) _ _ K
   ·split
    ·split
     ·rename_i want _ _ d _ _ b _;cases b with
      |true =>
       simp only[cond_true];cases (true==want)with
       |true =>
        simp only[cond_true];rw[qT,qT];cases tM E (base+8*i) o (evA E (Co st.fr d (Dh (.bool true)))) st.hp with
        |none=>rfl
        |some p =>
         simp only[cAE];cases (!draw||qG.all fun r=>indep ops r i o (uW o (evA E (Co st.fr d (Dh (.bool true)))) p.2) (p.2.map (·.1)))with
         |false=>rfl
         |true=>exact tB E draw ops base rest (i+1) _ _ K
       |false =>
        simp only[cond_false];cases (!draw||qG.all fun r=>indep ops r i o [] [])with
        |false=>rfl
        |true=>exact tB E draw ops base rest (i+1) _ _ K
      |false =>
       simp only[cond_false];cases (false==want)with
       |true =>
        simp only[cond_true];rw[qT,qT];cases tM E (base+8*i) o (evA E (Co st.fr d (Dh (.bool false)))) st.hp with
        |none=>rfl
        |some p =>
         simp only[cAE];cases (!draw||qG.all fun r=>indep ops r i o (uW o (evA E (Co st.fr d (Dh (.bool false)))) p.2) (p.2.map (·.1)))with
         |false=>rfl
         |true=>exact tB E draw ops base rest (i+1) _ _ K
       |false =>
        simp only[cond_false];cases (!draw||qG.all fun r=>indep ops r i o [] [])with
        |false=>rfl
        |true=>exact tB E draw ops base rest (i+1) _ _ K
     ·cases (!draw||qG.all fun r=>indep ops r i o [] [])with
      |false=>rfl
      |true=>exact tB E draw ops base rest (i+1) _ _ K
     ·rfl
    ·rfl
section
variable (n0:Nat) (keep:List Nat) (f:St->Option (Ex×St))
def runs:Nat->List KV->Option (Ex×St)
 |0,_=>none
 |n+1,l=>(f (mk n0 keep l)).bind fun p=>match p.1 with
  | .normal=>runs n (canon n0 keep p.2)
  | .exit i=>some (.exit i,p.2)
  | .ret=>some (.ret,p.2)
theorem Hu:∀(n k:Nat) (l:List KV) (p:Ex×St),runs n0 keep f n l=some p->runs n0 keep f (n+k) l=some p
 |0,_,_,_,h=>by cases h
 |n+1,k,l,p,h=>by
  rw[cFN];simp only[runs]at h ⊢;cases hf:f (mk n0 keep l)with
  |none=>rw[hf]at h;cases h
  |some q =>
   rw[hf]at h;simp only[cAE]at h ⊢;obtain⟨ex,st⟩:=q;cases ex with
   |normal=>exact Hu n k _ p h
   |exit i=>exact h
   |ret=>exact h
theorem Mc{n m:Nat}{l:List KV}{p q:Ex×St}(h:runs n0 keep f n l=some p)(h':runs n0 keep f m l=some q):p=q:=by
 have h1:=Hu n0 keep f n m l p h;have h2:=Hu n0 keep f m n l q h';rw[cEL m n,h1]at h2;exact Option.some.inj h2
open Classical in
def aIM (l:List KV):Option (Ex×St):=if h:∃p,∃n,runs n0 keep f n l=some p then some (Classical.choose h)else none
theorem Mt{n:Nat}{l:List KV}{p:Ex×St}(h:runs n0 keep f n l=some p):aIM n0 keep f l=some p:=by
 unfold aIM;have hex:∃p,∃n,runs n0 keep f n l=some p:=⟨p,n,h⟩;rw[dif_pos hex];obtain⟨m,hm⟩:=Classical.choose_spec hex;rw[Mc n0 keep f hm h]
theorem Tf{l:List KV}{p:Ex×St}(h:aIM n0 keep f l=some p):∃n,runs n0 keep f n l=some p:=by
 unfold aIM at h;split at h
 ·rename_i hex;cases h;exact Classical.choose_spec hex
 ·cases h
theorem aXI(l:List KV):aIM n0 keep f l=(f (mk n0 keep l)).bind fun p=>match p.1 with
  | .normal=>aIM n0 keep f (canon n0 keep p.2)
  | .exit i=>some (.exit i,p.2)
  | .ret=>some (.ret,p.2):=by
 cases hf:f (mk n0 keep l)with
 |none =>
  cases hl:aIM n0 keep f l with
  |none=>rfl
  |some p =>
   obtain⟨n,hn⟩:=Tf n0 keep f hl;cases n with
   |zero=>cases hn
   |succ n=>simp only[runs,hf]at hn;cases hn
 |some q =>
  obtain⟨ex,st⟩:=q;simp only[cAE];cases ex with
  |normal =>
   simp only;cases hl:aIM n0 keep f (canon n0 keep st)with
   |some p =>
    obtain⟨n,hn⟩:=Tf n0 keep f hl;exact Mt n0 keep f (n:=n+1) (by simp only[runs,hf,cAE];exact hn)
   |none =>
    cases bHC:aIM n0 keep f l with
    |none=>rfl
    |some p =>
     obtain⟨n,hn⟩:=Tf n0 keep f bHC;cases n with
     |zero=>cases hn
     |succ n =>
      simp only[runs,hf,cAE]at hn;rw[Mt n0 keep f hn]at hl;cases hl
  |exit i=>exact Mt n0 keep f (n:=1) (by simp only[runs,hf,cAE])
  |ret=>exact Mt n0 keep f (n:=1) (by simp only[runs,hf,cAE])
def aIT{R:Type}(K:Ex->St->Option R)(rec:List KV->Option R)(l:List KV):Option R :=
 (f (mk n0 keep l)).bind fun p=>match p.1 with
  | .normal=>rec (canon n0 keep p.2)
  | .exit i=>K (.exit i) p.2
  | .ret=>K .ret p.2
theorem vP{R:Type}(K:Ex->St->Option R):∀(n:Nat) (l:List KV),iter (aIT n0 keep f K) n l=(runs n0 keep f n l).bind fun p=>K p.1 p.2
 |0,_=>rfl
 |n+1,l=>by
  simp only[iter,aIT,runs];cases f (mk n0 keep l)with
  |none=>rfl
  |some q =>
   obtain⟨ex,st⟩:=q;simp only[cAE];cases ex with
   |normal=>exact vP K n _
   |exit i=>rfl
   |ret=>rfl
theorem Ui{R:Type}(K:Ex->St->Option R)(l:List KV):fix (aIT n0 keep f K) l=(aIM n0 keep f l).bind fun p=>K p.1 p.2:=by
 cases hl:aIM n0 keep f l with
 |none =>
  unfold fix;rw[dif_neg]
  ·rfl
  ·rintro ⟨r,n,h⟩;rw[vP]at h;cases hr:runs n0 keep f n l with
   |none=>rw[hr]at h;cases h
   |some p=>rw[Mt n0 keep f hr]at hl;cases hl
 |some p =>
  obtain⟨n,hn⟩:=Tf n0 keep f hl;simp only[cAE];cases hK:K p.1 p.2 with
  |some r =>
   unfold fix;have hex:∃r,∃n,iter (aIT n0 keep f K) n l=some r:=⟨r,n,by rw[vP,hn];exact hK⟩;rw[dif_pos hex];obtain⟨m,hm⟩:=Classical.choose_spec hex;rw[vP]at hm;cases hr:runs n0 keep f m l with
   |none=>rw[hr]at hm;cases hm
   |some q =>
    rw[hr,Mc n0 keep f hr hn]at hm;simp only[cAE]at hm;rw[hK]at hm;exact hm.symm
  |none =>
   unfold fix;rw[dif_neg];rintro ⟨r,m,h⟩;rw[vP]at h;cases hr:runs n0 keep f m l with
   |none=>rw[hr]at h;cases h
   |some q =>
    rw[hr,Mc n0 keep f hr hn]at h;simp only[cAE]at h;rw[hK]at h;cases h
theorem aSP{R:Type}(K:Ex->St->Option R)(l:List KV):fix (aIT n0 keep f K) l=aIT n0 keep f K (fix (aIT n0 keep f K)) l:=by
 rw[Ui,aXI];unfold aIT;cases f (mk n0 keep l)with
 |none=>rfl
 |some q =>
  obtain⟨ex,st⟩:=q;simp only[cAE];cases ex with
  |normal=>exact(Ui n0 keep f K _).symm
  |exit i=>rfl
  |ret=>rfl
end
def condSt(c:Operand)(st:St):Option (Bool×St):=match c with
 | .tmp s=>match st.fr s with
  | .v (.one (.s (.sc (.bool t))))=>some (t,⟨Co st.fr s (Dh (.bool t)),st.hp,st.n⟩)
  |_=>none
 | .const (.bool t)=>some (t,st)
 |_=>none
theorem Yq{R:Type}(E:Env)(c:Operand)(a b:Code)(st:St)(K:Ex->St->Option R):evalCode E (.cond c a b) st K=(condSt c st).bind fun p=>bif p.1 then evalCode E a p.2 K else evalCode E b p.2 K:=by
 cases c with
 |tmp s =>
  simp only[evalCode,condSt];split
  ·rename_i t h;simp only[h,cAE];cases t <;> rfl
  ·rename_i h;split
   ·rename_i t h';exact(h t h').elim
   ·rfl
 |const v=>cases v <;> simp only[evalCode,condSt] <;> rfl
 |_=>simp only[evalCode,condSt];rfl
theorem evalCode_bind(E:Env)(c:Code):∃f:St->Option (Ex×St),∀(st:St) {R:Type} (K:Ex->St->Option R),evalCode E c st K=(f st).bind fun p=>K p.1 p.2:=by
 induction c with
 |skip=>exact⟨fun st=>some (.normal,st),fun st R K=>rfl⟩
 |label l=>exact⟨fun st=>some (.normal,st),fun st R K=>rfl⟩
 |exit id=>exact⟨fun st=>some (.exit id,st),fun st R K=>rfl⟩
 |ret=>exact⟨fun st=>some (.ret,st),fun st R K=>rfl⟩
 |region id ops draw =>
  refine⟨fun st=>(opsK E draw ops st.n ops.toList 0 [] st some).bind fun gM=>some (.normal,⟨gM.fr,gM.hp,st.n+8*ops.size⟩),fun st R K=>?_⟩;unfold evalCode;rw[tB];simp only[];cases opsK E draw ops st.n ops.toList 0 [] st some <;> rfl
 |seq a b Bj Bi =>
  obtain⟨f,hf⟩:=Bj;obtain⟨g,hg⟩:=Bi;refine⟨fun st=>(f st).bind fun p=>match p.1 with
   | .normal=>match E.cut (keyOf b)with
    |some keep=>g (mk E.n0 keep (canon E.n0 keep p.2))
    |none=>g p.2
   | .exit i=>some (.exit i,p.2)
   | .ret=>some (.ret,p.2),fun st R K=>?_⟩
  unfold evalCode;rw[hf];simp only[];cases f st with
  |none=>rfl
  |some q =>
   obtain⟨ex,gM⟩:=q;cases ex with
   |normal =>
    simp only[cAE];cases E.cut (keyOf b)with
    |none=>exact hg gM K
    |some keep=>exact hg _ K
   |exit i=>rfl
   |ret=>rfl
 |cond cd a b Bj Bi =>
  obtain⟨f,hf⟩:=Bj;obtain⟨g,hg⟩:=Bi;refine⟨fun st=>(condSt cd st).bind fun p=>bif p.1 then f p.2 else g p.2,fun st R K=>?_⟩;rw[Yq];simp only[];cases condSt cd st with
  |none=>rfl
  |some p =>
   obtain⟨t,gM⟩:=p;cases t with
   |true=>exact hf _ K
   |false=>exact hg _ K
 |block id c ih =>
  obtain⟨f,hf⟩:=ih;refine⟨fun st=>(f st).bind fun p=>match p.1 with
   | .normal=>some (.normal,p.2)
   | .exit i=>bif bYO i id then some (.normal,p.2)else some (.exit i,p.2)
   | .ret=>some (.ret,p.2),fun st R K=>?_⟩
  unfold evalCode;rw[hf];simp only[];cases f st with
  |none=>rfl
  |some q =>
   obtain⟨ex,gM⟩:=q;cases ex with
   |normal=>rfl
   |exit i =>
    simp only[cAE];cases bYO i id <;> rfl
   |ret=>rfl
 |loop c ih =>
  obtain⟨f,hf⟩:=ih;have hG:∀{R:Type} (keep:List Nat) (K:Ex->St->Option R),(fun(rec:List KV->Option R) l=>evalCode E c (mk E.n0 keep l) fun ex gM=>match ex with
    | .normal=>rec (canon E.n0 keep gM)
    | .exit i=>K (.exit i) gM
    | .ret=>K .ret gM)=aIT E.n0 keep f K:=by
   intro R keep K;funext rec l;rw[hf];unfold aIT;cases f (mk E.n0 keep l)with
   |none=>rfl
   |some q=>obtain⟨ex,gM⟩:=q;cases ex <;> rfl
  refine⟨fun st=>match E.roll (keyOf c)with
   |some n=>runs E.n0 (E.keep (keyOf c)) f n (canon E.n0 (E.keep (keyOf c)) st)
   |none=>aIM E.n0 (E.keep (keyOf c)) f (canon E.n0 (E.keep (keyOf c)) st),fun st R K=>?_⟩
  simp only[evalCode];cases E.roll (keyOf c)with
  |some n=>exact(congrArg (fun G=>iter G n (canon E.n0 (E.keep (keyOf c)) st)) (hG _ K)).trans (vP _ _ _ _ _ _)
  |none=>exact(congrArg (fun G=>fix G (canon E.n0 (E.keep (keyOf c)) st)) (hG _ K)).trans (Ui _ _ _ _ _)
 |rangeFunc f ps x y _ _=>exact⟨fun _=>none,fun st R K=>rfl⟩
 |scope c ih =>
  obtain⟨f,hf⟩:=ih;exact⟨f,fun st R K=>by unfold evalCode;exact hf st K⟩
 |goto l=>exact⟨fun _=>none,fun st R K=>rfl⟩
 |refuse bNN=>exact⟨fun _=>none,fun st R K=>rfl⟩
theorem aRP{R:Type}(E:Env)(keep:List Nat)(c:Code)(K:Ex->St->Option R)(l:List KV) :
  fix (roundOf (evalCode E) E.n0 keep c K) l=roundOf (evalCode E) E.n0 keep c K (fix (roundOf (evalCode E) E.n0 keep c K)) l:=by
 obtain⟨f,hf⟩:=evalCode_bind E c;have hG:roundOf (evalCode E) E.n0 keep c K=aIT E.n0 keep f K:=by
  funext rec l;unfold roundOf;rw[hf];unfold aIT;cases f (mk E.n0 keep l)with
  |none=>rfl
  |some q=>obtain⟨ex,gM⟩:=q;cases ex <;> rfl
 rw[hG];exact aSP E.n0 keep f K l
def Ib(E:Env)(fn:Func)(c:Code)(key:Nat)(l:List KV):Option (List D) :=
 match findLoop E key c (tG E fn)with
 |some (b,K)=>fix (roundOf (evalCode E) E.n0 (E.keep key) b K) l
 |none=>none
def Sw(E:Env)(fn:Func)(c:Code)(key:Nat)(l:List KV):Option (List D) :=
 match findLoop E key c (tG E fn)with
 |some (b,K)=>roundOf (evalCode E) E.n0 (E.keep key) b K (fix (roundOf (evalCode E) E.n0 (E.keep key) b K)) l
 |none=>none
theorem aGP(E:Env)(fn:Func)(c:Code)(key:Nat)(l:List KV):Ib E fn c key l=Sw E fn c key l:=by
 unfold Ib Sw;cases findLoop E key c (tG E fn)with
 |none=>rfl
 |some p=>exact aRP E _ p.1 p.2 l
def cutAt(E:Env)(fn:Func)(c:Code)(key:Nat)(l:List KV):Option (List D) :=
 match fU E key c (tG E fn),E.cut key with
 |some (b,K),some keep=>Dc key l fun l=>evalCode E b (mk E.n0 keep l) K
 |_,_=>none
def Up(E:Env)(fn:Func)(c:Code)(key:Nat)(l:List KV):Option (List D) :=
 match fU E key c (tG E fn),E.cut key with
 |some (b,K),some keep=>evalCode E b (mk E.n0 keep l) K
 |_,_=>none
theorem aNJ(E:Env)(fn:Func)(c:Code)(key:Nat)(l:List KV):cutAt E fn c key l=Up E fn c key l:=by
 unfold cutAt Up Dc;rfl
end AI
namespace AI
open Go Go.RowKit
theorem Contract.of{P:Program}{G:Nat->Option (IntKind×List Int)}{f:FuncId}{ds ds' rs:List D}(h:Contract P G f ds' rs)(hl:ds.length=ds'.length)
  (hd:∀(i:Nat) (d d':D),ds[i]?=some d->ds'[i]?=some d'->∀(Y:Nat->Prop) (w:World) (v:Value),oZ Y w d v->oZ Y w d' v):Contract P G f ds rs:=by
 intro Y w vs hY hG hlen hargs;refine h Y w vs hY hG (by omega) fun i d' v hi hv=>?_
 obtain⟨d,Bl⟩:=bV (l:=ds) (i:=i) (by have:=bB hi;omega);exact hd i d d' Bl hi Y w v (hargs i d v Bl hv)
def dI(k:IntKind):D->Option (List Int)
 | .s (.ints k' ns)=>if _h:k=k' then some ns else none
 | .s (.sc (.slice none 0 0))=>some []
 |_=>none
def dN(k:IntKind):D->Option Int
 | .s (.sc (.int k' n))=>if _h:k=k' then some n else none
 |_=>none
def dB:D->Option Bool
 | .s (.sc (.bool b))=>some b
 |_=>none
def Fl(d d':D):Prop:=∀(Y:Nat->Prop) (w:World) (v:Value),oZ Y w d v->oZ Y w d' v
theorem Fl.refl(d:D):Fl d d:=fun _ _ _ h=>h
theorem bFP{k:IntKind}{d:D}{ns:List Int}(h:dI k d=some ns):Fl d (.s (.ints k ns)):=by
 intro Y w v hr;unfold dI at h;split at h
 ·split at h
  ·rename_i hk;cases h;subst hk;exact hr
  ·cases h
 ·cases h;obtain⟨rfl,_⟩:=hr;exact⟨none,0,rfl,bYN _,fun i n hn=>by simp at hn⟩
 ·cases h
theorem bFO{k:IntKind}{d:D}{n:Int}(h:dN k d=some n):d=.s (.sc (.int k n)):=by
 unfold dN at h;split at h
 ·split at h
  ·rename_i hk;cases h;subst hk;rfl
  ·cases h
 ·cases h
theorem bFN{k:IntKind}{d:D}{n:Int}(h:dN k d=some n):Fl d (.s (.sc (.int k n))):=by rw[bFO h];exact Fl.refl _
theorem bFS{d:D}{b:Bool}(h:dB d=some b):d=.s (.sc (.bool b)):=by
 unfold dB at h;split at h
 ·cases h;rfl
 ·cases h
theorem bFR{d:D}{b:Bool}(h:dB d=some b):Fl d (.s (.sc (.bool b))):=by rw[bFS h];exact Fl.refl _
theorem Contract.bIN{P:Program}{G:Nat->Option (IntKind×List Int)}{f:FuncId}{d d':D}{rs:List D}(h:Contract P G f [d'] rs)(hd:Fl d d'):Contract P G f [d] rs :=
 h.of rfl fun i x x' hx Ag=>by
  match i with
  |0=>simp at hx Ag;subst hx;subst Ag;exact hd
  |i+1=>simp at hx
theorem Contract.bGO{P:Program}{G:Nat->Option (IntKind×List Int)}{f:FuncId}{d d' e e':D}{rs:List D}(h:Contract P G f [d',e'] rs)(hd:Fl d d')(he:Fl e e'):Contract P G f [d,e] rs :=
 h.of rfl fun i x x' hx Ag=>by
  match i with
  |0=>simp at hx Ag;subst hx;subst Ag;exact hd
  |1=>simp at hx Ag;subst hx;subst Ag;exact he
  |i+2=>simp at hx
theorem Contract.bNV{P:Program}{G:Nat->Option (IntKind×List Int)}{f:FuncId}{d d' e e' g g':D}{rs:List D}(h:Contract P G f [d',e',g'] rs)(hd:Fl d d')(he:Fl e e')(hg:Fl g g'):Contract P G f [d,e,g] rs :=
 h.of rfl fun i x x' hx Ag=>by
  match i with
  |0=>simp at hx Ag;subst hx;subst Ag;exact hd
  |1=>simp at hx Ag;subst hx;subst Ag;exact he
  |2=>simp at hx Ag;subst hx;subst Ag;exact hg
  |i+3=>simp at hx
theorem Contract.bSA{P:Program}{G:Nat->Option (IntKind×List Int)}{f:FuncId}{d d' e e' g g' k k':D}{rs:List D}(h:Contract P G f [d',e',g',k'] rs)(hd:Fl d d')(he:Fl e e')(hg:Fl g g')(hk:Fl k k'):Contract P G f [d,e,g,k] rs :=
 h.of rfl fun i x x' hx Ag=>by
  match i with
  |0=>simp at hx Ag;subst hx;subst Ag;exact hd
  |1=>simp at hx Ag;subst hx;subst Ag;exact he
  |2=>simp at hx Ag;subst hx;subst Ag;exact hg
  |3=>simp at hx Ag;subst hx;subst Ag;exact hk
  |i+4=>simp at hx
abbrev dO:=List D->Option (Prop×List D)
def nR(P:Program)(G:Nat->Option (IntKind×List Int))(f:FuncId)(o:dO):Prop :=
 ∀ds g rs,o ds=some (g,rs)->g->Contract P G f ds rs/\xC P f
def callsOf(Lt:List (Nat×dO))(f:FuncId)(ds:List D):Option (Prop×List D):=match tlook Lt f with
 |some o=>o ds
 |none=>none
theorem lT{P:Program}{E:Env}(Lt:List (Nat×dO))(hC:E.C=callsOf Lt)(h:∀p∈Lt,nR P E.glob p.1 p.2)
  (hx:∀f vs g rs,E.ext f vs=some (g,rs)->g->(∀v∈rs,v.oneCell'=true)/\∀w,(callFunc f vs.toArray).run P w=.ok (.value (resV rs)) w) (hF:E.ioF=(fun _=>[]):=by rfl):mD P E:=by
 refine⟨fun f ds g rs _ he hg=>?_,fun f p ps ds g rs he=>(by rw[hF]at he;cases he),hx⟩;rw[hC]at he;unfold callsOf at he;split at he
 ·rename_i o ho;exact h _ (xQ ho) ds g rs he hg
 ·cases he
theorem aD{P:Program}{G:Nat->Option (IntKind×List Int)}:∀p∈([]:List (Nat×dO)),nR P G p.1 p.2:=fun _ h=>by cases h
theorem aA{P:Program}{G:Nat->Option (IntKind×List Int)}{f:Nat}{o:dO}{Lt:List (Nat×dO)}(h:nR P G f o)(ht:∀p∈Lt,nR P G p.1 p.2):∀p∈(f,o) :: Lt,nR P G p.1 p.2:=by
 intro p hp;rcases List.mem_cons.1 hp with rfl |hp
 ·exact h
 ·exact ht p hp
def sG(P:Program)(G:Nat->Option (IntKind×List Int))(f:FuncId)(o:dO):Prop :=
 ∀ds g rs,o ds=some (g,rs)->g->(∃Hv js,rs=Hv ++ js/\qN P G f [0] ds Hv js)/\xC P f
def rW(aQJ:List (Nat×dO))(r:FuncId->List D->Option (Prop×List D))(f:FuncId)(ds:List D):Option (Prop×List D):=match tlook aQJ f with
 |some o=>o ds
 |none=>r f ds
def Mw(aQJ:List (Nat×dO))(f:FuncId):List Nat:=match tlook aQJ f with
 |some _=>[0]
 |none=>[]
theorem mU{P:Program}{E:Env}(aQJ Lt:List (Nat×dO))(hC:E.C=rW aQJ (callsOf Lt))(hF:E.ioF=Mw aQJ)(hi:∀p∈aQJ,sG P E.glob p.1 p.2)(h:∀p∈Lt,nR P E.glob p.1 p.2)
  (hx:∀f vs g rs,E.ext f vs=some (g,rs)->g->(∀v∈rs,v.oneCell'=true)/\∀w,(callFunc f vs.toArray).run P w=.ok (.value (resV rs)) w):mD P E:=by
 refine⟨fun f ds g rs h0 he hg=>?_,fun f p ps ds g rs h0 he hg=>?_,hx⟩
 ·rw[hF]at h0;rw[hC]at he;unfold Mw at h0;unfold rW at he;cases ht:tlook aQJ f with
  |some o=>rw[ht]at h0;cases h0
  |none =>
   rw[ht]at he;simp only at he;unfold callsOf at he;split at he
   ·rename_i o ho;exact h _ (xQ ho) ds g rs he hg
   ·cases he
 ·rw[hF]at h0;rw[hC]at he;unfold Mw at h0;unfold rW at he;cases ht:tlook aQJ f with
  |none=>rw[ht]at h0;cases h0
  |some o =>
   rw[ht]at h0 he;simp only at h0 he;cases h0;obtain⟨⟨Hv,js,h1,h2⟩,h3⟩:=hi _ (xQ ht) ds g rs he hg;exact⟨Hv,js,h1,h2,h3⟩
theorem wY{P:Program}{G:Nat->Option (IntKind×List Int)}:∀p∈([]:List (Nat×dO)),sG P G p.1 p.2:=fun _ h=>by cases h
theorem nN{P:Program}{G:Nat->Option (IntKind×List Int)}{f:Nat}{o:dO}{Lt:List (Nat×dO)}(h:sG P G f o)(ht:∀p∈Lt,sG P G p.1 p.2):∀p∈(f,o) :: Lt,sG P G p.1 p.2:=by
 intro p hp;rcases List.mem_cons.1 hp with rfl |hp
 ·exact h
 ·exact ht p hp
theorem qN.bSB{P:Program}{G:Nat->Option (IntKind×List Int)}{f:FuncId}{d:D}{ds ds' rs js:List D}(h:qN P G f [0] (d :: ds') rs js)(hl:ds.length=ds'.length)
  (hd:∀(i:Nat) (x x':D),ds[i]?=some x->ds'[i]?=some x'->Gi x=false/\Gi x'=false/\Fl x x'):qN P G f [0] (d :: ds) rs js:=by
 refine⟨h.len,fun j i hj=>?_,fun Y w vs g hY hG hlen hargs Bk=>?_⟩
 ·obtain⟨e,k,ns,off,n,e',k',oR,h1,h2,h3⟩:=h.io j i hj;have hi:i=0:=by
   match j with
   |0=>simp at hj;exact hj.symm
   |j+1=>simp at hj
  subst hi;exact⟨e,k,ns,off,n,e',k',oR,by simpa using h1,h2,h3⟩
 ·refine h.run Y w vs g hY hG (by simp at hlen ⊢;omega) (fun i x' v hi hv=>?_) Bk
  match i with
  |0=>exact hargs 0 x' v (by simpa using hi) hv
  |i+1 =>
   have hi:ds'[i]?=some x':=by simpa using hi
   obtain⟨x,hx⟩:=bV (l:=ds) (i:=i) (by have:=bB hi;omega);obtain⟨h1,h2,h3⟩:=hd i x x' hx hi;exact Oc h2 (h3 Y w v (aDX h1 (hargs (i+1) x v (by simpa using hx) hv)))
def aGB(P:Program)(ext:FuncId->List Value->Option (Prop×List Value)):Prop:=∀f vs g rs,ext f vs=some (g,rs)->g->(∀v∈rs,v.oneCell'=true)/\∀w,(callFunc f vs.toArray).run P w=.ok (.value (resV rs)) w
end AI
namespace AI
open Go Go.RowKit
section
variable {R:Type} (E:Env) (J L:Nat->List KV->Option R)
def evalJ:Code->St->(Ex->St->Option R)->Option R
 | .skip,st,K=>K .normal st
 | .label _,st,K=>K .normal st
 | .region _ ops draw,st,K=>opsK E draw ops st.n ops.toList 0 [] st fun gM=>K .normal ⟨gM.fr,gM.hp,st.n+8*ops.size⟩
 | .seq a b,st,K=>evalJ a st fun ex gM=>match ex with
  | .normal=>match E.cut (keyOf b)with
   |some keep=>J (keyOf b) (canon E.n0 keep gM)
   |none=>evalJ b gM K
  | .exit i=>K (.exit i) gM
  | .ret=>K .ret gM
 | .cond c a b,st,K=>match c with
  | .tmp s=>match st.fr s with
   | .v (.one (.s (.sc (.bool t))))=>aC t (evalJ a ⟨Co st.fr s (Dh (.bool true)),st.hp,st.n⟩ K) (evalJ b ⟨Co st.fr s (Dh (.bool false)),st.hp,st.n⟩ K)
   |_=>none
  | .const (.bool t)=>aC t (evalJ a st K) (evalJ b st K)
  |_=>none
 | .block id c,st,K=>evalJ c st fun ex gM=>match ex with
  | .normal=>K .normal gM
  | .exit i=>bif bYO i id then K .normal gM else K (.exit i) gM
  | .ret=>K .ret gM
 | .exit id,st,K=>K (.exit id) st
 | .ret,st,K=>K .ret st
 | .loop c,st,_=>L (keyOf c) (canon E.n0 (E.keep (keyOf c)) st)
 | .scope c,st,K=>evalJ c st K
 |_,_,_=>none
def aDU(b:Code)(K:Ex->St->Option R)(ex:Ex)(gM:St):Option R:=match ex with
 | .normal=>match E.cut (keyOf b)with
  |some keep=>J (keyOf b) (canon E.n0 keep gM)
  |none=>evalJ E J L b gM K
 | .exit i=>K (.exit i) gM
 | .ret=>K .ret gM
def Tq(c:Code)(K:Ex->St->Option R)(ex:Ex)(gM:St):Option R:=match ex with
 | .normal=>L (keyOf c) (canon E.n0 (E.keep (keyOf c)) gM)
 | .exit i=>K (.exit i) gM
 | .ret=>K .ret gM
def findLoopJ(key:Nat):Code->(Ex->St->Option R)->Option (Code×(Ex->St->Option R))
 | .seq a b,K=>(findLoopJ key a (aDU E J L b K)).or (findLoopJ key b K)
 | .cond _ a b,K=>(findLoopJ key a K).or (findLoopJ key b K)
 | .block id c,K=>findLoopJ key c (Nw id K)
 | .loop c,K=>bif bYO (keyOf c) key then some (c,K)else findLoopJ key c (Tq E L c K)
 | .scope c,K=>findLoopJ key c K
 |_,_=>none
def mT(key:Nat):Code->(Ex->St->Option R)->Option (Code×(Ex->St->Option R))
 | .seq a b,K=>bif bYO (keyOf b) key then some (b,K)else(mT key a (aDU E J L b K)).or (mT key b K)
 | .cond _ a b,K=>(mT key a K).or (mT key b K)
 | .block id c,K=>mT key c (Nw id K)
 | .loop c,K=>mT key c (Tq E L c K)
 | .scope c,K=>mT key c K
 |_,_=>none
end
def loopKeys:Code->List Nat
 | .seq a b=>loopKeys a ++ loopKeys b
 | .cond _ a b=>loopKeys a ++ loopKeys b
 | .block _ c=>loopKeys c
 | .loop c=>keyOf c :: loopKeys c
 | .scope c=>loopKeys c
 |_=>[]
def gT(E:Env):Code->List Nat
 | .seq a b=>(match E.cut (keyOf b)with |some _=>[keyOf b] |none=>[]) ++ (gT E a ++ gT E b)
 | .cond _ a b=>gT E a ++ gT E b
 | .block _ c=>gT E c
 | .loop c=>gT E c
 | .scope c=>gT E c
 |_=>[]
theorem nodup_iff:∀{xs:List Nat},nodup xs=true↔xs.Nodup
 | []=>by simp[nodup]
 |x :: xs=>by
  have ih:=nodup_iff (xs:=xs);simp only[nodup,bYT,bZV,cDA,ih];constructor
  ·rintro ⟨h1,h2⟩;refine⟨fun hm=>?_,h2⟩;have:xs.elem x=true:=List.elem_eq_true_of_mem hm;rw[this]at h1;cases h1
  ·rintro ⟨h1,h2⟩;refine⟨?_,h2⟩;cases hb:xs.elem x with
   |false=>rfl
   |true=>exact(h1 (List.mem_of_elem_eq_true hb)).elim
section
variable {R:Type} (E:Env)
theorem tL(key:Nat):∀(c:Code) (K:Ex->St->Option R),(findLoop E key c K).isSome=true↔key∈loopKeys c:=by
 intro c
 induction c with
 |seq a b Bj Bi =>
  intro K;simp only[findLoop,loopKeys,bZP,cEM,bZW,Bj,Bi]
 |cond cd a b Bj Bi =>
  intro K;simp only[findLoop,loopKeys,bZP,cEM,bZW,Bj,Bi]
 |block id c ih=>intro K;simp only[findLoop,loopKeys,ih]
 |scope c ih=>intro K;simp only[findLoop,loopKeys,ih]
 |loop c ih =>
  intro K;simp only[findLoop,loopKeys,bZT];cases hb:bYO (keyOf c) key with
  |true=>simp[(bZB hb)]
  |false =>
   have:key≠keyOf c:=fun h=>by subst h;rw[cCT]at hb;cases hb
   simp only[cond_false,ih,this,false_or]
 |_=>intro K;simp[findLoop,loopKeys]
theorem vG{key:Nat}:∀{c:Code},key∈gT E c->(E.cut key).isSome=true:=by
 intro c
 induction c with
 |seq a b Bj Bi =>
  intro h;simp only[gT,bZP]at h;rcases h with h |h |h
  ·split at h
   ·rename_i keep hk;simp at h;subst h;rw[hk];rfl
   ·cases h
  ·exact Bj h
  ·exact Bi h
 |cond cd a b Bj Bi =>
  intro h;simp only[gT,bZP]at h;exact h.elim Bj Bi
 |block id c ih=>intro h;exact ih h
 |scope c ih=>intro h;exact ih h
 |loop c ih=>intro h;exact ih h
 |_=>intro h;simp[gT]at h
theorem vE{key:Nat}(hk:(E.cut key).isSome=true):∀(c:Code) (K:Ex->St->Option R),(fU E key c K).isSome=true↔key∈gT E c:=by
 intro c
 induction c with
 |seq a b Bj Bi =>
  intro K;simp only[fU,gT,bZP];cases hb:bYO (keyOf b) key with
  |true =>
   have:=bZB hb;subst this;cases hc:E.cut (keyOf b)with
   |none=>rw[hc]at hk;cases hk
   |some x=>simp
  |false =>
   have hn:key≠keyOf b:=fun h=>by subst h;rw[cCT]at hb;cases hb
   simp only[cond_false,cEM,bZW,Bj,Bi];constructor
   ·intro h;exact .inr h
   ·rintro (h |h)
    ·split at h
     ·simp at h;exact(hn h).elim
     ·cases h
    ·exact h
 |cond cd a b Bj Bi =>
  intro K;simp only[fU,gT,bZP,cEM,bZW,Bj,Bi]
 |block id c ih=>intro K;simp only[fU,gT,ih]
 |scope c ih=>intro K;simp only[fU,gT,ih]
 |loop c ih=>intro K;simp only[fU,gT,ih]
 |_=>intro K;simp[fU,gT]
theorem Ko{α:Type}{x y:Option α}(h:x.isSome=true):x.or y=x:=by cases x <;> simp_all
theorem Gb{α:Type}{x y:Option α}(h:¬x.isSome=true):x.or y=y:=by cases x <;> simp_all
structure Sub(c0:Code)(K0:Ex->St->Option R)(c:Code)(K:Ex->St->Option R):Prop where
 lp:∀key,key∈loopKeys c->findLoop E key c0 K0=findLoop E key c K
 ct:∀key,key∈gT E c->fU E key c0 K0=fU E key c K
 dl:(loopKeys c).Nodup
 dc:(gT E c).Nodup
variable {E} {c0:Code} {K0:Ex->St->Option R}
theorem Sub.seq1{a b:Code}{K:Ex->St->Option R}(h:Sub E c0 K0 (.seq a b) K):Sub E c0 K0 a (aAH E b K):=by
 have hl:=h.dl;have hc:=h.dc;simp only[loopKeys]at hl;simp only[gT]at hc;refine⟨fun key hk=>?_,fun key hk=>?_,(List.nodup_append.1 hl).1,(List.nodup_append.1 (List.nodup_append.1 hc).2.1).1⟩
 ·rw[h.lp key (by simp only[loopKeys,bZP];exact .inl hk),findLoop];exact Ko ((tL E key a _).2 hk)
 ·rw[h.ct key (by simp only[gT,bZP];exact .inr (.inl hk)),fU];have hs:=vG E hk;cases hb:bYO (keyOf b) key with
  |true =>
   exfalso;have:=bZB hb;subst this;cases hx:E.cut (keyOf b)with
   |none=>rw[hx]at hs;cases hs
   |some x =>
    rw[hx]at hc;exact(List.nodup_append.1 hc).2.2 (keyOf b) (by simp) (keyOf b) (List.mem_append.2 (.inl hk)) rfl
  |false =>
   simp only[cond_false];exact Ko ((vE E hs a _).2 hk)
theorem Sub.aAI{a b:Code}{K:Ex->St->Option R}(h:Sub E c0 K0 (.seq a b) K):Sub E c0 K0 b K:=by
 have hl:=h.dl;have hc:=h.dc;simp only[loopKeys]at hl;simp only[gT]at hc;refine⟨fun key hk=>?_,fun key hk=>?_,(List.nodup_append.1 hl).2.1,(List.nodup_append.1 (List.nodup_append.1 hc).2.1).2.1⟩
 ·rw[h.lp key (by simp only[loopKeys,bZP];exact .inr hk),findLoop];refine Gb fun hx=>?_
  exact(List.nodup_append.1 hl).2.2 key ((tL E key a _).1 hx) key hk rfl
 ·rw[h.ct key (by simp only[gT,bZP];exact .inr (.inr hk)),fU];have hs:=vG E hk;cases hb:bYO (keyOf b) key with
  |true =>
   exfalso;have:=bZB hb;subst this;cases hx:E.cut (keyOf b)with
   |none=>rw[hx]at hs;cases hs
   |some x =>
    rw[hx]at hc;exact(List.nodup_append.1 hc).2.2 (keyOf b) (by simp) (keyOf b) (List.mem_append.2 (.inr hk)) rfl
  |false =>
   simp only[cond_false];refine Gb fun hx=>?_
   exact(List.nodup_append.1 (List.nodup_append.1 hc).2.1).2.2 key ((vE E hs a _).1 hx) key hk rfl
theorem Sub.Ys{cd:Operand}{a b:Code}{K:Ex->St->Option R}(h:Sub E c0 K0 (.cond cd a b) K):Sub E c0 K0 a K:=by
 have hl:=h.dl;have hc:=h.dc;simp only[loopKeys]at hl;simp only[gT]at hc;refine⟨fun key hk=>?_,fun key hk=>?_,(List.nodup_append.1 hl).1,(List.nodup_append.1 hc).1⟩
 ·rw[h.lp key (by simp only[loopKeys,bZP];exact .inl hk),findLoop];exact Ko ((tL E key a _).2 hk)
 ·rw[h.ct key (by simp only[gT,bZP];exact .inl hk),fU];exact Ko ((vE E (vG E hk) a _).2 hk)
theorem Sub.Yr{cd:Operand}{a b:Code}{K:Ex->St->Option R}(h:Sub E c0 K0 (.cond cd a b) K):Sub E c0 K0 b K:=by
 have hl:=h.dl;have hc:=h.dc;simp only[loopKeys]at hl;simp only[gT]at hc;refine⟨fun key hk=>?_,fun key hk=>?_,(List.nodup_append.1 hl).2.1,(List.nodup_append.1 hc).2.1⟩
 ·rw[h.lp key (by simp only[loopKeys,bZP];exact .inr hk),findLoop];refine Gb fun hx=>?_
  exact(List.nodup_append.1 hl).2.2 key ((tL E key a _).1 hx) key hk rfl
 ·rw[h.ct key (by simp only[gT,bZP];exact .inr hk),fU];refine Gb fun hx=>?_
  exact(List.nodup_append.1 hc).2.2 key ((vE E (vG E hk) a _).1 hx) key hk rfl
theorem Sub.block{id:Nat}{c:Code}{K:Ex->St->Option R}(h:Sub E c0 K0 (.block id c) K):Sub E c0 K0 c (Nw id K) :=
 ⟨fun key hk=>h.lp key hk,fun key hk=>h.ct key hk,h.dl,h.dc⟩
theorem Sub.scope{c:Code}{K:Ex->St->Option R}(h:Sub E c0 K0 (.scope c) K):Sub E c0 K0 c K :=
 ⟨fun key hk=>h.lp key hk,fun key hk=>h.ct key hk,h.dl,h.dc⟩
theorem Sub.loop{c:Code}{K:Ex->St->Option R}(h:Sub E c0 K0 (.loop c) K):Sub E c0 K0 c (Rh E c K):=by
 have hl:=h.dl;simp only[loopKeys,cDA]at hl;refine⟨fun key hk=>?_,fun key hk=>h.ct key hk,hl.2,h.dc⟩;rw[h.lp key (by simp only[loopKeys,bZT];exact .inr hk),findLoop];cases hb:bYO (keyOf c) key with
 |true=>have:=bZB hb;subst this;exact(hl.1 hk).elim
 |false=>rfl
def Ms(E:Env)(c0:Code)(K0:Ex->St->Option R)(key:Nat)(l:List KV):Option R :=
 match findLoop E key c0 K0 with
 |some (b,K)=>fix (roundOf (evalCode E) E.n0 (E.keep key) b K) l
 |none=>none
def Ql(E:Env)(c0:Code)(K0:Ex->St->Option R)(key:Nat)(l:List KV):Option R :=
 match fU E key c0 K0,E.cut key with
 |some (b,K),some keep=>Dc key l fun l=>evalCode E b (mk E.n0 keep l) K
 |_,_=>none
theorem Sub.aLD{c:Code}{K:Ex->St->Option R}(h:Sub E c0 K0 (.loop c) K)(l:List KV):Ms E c0 K0 (keyOf c) l=fix (roundOf (evalCode E) E.n0 (E.keep (keyOf c)) c K) l:=by
 unfold Ms;rw[h.lp (keyOf c) (by simp[loopKeys]),findLoop,cCT];rfl
theorem Sub.aNK{a b:Code}{K:Ex->St->Option R}(h:Sub E c0 K0 (.seq a b) K){keep:List Nat}(hk:E.cut (keyOf b)=some keep)(l:List KV):Ql E c0 K0 (keyOf b) l=evalCode E b (AI.mk E.n0 keep l) K:=by
 unfold Ql;rw[h.ct (keyOf b) (by simp[gT,hk]),fU,cCT,hk];rfl
theorem Gm(hr:∀k,E.roll k=none):∀(c:Code) (K:Ex->St->Option R),Sub E c0 K0 c K->∀st,evalJ E (Ql E c0 K0) (Ms E c0 K0) c st K=evalCode E c st K:=by
 intro c
 induction c with
 |seq a b Bj Bi =>
  intro K h st;simp only[evalJ];have e:(fun(ex:Ex) (gM:St)=>match ex with
   | .normal=>match E.cut (keyOf b)with
    |some keep=>Ql E c0 K0 (keyOf b) (canon E.n0 keep gM)
    |none=>evalJ E (Ql E c0 K0) (Ms E c0 K0) b gM K
   | .exit i=>K (.exit i) gM
   | .ret=>K .ret gM)=aAH E b K:=by
   funext ex gM;unfold aAH;cases ex with
   |normal =>
    cases hk:E.cut (keyOf b)with
    |some keep=>simp only[];rw[h.aNK hk];rfl
    |none=>simp only[];exact Bi K h.aAI gM
   |exit i=>rfl
   |ret=>rfl
  rw[e,Bj _ h.seq1 st];rfl
 |cond cd a b Bj Bi =>
  intro K h st;simp only[evalJ,evalCode];have ha:=Bj K h.Ys;have hb:=Bi K h.Yr;simp only[ha,hb];rfl
 |block id c ih =>
  intro K h st;exact ih _ h.block st
 |loop c ih =>
  intro K h st;simp only[evalJ,evalCode,hr];rw[h.aLD]
 |region id ops draw=>intro K h st;rfl
 |skip=>intro K h st;rfl
 |label l=>intro K h st;rfl
 |exit i=>intro K h st;rfl
 |ret=>intro K h st;rfl
 |rangeFunc f ps x y _ _=>intro K h st;rfl
 |scope c ih=>intro K h st;exact ih _ h.scope st
 |goto l=>intro K h st;rfl
 |refuse bNN=>intro K h st;rfl
theorem Wo(hr:∀k,E.roll k=none){a b:Code}{K:Ex->St->Option R}(h:Sub E c0 K0 (.seq a b) K):aDU E (Ql E c0 K0) (Ms E c0 K0) b K=aAH E b K:=by
 funext ex gM;unfold aDU aAH;cases ex with
 |normal =>
  cases hk:E.cut (keyOf b)with
  |some keep=>simp only[];rw[h.aNK hk];rfl
  |none=>simp only[];exact Gm hr b K h.aAI gM
 |exit i=>rfl
 |ret=>rfl
theorem Hz{c:Code}{K:Ex->St->Option R}(h:Sub E c0 K0 (.loop c) K):Tq E (Ms E c0 K0) c K=Rh E c K:=by
 funext ex gM;unfold Tq Rh;cases ex with
 |normal=>exact h.aLD _
 |exit i=>rfl
 |ret=>rfl
theorem Uj(hr:∀k,E.roll k=none)(key:Nat):∀(c:Code) (K:Ex->St->Option R),Sub E c0 K0 c K->findLoopJ E (Ql E c0 K0) (Ms E c0 K0) key c K=findLoop E key c K:=by
 intro c
 induction c with
 |seq a b Bj Bi =>
  intro K h;rw[findLoopJ,findLoop,Wo hr h,Bj _ h.seq1,Bi _ h.aAI]
 |cond cd a b Bj Bi =>
  intro K h;rw[findLoopJ,findLoop,Bj _ h.Ys,Bi _ h.Yr]
 |block id c ih=>intro K h;rw[findLoopJ,findLoop,ih _ h.block]
 |scope c ih=>intro K h;rw[findLoopJ,findLoop,ih _ h.scope]
 |loop c ih=>intro K h;rw[findLoopJ,findLoop,Hz h,ih _ h.loop]
 |_=>intro K h;rfl
theorem Yc(hr:∀k,E.roll k=none)(key:Nat):∀(c:Code) (K:Ex->St->Option R),Sub E c0 K0 c K->mT E (Ql E c0 K0) (Ms E c0 K0) key c K=fU E key c K:=by
 intro c
 induction c with
 |seq a b Bj Bi =>
  intro K h;rw[mT,fU,Wo hr h,Bj _ h.seq1,Bi _ h.aAI]
 |cond cd a b Bj Bi =>
  intro K h;rw[mT,fU,Bj _ h.Ys,Bi _ h.Yr]
 |block id c ih=>intro K h;rw[mT,fU,ih _ h.block]
 |scope c ih=>intro K h;rw[mT,fU,ih _ h.scope]
 |loop c ih=>intro K h;rw[mT,fU,Hz h,ih _ h.loop]
 |_=>intro K h;rfl
theorem Sub.aZW:∀(c:Code) (K:Ex->St->Option R),Sub E c0 K0 c K->∀{key:Nat} {b:Code} {K':Ex->St->Option R},findLoop E key c K=some (b,K')->key=keyOf b/\Sub E c0 K0 (.loop b) K':=by
 intro c
 induction c with
 |seq a b Bj Bi =>
  intro K h key b' K' hf;rw[findLoop]at hf;rcases Option.or_eq_some_iff.1 hf with hf |⟨_,hf⟩
  ·exact Bj _ h.seq1 hf
  ·exact Bi _ h.aAI hf
 |cond cd a b Bj Bi =>
  intro K h key b' K' hf;rw[findLoop]at hf;rcases Option.or_eq_some_iff.1 hf with hf |⟨_,hf⟩
  ·exact Bj _ h.Ys hf
  ·exact Bi _ h.Yr hf
 |block id c ih=>intro K h key b' K' hf;exact ih _ h.block hf
 |scope c ih=>intro K h key b' K' hf;exact ih _ h.scope hf
 |loop c ih =>
  intro K h key b' K' hf;rw[findLoop]at hf;cases hb:bYO (keyOf c) key with
  |true =>
   rw[hb]at hf;cases hf;exact⟨(bZB hb).symm,h⟩
  |false=>rw[hb]at hf;exact ih _ h.loop hf
 |_=>intro K h key b' K' hf;simp[findLoop]at hf
theorem Sub.bFY:∀(c:Code) (K:Ex->St->Option R),Sub E c0 K0 c K->∀{key:Nat} {b:Code} {K':Ex->St->Option R},fU E key c K=some (b,K')->Sub E c0 K0 b K':=by
 intro c
 induction c with
 |seq a b Bj Bi =>
  intro K h key b' K' hf;rw[fU]at hf;cases hb:bYO (keyOf b) key with
  |true=>rw[hb]at hf;cases hf;exact h.aAI
  |false =>
   rw[hb]at hf;rcases Option.or_eq_some_iff.1 hf with hf |⟨_,hf⟩
   ·exact Bj _ h.seq1 hf
   ·exact Bi _ h.aAI hf
 |cond cd a b Bj Bi =>
  intro K h key b' K' hf;rw[fU]at hf;rcases Option.or_eq_some_iff.1 hf with hf |⟨_,hf⟩
  ·exact Bj _ h.Ys hf
  ·exact Bi _ h.Yr hf
 |block id c ih=>intro K h key b' K' hf;exact ih _ h.block hf
 |scope c ih=>intro K h key b' K' hf;exact ih _ h.scope hf
 |loop c ih=>intro K h key b' K' hf;exact ih _ h.loop hf
 |_=>intro K h key b' K' hf;simp[fU]at hf
end
def zE(E:Env)(c:Code):Bool:=nodup (loopKeys c)&&nodup (gT E c)
theorem sub_self{E:Env}{c:Code}{K:Ex->St->Option (List D)}(h:zE E c=true):Sub E c K c K:=by
 unfold zE at h;rw[bYT,nodup_iff,nodup_iff]at h;exact⟨fun _ _=>rfl,fun _ _=>rfl,h.1,h.2⟩
section
variable (E:Env) (fn:Func) (c:Code)
def aJY(J L:Nat->List KV->Option (List D))(ds:List D):Option (List D) :=
 evalJ E J L c ⟨Yz ds,argHp 0 ds,E.n0⟩ (tG E fn)
def aAL(J L:Nat->List KV->Option (List D))(key:Nat)(l:List KV):Option (List D) :=
 match findLoopJ E J L key c (tG E fn)with
 |some (b,K)=>evalJ E J L b (mk E.n0 (E.keep key) l) fun ex gM=>match ex with
  | .normal=>L key (canon E.n0 (E.keep key) gM)
  | .exit i=>K (.exit i) gM
  | .ret=>K .ret gM
 |none=>none
def aZL(J L:Nat->List KV->Option (List D))(key:Nat)(l:List KV):Option (List D) :=
 match mT E J L key c (tG E fn),E.cut key with
 |some (b,K),some keep=>evalJ E J L b (mk E.n0 keep l) K
 |_,_=>none
end
variable {E:Env} {fn:Func} {c:Code}
theorem Nr:cutAt E fn c=Ql E c (tG E fn):=by
 funext key l;unfold cutAt Ql;cases fU E key c (tG E fn) <;> cases E.cut key <;> rfl
theorem Ia:Ib E fn c=Ms E c (tG E fn):=by
 funext key l;unfold Ib Ms;cases findLoop E key c (tG E fn) <;> rfl
theorem aNL(E:Env)(fn:Func)(c:Code):∃f:Nat->List KV->Option (List D),f=cutAt E fn c:=⟨_,rfl⟩
def lP(E:Env)(fn:Func)(c:Code):Nat->List KV->Option (List D):=Classical.choose (aNL E fn c)
theorem aBP:lP E fn c=cutAt E fn c:=Classical.choose_spec (aNL E fn c)
theorem aLE(E:Env)(fn:Func)(c:Code):∃f:Nat->List KV->Option (List D),f=Ib E fn c:=⟨_,rfl⟩
def nU(E:Env)(fn:Func)(c:Code):Nat->List KV->Option (List D):=Classical.choose (aLE E fn c)
theorem aAS:nU E fn c=Ib E fn c:=Classical.choose_spec (aLE E fn c)
theorem aMT(hr:E.roll=fun _=>none)(h:zE E c=true)(ds:List D):aG E fn c ds=aJY E fn c (lP E fn c) (nU E fn c) ds:=by
 rw[aBP,aAS,Nr,Ia];exact(Gm (c0:=c) (K0:=tG E fn) (fun k=>by rw[hr]) c (tG E fn) (sub_self h) _).symm
theorem aLF(hr:E.roll=fun _=>none)(h:zE E c=true)(key:Nat)(l:List KV):nU E fn c key l=aAL E fn c (lP E fn c) (nU E fn c) key l:=by
 rw[aBP,aAS,aGP,Nr,Ia];unfold Sw aAL;have hs:=sub_self (K:=tG E fn) h;have e:=Uj (c0:=c) (K0:=tG E fn) (fun k=>by rw[hr]) key c (tG E fn) hs;rw[e];cases hf:findLoop E key c (tG E fn)with
 |none=>rfl
 |some p =>
  obtain⟨b,K⟩:=p;simp only[];obtain⟨rfl,hb⟩:=Sub.aZW c (tG E fn) hs hf;have e2:(fun(ex:Ex) (gM:St)=>match ex with
   | .normal=>Ms E c (tG E fn) (keyOf b) (canon E.n0 (E.keep (keyOf b)) gM)
   | .exit i=>K (.exit i) gM
   | .ret=>K .ret gM)=Rh E b K:=Hz hb
  rw[e2];exact(Gm (c0:=c) (K0:=tG E fn) (fun k=>by rw[hr]) b _ hb.loop _).symm
theorem aTB(hr:E.roll=fun _=>none)(h:zE E c=true)(key:Nat)(l:List KV):lP E fn c key l=aZL E fn c (lP E fn c) (nU E fn c) key l:=by
 rw[aBP,aAS,aNJ,Nr,Ia];unfold Up aZL;have hs:=sub_self (K:=tG E fn) h;have e:=Yc (c0:=c) (K0:=tG E fn) (fun k=>by rw[hr]) key c (tG E fn) hs;rw[e];cases hf:fU E key c (tG E fn)with
 |none=>rfl
 |some p =>
  obtain⟨b,K⟩:=p;cases hc:E.cut key with
  |none=>rfl
  |some keep=>exact(Gm (c0:=c) (K0:=tG E fn) (fun k=>by rw[hr]) b _ (Sub.bFY c _ hs hf) _).symm
def Nk(E:Env)(c:Code):Prop:=(E.roll=fun _=>none)/\zE E c=true
theorem nk{E:Env}{c:Code}(h:zE E c=true:=by kernel_rfl)(hr:E.roll=fun _=>none:=by rfl):Nk E c:=⟨hr,h⟩
section
variable {E:Env} {fn:Func} {c:Code} {key:Nat} {l:List KV} {ds:List D} {r:Option (List D)} (h:Nk E c)
include h
theorem eJ(e:aJY E fn c (lP E fn c) (nU E fn c) ds=r:=by kernel_rfl):aG E fn c ds=r:=(aMT h.1 h.2 ds).trans e
theorem lJ(e:aAL E fn c (lP E fn c) (nU E fn c) key l=r:=by kernel_rfl):nU E fn c key l=r:=(aLF h.1 h.2 key l).trans e
theorem cJ(e:aZL E fn c (lP E fn c) (nU E fn c) key l=r:=by kernel_rfl):lP E fn c key l=r:=(aTB h.1 h.2 key l).trans e
end
end AI
namespace AI
open Go Go.RowKit
structure oI(α:Type) where
 put:α->D
 get:D->Option α
 le:∀{d x},get d=some x->Fl d (put x)
def pI(k:IntKind):oI (List Int):=⟨fun a=>.s (.ints k a),dI k,bFP⟩
def pN(k:IntKind):oI Int:=⟨fun n=>.s (.sc (.int k n)),dN k,bFN⟩
def dIO(e:TypeId)(k:IntKind):D->Option (List Int×Nat×Nat)
 | .io e' k' ns off n=>if _h:e=e'/\k=k' then some (ns,off,n)else none
 |_=>none
theorem Uo{e:TypeId}{k:IntKind}{d:D}{x:List Int×Nat×Nat}(h:dIO e k d=some x):d=.io e k x.1 x.2.1 x.2.2:=by
 unfold dIO at h;split at h
 ·split at h
  ·rename_i hk;obtain⟨rfl,rfl⟩:=hk;cases h;rfl
  ·cases h
 ·cases h
def Ek(e:TypeId)(k:IntKind):oI (List Int×Nat×Nat):=⟨fun x=>.io e k x.1 x.2.1 x.2.2,dIO e k,fun h=>by rw[Uo h];exact Fl.refl _⟩
def pB:oI Bool:=⟨fun b=>.s (.sc (.bool b)),dB,bFR⟩
def dF(k:FloatKind):D->Option Nat
 | .s (.sc (.float k' b))=>if _h:k=k' then some b else none
 |_=>none
theorem bFQ{k:FloatKind}{d:D}{n:Nat}(h:dF k d=some n):Fl d (.s (.sc (.float k n))):=by
 unfold dF at h;split at h
 ·split at h
  ·rename_i hk;cases h;subst hk;exact Fl.refl _
  ·cases h
 ·cases h
def pF(k:FloatKind):oI Nat:=⟨fun b=>.s (.sc (.float k b)),dF k,bFQ⟩
class aIA{α:Type}(p:oI α):Prop where
 no:∀{d x},p.get d=some x->Gi d=false/\Gi (p.put x)=false
instance {k:IntKind}:aIA (pI k):=⟨fun {d x} h=>⟨by cases d <;> first |rfl | (simp[pI,dI]at h),rfl⟩⟩
instance {k:IntKind}:aIA (pN k):=⟨fun {d x} h=>⟨by cases d <;> first |rfl | (simp[pN,dN]at h),rfl⟩⟩
instance:aIA pB:=⟨fun {d x} h=>⟨by cases d <;> first |rfl | (simp[pB,dB]at h),rfl⟩⟩
structure SPar(α:Type) where
 n:Nat
 put:α->List S
 get:List S->Option α
 le:∀{d x},get d=some x->d.length=n/\(put x).length=n/\∀(i:Nat) (s s':S),d[i]?=some s->(put x)[i]?=some s'->∀X w v,rI X w s v->rI X w s' v
def bIE{α:Type}(p:oI α)(put:α->S)(h:∀x,p.put x=.s (put x)):SPar α where
 n:=1
 put x:=[put x]
 get
  | [s]=>p.get (.s s)
  |_=>none
 le:=by
  intro d x hd
  match d,hd with
  | [s],hd =>
   refine⟨rfl,rfl,fun i s1 s2 h1 h2=>?_⟩
   match i with
   |0 =>
    simp at h1 h2;subst h1;subst h2;intro X w v hr;have:=p.le hd X w v hr;rw[h]at this;exact this
   |i+1=>simp at h1
def sI(k:IntKind):SPar (List Int):=bIE (pI k) (fun a=>.ints k a) fun _=>rfl
def sN(k:IntKind):SPar Int:=bIE (pN k) (fun n=>.sc (.int k n)) fun _=>rfl
def sB:SPar Bool:=bIE pB (fun b=>.sc (.bool b)) fun _=>rfl
def SPar.pair{α β:Type}(p:SPar α)(q:SPar β):SPar (α×β) where
 n:=p.n+q.n
 put x:=p.put x.1 ++ q.put x.2
 get d:=match p.get (d.take p.n),q.get (d.drop p.n)with
  |some a,some b=>some (a,b)
  |_,_=>none
 le:=by
  intro d x h;split at h
  ·rename_i a b ha hb;cases h;obtain⟨a1,a2,a3⟩:=p.le ha;obtain⟨b1,b2,b3⟩:=q.le hb;simp only[cBD,cCM]at a1 b1;have bGB:(p.put (a,b).fst).length=p.n:=a2;refine⟨by omega,by simp[a2,b2],fun i s s' h1 h2=>?_⟩
   by_cases hi:i<p.n
   ·rw[List.getElem?_append_left (by rw[bGB];exact hi)]at h2;exact a3 i s s' (by rw[bYS hi];exact h1) h2
   ·rw[List.getElem?_append_right (by rw[bGB];omega),bGB]at h2;exact b3 (i-p.n) s s' (by rw[bYZ,show p.n+(i-p.n)=i from by omega];exact h1) h2
  ·cases h
def pG{α:Type}(p:SPar α):oI α where
 put x:=.agg (p.put x)
 get
  | .agg cs=>p.get cs
  |_=>none
 le:=by
  intro d x h
  match d,h with
  | .agg cs,h =>
   obtain⟨h1,h2,h3⟩:=p.le h;rintro Y w v ⟨arr,rfl,hl,hr⟩;refine⟨arr,rfl,by omega,fun i s u hs hu=>?_⟩;obtain⟨s0,Pq⟩:=bV (l:=cs) (i:=i) (by have:=bB hs;omega);exact h3 i s0 s Pq hs Y w u (hr i s0 u Pq hu)
def Df(d d':D):Prop:=(d'=d)\/(mF d'=false/\((∃e k ns,d=.own e k ns/\d'=.s (.ints k ns))\/(mF d=false/\Fl d d')))
theorem Df.refl(d:D):Df d d:=.inl rfl
theorem Df.own(e:TypeId)(k:IntKind)(ns:List Int):Df (.own e k ns) (.s (.ints k ns)):=.inr ⟨rfl,.inl ⟨e,k,ns,rfl,rfl⟩⟩
theorem Df.nil(k:IntKind):Df (.s (.sc (.slice none 0 0))) (.s (.ints k [])) :=
 .inr ⟨rfl,.inr ⟨rfl,fun Y w v h=>by obtain⟨rfl,_⟩:=h;exact⟨none,0,rfl,bYN _,fun i n hn=>by simp at hn⟩⟩⟩
def Ez(s s':S):Prop:=∀X w v,rI X w s v->rI X w s' v
theorem Ez.refl(s:S):Ez s s:=fun _ _ _ h=>h
theorem Ez.nil(k:IntKind):Ez (.sc (.slice none 0 0)) (.ints k []):=fun X w v h=>by
 obtain⟨rfl,_⟩:=h;exact⟨none,0,rfl,bYN _,fun i n hn=>by simp at hn⟩
inductive Ab:List S->List S->Prop where
 |nil:Ab [] []
 |cons {s s':S} {l l':List S}:Ez s s'->Ab l l'->Ab (s :: l) (s' :: l')
theorem Ab.refl:∀l,Ab l l
 | []=>.nil
 |s :: l=>.cons (Ez.refl s) (Ab.refl l)
theorem Ab.len{l l':List S}(h:Ab l l'):l.length=l'.length:=by induction h with |nil=>rfl |cons _ _ ih=>simp[ih]
theorem Ab.at{l l':List S}(h:Ab l l'):∀{i:Nat} {s s':S},l[i]?=some s->l'[i]?=some s'->Ez s s':=by
 induction h with
 |nil=>intro i s s' h;simp at h
 |cons hs _ ih =>
  intro i s s' h1 h2;cases i with
  |zero=>simp at h1 h2;subst h1;subst h2;exact hs
  |succ i=>simp at h1 h2;exact ih h1 h2
theorem Df.agg{l l':List S}(h:Ab l l'):Df (.agg l) (.agg l') :=
 .inr ⟨rfl,.inr ⟨rfl,fun Y w v hv=>by
  obtain⟨arr,rfl,hl,hr⟩:=hv;refine⟨arr,rfl,by rw[<-h.len];exact hl,fun i s u hs hu=>?_⟩;obtain⟨s0,Pq⟩:=bV (l:=l) (i:=i) (by have:=bB hs;rw[h.len];exact this);exact h.at Pq hs Y w u (hr i s0 u Pq hu)⟩⟩
inductive iZ:List D->List D->Prop where
 |nil:iZ [] []
 |cons {s s':D} {l l':List D}:Df s s'->iZ l l'->iZ (s :: l) (s' :: l')
theorem iZ.refl:∀l,iZ l l
 | []=>.nil
 |s :: l=>.cons (Df.refl s) (iZ.refl l)
theorem iZ.len{l l':List D}(h:iZ l l'):l.length=l'.length:=by induction h with |nil=>rfl |cons _ _ ih=>simp[ih]
theorem iZ.at{l l':List D}(h:iZ l l'):∀{i:Nat} {s s':D},l[i]?=some s->l'[i]?=some s'->Df s s':=by
 induction h with
 |nil=>intro i s s' h;simp at h
 |cons hs _ ih =>
  intro i s s' h1 h2;cases i with
  |zero=>simp at h1 h2;subst h1;subst h2;exact hs
  |succ i=>simp at h1 h2;exact ih h1 h2
theorem Contract.less{P:Program}{G:Nat->Option (IntKind×List Int)}{f:FuncId}{ds rs aQW:List D}(h:Contract P G f ds rs)(hr:iZ rs aQW):Contract P G f ds aQW:=by
 intro Y w vs hY hG hlen hargs;refine(h Y w vs hY hG hlen hargs).mono ?_;rintro e w' ⟨Ae,he,hb,g,hl,Bk,aAX⟩;have uK:∀{i:Nat} {d d':D},rs[i]?=some d->aQW[i]?=some d'->mF d'=true->d'=d:=by
  intro i d d' h1 h2 ho;rcases hr.at h1 h2 with h3 |⟨h3,_⟩
  ·exact h3
  ·rw[h3]at ho;cases ho
 have wH:∀{i:Nat} {d':D},aQW[i]?=some d'->∃d,rs[i]?=some d:=fun {i d'} h=>bV (l:=rs) (i:=i) (by have:=bB h;rw[hr.len];exact this)
 have aXS:∀b,(Y b\/∃(j:Nat) (d':D),aQW[j]?=some d'/\mF d'=true/\g j=b)->(Y b\/∃(j:Nat) (d':D),rs[j]?=some d'/\mF d'=true/\g j=b):=by
  rintro b (hb |⟨j,d',h1,h2,h3⟩)
  ·exact .inl hb
  ·obtain⟨d,hd⟩:=wH h1;have:=uK hd h1 h2;subst this;exact .inr ⟨j,d',hd,h2,h3⟩
 refine⟨Ae,he,hb,g,by rw[<-hr.len];exact hl,?_,?_⟩
 ·intro i j d d' h1 h2 h3 h4 h5;obtain⟨e1,aPT⟩:=wH h1;obtain⟨e2,aVG⟩:=wH h2;have q1:=uK aPT h1 h3;have q2:=uK aVG h2 h4;subst q1;subst q2;exact Bk i j _ _ aPT aVG h3 h4 h5
 ·intro i d' v h1 hv;obtain⟨d,hd⟩:=wH h1;have bHI:=aAX i d v hd hv;have aYF:∀(X:Nat->Prop),(∀b,X b->(Y b\/∃(j:Nat) (d':D),rs[j]?=some d'/\mF d'=true/\g j=b))->jB (fun b=>Y b\/∃(j:Nat) (d':D),rs[j]?=some d'/\mF d'=true/\g j=b) w' X w' :=
   fun X hX=>⟨bYN _,fun b _ hn=>⟨rfl,fun hx=>hn (hX b hx)⟩⟩
  have bOS:∀{x:D},mF x=false->oZ (fun b=>Y b\/∃(j:Nat) (d':D),rs[j]?=some d'/\mF d'=true/\g j=b) w' x v->oZ (fun b=>Y b\/∃(j:Nat) (d':D),aQW[j]?=some d'/\mF d'=true/\g j=b) w' x v :=
   fun _ hx=>hx.later (aYF _ aXS)
  have bDX:∀{x:D},mF x=false->(match x with
   | .own e k ns=>Sc w.heap.size w' (g i) e k ns v
   |d=>oZ (fun b=>Y b\/∃(j:Nat) (d':D),rs[j]?=some d'/\mF d'=true/\g j=b) w' d v)->oZ (fun b=>Y b\/∃(j:Nat) (d':D),rs[j]?=some d'/\mF d'=true/\g j=b) w' x v:=by
   intro x hx hm;cases x with
   |own e k ns=>cases hx
   |s x=>exact hm
   |rows a b c=>exact hm
   |agg cs=>exact hm
   |io=>exact hm
   |back=>exact hm
  have aEV:∀{x:D},mF x=false->oZ (fun b=>Y b\/∃(j:Nat) (d':D),aQW[j]?=some d'/\mF d'=true/\g j=b) w' x v->(match x with
   | .own e k ns=>Sc w.heap.size w' (g i) e k ns v
   |d=>oZ (fun b=>Y b\/∃(j:Nat) (d':D),aQW[j]?=some d'/\mF d'=true/\g j=b) w' d v):=by
   intro x hx hm;cases x with
   |own e k ns=>cases hx
   |s x=>exact hm
   |rows a b c=>exact hm
   |agg cs=>exact hm
   |io=>exact hm
   |back=>exact hm
  rcases hr.at hd h1 with rfl |⟨h3,⟨e0,k,ns,rfl,rfl⟩ |⟨h4,h5⟩⟩
  ·cases aVC:mF d' with
   |true =>
    cases d' with
    |own e k ns=>exact bHI
    |s x=>cases aVC
    |io=>cases aVC
    |back=>cases aVC
    |rows a b c=>cases aVC
    |agg cs=>cases aVC
   |false=>exact aEV aVC (bOS aVC (bDX aVC bHI))
  ·obtain⟨arr,cap,aGU,hbg,hh,aPR,hn1b,bEB,Xx⟩:=bHI;refine⟨_,_,aGU,aPR,fun j n hj=>⟨g i,0,rfl,?_,?_,?_⟩⟩
   ·exact(Array.getElem?_eq_some_iff.1 hh).1
   ·rintro (hy |⟨j',d',q1,q2,q3⟩)
    ·have:=hY _ hy;omega
    ·obtain⟨d2,bBR⟩:=wH q1;have:=uK bBR q1 q2;subst this;have:=Bk j' i _ _ bBR hd q2 rfl q3;subst this;rw[h1]at q1;cases q1;cases q2
   ·rw[cell_of_row w' (g i) _ arr e0 (0,0) hh];simpa using Xx j n hj
  ·exact aEV h3 (h5 _ _ _ (bOS h4 (bDX h4 bHI)))
def orc0(r:Prop×List D):dO
 | []=>some r
 |_=>none
def orc1{α:Type}(p:oI α)(f:α->Prop×List D):dO
 | [a]=>match p.get a with
  |some x=>some (f x)
  |none=>none
 |_=>none
def orc2{α β:Type}(p:oI α)(q:oI β)(f:α->β->Prop×List D):dO
 | [a,b]=>match p.get a,q.get b with
  |some x,some y=>some (f x y)
  |_,_=>none
 |_=>none
def orc3{α β γ:Type}(p:oI α)(q:oI β)(r:oI γ)(f:α->β->γ->Prop×List D):dO
 | [a,b,c]=>match p.get a,q.get b,r.get c with
  |some x,some y,some z=>some (f x y z)
  |_,_,_=>none
 |_=>none
def orc4{α β γ δ:Type}(p:oI α)(q:oI β)(r:oI γ)(s:oI δ)(f:α->β->γ->δ->Prop×List D):dO
 | [a,b,c,d]=>match p.get a,q.get b,r.get c,s.get d with
  |some x,some y,some z,some u=>some (f x y z u)
  |_,_,_,_=>none
 |_=>none
structure tJ(P:Program)(E:Env)(f:FuncId)(fn:Func)(c:Code):Prop where
 ty:qE P E.T
 calls:mD P E
 mix:P.follows .mixedOrders=true
 fnc:P.funcs[f]?=some fn
 body:fn.body=some c
 nt:E.nt=fn.ntmps
 has:xC P f
 io:E.io=[]
theorem Yb{P:Program}{E:Env}{f:FuncId}{fn:Func}{c:Code}(ty:qE P E.T)(mix:P.follows .mixedOrders=true)(calls:mD P E)(hf:P.funcs[f]?=some fn)(hb:fn.body=some c)(nt:E.nt=fn.ntmps)(hn:(fn.name== "runtime.NumGoroutine")=false)(io:E.io=[]:=by rfl):tJ P E f fn c :=
 ⟨ty,calls,mix,hf,hb,nt,wJ hf hb hn,io⟩
structure nS(P:Program)(E:Env)(f:FuncId)(fn:Func)(c:Code):Prop where
 ty:qE P E.T
 calls:mD P E
 mix:P.follows .mixedOrders=true
 fnc:P.funcs[f]?=some fn
 body:fn.body=some c
 nt:E.nt=fn.ntmps
 has:xC P f
 io:E.io=[0]
 n0:E.n0=1
theorem wK{P:Program}{E:Env}{f:FuncId}{fn:Func}{c:Code}(ty:qE P E.T)(mix:P.follows .mixedOrders=true)(calls:mD P E)(hf:P.funcs[f]?=some fn)(hb:fn.body=some c)(nt:E.nt=fn.ntmps)(hn:(fn.name== "runtime.NumGoroutine")=false)(io:E.io=[0])(n0:E.n0=1):nS P E f fn c :=
 ⟨ty,calls,mix,hf,hb,nt,wJ hf hb hn,io,n0⟩
variable {P:Program} {E:Env} {f:FuncId} {fn:Func} {c:Code}
theorem tJ.bIM(h:tJ P E f fn c){r:Prop×List D}(hs:r.1->aG E fn c []=some r.2):nR P E.glob f (orc0 r):=by
 intro ds g rs hd hg;unfold orc0 at hd;split at hd
 ·cases hd;exact⟨fn_contract h.ty h.calls h.mix h.fnc h.body h.nt h.io (cEN _) (hs hg),h.has⟩
 ·cases hd
theorem tJ.oV{α:Type}(h:tJ P E f fn c){p:oI α}{g:α->Prop×List D}(hn:bYQ 1 fn.ntmps=true)(hs:∀x,(g x).1->aG E fn c [p.put x]=some (g x).2):nR P E.glob f (orc1 p g):=by
 intro ds q rs hd hg;unfold orc1 at hd;split at hd
 ·split at hd
  ·rename_i x hx;have hd:=Option.some.inj hd;have e1:q=(g x).1:=by rw[hd]
   have e2:rs=(g x).2:=by rw[hd]
   subst e1;subst e2;exact⟨(fn_contract (ds:=[p.put x]) h.ty h.calls h.mix h.fnc h.body h.nt h.io (cAL hn) (hs x hg)).bIN (p.le hx),h.has⟩
  ·cases hd
 ·cases hd
theorem tJ.jZ{α β:Type}(h:tJ P E f fn c){p:oI α}{p':oI β}{g:α->β->Prop×List D}(hn:bYQ 2 fn.ntmps=true)(hs:∀x y,(g x y).1->aG E fn c [p.put x,p'.put y]=some (g x y).2):nR P E.glob f (orc2 p p' g):=by
 intro ds q rs hd hg;unfold orc2 at hd;split at hd
 ·split at hd
  ·rename_i x y hx hy;have hd:=Option.some.inj hd;have e1:q=(g x y).1:=by rw[hd]
   have e2:rs=(g x y).2:=by rw[hd]
   subst e1;subst e2;exact⟨(fn_contract (ds:=[p.put x,p'.put y]) h.ty h.calls h.mix h.fnc h.body h.nt h.io (cAL hn) (hs x y hg)).bGO (p.le hx) (p'.le hy),h.has⟩
  ·cases hd
 ·cases hd
theorem tJ.Dn{α β γ:Type}(h:tJ P E f fn c){p:oI α}{p':oI β}{Tc:oI γ}{g:α->β->γ->Prop×List D}(hn:bYQ 3 fn.ntmps=true)(hs:∀x y z,(g x y z).1->aG E fn c [p.put x,p'.put y,Tc.put z]=some (g x y z).2):nR P E.glob f (orc3 p p' Tc g):=by
 intro ds q rs hd hg;unfold orc3 at hd;split at hd
 ·split at hd
  ·rename_i x y z hx hy hz;have hd:=Option.some.inj hd;have e1:q=(g x y z).1:=by rw[hd]
   have e2:rs=(g x y z).2:=by rw[hd]
   subst e1;subst e2;exact⟨(fn_contract (ds:=[p.put x,p'.put y,Tc.put z]) h.ty h.calls h.mix h.fnc h.body h.nt h.io (cAL hn) (hs x y z hg)).bNV (p.le hx) (p'.le hy) (Tc.le hz),h.has⟩
  ·cases hd
 ·cases hd
theorem tJ.aUP{α β γ δ:Type}(h:tJ P E f fn c){p:oI α}{p':oI β}{Tc:oI γ}{p3:oI δ}{g:α->β->γ->δ->Prop×List D}(hn:bYQ 4 fn.ntmps=true)(hs:∀x y z u,(g x y z u).1->aG E fn c [p.put x,p'.put y,Tc.put z,p3.put u]=some (g x y z u).2):nR P E.glob f (orc4 p p' Tc p3 g):=by
 intro ds q rs hd hg;unfold orc4 at hd;split at hd
 ·split at hd
  ·rename_i x y z u hx hy hz hu;have hd:=Option.some.inj hd;have e1:q=(g x y z u).1:=by rw[hd]
   have e2:rs=(g x y z u).2:=by rw[hd]
   subst e1;subst e2;exact⟨(fn_contract (ds:=[p.put x,p'.put y,Tc.put z,p3.put u]) h.ty h.calls h.mix h.fnc h.body h.nt h.io (cAL hn) (hs x y z u hg)).bSA (p.le hx) (p'.le hy) (Tc.le hz) (p3.le hu),h.has⟩
  ·cases hd
 ·cases hd
theorem nS.bIK(h:nS P E f fn c){e:TypeId}{k:IntKind}{x:List Int×Nat×Nat}{ds ds' rs:List D}{oR:List Int}(hn:1+ds'.length<=fn.ntmps)
  (hs:aG E fn c ((Ek e k).put x :: ds')=some (rs ++ [.io e k oR 0 0])) (hl:oR.length=x.1.length) (bBQ:ds.length=ds'.length)
  (hd:∀(i:Nat) (y y':D),ds[i]?=some y->ds'[i]?=some y'->Gi y=false/\Gi y'=false/\Fl y y'):qN P E.glob f [0] ((Ek e k).put x :: ds) rs [.io e k oR 0 0]:=by
 have Cy:∀(i:Nat) (d:D),ds'[i]?=some d->Gi d=false:=fun i d hi=>by
  obtain⟨y,hy⟩:=bV (l:=ds) (i:=i) (by have:=bB hi;omega);exact(hd i y d hy hi).2.1
 have:=Qd h.ty h.calls h.mix h.fnc h.body h.nt (fun i hi=>by rw[h.io]at hi;rw[h.n0];simp at hi;omega) (ds:=(Ek e k).put x :: ds') (by simp;omega) hs (by rw[h.io];rfl)
  (by
   rw[h.io];intro j i hj
   match j with
   |0 =>
    simp at hj;subst hj;exact⟨e,k,x.1,x.2.1,x.2.2,e,k,oR,rfl,rfl,hl⟩
   |j+1=>simp at hj)
  (by
   rw[h.io];intro i d hi Nf
   match i with
   |0=>simp
   |i+1=>rw[Cy i d (by simpa using hi)]at Nf;cases Nf)
 rw[h.io]at this;exact this.bSB bBQ hd
theorem nS.oV(h:nS P E f fn c){e:TypeId}{k:IntKind}{g:List Int×Nat×Nat->Prop×List D}(hn:bYQ 1 fn.ntmps=true)(hs:∀x,(g x).1->aG E fn c [(Ek e k).put x]=some (g x).2/\∃rs oR,(g x).2=rs ++ [.io e k oR 0 0]/\oR.length=x.1.length):sG P E.glob f (orc1 (Ek e k) g):=by
 intro ds q rs hd hg;unfold orc1 at hd;split at hd
 ·rename_i d1;split at hd
  ·rename_i x hx;have hd:=Option.some.inj hd;have e1:q=(g x).1:=by rw[hd]
   have e2:rs=(g x).2:=by rw[hd]
   subst e1;subst e2;obtain⟨h1,Hv,oR,h2,h3⟩:=hs x hg;rw[h2]at h1 ⊢;refine⟨⟨Hv,_,rfl,?_⟩,h.has⟩;have e3:=Uo (show dIO e k d1=some x from hx);rw[e3];exact h.bIK (x:=x) (ds':=[]) (by have:=cAL hn;simp;omega) h1 h3 rfl fun i a b ha hb=>by simp at ha
  ·cases hd
 ·cases hd
theorem nS.jZ{α:Type}(h:nS P E f fn c){e:TypeId}{k:IntKind}{p:oI α}[hp:aIA p]{g:List Int×Nat×Nat->α->Prop×List D}(hn:bYQ 2 fn.ntmps=true)(hs:∀x y,(g x y).1->aG E fn c [(Ek e k).put x,p.put y]=some (g x y).2/\∃rs oR,(g x y).2=rs ++ [.io e k oR 0 0]/\oR.length=x.1.length):sG P E.glob f (orc2 (Ek e k) p g):=by
 intro ds q rs hd hg;unfold orc2 at hd;split at hd
 ·rename_i d1 d2;split at hd
  ·rename_i x y hx hy;have hd:=Option.some.inj hd;have e1:q=(g x y).1:=by rw[hd]
   have e2:rs=(g x y).2:=by rw[hd]
   subst e1;subst e2;obtain⟨h1,Hv,oR,h2,h3⟩:=hs x y hg;rw[h2]at h1 ⊢;refine⟨⟨Hv,_,rfl,?_⟩,h.has⟩;have e3:=Uo (show dIO e k d1=some x from hx);rw[e3];refine h.bIK (x:=x) (ds':=[p.put y]) (by have:=cAL hn;simp;omega) h1 h3 rfl fun i a b ha hb=>?_
   match i with
   |0=>simp at ha hb;subst ha;subst hb;exact⟨(hp.no hy).1,(hp.no hy).2,p.le hy⟩
   |i+1=>simp at ha
  ·cases hd
 ·cases hd
theorem nS.Dn{α β:Type}(h:nS P E f fn c){e:TypeId}{k:IntKind}{p:oI α}[hp:aIA p]{p':oI β}[hp':aIA p']{g:List Int×Nat×Nat->α->β->Prop×List D}(hn:bYQ 3 fn.ntmps=true)(hs:∀x y z,(g x y z).1->aG E fn c [(Ek e k).put x,p.put y,p'.put z]=some (g x y z).2/\∃rs oR,(g x y z).2=rs ++ [.io e k oR 0 0]/\oR.length=x.1.length):sG P E.glob f (orc3 (Ek e k) p p' g):=by
 intro ds q rs hd hg;unfold orc3 at hd;split at hd
 ·rename_i d1 d2 d3;split at hd
  ·rename_i x y z hx hy hz;have hd:=Option.some.inj hd;have e1:q=(g x y z).1:=by rw[hd]
   have e2:rs=(g x y z).2:=by rw[hd]
   subst e1;subst e2;obtain⟨h1,Hv,oR,h2,h3⟩:=hs x y z hg;rw[h2]at h1 ⊢;refine⟨⟨Hv,_,rfl,?_⟩,h.has⟩;have e3:=Uo (show dIO e k d1=some x from hx);rw[e3];refine h.bIK (x:=x) (ds':=[p.put y,p'.put z]) (by have:=cAL hn;simp;omega) h1 h3 rfl fun i a b ha hb=>?_
   match i with
   |0=>simp at ha hb;subst ha;subst hb;exact⟨(hp.no hy).1,(hp.no hy).2,p.le hy⟩
   |1=>simp at ha hb;subst ha;subst hb;exact⟨(hp'.no hz).1,(hp'.no hz).2,p'.le hz⟩
   |i+2=>simp at ha
  ·cases hd
 ·cases hd
theorem tJ.bGL{α:Type}(h:tJ P E f fn c){p:oI α}{g:α->Prop×List D}(hn:bYQ 1 fn.ntmps=true)(hs:∀x,(g x).1->∃rs,aG E fn c [p.put x]=some rs/\iZ rs (g x).2):nR P E.glob f (orc1 p g):=by
 intro ds q rs hd hg;unfold orc1 at hd;split at hd
 ·split at hd
  ·rename_i x hx;have hd:=Option.some.inj hd;have e1:q=(g x).1:=by rw[hd]
   have e2:rs=(g x).2:=by rw[hd]
   subst e1;subst e2;obtain⟨Sv,he,hle⟩:=hs x hg;exact⟨((fn_contract (ds:=[p.put x]) h.ty h.calls h.mix h.fnc h.body h.nt h.io (cAL hn) he).bIN (p.le hx)).less hle,h.has⟩
  ·cases hd
 ·cases hd
theorem tJ.aIW{α β:Type}(h:tJ P E f fn c){p:oI α}{p':oI β}{g:α->β->Prop×List D}(hn:bYQ 2 fn.ntmps=true)(hs:∀x y,(g x y).1->∃rs,aG E fn c [p.put x,p'.put y]=some rs/\iZ rs (g x y).2):nR P E.glob f (orc2 p p' g):=by
 intro ds q rs hd hg;unfold orc2 at hd;split at hd
 ·split at hd
  ·rename_i x y hx hy;have hd:=Option.some.inj hd;have e1:q=(g x y).1:=by rw[hd]
   have e2:rs=(g x y).2:=by rw[hd]
   subst e1;subst e2;obtain⟨Sv,he,hle⟩:=hs x y hg;exact⟨((fn_contract (ds:=[p.put x,p'.put y]) h.ty h.calls h.mix h.fnc h.body h.nt h.io (cAL hn) he).bGO (p.le hx) (p'.le hy)).less hle,h.has⟩
  ·cases hd
 ·cases hd
theorem tJ.bIA{α β γ:Type}(h:tJ P E f fn c){p:oI α}{p':oI β}{Tc:oI γ}{g:α->β->γ->Prop×List D}(hn:bYQ 3 fn.ntmps=true)(hs:∀x y z,(g x y z).1->∃rs,aG E fn c [p.put x,p'.put y,Tc.put z]=some rs/\iZ rs (g x y z).2):nR P E.glob f (orc3 p p' Tc g):=by
 intro ds q rs hd hg;unfold orc3 at hd;split at hd
 ·split at hd
  ·rename_i x y z hx hy hz;have hd:=Option.some.inj hd;have e1:q=(g x y z).1:=by rw[hd]
   have e2:rs=(g x y z).2:=by rw[hd]
   subst e1;subst e2;obtain⟨Sv,he,hle⟩:=hs x y z hg;exact⟨((fn_contract (ds:=[p.put x,p'.put y,Tc.put z]) h.ty h.calls h.mix h.fnc h.body h.nt h.io (cAL hn) he).bNV (p.le hx) (p'.le hy) (Tc.le hz)).less hle,h.has⟩
  ·cases hd
 ·cases hd
def aFD(f:FuncId)(g:List Value->Option (Prop×List Value))(r:FuncId->List Value->Option (Prop×List Value)):FuncId->List Value->Option (Prop×List Value):=fun f' vs=>bif bYO f' f then g vs else r f' vs
def aFC:FuncId->List Value->Option (Prop×List Value):=fun _ _=>none
theorem aBK:aGB P aFC:=fun _ _ _ _ h=>by cases h
structure aVT(P:Program)(f:FuncId)(e:Array Value->Sem Value):Prop where
 run:∀(args:Array Value) (w:World),(callFunc f args).run P w=((e args).run P w).andThen fun v w'=>.ok (.value v) w'
theorem Ye{f:FuncId}{g:List Value->Option (Prop×List Value)}{r:FuncId->List Value->Option (Prop×List Value)}{e:Array Value->Sem Value}(hf:aVT P f e)
  (hg:∀vs q rs,g vs=some (q,rs)->q->(∀v∈rs,v.oneCell'=true)/\∀w,(e vs.toArray).run P w=.ok (resV rs) w) (hr:aGB P r):aGB P (aFD f g r):=by
 intro f' vs q rs h hq;unfold aFD at h;cases hb:bYO f' f with
 |true =>
  rw[hb]at h;have:=bZB hb;subst this;obtain⟨h1,h2⟩:=hg vs q rs h hq;exact⟨h1,fun w=>by rw[hf.run,h2];rfl⟩
 |false=>rw[hb]at h;exact hr f' vs q rs h hq
def gAdd:List Value->Option (Prop×List Value)
 | [.int .u64 x,.int .u64 y,.int .u64 c]=>some ((0<=x/\0<=y/\0<=c/\c<=1),[.int .u64 ((x+y+c)%18446744073709551616),.int .u64 ((x+y+c)/18446744073709551616)])
 |_=>none
theorem aSN(vs:List Value)(q:Prop)(rs:List Value)(h:gAdd vs=some (q,rs))(hq:q):(∀v∈rs,v.oneCell'=true)/\∀w,(add64Entry vs.toArray).run P w=.ok (resV rs) w:=by
 unfold gAdd at h;split at h
 ·cases h;obtain⟨h1,h2,h3,h4⟩:=hq;exact⟨by simp[Value.oneCell'],fun w=>run_add64 _ _ _ h1 h2 h3 h4 w⟩
 ·cases h
def yW:Array Value->Sem Value:=fun args=>do
 let (x,y,b) <-Extern.MathBitsCarry.three "Sub64" args
 pure (Extern.MathBitsCarry.pair ((x+Extern.MathBitsCarry.m64-y-b)%Extern.MathBitsCarry.m64) (if x<y+b then 1 else 0))
theorem aGH(x y c:Int)(hx:0<=x)(hy:0<=y)(bJH:y<18446744073709551616)(bHK:0<=c)(hc:c<=1)(w:World) :
  (yW #[.int .u64 x,.int .u64 y,.int .u64 c]).run P w =
   .ok (.tuple #[.int .u64 ((x-y-c)%18446744073709551616),.int .u64 (if x<y+c then 1 else 0)]) w:=by
 have key:∀k:Nat,k<=1->(yW #[.int .u64 x,.int .u64 y,.int .u64 (k:Int)]).run P w =
   .ok (Extern.MathBitsCarry.pair ((x.toNat+Extern.MathBitsCarry.m64-y.toNat-k)%Extern.MathBitsCarry.m64) (if x.toNat<y.toNat+k then 1 else 0)) w:=by
  intro k hk;have:k=0\/k=1:=by omega
  rcases this with rfl |rfl <;> rfl
 obtain⟨k,rfl⟩:=cDO bHK;rw[key k (by omega)];obtain⟨X,rfl⟩:=cDO hx;obtain⟨Y,rfl⟩:=cDO hy;simp only[Extern.MathBitsCarry.pair,Extern.MathBitsCarry.m64,cCJ];have e1:Int.ofNat ((X+2^64-Y-k)%2^64)=((X:Int)-Y-k)%18446744073709551616:=by
  show((((X+2^64-Y-k)%2^64:Nat)):Int)=_;omega
 have e2:Int.ofNat (if X<Y+k then 1 else 0)=if(X:Int)<Y+k then 1 else 0:=by
  show(((if X<Y+k then 1 else 0:Nat)):Int)=_;split <;> split <;> omega
 rw[e1,e2]
def aZF:List Value->Option (Prop×List Value)
 | [.int .u64 x,.int .u64 y,.int .u64 c]=>some ((0<=x/\0<=y/\y<18446744073709551616/\0<=c/\c<=1),[.int .u64 ((x-y-c)%18446744073709551616),.int .u64 (if x<y+c then 1 else 0)])
 |_=>none
theorem aSM(vs:List Value)(q:Prop)(rs:List Value)(h:aZF vs=some (q,rs))(hq:q):(∀v∈rs,v.oneCell'=true)/\∀w,(yW vs.toArray).run P w=.ok (resV rs) w:=by
 unfold aZF at h;split at h
 ·cases h;obtain⟨h1,h2,h3,h4,h5⟩:=hq;exact⟨by simp[Value.oneCell'],fun w=>aGH _ _ _ h1 h2 h3 h4 h5 w⟩
 ·cases h
theorem Yf{f:FuncId}{fn:Func}{e:Array Value->Sem Value}(hf:P.funcs[f]?=some fn)(bEA:(fn.name== "runtime.NumGoroutine")=false)
  (hb:fn.body.isNone=true) (hn:Extern.findNext fn=none) (he:Extern.find fn=some e):aVT P f e:=⟨fun args w=>run_callFunc_extern hf bEA hb hn he args w⟩
end AI
namespace M
open Go
def val:List Int->Nat
 | []=>0
 |d :: r=>d.toNat+4294967296*val r
def dg(n:Nat):List Int:=if h:n=0 then []else((n%4294967296:Nat):Int) :: dg (n/4294967296)
termination_by n
decreasing_by omega
def bM(a:List Int):Prop:=∀d∈a,0<=d/\d<4294967296
def cO(a:List Int):Prop:=a=dg (val a)
theorem cL:dg 0=[]:=by rw[dg];rfl
theorem oY{n:Nat}(h:n≠0):dg n=((n%4294967296:Nat):Int) :: dg (n/4294967296):=by rw[dg,dif_neg h]
theorem bD(n:Nat):val (dg n)=n:=by
 induction n using cDX with
 |_ n ih =>
  by_cases h:n=0
  ·subst h;rw[cL];rfl
  ·rw[oY h,val,ih _ (by omega)];have:=cDT n 4294967296;omega
theorem lC:bM []:=fun _ h=>by cases h
theorem kF{d:Int}{r:List Int}:bM (d :: r)↔(0<=d/\d<4294967296)/\bM r:=by
 unfold bM;simp
theorem lS{a b:List Int}:bM (a ++ b)↔bM a/\bM b:=by
 unfold bM;simp only[bZP];exact⟨fun h=>⟨fun d hd=>h d (.inl hd),fun d hd=>h d (.inr hd)⟩,fun h d hd=>hd.elim (h.1 d) (h.2 d)⟩
theorem bM.take{a:List Int}(h:bM a)(n:Nat):bM (a.take n):=fun d hd=>h d (cFP hd)
theorem bM.drop{a:List Int}(h:bM a)(n:Nat):bM (a.drop n):=fun d hd=>h d (cFQ hd)
theorem gU(n:Nat):bM (cAQ n 0):=fun d hd=>by rw[(List.mem_replicate.1 hd).2];omega
theorem cA(n:Nat):bM (dg n):=by
 induction n using cDX with
 |_ n ih =>
  by_cases h:n=0
  ·subst h;rw[cL];exact lC
  ·rw[oY h];exact kF.2 ⟨by omega,ih _ (by omega)⟩
theorem bA(n:Nat):cO (dg n):=by unfold cO;rw[bD]
theorem cO.iA{a:List Int}(h:cO a):bM a:=by rw[h];exact cA _
theorem iJ:∀(a b:List Int),val (a ++ b)=val a+4294967296^a.length*val b
 | [],b=>by simp[val]
 |d :: a,b=>by
  simp only[cAF,val,iJ a b,cBX,cDL];rw[cDN,<-cDQ,cDM 4294967296 (4294967296^a.length)];omega
theorem cR:∀{a:List Int},bM a->val a<4294967296^a.length
 | [],_=>by simp[val]
 |d :: a,h=>by
  obtain⟨h1,h2⟩:=kF.1 h;have:=cR h2;simp only[val,cBX,cDL];have:d.toNat<4294967296:=by omega
  have:4294967296*val a+4294967296<=4294967296^a.length*4294967296:=by
   rw[cDM (4294967296^a.length)];have:4294967296*(val a+1)<=4294967296*4294967296^a.length:=cBB _ (by omega);omega
  omega
theorem iD:∀n,val (cAQ n 0)=0
 |0=>rfl
 |n+1=>by simp[cDV,val,iD n]
theorem Er:∀{a:List Int},bM a->∃k,a=dg (val a) ++ cAQ k 0
 | [],_=>⟨0,by simp[val,cL]⟩
 |d :: a,h=>by
  obtain⟨h1,h2⟩:=kF.1 h;obtain⟨k,hk⟩:=Er h2
  by_cases hz:d.toNat+4294967296*val a=0
  ·have hd:d=0:=by omega
   have hv:val a=0:=by omega
   rw[hv,cL]at hk;refine⟨k+1,?_⟩;simp only[val];rw[hz,cL,hd,hk];simp[cDV]
  ·refine⟨k,?_⟩;simp only[val];rw[oY hz];have e1:(d.toNat+4294967296*val a)%4294967296=d.toNat:=by omega
   have e2:(d.toNat+4294967296*val a)/4294967296=val a:=by omega
   rw[e1,e2,cAF,<-hk];congr 1;omega
theorem Gc:cO []:=by unfold cO;simp[val,cL]
theorem Bb{a:List Int}(h:bM a)(ht:∀d,a.getLast?=some d->d≠0):cO a:=by
 obtain⟨k,hk⟩:=Er h;cases k with
 |zero=>unfold cO;simpa using hk
 |succ k =>
  exfalso;refine ht 0 ?_ rfl;rw[hk,cFR,<-cAI];simp
theorem cO.top{a:List Int}(h:cO a){d:Int}(hd:a.getLast?=some d):d≠0:=by
 have key:∀n,∀d,(dg n).getLast?=some d->d≠0:=by
  intro n
  induction n using cDX with
  |_ n ih =>
   intro d hd
   by_cases hn:n=0
   ·subst hn;rw[cL]at hd;cases hd
   ·rw[oY hn]at hd
    by_cases hq:n/4294967296=0
    ·rw[hq,cL]at hd;simp at hd;omega
    ·refine ih (n/4294967296) (by omega) d ?_;rw[oY hq]at hd ⊢;rwa [cEO]at hd
 rw[h]at hd;exact key _ d hd
theorem Mo{d:Int}{a:List Int}(h:cO (d :: a)):cO a:=by
 have hd:=h.iA;refine Bb (kF.1 hd).2 fun e he=>h.top ?_
 cases a with
 |nil=>cases he
 |cons x r=>rwa [cEO]
theorem cU {n k : Nat} (h : n < 4294967296 ^ k) : (dg n).length ≤ k := by
  induction k generalizing n with
  | zero => have : n = 0 := by simpa using h
            subst this; rw [cL]; exact bYN _
  | succ k ih =>
    by_cases hn : n = 0
    · subst hn; rw [cL]; simp
    · rw [oY hn, cBX]
      have := ih (n := n / 4294967296) (by rw [cDL] at h; exact cEF (by rw [cDM]; exact h))
      omega
theorem oO{n:Nat}:n<4294967296^(dg n).length:=by
 have:=cR (cA n);rwa [bD]at this
theorem kB{n m:Nat}(h:n<=m):(dg n).length<=(dg m).length:=cU (cFA h oO)
theorem lZ{a:List Int}(h:bM a):(dg (val a)).length<=a.length:=cU (cR h)
theorem Cz{n k:Nat}(h:k<(dg n).length):4294967296^k<=n:=by
 rcases bZC n (4294967296^k)with h1 |h1
 ·have:=cU h1;omega
 ·exact h1
theorem mW{a:List Int}{n:Nat}(h:n<a.length):val (a.take (n+1))=val (a.take n)+4294967296^n*(a.getD n 0).toNat:=by
 rw[cEP h,iJ,cBD,cEQ (by omega)];simp[val,cDR,h]
theorem fD(a:List Int){n:Nat}(h:n<=a.length):val a=val (a.take n)+4294967296^n*val (a.drop n):=by
 have e:=iJ (a.take n) (a.drop n);rw[cFS,cBD,cEQ h]at e;exact e
theorem Nm{a:List Int}{n:Nat}(h:n<a.length):a.getD n 0∈a:=by
 rw[cDR,bZD h];simp
theorem bM.get{a:List Int}(h:bM a)(n:Nat):0<=a.getD n 0/\a.getD n 0<4294967296:=by
 rcases bZC n a.length with hn |hn
 ·exact h _ (Nm hn)
 ·rw[cDR,cAJ hn];simp
theorem getLast_take{a:List Int}{n:Nat}(h:n<a.length):(a.take (n+1)).getLast?=some (a.getD n 0):=by
 rw[cEP h,cFT];simp[cDR,h]
theorem aNP{xs:List Int}{n:Nat}(h:n<=xs.length):cEG n (cEH 0 (cEG n xs)) ++ cEH (min (cEH 0 (cEG n xs)).length n) (cAQ n 0)=xs.take n:=by
 have e:(cEH 0 (cEG n xs)).length=n:=by simp;omega
 rw[e,Nat.min_self,cER,List.take_take,Nat.min_self];simp
theorem kR{w:Int}(h:0<=w)(h':w<18446744073709551616):AI.gR .and .u64 w 4294967295=w%4294967296:=by
 obtain⟨n,rfl⟩:=cDO h;rw[AI.wO];unfold AI.bitsI0;simp only;have e:(BitVec.ofInt u64.bits (n:Int) &&& BitVec.ofInt u64.bits 4294967295).toNat=n%4294967296:=by
  show(BitVec.ofInt 64 (n:Int) &&& BitVec.ofInt 64 4294967295).toNat=_;rw[BitVec.toNat_and];have e1:(BitVec.ofInt 64 (n:Int)).toNat=n:=by simp;omega
  have e2:(BitVec.ofInt 64 4294967295).toNat=2^32-1:=by decide
  rw[e1,e2,Nat.and_two_pow_sub_one_eq_mod]
 rw[e,wrap_u64];omega
section
variable {R:Type} {x y:Option R}
theorem aO{p:Prop}[Decidable p](h:p:=by omega):AI.aC (decide p) x y=x:=by simp only[AI.aC,dqT h,cond_true]
theorem aM{p:Prop}[Decidable p](h:¬p:=by omega):AI.aC (decide p) x y=y:=by simp only[AI.aC,dqF h,cond_false]
theorem dU{a b:Int}(h:a=b:=by omega):AI.aC (a==b) x y=x:=by subst h;simp[AI.aC]
theorem cP{a b:Int}(h:a≠b:=by omega):AI.aC (a==b) x y=y:=by rw[beq_eq_false_iff_ne.2 h];rfl
theorem oG{a b:Int}(h:a≠b:=by omega):AI.aC (a !=b) x y=x:=by rw[bne_iff_ne.2 h];rfl
theorem gA{a b:Int}(h:a=b:=by omega):AI.aC (a !=b) x y=y:=by subst h;simp[AI.aC]
theorem bT:AI.aC true x y=x:=rfl
theorem bF:AI.aC false x y=y:=rfl
theorem Uw{b:Bool}(h:b=true):AI.aC b x y=x:=by rw[h];rfl
theorem Nz{b:Bool}(h:b=false):AI.aC b x y=y:=by rw[h];rfl
theorem gP{g:Prop}(h:g:=by omega):AI.aN g x=x:=AI.aEY h
end
theorem aGD{n:Int}(h:0<=n/\n<18446744073709551616):u64.wrap n=n:=wrap_u64 h.1 h.2
theorem oN{n:Int}(h:0<=n/\n<4294967296):u32.wrap n=n:=by rw[wrap_u32];omega
def iW(a b:Nat):Int:=if a<b then -1 else if b<a then 1 else 0
theorem getD_none{a:List Int}{n:Nat}(h:a.length<=n):a.getD n 0=0:=by
 rw[cDR,cAJ h];rfl
theorem cC{a:List Int}{n:Nat}(h:a.length<=n):val (a.take n)=val a:=by rw[cFV h]
theorem bR{a:List Int}(n:Nat):val (a.take (n+1))=val (a.take n)+4294967296^n*(a.getD n 0).toNat:=by
 rcases bZC n a.length with h |h
 ·exact mW h
 ·rw[cC (by omega),cC h,getD_none h];simp
theorem fY{a:List Int}(h:bM a)(n:Nat):val (a.take n)<4294967296^n:=by
 have:=cR (h.take n);exact bZN this (cBN (by omega) (by rw[cBD];omega))
theorem kT{a:List Int}{d:Int}:val (a ++ [d])=val a+4294967296^a.length*d.toNat:=by
 rw[iJ];simp[val]
theorem kV{a:List Int}{d:Int}(h:bM a)(hd:0<=d/\d<4294967296):bM (a ++ [d]):=by
 rw[lS,kF];exact⟨h,hd,lC⟩
theorem Tj{a:List Int}(h:cO a):dg (val a)=a:=h.symm
theorem oB{a b:List Int}(ha:bM a)(hb:cO b)(h:a.length<b.length):val a<val b:=by
 have h1:=cR ha;have h2:4294967296^a.length<=val b:=Cz (by rw[<-hb];exact h);omega
theorem cY{a:List Int}(ha:cO a):a.length=0↔val a=0:=by
 constructor
 ·intro h;have:a=[]:=List.length_eq_zero_iff.1 h;subst this;rfl
 ·intro h;rw[ha,h,cL];rfl
theorem fZ{n:Nat}:(dg n).length=0↔n=0:=by rw[cY (bA n),bD]
theorem kM{a:List Int}(h:bM a){n:Nat}{d:Int}(hd:0<=d/\d<4294967296):bM (a.set n d):=by
 intro x hx;rcases cFW hx with h1 |h1
 ·exact h x h1
 ·subst h1;exact hd
theorem nW{a:List Int}{n:Nat}(h:n<a.length)(d:Int):val ((a.set n d).drop n)=d.toNat+4294967296*val (a.drop (n+1)):=by
 have e:(a.set n d).drop n=d :: a.drop (n+1):=by
  rw[cES (by simpa using h)];simp[cFX]
 rw[e];rfl
theorem gH{a:List Int}(n:Nat):val (a.drop n)=(a.getD n 0).toNat+4294967296*val (a.drop (n+1)):=by
 rcases bZC n a.length with h |h
 ·rw[cES h];simp[val,cDR,h]
 ·rw[cDZ h,cDZ (by omega),getD_none h];rfl
theorem aNF{l B n d r w:Nat}(hw:0<w):((l*B+d)*n+r)/w=(((l*B+d)%w)*n+r)/w+n*((l*B+d)/w):=by
 have h:=cDT (l*B+d) w;have e:(l*B+d)*n+r=((l*B+d)%w*n+r)+w*(n*((l*B+d)/w)):=by
  generalize l*B+d=t at *;generalize t/w=q at *;generalize t%w=m at *;subst h;rw[Nat.add_mul];have:w*q*n=w*(n*q):=by rw[cDQ,cDM q n]
  omega
 rw[e,cFB _ _ hw]
theorem aKY{l B n d r w:Nat}:((l*B+d)*n+r)%w=(((l*B+d)%w)*n+r)%w:=by
 conv=>rhs;rw[cET,cEU,Nat.mod_mod,<-cEU,<-cET]
theorem Yt(u v k:Nat):iW (u+k) (v+k)=iW u v:=by
 unfold iW;simp only[Nat.add_lt_add_iff_right]
theorem Wf{a b:Int}(ha:0<=a)(hb:0<=b):(a/b).toNat=a.toNat/b.toNat:=by
 obtain⟨x,rfl⟩:=cDO ha;obtain⟨y,rfl⟩:=cDO hb;rw[<-cEA,cCJ,cCJ,cCJ]
theorem We{a b:Int}(ha:0<=a)(hb:0<=b):(a%b).toNat=a.toNat%b.toNat:=by
 obtain⟨x,rfl⟩:=cDO ha;obtain⟨y,rfl⟩:=cDO hb;rw[<-cFC,cCJ,cCJ,cCJ]
end M
namespace M
open Go
def bl(n:Nat):Nat:=if n=0 then 0 else n.log2+1
theorem zQ:bl 0=0:=rfl
theorem wX(n:Nat):n<2^bl n:=by
 unfold bl;split
 ·omega
 ·exact Nat.lt_log2_self
theorem Rx{n:Nat}(h:n≠0):2^(bl n-1)<=n:=by
 unfold bl;rw[if_neg h];exact Nat.log2_self_le h
theorem eF{n k:Nat}:bl n<=k↔n<2^k:=by
 constructor
 ·intro h;exact bZN (wX n) (cBN (by omega) h)
 ·intro h
  by_cases hn:n=0
  ·subst hn;exact cEN _
  ·rcases bZC k (bl n)with h1 |h1
   ·exfalso;have h2:=Rx hn;have h3:2^k<=2^(bl n-1):=gO;omega
   ·exact h1
theorem tD{n k:Nat}:k<bl n↔2^k<=n:=by
 have:=@eF n k;omega
theorem mY{n:Nat}(h:n≠0):0<bl n:=by rw[tD];simp;omega
theorem bFW{n k:Nat}(h:2^k<=n)(h':n<2^(k+1)):bl n=k+1:=by
 have:=eF.2 h';have:=tD.2 h;omega
theorem Bq{r k t:Nat}(hr:r<2^k)(ht:t≠0):bl (r+2^k*t)=k+bl t:=by
 have hp:=mY ht;have e:k+bl t=(k+(bl t-1))+1:=by omega
 rw[e];apply bFW
 ·rw[cDP];have:=cBB (2^k) (Rx ht);omega
 ·have h1:=wX t;have h2:2^k*(t+1)<=2^k*2^bl t:=cBB _ h1;rw[<-cDP]at h2;rw[cDN]at h2;have e2:k+(bl t-1)+1=k+bl t:=by omega
  rw[e2];omega
theorem Ny{k t:Nat}(ht:t≠0):bl (2^k*t)=k+bl t:=by
 have:=Bq (r:=0) (k:=k) (t:=t) (cD) ht;rwa [bYP]at this
theorem aTH{n:Nat}(h:n≠0):bl n=bl (n/2)+1:=by
 by_cases h2:n/2=0
 ·rw[h2];have:n=1:=by omega
  subst this;rfl
 ·have:=Bq (r:=n%2) (k:=1) (t:=n/2) (by simp;omega) h2;have e:n%2+2^1*(n/2)=n:=by omega
  rw[e]at this;omega
theorem gD{a b:Nat}(h:a<=b):bl a<=bl b:=eF.2 (cFA h (wX b))
theorem Ji(k:Nat):4294967296^k=2^(32*k):=by rw[cFD]
theorem mR{n k:Nat}(h:n<2^k):(dg n).length<=k/32+1:=by
 apply cU;rw[Ji];exact bZN h (gO)
theorem Lz{k:Int}(h:0<=k)(h':k<32):u32.wrap (1*((2^(min k.toNat 32):Nat):Int))=((2^k.toNat:Nat):Int):=by
 have e:min k.toNat 32=k.toNat:=by omega
 rw[e,Int.one_mul,wrap_u32];have:2^k.toNat<2^32:=cFE (by omega) (by omega);generalize 2^k.toNat=p at *;omega
theorem aJP{n:Int}(h:0<=n):n.tdiv 32=n/32:=cFZ h
theorem aJK{n:Int}(h:0<=n):n.tmod 32=n%32:=cGA h
theorem xV(n:Nat):2^n=4294967296^(n/32)*2^(n%32):=by
 rw[Ji,<-cDP];congr 1;omega
theorem aHP(v n:Nat):v/4294967296^(n/32)/2^(n%32)=v/2^n:=by
 rw[cEB,<-xV]
theorem iP{a:List Int}(h:bM a)(n:Nat):val (a.drop n)=val a/4294967296^n:=by
 rcases Nat.le_or_ge n a.length with hn |hn
 ·rw[fD a hn,cFB _ _ (cD),cEI (fY h n),bYP]
 ·rw[cDZ hn,cEI]
  ·rfl
  ·exact bZN (cR h) (cBN (by omega) hn)
end M
namespace M6
open Go
def val:List Int->Nat
 | []=>0
 |d :: r=>d.toNat+18446744073709551616*val r
def dg(n:Nat):List Int:=if h:n=0 then []else((n%18446744073709551616:Nat):Int) :: dg (n/18446744073709551616)
termination_by n
decreasing_by omega
def bM(a:List Int):Prop:=∀d∈a,0<=d/\d<18446744073709551616
def cO(a:List Int):Prop:=a=dg (val a)
theorem cL:dg 0=[]:=by rw[dg];rfl
theorem oY{n:Nat}(h:n≠0):dg n=((n%18446744073709551616:Nat):Int) :: dg (n/18446744073709551616):=by rw[dg,dif_neg h]
theorem bD(n:Nat):val (dg n)=n:=by
 induction n using cDX with
 |_ n ih =>
  by_cases h:n=0
  ·subst h;rw[cL];rfl
  ·rw[oY h,val,ih _ (by omega)];have:=cDT n 18446744073709551616;omega
theorem lC:bM []:=fun _ h=>by cases h
theorem kF{d:Int}{r:List Int}:bM (d :: r)↔(0<=d/\d<18446744073709551616)/\bM r:=by
 unfold bM;simp
theorem lS{a b:List Int}:bM (a ++ b)↔bM a/\bM b:=by
 unfold bM;simp only[bZP];exact⟨fun h=>⟨fun d hd=>h d (.inl hd),fun d hd=>h d (.inr hd)⟩,fun h d hd=>hd.elim (h.1 d) (h.2 d)⟩
theorem bM.take{a:List Int}(h:bM a)(n:Nat):bM (a.take n):=fun d hd=>h d (cFP hd)
theorem bM.drop{a:List Int}(h:bM a)(n:Nat):bM (a.drop n):=fun d hd=>h d (cFQ hd)
theorem gU(n:Nat):bM (cAQ n 0):=fun d hd=>by rw[(List.mem_replicate.1 hd).2];omega
theorem cA(n:Nat):bM (dg n):=by
 induction n using cDX with
 |_ n ih =>
  by_cases h:n=0
  ·subst h;rw[cL];exact lC
  ·rw[oY h];exact kF.2 ⟨by omega,ih _ (by omega)⟩
theorem bA(n:Nat):cO (dg n):=by unfold cO;rw[bD]
theorem cO.iA{a:List Int}(h:cO a):bM a:=by rw[h];exact cA _
theorem iJ:∀(a b:List Int),val (a ++ b)=val a+18446744073709551616^a.length*val b
 | [],b=>by simp[val]
 |d :: a,b=>by
  simp only[cAF,val,iJ a b,cBX,cDL];rw[cDN,<-cDQ,cDM 18446744073709551616 (18446744073709551616^a.length)];omega
theorem cR:∀{a:List Int},bM a->val a<18446744073709551616^a.length
 | [],_=>by simp[val]
 |d :: a,h=>by
  obtain⟨h1,h2⟩:=kF.1 h;have:=cR h2;simp only[val,cBX,cDL];have:d.toNat<18446744073709551616:=by omega
  have:18446744073709551616*val a+18446744073709551616<=18446744073709551616^a.length*18446744073709551616:=by
   rw[cDM (18446744073709551616^a.length)];have:18446744073709551616*(val a+1)<=18446744073709551616*18446744073709551616^a.length:=cBB _ (by omega);omega
  omega
theorem iD:∀n,val (cAQ n 0)=0
 |0=>rfl
 |n+1=>by simp[cDV,val,iD n]
theorem Er:∀{a:List Int},bM a->∃k,a=dg (val a) ++ cAQ k 0
 | [],_=>⟨0,by simp[val,cL]⟩
 |d :: a,h=>by
  obtain⟨h1,h2⟩:=kF.1 h;obtain⟨k,hk⟩:=Er h2
  by_cases hz:d.toNat+18446744073709551616*val a=0
  ·have hd:d=0:=by omega
   have hv:val a=0:=by omega
   rw[hv,cL]at hk;refine⟨k+1,?_⟩;simp only[val];rw[hz,cL,hd,hk];simp[cDV]
  ·refine⟨k,?_⟩;simp only[val];rw[oY hz];have e1:(d.toNat+18446744073709551616*val a)%18446744073709551616=d.toNat:=by omega
   have e2:(d.toNat+18446744073709551616*val a)/18446744073709551616=val a:=by omega
   rw[e1,e2,cAF,<-hk];congr 1;omega
theorem Gc:cO []:=by unfold cO;simp[val,cL]
theorem Bb{a:List Int}(h:bM a)(ht:∀d,a.getLast?=some d->d≠0):cO a:=by
 obtain⟨k,hk⟩:=Er h;cases k with
 |zero=>unfold cO;simpa using hk
 |succ k =>
  exfalso;refine ht 0 ?_ rfl;rw[hk,cFR,<-cAI];simp
theorem cO.top{a:List Int}(h:cO a){d:Int}(hd:a.getLast?=some d):d≠0:=by
 have key:∀n,∀d,(dg n).getLast?=some d->d≠0:=by
  intro n
  induction n using cDX with
  |_ n ih =>
   intro d hd
   by_cases hn:n=0
   ·subst hn;rw[cL]at hd;cases hd
   ·rw[oY hn]at hd
    by_cases hq:n/18446744073709551616=0
    ·rw[hq,cL]at hd;simp at hd;omega
    ·refine ih (n/18446744073709551616) (by omega) d ?_;rw[oY hq]at hd ⊢;rwa [cEO]at hd
 rw[h]at hd;exact key _ d hd
theorem Mo{d:Int}{a:List Int}(h:cO (d :: a)):cO a:=by
 have hd:=h.iA;refine Bb (kF.1 hd).2 fun e he=>h.top ?_
 cases a with
 |nil=>cases he
 |cons x r=>rwa [cEO]
theorem cU {n k : Nat} (h : n < 18446744073709551616 ^ k) : (dg n).length ≤ k := by
  induction k generalizing n with
  | zero => have : n = 0 := by simpa using h
            subst this; rw [cL]; exact bYN _
  | succ k ih =>
    by_cases hn : n = 0
    · subst hn; rw [cL]; simp
    · rw [oY hn, cBX]
      have := ih (n := n / 18446744073709551616) (by rw [cDL] at h; exact cEF (by rw [cDM]; exact h))
      omega
theorem oO{n:Nat}:n<18446744073709551616^(dg n).length:=by
 have:=cR (cA n);rwa [bD]at this
theorem kB{n m:Nat}(h:n<=m):(dg n).length<=(dg m).length:=cU (cFA h oO)
theorem lZ{a:List Int}(h:bM a):(dg (val a)).length<=a.length:=cU (cR h)
theorem Cz{n k:Nat}(h:k<(dg n).length):18446744073709551616^k<=n:=by
 rcases bZC n (18446744073709551616^k)with h1 |h1
 ·have:=cU h1;omega
 ·exact h1
theorem mW{a:List Int}{n:Nat}(h:n<a.length):val (a.take (n+1))=val (a.take n)+18446744073709551616^n*(a.getD n 0).toNat:=by
 rw[cEP h,iJ,cBD,cEQ (by omega)];simp[val,cDR,h]
theorem fD(a:List Int){n:Nat}(h:n<=a.length):val a=val (a.take n)+18446744073709551616^n*val (a.drop n):=by
 have e:=iJ (a.take n) (a.drop n);rw[cFS,cBD,cEQ h]at e;exact e
theorem Nm{a:List Int}{n:Nat}(h:n<a.length):a.getD n 0∈a:=by
 rw[cDR,bZD h];simp
theorem bM.get{a:List Int}(h:bM a)(n:Nat):0<=a.getD n 0/\a.getD n 0<18446744073709551616:=by
 rcases bZC n a.length with hn |hn
 ·exact h _ (Nm hn)
 ·rw[cDR,cAJ hn];simp
theorem getLast_take{a:List Int}{n:Nat}(h:n<a.length):(a.take (n+1)).getLast?=some (a.getD n 0):=by
 rw[cEP h,cFT];simp[cDR,h]
theorem getD_none{a:List Int}{n:Nat}(h:a.length<=n):a.getD n 0=0:=by
 rw[cDR,cAJ h];rfl
theorem cC{a:List Int}{n:Nat}(h:a.length<=n):val (a.take n)=val a:=by rw[cFV h]
theorem bR{a:List Int}(n:Nat):val (a.take (n+1))=val (a.take n)+18446744073709551616^n*(a.getD n 0).toNat:=by
 rcases bZC n a.length with h |h
 ·exact mW h
 ·rw[cC (by omega),cC h,getD_none h];simp
theorem fY{a:List Int}(h:bM a)(n:Nat):val (a.take n)<18446744073709551616^n:=by
 have:=cR (h.take n);exact bZN this (cBN (by omega) (by rw[cBD];omega))
theorem kT{a:List Int}{d:Int}:val (a ++ [d])=val a+18446744073709551616^a.length*d.toNat:=by
 rw[iJ];simp[val]
theorem kV{a:List Int}{d:Int}(h:bM a)(hd:0<=d/\d<18446744073709551616):bM (a ++ [d]):=by
 rw[lS,kF];exact⟨h,hd,lC⟩
theorem Tj{a:List Int}(h:cO a):dg (val a)=a:=h.symm
theorem oB{a b:List Int}(ha:bM a)(hb:cO b)(h:a.length<b.length):val a<val b:=by
 have h1:=cR ha;have h2:18446744073709551616^a.length<=val b:=Cz (by rw[<-hb];exact h);omega
theorem cY{a:List Int}(ha:cO a):a.length=0↔val a=0:=by
 constructor
 ·intro h;have:a=[]:=List.length_eq_zero_iff.1 h;subst this;rfl
 ·intro h;rw[ha,h,cL];rfl
theorem fZ{n:Nat}:(dg n).length=0↔n=0:=by rw[cY (bA n),bD]
theorem kM{a:List Int}(h:bM a){n:Nat}{d:Int}(hd:0<=d/\d<18446744073709551616):bM (a.set n d):=by
 intro x hx;rcases cFW hx with h1 |h1
 ·exact h x h1
 ·subst h1;exact hd
theorem nW{a:List Int}{n:Nat}(h:n<a.length)(d:Int):val ((a.set n d).drop n)=d.toNat+18446744073709551616*val (a.drop (n+1)):=by
 have e:(a.set n d).drop n=d :: a.drop (n+1):=by
  rw[cES (by simpa using h)];simp[cFX]
 rw[e];rfl
theorem gH{a:List Int}(n:Nat):val (a.drop n)=(a.getD n 0).toNat+18446744073709551616*val (a.drop (n+1)):=by
 rcases bZC n a.length with h |h
 ·rw[cES h];simp[val,cDR,h]
 ·rw[cDZ h,cDZ (by omega),getD_none h];rfl
end M6
namespace M
open Go AI
def zs(b:Bool)(n:Nat):Int:=bif b then -(n:Int)else n
def zv(x:Bool×List Int):Int:=zs x.1 (val x.2)
def dS(x:Bool×List Int):Prop:=cO x.2/\(x.1=true->val x.2≠0)/\x.2.length<=549755813888
def isNeg(z:Int):Bool:=match z with
 | .negSucc _=>true
 | .ofNat _=>false
def zD(z:Int):D:=.agg [.sc (.bool (isNeg z)),.ints .u32 (dg z.natAbs)]
theorem jT{z:Int}:isNeg z=true↔z<0:=by cases z <;> simp[isNeg] <;> omega
theorem fN{z:Int}:isNeg z=false↔0<=z:=by cases z <;> simp[isNeg] <;> omega
theorem jD(z:Int):zv (isNeg z,dg z.natAbs)=z:=by
 unfold zv zs;simp only[bD];cases h:isNeg z with
 |true=>have:=jT.1 h;simp only[cond_true];omega
 |false=>have:=fN.1 h;simp only[cond_false];omega
theorem qA{z:Int}(h:(dg z.natAbs).length<=549755813888):dS (isNeg z,dg z.natAbs):=by
 refine⟨bA _,fun hn=>?_,h⟩;rw[bD];have:=jT.1 hn;omega
theorem Vz{z:Int}{k:Nat}(h:z.natAbs<2^k)(hk:k<=17179869184):dS (isNeg z,dg z.natAbs) :=
 qA (bZJ (mR h) (by omega))
theorem Lm(b:Bool)(n:Nat):isNeg (zs b n)=(b&&decide (n≠0)):=by
 unfold zs;cases b with
 |false=>simp only[cond_false,cDW];exact fN.2 (by omega)
 |true =>
  simp only[cond_true,cBO]
  by_cases h:n=0
  ·subst h;rfl
  ·rw[dqT h];exact jT.2 (by omega)
theorem nM(b:Bool)(n:Nat):(zs b n).natAbs=n:=by
 unfold zs;cases b <;> simp
theorem bCE(b:Bool)(n:Nat):zD (zs b n)=.agg [.sc (.bool (b&&decide (n≠0))),.ints .u32 (dg n)]:=by
 unfold zD;rw[Lm,nM]
theorem dS.cells{x:Bool×List Int}(h:dS x):isNeg (zv x)=x.1/\dg (zv x).natAbs=x.2:=by
 obtain⟨h1,h2,h3⟩:=h;unfold zv;rw[Lm,nM,<-h1];refine⟨?_,rfl⟩;cases hx:x.1 with
 |false=>rfl
 |true=>rw[dqT (h2 hx)];rfl
theorem dS.len{x:Bool×List Int}(h:dS x):x.2.length<=549755813888:=h.2.2
theorem kQ(x:Bool×List Int):(zv x).natAbs=val x.2:=nM _ _
theorem aVU{x:Bool×List Int}(h:x.1=true):zv x=-(val x.2:Int):=by unfold zv zs;rw[h];rfl
theorem Zw{x:Bool×List Int}(h:x.1=false):zv x=(val x.2:Int):=by unfold zv zs;rw[h];rfl
theorem wF(a b:Nat):(dg (a+b)).length<=max (dg a).length (dg b).length+1:=by
 apply cU;have h1:=oO (n:=a);have h2:=oO (n:=b);have h3:4294967296^(dg a).length<=4294967296^max (dg a).length (dg b).length:=gO;have h4:4294967296^(dg b).length<=4294967296^max (dg a).length (dg b).length:=gO;rw[cDL];generalize 4294967296^max (dg a).length (dg b).length=p at *;omega
def cZ(a b:Int):Int:=if a<b then -1 else if b<a then 1 else 0
theorem Nq:dg 1=[1]:=by simp[dg]
theorem Lc{a b:Nat}:0<=iW a b↔b<=a:=by unfold iW;split <;> (try split) <;> omega
theorem zG(n k:Nat):(dg (n*2^k)).length<=(dg n).length+k/32+1:=by
 apply cU;have h1:=oO (n:=n);have h2:2^k<=4294967296^(k/32+1):=by rw[Ji];exact gO
 have h3:0<2^k:=cD;rw[show(dg n).length+k/32+1=(dg n).length+(k/32+1)from by omega,cDP];have h4:n*2^k<4294967296^(dg n).length*2^k:=Nat.mul_lt_mul_of_pos_right h1 h3;exact bZN h4 (cBB _ h2)
theorem zF(a b:Nat):(dg (a-b)).length<=(dg a).length:=kB (cEV _ _)
theorem wB(a b:Nat):(dg (a/b)).length<=(dg a).length:=kB (Nat.div_le_self _ _)
theorem Iq{a:List Int}(h:bM a){n:Nat}(hn:a.length<=n):bl (val a)<=32*n:=by
 rw[eF,<-Ji];exact bZN (cR h) (cBN (by omega) hn)
theorem qV(a b:Nat):bl (a+b)<=max (bl a) (bl b)+1:=by
 rw[eF,cDL];have h1:=wX a;have h2:=wX b;have h3:2^bl a<=2^max (bl a) (bl b):=gO;have h4:2^bl b<=2^max (bl a) (bl b):=gO;omega
theorem mK(a b:Nat):bl (a*b)<=bl a+bl b:=by
 rw[eF,cDP];exact Nat.mul_lt_mul'' (wX a) (wX b)
theorem eA{z:Int}{k:Nat}(h:bl z.natAbs<=k)(hk:k<=17179869184):dS (isNeg z,dg z.natAbs):=Vz (eF.1 h) hk
theorem fJ{n k:Nat}(h:bl n<=k):(dg n).length<=k/32+1:=mR (eF.1 h)
theorem aNR(a b:Int):cZ (a-b) 0=cZ a b:=by unfold cZ;split <;> split <;> (try split) <;> (try split) <;> omega
theorem kY{x:List Int}(h:cO x):(dg (val x)).length=x.length:=by rw[<-h]
abbrev K6:=Int×Int×Int×Int×Int×Int
def kf(w:Bool):K6:=bif w then(9223372036854775808,53,-1074,971,9218868437227405312,9221120237041090561)else(2147483648,24,-149,104,2139095040,2143289345)
def bGJ(k:K6):Prop:=k=kf true\/k=kf false
def kP(k:K6):Nat:=k.2.1.toNat
def kH(k:K6):Nat:=2^(kP k-1)
def kE(k:K6):Int:=k.2.2.1
def Jj(k:K6)(b:Nat):Nat:=if b/kH k=0 then b else kH k+b%kH k
def Wv(k:K6)(b:Nat):Nat:=b/kH k-1
def lR(m:Int)(e:Int)(l:Int)(f:Int):Int:=cZ (m*2^(e-f).toNat) (l*2^(f-e).toNat)
end M
namespace M
open Go
theorem Zc{a b:Int}(ha:0<=a)(bHL:a<18446744073709551616)(hb:0<=b)(xO:b<18446744073709551616):AI.gR .and .u64 a b=((a.toNat &&& b.toNat:Nat):Int):=by
 obtain⟨n,rfl⟩:=cDO ha;obtain⟨m,rfl⟩:=cDO hb;rw[AI.wO];unfold AI.bitsI0;simp only;have e:(BitVec.ofInt u64.bits (n:Int) &&& BitVec.ofInt u64.bits (m:Int)).toNat=n &&& m:=by
  show(BitVec.ofInt 64 (n:Int) &&& BitVec.ofInt 64 (m:Int)).toNat=_;rw[BitVec.toNat_and];have e1:(BitVec.ofInt 64 (n:Int)).toNat=n:=by simp;omega
  have e2:(BitVec.ofInt 64 (m:Int)).toNat=m:=by simp;omega
  rw[e1,e2]
 have hle:n &&& m<=n:=Nat.and_le_left;rw[e,wrap_u64];rfl
theorem aRC{a b:Int}(ha:0<=a)(bHL:a<18446744073709551616)(hb:0<=b)(xO:b<18446744073709551616):AI.gR .or .u64 a b=((a.toNat |||b.toNat:Nat):Int):=by
 obtain⟨n,rfl⟩:=cDO ha;obtain⟨m,rfl⟩:=cDO hb;rw[AI.wO];unfold AI.bitsI0;simp only;have e:(BitVec.ofInt u64.bits (n:Int) |||BitVec.ofInt u64.bits (m:Int)).toNat=n |||m:=by
  show(BitVec.ofInt 64 (n:Int) |||BitVec.ofInt 64 (m:Int)).toNat=_;rw[BitVec.toNat_or];have e1:(BitVec.ofInt 64 (n:Int)).toNat=n:=by simp;omega
  have e2:(BitVec.ofInt 64 (m:Int)).toNat=m:=by simp;omega
  rw[e1,e2]
 have jM:n |||m<2^64:=Nat.or_lt_two_pow (by omega) (by omega);rw[e,wrap_u64];rfl
def tz:Nat->Nat
 |0=>0
 |n+1=>if(n+1)%2=1 then 0 else tz ((n+1)/2)+1
termination_by n=>n
decreasing_by omega
theorem Hn{n:Nat}(h:n%2=1):tz n=0:=by
 cases n with
 |zero=>omega
 |succ n=>rw[tz,if_pos h]
theorem Fo{n:Nat}(h0:n≠0)(h:n%2=0):tz n=tz (n/2)+1:=by
 cases n with
 |zero=>omega
 |succ n=>rw[tz,bI]
theorem yU:∀n,n≠0->n%2^tz n=0/\(n/2^tz n)%2=1:=by
 intro n
 induction n using cDX with
 |_ n ih =>
  intro h0
  by_cases h:n%2=1
  ·rw[Hn h];simp[Nat.mod_one];exact h
  ·rw[Fo h0 (by omega)];obtain⟨h1,h2⟩:=ih (n/2) (by omega) (by omega);have e:2^(tz (n/2)+1)=2*2^tz (n/2):=by rw[cDL];omega
   rw[e];refine⟨?_,by rw[<-cEB];exact h2⟩;have h3:=cDT (n/2) (2^tz (n/2));rw[h1]at h3;generalize tz (n/2)=t at *;have h4:n=2*2^t*(n/2/2^t):=by rw[cDQ];omega
   generalize n/2/2^t=q at *;rw[h4];exact Nat.mul_mod_right _ _
theorem aJB{n:Nat}(h:n≠0):2^tz n<=n:=by
 obtain⟨h1,h2⟩:=yU n h;have h3:=cDT n (2^tz n);rw[h1]at h3;generalize 2^tz n=p at *;generalize n/p=q at *;have:p*1<=p*q:=cBB _ (by omega);omega
theorem Zz{n:Nat}(h:n≠0):∀k,tz (2^k*n)=k+tz n
 |0=>by simp
 |k+1=>by
  have hp:0<2^k:=cD;have h0:2^k*n≠0:=Nat.mul_ne_zero (by omega) h;have e:2^(k+1)*n=2*(2^k*n):=by rw[cDL,cDM (2^k) 2,cDQ]
  rw[e,Fo (by omega) (by omega),Nat.mul_div_cancel_left _ (by omega),Zz h k];omega
theorem aVY{r k n:Nat}(hr:r<2^k)(h:r≠0):tz (r+2^k*n)=tz r:=by
 induction k generalizing r n with
 |zero=>simp at hr;omega
 |succ k ih =>
  have e:2^(k+1)*n=2*(2^k*n):=by rw[cDL,cDM (2^k) 2,cDQ]
  rw[e];rw[cDL]at hr
  by_cases ho:r%2=1
  ·rw[Hn ho,Hn (by omega)]
  ·rw[Fo (by omega) (by omega),Fo h (by omega),show(r+2*(2^k*n))/2=r/2+2^k*n from by omega,ih (by omega) (by omega)]
theorem Xi(a b:Nat):a &&& b=2*(a/2 &&& b/2)+(if a%2=1/\b%2=1 then 1 else 0):=by
 have h1:(a &&& b)/2=a/2 &&& b/2:=Nat.and_div_two;have h2:(a &&& b)%2=1↔a%2=1/\b%2=1:=Nat.and_mod_two_eq_one;rw[<-h1];split
 ·rename_i h;have:=h2.2 h;omega
 ·rename_i h;have:¬(a &&& b)%2=1:=fun hh=>h (h2.1 hh)
  omega
theorem Mv:∀(p m:Nat),m<2^p->m &&& (2^p-1-m)=0
 |0,m,h=>by simp at h;subst h;rfl
 |p+1,m,h=>by
  rw[cDL]at h ⊢;rw[Xi,show(2^p*2-1-m)/2=2^p-1-m/2 from by omega,Mv p (m/2) (by omega),bI]
theorem Xh:∀(p a b:Nat),a+b=2^p->a≠0->b≠0->a &&& b=2^tz a
 |0,a,b,h,ha,hb=>by simp at h;omega
 |p+1,a,b,h,ha,hb=>by
  rw[cDL]at h;rw[Xi]
  by_cases ho:a%2=1
  ·rw[Hn ho,show b/2=2^p-1-a/2 from by omega,Mv p (a/2) (by omega),aR]
  ·rw[Fo ha (by omega),Xh p (a/2) (b/2) (by omega) (by omega) (by omega),bI,cDL,cDM,bZO]
theorem Ba{pre:List Int}{i k:Nat}(h:pre.length=i)(v:Int):(pre ++ cAQ (k+1) 0).set i v=(pre ++ [v]) ++ cAQ k 0:=by
 subst h;rw[cGB _ _ (bYN _),cCR,cDV,cGC,cAI];rfl
theorem Ii{pre:List Int}{i:Nat}(h:pre.length=i)(v:Int)(r:List Int):(pre ++ v :: r).getD i 0=v:=by
 subst h;simp[cDR]
theorem Ht{pre:List Int}{i:Nat}(h:pre.length=i)(v u:Int)(r:List Int):(pre ++ v :: r).set i u=pre ++ u :: r:=by
 subst h;rw[cGB _ _ (bYN _),cCR,cGC]
theorem Te{c n k:Nat}(h:c<2^k):c |||2^k*n=c+2^k*n:=by
 rw[Nat.or_comm,<-Nat.two_pow_add_eq_or_of_lt h,cEL]
theorem Fz(k:Nat):18446744073709551616^k=2^(64*k):=by rw[cFD]
theorem gI{n k:Nat}(h:bl n<=64*k):(M6.dg n).length<=k:=by
 apply M6.cU;rw[Fz,<-eF];exact h
theorem De{a:List Int}(h:M6.bM a){n:Nat}(hn:a.length<=n):bl (M6.val a)<=64*n:=by
 rw[eF,<-Fz];exact bZN (M6.cR h) (cBN (by omega) hn)
theorem aKV{x:List Int}(h:M6.cO x):(M6.dg (M6.val x)).length=x.length:=by rw[<-h]
theorem aJO{n:Int}(h:0<=n):n.tdiv 64=n/64:=cFZ h
theorem aJJ{n:Int}(h:0<=n):n.tmod 64=n%64:=cGA h
theorem Mg(n:Nat):2^n=18446744073709551616^(n/64)*2^(n%64):=by
 rw[Fz,<-cDP];congr 1;omega
theorem Hq(x k:Nat)(h:k<64):x*2^k=18446744073709551616*(x/2^(64-k))+x*2^k%18446744073709551616:=by
 have e:(18446744073709551616:Nat)=2^(64-k)*2^k:=by rw[<-cDP,show 64-k+k=64 from by omega]
 have h1:x*2^k/18446744073709551616=x/2^(64-k):=by
  rw[e,Nat.mul_div_mul_right _ _ (cD)]
 have:=cDT (x*2^k) 18446744073709551616;rw[h1]at this;omega
theorem Kg(x k:Nat)(h:k<64):x*2^k%18446744073709551616=2^k*(x%2^(64-k)):=by
 have e:(18446744073709551616:Nat)=2^(64-k)*2^k:=by rw[<-cDP,show 64-k+k=64 from by omega]
 rw[e,Nat.mul_mod_mul_right,cDM]
end M
namespace W
open Go AI
abbrev Sh(k:IntKind)(b:Nat):TI:={size:=1,bytes:=b,zero:=[.int k 0],kind:=.int k}
abbrev bGM(e:Nat):TI:={size:=1,bytes:=24,zero:=[.slice none 0 0],kind:=.slice e}
abbrev Jd(n b:Nat)(z:List Value)(f:List (Nat×Nat×Bool)):TI:={size:=n,bytes:=b,zero:=z,kind:=.struct f}
abbrev qZ(k:IntKind):Value:=.int k 0
def Lt:List (Nat×TI):=[
 (2,Sh .i64 8),
 (3,Sh .i64 8),
 (4,{ size:=1,bytes:=1,zero:=[.bool false],kind:=TK.bool }),
 (5,Sh .u8 1),
 (6,Sh .u8 1),
 (7,Jd 4 24 [qZ .i64,qZ .i64,.bool false,qZ .u8] [(0,1,false),(1,1,false),(2,1,false),(3,1,false)]),
 (8,Jd 4 24 [qZ .i64,qZ .i64,.bool false,qZ .u8] [(0,1,false),(1,1,false),(2,1,false),(3,1,false)]),
 (9,{ size:=1,bytes:=16,zero:=[Value.string ByteArray.empty],kind:=TK.str }),
 (10,{ size:=1,bytes:=16,zero:=[Value.string ByteArray.empty],kind:=TK.str }),
 (11,{ size:=1,bytes:=16,zero:=[Value.string ByteArray.empty],kind:=TK.str }),
 (12,Sh .u64 8),
 (18,Jd 1 8 [.pointer none] [(0,1,false)]),
 (19,Jd 1 8 [.pointer none] [(0,1,false)]),
 (21,Sh .i32 4),
 (22,Sh .u64 8),
 (25,bGM 22),
 (26,Jd 2 32 [.bool false,.slice none 0 0] [(0,1,false),(1,1,false)]),
 (27,Jd 2 32 [.bool false,.slice none 0 0] [(0,1,false),(1,1,false)]),
 (28,Jd 3 40 [.bool false,.slice none 0 0,qZ .i64] [(0,2,true),(2,1,false)]),
 (29,Jd 3 40 [.bool false,.slice none 0 0,qZ .i64] [(0,2,true),(2,1,false)]),
 (30,Jd 6 80 [.bool false,.slice none 0 0,qZ .i64,.bool false,.slice none 0 0,qZ .i64] [(0,3,true),(3,3,true)]),
 (31,Jd 6 80 [.bool false,.slice none 0 0,qZ .i64,.bool false,.slice none 0 0,qZ .i64] [(0,3,true),(3,3,true)]),
 (32,Sh .i64 8),
 (35,Sh .i64 8),
 (47,Sh .i64 8),
 (65,bGM 29),
 (77,Jd 2 16 [qZ .i64,.bool false] [(0,1,false),(1,1,false)]),
 (78,Jd 2 16 [qZ .i64,.bool false] [(0,1,false),(1,1,false)]),
 (89,Jd 4 32 [qZ .i64,qZ .i64,qZ .i64,qZ .u64] [(0,1,false),(1,1,false),(2,1,false),(3,1,false)]),
 (90,Jd 4 32 [qZ .i64,qZ .i64,qZ .i64,qZ .u64] [(0,1,false),(1,1,false),(2,1,false),(3,1,false)]),
 (100,Jd 3 24 [qZ .i64,qZ .i64,qZ .i64] [(0,1,false),(1,1,false),(2,1,false)]),
 (101,Jd 3 24 [qZ .i64,qZ .i64,qZ .i64] [(0,1,false),(1,1,false),(2,1,false)]),
 (113,bGM 156),
 (116,Jd 2 32 [.bool false,.slice none 0 0] [(0,1,false),(1,1,false)]),
 (117,Jd 2 32 [.bool false,.slice none 0 0] [(0,1,false),(1,1,false)]),
 (121,Sh .i64 8),
 (131,bGM 31),
 (137,Sh .i64 8),
 (156,Sh .u32 4),
 (157,Sh .u64 8),
 (160,Jd 5 72 [.bool false,.slice none 0 0,.bool false,.slice none 0 0,qZ .i64] [(0,2,true),(2,2,true),(4,1,false)]),
 (161,Jd 5 72 [.bool false,.slice none 0 0,.bool false,.slice none 0 0,qZ .i64] [(0,2,true),(2,2,true),(4,1,false)]),
 (188,Sh .i64 8),
 (211,{ size:=64,bytes:=64,zero:=(cAQ 64 (qZ .u8)),kind:=TK.arr 64 1 false }),
 (236,Jd 6 48 [qZ .u64,qZ .i64,qZ .i64,qZ .i64,qZ .u64,qZ .u64] [(0,1,false),(1,1,false),(2,1,false),(3,1,false),(4,1,false),(5,1,false)]),
 (237,Jd 6 48 [qZ .u64,qZ .i64,qZ .i64,qZ .i64,qZ .u64,qZ .u64] [(0,1,false),(1,1,false),(2,1,false),(3,1,false),(4,1,false),(5,1,false)]),
 (250,{ size:=4,bytes:=96,zero:=[.slice none 0 0,.slice none 0 0,.slice none 0 0,.slice none 0 0],kind:=TK.arr 4 1 false }),
 (273,{ size:=0,bytes:=0,zero:=[],kind:=TK.arr 0 1 false }),
 (274,Jd 0 0 [] [(0,0,true)]),
 (275,Jd 0 0 [] [(0,0,true)]),
 (277,Sh .u8 1),
 (278,Sh .u8 1),
 (281,Sh .i32 4),
 (282,Sh .i32 4),
 (283,Jd 11 48 [qZ .u64,qZ .u64,qZ .u32,qZ .u8,qZ .u8,qZ .u8,qZ .u8,Value.nilFunc,.pointer none,qZ .i32,qZ .i32] [(0,1,false),(1,1,false),(2,1,false),(3,1,false),(4,1,false),(5,1,false),(6,1,false),(7,1,false),(8,1,false),(9,1,false),(10,1,false)]),
 (284,Jd 11 48 [qZ .u64,qZ .u64,qZ .u32,qZ .u8,qZ .u8,qZ .u8,qZ .u8,Value.nilFunc,.pointer none,qZ .i32,qZ .i32] [(0,1,false),(1,1,false),(2,1,false),(3,1,false),(4,1,false),(5,1,false),(6,1,false),(7,1,false),(8,1,false),(9,1,false),(10,1,false)])]
theorem qP:qE prog (tlook Lt):=aQF Lt (by kernel_rfl) (by kernel_rfl) (by kernel_rfl)
def ext:FuncId->List Value->Option (Prop×List Value):=(aFD 175 aZF (aFD 173 gAdd aFC))
theorem oD:aGB prog ext:=(Ye (Yf (P:=prog) (f:=175) (fn:=f175) (e:=yW) func175 rfl rfl (by kernel_rfl) (by kernel_rfl)) aSM (Ye (Yf (P:=prog) (f:=173) (fn:=f173) (e:=add64Entry) func173 rfl rfl (by kernel_rfl) (by kernel_rfl)) aSN aBK))
def globs(g:Nat):Option (IntKind×List Int):=bif bYO g 0 then some (.u8,[0,1,56,2,57,49,28,3,61,58,42,50,38,29,17,4,62,47,59,36,45,43,51,22,53,39,33,30,24,18,12,5,63,55,48,27,60,41,37,16,46,35,44,21,52,32,23,11,54,26,40,15,34,20,31,10,25,14,19,9,13,8,7,6])else(none)
def base:Env:={ T:=tlook Lt,C:=fun _ _=>none,ext:=ext,glob:=globs,nt:=0,own:=[],keep:=fun _=>[],roll:=fun _=>none,cut:=fun _=>none }
theorem mixed:prog.follows .mixedOrders=true:=by kernel_rfl
abbrev OK(n:Nat)(o:dO):Prop:=nR prog base.glob n o
theorem eI(E:Env)(c:Code){n:FuncId}{f:Func}{t:List (Nat×dO)}(h:∀p∈t,nR prog base.glob p.1 p.2)(hf:prog.funcs[n]?=some f)(hb:f.body=some c:=by exact rfl)(hn:(f.name== "runtime.NumGoroutine")=false:=by exact rfl)(hE:E={ base with C:=callsOf t,nt:=f.ntmps,own:=E.own,keep:=E.keep,cut:=E.cut,wide:=E.wide }:=by exact rfl):tJ prog E n f c:=by
 have hg:E.glob=base.glob:=by rw[hE]
 exact Yb (by rw[hE];exact qP) mixed (lT t (by rw[hE]) (by rw[hg];exact h) (by rw[hE];exact oD) (by rw[hE];rfl)) hf hb (by rw[hE]) hn (by rw[hE];rfl)
abbrev kX:TypeId:=156
abbrev gV:TypeId:=22
end W
namespace AI
open Go Go.RowKit
theorem Contract.bRZ{P:Program}{G:Nat->Option (IntKind×List Int)}{f:FuncId}{d d' e e' g g' k k' l l':D}{rs:List D}(h:Contract P G f [d',e',g',k',l'] rs)(hd:Fl d d')(he:Fl e e')(hg:Fl g g')(hk:Fl k k')(hl:Fl l l'):Contract P G f [d,e,g,k,l] rs :=
 h.of rfl fun i x x' hx Ag=>by
  match i with
  |0=>simp at hx Ag;subst hx;subst Ag;exact hd
  |1=>simp at hx Ag;subst hx;subst Ag;exact he
  |2=>simp at hx Ag;subst hx;subst Ag;exact hg
  |3=>simp at hx Ag;subst hx;subst Ag;exact hk
  |4=>simp at hx Ag;subst hx;subst Ag;exact hl
  |i+5=>simp at hx
def orc5{α β γ δ ε:Type}(p:oI α)(q:oI β)(r:oI γ)(s:oI δ)(t:oI ε)(f:α->β->γ->δ->ε->Prop×List D):dO
 | [a,b,c,d,e]=>match p.get a,q.get b,r.get c,s.get d,t.get e with
  |some x,some y,some z,some u,some v=>some (f x y z u v)
  |_,_,_,_,_=>none
 |_=>none
variable {P:Program} {E:Env} {f:FuncId} {fn:Func} {c:Code}
theorem tJ.bCS{α β γ δ ε:Type}(h:tJ P E f fn c){p:oI α}{p':oI β}{Tc:oI γ}{p3:oI δ}{p4:oI ε}{g:α->β->γ->δ->ε->Prop×List D}(hn:bYQ 5 fn.ntmps=true)(hs:∀x y z u v,(g x y z u v).1->aG E fn c [p.put x,p'.put y,Tc.put z,p3.put u,p4.put v]=some (g x y z u v).2):nR P E.glob f (orc5 p p' Tc p3 p4 g):=by
 intro ds q rs hd hg;unfold orc5 at hd;split at hd
 ·split at hd
  ·rename_i x y z u v hx hy hz hu hv;have hd:=Option.some.inj hd;have e1:q=(g x y z u v).1:=by rw[hd]
   have e2:rs=(g x y z u v).2:=by rw[hd]
   subst e1;subst e2;exact⟨(fn_contract (ds:=[p.put x,p'.put y,Tc.put z,p3.put u,p4.put v]) h.ty h.calls h.mix h.fnc h.body h.nt h.io (cAL hn) (hs x y z u v hg)).bRZ (p.le hx) (p'.le hy) (Tc.le hz) (p3.le hu) (p4.le hv),h.has⟩
  ·cases hd
 ·cases hd
end AI
namespace M
open Go AI
def wv(x:Bool×List Int):Int:=zs x.1 (M6.val x.2)
def jA(x:Bool×List Int):Prop:=M6.cO x.2/\(x.1=true->M6.val x.2≠0)/\x.2.length<=8192
def wD(z:Int):D:=.agg [.sc (.bool (isNeg z)),.ints .u64 (M6.dg z.natAbs)]
def fit(n:Nat):Bool:=decide (bl n<=524288)
theorem iX(x:Bool×List Int):(wv x).natAbs=M6.val x.2:=nM _ _
theorem Sg{x:Bool×List Int}(h:x.1=true):wv x=-(M6.val x.2:Int):=by unfold wv zs;rw[h];rfl
theorem Hm{x:Bool×List Int}(h:x.1=false):wv x=(M6.val x.2:Int):=by unfold wv zs;rw[h];rfl
theorem jA.cells{x:Bool×List Int}(h:jA x):isNeg (wv x)=x.1/\M6.dg (wv x).natAbs=x.2:=by
 obtain⟨h1,h2,h3⟩:=h;unfold wv;rw[Lm,nM,<-h1];refine⟨?_,rfl⟩;cases hx:x.1 with
 |false=>rfl
 |true=>rw[dqT (h2 hx)];rfl
theorem jA.len{x:Bool×List Int}(h:jA x):x.2.length<=8192:=h.2.2
theorem aTZ(b:Bool)(n:Nat):wD (zs b n)=.agg [.sc (.bool (b&&decide (n≠0))),.ints .u64 (M6.dg n)]:=by
 unfold wD;rw[Lm,nM]
theorem tQ(z:Int):wv (isNeg z,M6.dg z.natAbs)=z:=by
 unfold wv zs;simp only[M6.bD];cases h:isNeg z with
 |true=>have:=jT.1 h;simp only[cond_true];omega
 |false=>have:=fN.1 h;simp only[cond_false];omega
theorem iF{z:Int}(h:bl z.natAbs<=524288):jA (isNeg z,M6.dg z.natAbs):=by
 refine⟨M6.bA _,fun hn=>?_,gI (k:=8192) (by omega)⟩;rw[M6.bD];have:=jT.1 hn;omega
theorem aBX{n:Nat}(h:(M6.dg n).length<=8192):bl n<=524288:=by
 have:=De (M6.cA n) h;rw[M6.bD]at this;omega
theorem jA.bl{x:Bool×List Int}(h:jA x):bl (M6.val x.2)<=524288:=by
 have:=De h.1.iA h.len;omega
def wE(ok:Bool)(z:Int):List D:=[wD (bif ok then z else 0),.s (.sc (.int .i64 (bif ok then 0 else 5)))]
theorem Kd(neg ok:Bool)(n:Nat):[D.agg [.sc (.bool (isNeg (bif (bif ok then(0:Int)else 5)==0 then zs neg (M6.val (bif ok then M6.dg n else []))else 0))),.ints .u64 (M6.dg (bif (bif ok then(0:Int)else 5)==0 then zs neg (M6.val (bif ok then M6.dg n else []))else 0).natAbs)],D.s (.sc (.int .i64 (bif ok then 0 else 5)))]=wE ok (zs neg n):=by
 cases ok with
 |true=>rw[cond_true,cond_true,show((0:Int)==0)=true from rfl,cond_true,M6.bD];rfl
 |false=>rfl
theorem Kq{ok:Bool}{n:Nat}(h:ok=true->bl n<=524288):M6.cO (bif ok then M6.dg n else [])/\(bif ok then M6.dg n else []).length<=1099511627776:=by
 cases ok with
 |true=>have:=gI (n:=n) (k:=8192) (by have:=h rfl;omega);exact⟨M6.bA _,by rw[cond_true];omega⟩
 |false=>exact⟨M6.Gc,by simp⟩
theorem Cx{n:Nat}:decide ((M6.dg n).length<=8192)=fit n:=by
 unfold fit
 by_cases h:bl n<=524288
 ·rw[dqT h,dqT (gI (k:=8192) (by omega))]
 ·rw[dqF h,dqF (fun hl=>h (aBX hl))]
theorem zH{n:Nat}(h:fit n=true):bl n<=524288:=of_decide_eq_true h
end M
namespace M
open Go AI
abbrev fB:=Bool×List Int×Int
def aQ(x:fB):Prop:=jA (x.1,x.2.1)/\(-1048576<=x.2.2/\x.2.2<=1048576)/\(M6.val x.2.1=0->x.2.2=0)/\(M6.val x.2.1≠0->M6.val x.2.1%2=1)
def dv(x:fB):Int×Int:=(wv (x.1,x.2.1),x.2.2)
def dD(p:Int×Int):D:=.agg [.sc (.bool (isNeg p.1)),.ints .u64 (M6.dg p.1.natAbs),.sc (.int .i64 p.2)]
def dE(ok:Bool)(p:Int×Int):List D:=[dD (bif ok then p else(0,0)),.s (.sc (.int .i64 (bif ok then 0 else 5)))]
def bW(z e:Int):Int×Int:=if z=0 then(0,0)else(z/((2^tz z.natAbs:Nat):Int),e+(tz z.natAbs:Nat))
def jR(z e:Int):Bool:=decide (z=0)||(decide (-1048576<=e+(tz z.natAbs:Nat))&&decide (e+(tz z.natAbs:Nat)<=1048576))
theorem aQ.Ln{x:fB}(h:aQ x):jA (x.1,x.2.1):=h.1
theorem aQ.len{x:fB}(h:aQ x):x.2.1.length<=8192:=h.1.len
theorem aQ.Fi{x:fB}(h:aQ x):M6.cO x.2.1:=h.1.1
theorem aQ.dD{x:fB}(h:aQ x):M.dD (dv x)=.agg [.sc (.bool x.1),.ints .u64 x.2.1,.sc (.int .i64 x.2.2)]:=by
 have:=h.Ln.cells;unfold M.dD dv;dsimp only at *;rw[this.1,this.2]
theorem aCU{b:Bool}{n:Nat}:zs b n=0↔n=0:=by
 have:=nM b n;omega
theorem aVW{b:Bool}{n q:Nat}(hq:0<q)(h:n%q=0):zs b n/(q:Int)=zs b (n/q):=by
 have hd:=cDT n q;have e:n=q*(n/q):=by omega
 cases b with
 |false =>
  show((n:Nat):Int)/(q:Int)=((n/q:Nat):Int);rw[cEA]
 |true =>
  show -(n:Int)/(q:Int)=-((n/q:Nat):Int);have e1:-(n:Int)=(q:Int)*(-((n/q:Nat):Int)):=by rw[Int.mul_neg,<-cEW,<-e]
  rw[e1,Int.mul_ediv_cancel_left _ (by omega)]
theorem Qw{n:Nat}(h:n≠0):tz n<bl n:=by
 have h1:=aJB h;exact tD.2 h1
def nC(p:Int×Int):Prop:=bl p.1.natAbs<=524288/\(-1048576<=p.2/\p.2<=1048576)/\(p.1=0->p.2=0)/\(p.1≠0->p.1%2=1)
theorem fK(p:Int×Int):dv (isNeg p.1,M6.dg p.1.natAbs,p.2)=p:=by
 unfold dv;dsimp only;rw[tQ]
theorem eQ{p:Int×Int}(h:nC p):aQ (isNeg p.1,M6.dg p.1.natAbs,p.2):=by
 obtain⟨h1,h2,h3,h4⟩:=h;refine⟨iF h1,h2,fun hz=>h3 ?_,fun hz=>?_⟩
 ·dsimp only at hz;rw[M6.bD]at hz;omega
 ·dsimp only at hz ⊢;rw[M6.bD]at hz ⊢;have:=h4 (by omega);omega
theorem aQ.pK{x:fB}(h:aQ x):nC (dv x):=by
 obtain⟨h1,h2,h3,h4⟩:=h;have ha:=iX (x.1,x.2.1);dsimp only at ha;refine⟨?_,h2,fun hz=>h3 ?_,fun hz=>?_⟩
 ·show bl (wv _).natAbs<=_;rw[ha];exact h1.bl
 ·have hz:wv (x.1,x.2.1)=0:=hz;omega
 ·have hz:wv (x.1,x.2.1)≠0:=hz;have:=h4 (by omega);show wv (x.1,x.2.1)%2=1;omega
theorem nC.neg{p:Int×Int}(h:nC p):nC (-p.1,p.2):=by
 obtain⟨h1,h2,h3,h4⟩:=h;refine⟨by dsimp only;rwa [cGD],h2,fun hz=>h3 (by dsimp only at hz;omega),fun hz=>?_⟩;have:=h4 (by dsimp only at hz;omega);dsimp only;omega
theorem qL{z:Int}{q:Nat}(hq:0<q):(z/(q:Int)).natAbs<=z.natAbs:=by
 have h:=Int.mul_ediv_add_emod z (q:Int);have h1:=Int.emod_nonneg z (show(q:Int)≠0 by omega);have h2:=Int.emod_lt_of_pos z (show 0<(q:Int) by omega)
 by_cases hz:0<=z
 ·have h3:0<=z/(q:Int):=Int.ediv_nonneg hz (by omega);have h4:z/(q:Int)<=z:=Int.ediv_le_self _ hz;omega
 ·have h3:z/(q:Int)<0:=Int.ediv_neg_of_neg_of_pos (by omega) (by omega);have h4:(q:Int)*(z/(q:Int)+1)<=1*(z/(q:Int)+1):=Int.mul_le_mul_of_nonpos_right (by omega) (by omega);rw[Int.mul_add]at h4;omega
end M
open Go.Value(int bool slice)
open AI.S(sc ints)
namespace W
open Go AI M
def mE(t:List (Nat×dO))(n:Nat)(o:List Nat)(k:List (Nat×List Nat))(c:List Nat):Env:={({base with C:=callsOf t})with nt:=n,own:=o,keep:=fun j=>(tlook k j).getD [],cut:=fun j=>bif c.elem j then tlook k j else none}
noncomputable def bd(f:Func):Code:=f.body.getD .skip
def vA(s:S):KV:=(A.v (V.one (L.s s)),none)
def iY(l:List Int):KV:=vA (S.ints .u64 l)
def mP(l:List Int):KV:=vA (S.ints .u32 l)
def bJ(n:Int):KV:=vA (S.sc (.int .i64 n))
def dR(n:Int):KV:=vA (S.sc (.int .u64 n))
def aGE(b:Bool):KV:=vA (S.sc (.bool b))
def bK(i e:Nat)(c:List S):KV:=(A.v (V.one (L.ptr i 0)),some ⟨e,.cells c⟩)
def cV(n:Int):S:=S.sc (.int .i64 n)
def bCJ(n:Int):S:=S.sc (.int .u64 n)
def bC(b:Bool):S:=S.sc (.bool b)
def eR(l:List Int):S:=S.ints .u64 l
def iB(l:List Int):S:=S.ints .u32 l
def Dg(i n e:Nat)(l:List Int):KV:=(A.v (V.one (L.buf i n)),some ⟨e,.ints .u64 l⟩)
abbrev iH{α:Type}(E:Env)(f:Func)(c:Code)(p:oI α)(g:α→Prop×List D):Prop:=∀x,(g x).1→aG E f c [p.put x]=some (g x).2
abbrev fF{α β:Type}(E:Env)(f:Func)(c:Code)(p:oI α)(q:oI β)(g:α→β→Prop×List D):Prop:=∀x y,(g x y).1→aG E f c [p.put x,q.put y]=some (g x y).2
abbrev uQ{α β γ:Type}(E:Env)(f:Func)(c:Code)(p:oI α)(q:oI β)(r:oI γ)(g:α→β→γ→Prop×List D):Prop:=∀x y z,(g x y z).1→aG E f c [p.put x,q.put y,r.put z]=some (g x y z).2
abbrev Zg{α β γ δ:Type}(E:Env)(f:Func)(c:Code)(p:oI α)(q:oI β)(r:oI γ)(t:oI δ)(g:α→β→γ→δ→Prop×List D):Prop:=∀x y z u,(g x y z u).1→aG E f c [p.put x,q.put y,r.put z,t.put u]=some (g x y z u).2
abbrev aTO{α:Type}(E:Env)(f:Func)(c:Code)(p:oI α)(g:α→Prop×List D):Prop:=∀x,(g x).1→∃rs,aG E f c [p.put x]=some rs∧iZ rs (g x).2
abbrev Om{α β:Type}(E:Env)(f:Func)(c:Code)(p:oI α)(q:oI β)(g:α→β→Prop×List D):Prop:=∀x y,(g x y).1→∃rs,aG E f c [p.put x,q.put y]=some rs∧iZ rs (g x y).2
abbrev bAB{α β γ:Type}(E:Env)(f:Func)(c:Code)(p:oI α)(q:oI β)(r:oI γ)(g:α→β→γ→Prop×List D):Prop:=∀x y z,(g x y z).1→∃rs,aG E f c [p.put x,q.put y,r.put z]=some rs∧iZ rs (g x y z).2
abbrev sP:=pG (.pair sB (.pair (sI .u64) (.pair (sN .i64) (.pair sB (.pair (sI .u64) (sN .i64))))))
abbrev jQ:=pG (.pair sB (.pair (sI .u64) (sN .i64)))
abbrev nT:=pG (.pair sB (sI .u32))
abbrev qQ:=pG (.pair sB (sI .u64))
namespace iC
def E:=mE [] 20 [] [] []
def aF:=bd f167
theorem aU:Nk E aF:=nk
theorem start a:aG E f167 aF [D.s (ints u64 a)]=letI A:=(a.length:Int);letI B:=A-(1:Int);aC (decide (A<=(8192:Int))) (aC (A==(0:Int)) (some [D.s (sc (bool true))]) (if 0<=i64.wrap B/\i64.wrap B<A then some [D.s (sc (bool (a.getD (i64.wrap B).toNat 0 !=(0:Int))))]else none)) (some [D.s (sc (bool false))]):=eJ aU
def qR(a:List Int):Bool:=decide (a.length<=8192)&&(a.length==0||a.getD (a.length-1) 0 !=0)
theorem pP{a:List Int}(h:M6.cO a)(hl:a.length<=8192):qR a=true:=by
 unfold qR;rw[dqT hl,cBO]
 by_cases hz:a.length=0
 ·simp[hz]
 ·have:=M6.getLast_take (a:=a) (n:=a.length-1) (by omega);rw[show a.length-1+1=a.length from by omega,cFF]at this;have:=h.top this;have e1:(a.getD (a.length-1) 0 !=0)=true:=by simpa using this
  rw[e1,cEX]
def sp(a:List Int):Prop×List D:=(a.length<=1099511627776,[.s (.sc (.bool (qR a)))])
theorem spec:iH E f167 aF (pI .u64) sp:=by
 intro a h;have hl:a.length<=1099511627776:=h;refine(start a).trans ?_;show _=some [D.s (.sc (.bool (qR a)))];unfold qR
 by_cases h1:a.length<=8192
 ·rw[aO,dqT h1,cBO]
  by_cases hz:a.length=0
  ·rw[dU];simp[hz]
  ·have e:((a.length:Int)-1).toNat=a.length-1:=by omega
   rw[cP,wrap_i64 (n:=(a.length:Int)-1),aR,e];simp[hz]
 ·rw[aM,dqF h1];rfl
def aJ:dO:=orc1 (pI .u64) sp
theorem ok:OK 167 aJ:=(eI E aF aD func167).oV rfl spec
end iC
namespace gF
def E:=mE [(167,iC.aJ)] 17 [] [] []
def aF:=bd f112
theorem aU:Nk E aF:=nk
theorem start a b:aG E f112 aF [D.agg [sc (bool a),ints u64 b]]=aN (b.length<=1099511627776) (aC (iC.qR b) (aC a (some [D.s (sc (bool !(b.length:Int)==(0:Int)))]) (some [D.s (sc (bool true))])) (some [D.s (sc (bool false))])):=eJ aU
def pW(x:Bool×List Int):Bool:=iC.qR x.2&&!(x.1&&((x.2.length:Int)==0))
theorem mS{x:Bool×List Int}(h:jA x):pW x=true:=by
 unfold pW;rw[iC.pP h.1 h.len,cBO];cases hx:x.1 with
 |false=>rfl
 |true =>
  have:=h.2.1 hx;have hz:x.2.length≠0:=fun hl=>this ((M6.cY h.1).1 hl)
  rw[cBO,beq_eq_false_iff_ne.2 (by omega)];rfl
def sp(x:Bool×List Int):Prop×List D:=(x.2.length<=1099511627776,[.s (.sc (.bool (pW x)))])
theorem spec:iH E f112 aF qQ sp:=by
 intro x h;have hl:x.2.length<=1099511627776:=h;refine(start x.1 x.2).trans ?_;show _=some [D.s (.sc (.bool (pW x)))];unfold pW;rw[gP hl];cases iC.qR x.2 with
 |false=>rfl
 |true=>cases x.1 <;> rfl
def aJ:dO:=orc1 qQ sp
theorem ok:OK 112 aJ:=(eI E aF (aA iC.ok aD) func112).oV rfl spec
end gF
namespace pV
def E:=mE [] 8 [] [] []
def aF:=bd f68
theorem aU:Nk E aF:=nk
theorem start a b c:aG E f68 aF [D.agg [sc (bool a),ints u64 b,sc (int i64 c)]]=some [D.s (sc (bool ((b.length:Int)==(0:Int))))]:=eJ aU
def sp(x:fB):Prop×List D:=(True,[.s (.sc (.bool ((x.2.1.length:Int)==0)))])
theorem spec:iH E f68 aF jQ sp:=fun x h=>start x.1 x.2.1 x.2.2
def aJ:dO:=orc1 jQ sp
theorem ok:OK 68 aJ:=(eI E aF aD func68).oV rfl spec
end pV
namespace oU
def E:=mE [(112,gF.aJ),(68,pV.aJ)] 29 [] [(3,[1])] [3]
def aF:=bd f61
theorem aU:Nk E aF:=nk
def J3 a b c:=lP E f61 aF 3 [bK 0 29 [bC a,eR b,cV c]]
theorem start a b c:aG E f61 aF [D.agg [sc (bool a),ints u64 b,sc (int i64 c)]]=letI A:=some [D.s (sc (bool false))];aN (b.length<=1099511627776) (aC (!gF.pW (a,b)) A (aC (decide (c<(-1048576:Int))) A (aC (decide (1048576<c)) A (oU.J3 a b c)))):=eJ aU
theorem fH a b c:J3 a b c=aN True (aC ((b.length:Int)==(0:Int)) (some [D.s (sc (bool (c==0)))]) (if(0:Int)<=(0:Int)/\0<(b.length:Int)then some [D.s (sc (bool (gR BinOp.and u64 (b.getD 0 0) 1==(1:Int))))]else none)):=cJ aU
def sp(x:fB):Prop×List D:=(aQ x,[.s (.sc (.bool true))])
theorem aRE{a:List Int}(h:M6.cO a)(hv:M6.val a%2=1):gR .and .u64 (a.getD 0 0) 1=1:=by
 have g:=h.iA.get 0;rw[Zc g.1 g.2 (by omega) (by omega)];have e:M6.val a=(a.getD 0 0).toNat+18446744073709551616*M6.val (a.drop 1):=by
  have:=M6.gH (a:=a) 0;rwa [cER]at this
 have e1:(a.getD 0 0).toNat &&& (1:Int).toNat=(a.getD 0 0).toNat%2:=Nat.and_one_is_mod _;rw[e1];omega
theorem spec:iH E f61 aF jQ sp:=by
 intro x h;have h:aQ x:=h;have hl:=h.len;have hf:=gF.mS h.Ln;have hn:=h.Fi;obtain⟨b,a,e⟩:=x;obtain⟨hw,he,h0,h1⟩:=h;refine(start b a e).trans ?_
 try dsimp only at *
 unfold sp
 try dsimp only
 rw[gP,hf,cAN,bF,aM,aM,fH,gP trivial]
 try dsimp only
 by_cases hz:a.length=0
 ·rw[dU,h0 ((M6.cY hn).1 hz)];rfl
 ·rw[cP,if_pos ⟨by omega,by omega⟩,aRE hn (h1 (fun hv=>hz ((M6.cY hn).2 hv)))];rfl
def aJ:dO:=orc1 jQ sp
theorem ok:OK 61 aJ:=(eI E aF (aA gF.ok (aA pV.ok aD)) func61).oV rfl spec
end oU
namespace Clone
def Px:Go.Shelf.Ren:=⟨fun |41=>121 |n=>n,fun |22=>25 |23=>22 |4=>4 |n=>n,fun |n=>n⟩
theorem Ic:Go.Proofs.SlLaysE0.n41 prog Px:={
 mixed:=by kernel_rfl
 f41:=⟨f121.name,by decide,func121.trans (congrArg some (by kernel_rfl))⟩
 t4:=Tryz.underlying4
 a4:=Tryz.isAgg4
 z4:=Tryz.sizeOf4
 v4:=Tryz.zeroValue4
 t22:=Tryz.underlying25
 a22:=Tryz.isAgg25
 z22:=Tryz.sizeOf25
 v22:=Tryz.zeroValue25 }
def sp(a:List Int):Prop×List D:=(a.length<=1099511627776,[.s (.ints .u64 a)])
section
open Go.Shelf Go.RowKit Go.Lib
set_option maxHeartbeats 2000000
set_option maxRecDepth 100000
theorem zero{P:Program}{ρ:Ren}(L:SlLaysE0.n41 P ρ)(i0:TypeInfo)(z:Value)(bytes:Nat)(hi:P.info? (ρ.t 23)=some i0)(aRT:i0.zero=some z)(aUV:i0.size=1)(aXM:i0.bytes=bytes)(aEL:z.cells.size=1)
  (z23:∀w,(Go.sizeOf (ρ.t 23)).run P w=.ok 1 w) (a:Addr) (c:Nat) (w:World) :
  Calls P (ρ.f 41) #[.slice (some a) 0 c] w fun e w'=>∃v',e=.returned v'/\w'.ownsRow w.heap.size (ρ.t 23) 1 v' 0 []/\Below w.heap.size w w':=by
 have mixed:=L.mixed;have t4:=L.t4;have a4:=L.a4;have z4:=L.z4;have v4:=L.v4;have t22:=L.t22;have a22:=L.a22;have z22:=L.z22;have v22:=L.v22;have q22:∀(w:World) (a:Option Addr) (n c n' c':Nat),(binOp .eql (ρ.t 22) (.slice a n c) (.slice none n' c')).run P w=.ok (.bool a.isNone) w:=fun w a n c n' c'=>Lib.run_eql_slice_nil w _ _ a n c n' c' L.t22
 have u22:∀w,Sem.run P (underlying (ρ.t 22)) w=.ok (TypeDesc.slice (ρ.t 23)) w:=run_underlying t22;obtain⟨_,_,FG⟩:=L.f41
 go_enter FG,SlBodyN.n41_ntmps ρ
 go_wp2_with (at_builtin;refine wpList_append_own _ rfl _ _ (ρ.t 22) rfl w.heap.size (ρ.t 23) i0 z 1 bytes t22 hi aRT aUV aXM aEL (by decide) _ _ _ rfl (World.ownsRow_made w #[] 0 (bYN _) (cEN _) (by simp)) a 0 c [] rfl rfl (by intro j u hj;simp at hj) (by intro u hu;cases hu) (by unfold maxLen;omega) (by omega) (by simp) ?_)
 intro v' w1 uK bEP bDZ
 go_wp2
 go_ret
 exact⟨v',rfl,by simpa using uK,((Below.refl _ w).alloc (bYN _) _).grown bEP (by simp) (by intro k hk;simp[Value.ownBlock]at hk;omega)⟩
end
theorem aKS{X:Nat->Prop}{w:World}{base:Nat}{e:TypeId}{v:Value}{a:List Int}(hX:∀b,X b->b<base)(h:w.ownsRow base e 1 v a.length (a.map (Value.int .u64))):rI X w (.ints .u64 a) v:=by
 obtain⟨_,⟨rfl,h0⟩ |⟨g,cap,cur,rfl,hg,hb,hn,hm,hs,ht⟩⟩:=h
 ·have:a=[]:=List.length_eq_zero_iff.1 h0;subst this;exact⟨none,0,rfl,bYN _,fun i n hn=>by simp at hn⟩
 ·refine⟨some ⟨g,0,none⟩,cap,rfl,hn,fun i n hi=>⟨g,0,rfl,?_,fun hx=>?_,?_⟩⟩
  ·exact(Array.getElem?_eq_some_iff.1 hb).1
  ·have:=hX g hx;omega
  ·have jM:i<a.length:=(List.getElem?_eq_some_iff.1 hi).1;have e1:(cur.toList.take (a.length*1))[i]?=some (Value.int .u64 n):=by
    rw[ht,bYR,hi];rfl
   rw[List.getElem?_take,aR]at e1;simp only[World.cell?,hb,bYP];simpa using e1
theorem aRD{Y:Nat->Prop}{base:Nat}{w:World}{d:D}{v:Value}(hd:mF d=false)(h:oZ Y w d v):aCI Y base w [d] [v]:=by
 refine⟨fun _=>0,rfl,fun i j d1 d2 h1 h2 o1 _ _=>?_,fun i d1 v1 h1 h2=>?_⟩
 ·have:d1=d:=by
   match i with
   |0=>simpa using h1.symm
   |i+1=>simp at h1
  rw[this,hd]at o1;cases o1
 ·have h3:d1=d/\v1=v:=by
   match i with
   |0=>exact⟨by simpa using h1.symm,by simpa using h2.symm⟩
   |i+1=>simp at h1
  obtain⟨rfl,rfl⟩:=h3;have e:(fun b=>Y b\/∃(j:Nat) (d':D),[d1][j]?=some d'/\mF d'=true/\(fun _:Nat=>0) j=b)=Y:=by
   funext b;refine propext ⟨fun hh=>?_,.inl⟩;rcases hh with hh |⟨j,d',h4,h5,_⟩
   ·exact hh
   ·match j with
    |0 =>
     have:d'=d1:=by simpa using h4.symm
     rw[this,hd]at h5;cases h5
    |j+1=>simp at h4
  rw[e];cases d1 with
  |own=>cases hd
  |_=>exact h
theorem aNQ(a:List Int)(hl:a.length<=1099511627776):Contract prog base.glob 121 [(pI .u64).put a] [.s (.ints .u64 a)]:=by
 intro Y w vs hY hG hlen hargs;obtain⟨v,rfl⟩:∃v,vs=[v]:=by
  match vs,hlen with
  | [v],_=>exact⟨v,rfl⟩
 obtain⟨A,c,rfl,hc,lA⟩:rI Y w (.ints .u64 a) v:=hargs 0 _ _ rfl rfl;have t1:=qP gV _ rfl;obtain⟨i0,hi,hs,aYT,z,hz,Pz⟩:=t1.i;have z23:=fun w=>t1.run_sizeOf (w:=w)
 have fin:∀(e:Ending) (w':World),(∃v',e=.returned v'/\w'.ownsRow w.heap.size gV 1 v' a.length (a.map (Value.int .u64))/\RowKit.Below w.heap.size w w')->∃Ae,e=.returned (resV Ae)/\RowKit.Below w.heap.size w w'/\aCI Y w.heap.size w' [.s (.ints .u64 a)] Ae:=by
  rintro e w' ⟨v',rfl,ho,hb⟩;exact⟨[v'],rfl,hb,aRD rfl (aKS hY ho)⟩
 have aEL:z.cells.size=1:=by
  have:=congrArg List.length Pz;simpa using this
 cases A with
 |none =>
  have ha:a=[]:=by
   cases a with
   |nil=>rfl
   |cons x r=>obtain⟨b,off,h1,_⟩:=lA 0 x rfl;cases h1
  subst ha;refine(AnyE.slices_Clone_nil Ic 0 c w).mono ?_;rintro e w' ⟨rfl,rfl⟩;exact fin _ _ ⟨_,rfl,⟨rfl,.inl ⟨rfl,rfl⟩⟩,RowKit.Below.refl _ _⟩
 |some ad =>
  cases a with
  |nil =>
   refine(zero Ic i0 z _ hi hz hs aYT aEL z23 ad c w).mono ?_;rintro e w' ⟨v',rfl,ho,hb⟩;exact fin _ _ ⟨v',rfl,ho,hb⟩
  |cons x r =>
   obtain⟨b,off,h1,_⟩:=lA 0 x rfl;cases h1;refine(AnyE.slices_Clone Ic i0 z 1 _ hi hz hs aYT aEL (by decide) z23 b off (x :: r).length c ((x :: r).map (Value.int .u64)) w (by simp) (by unfold maxLen;omega) (by show(x :: r).length*8<=_;omega) ?_ ?_).mono ?_
   ·intro j u hj;rw[bYR]at hj;obtain⟨n,hn,rfl⟩:=Option.map_eq_some_iff.1 hj;obtain⟨b',bCT,h2,_,_,h3⟩:=lA j n hn;cases h2;exact h3
   ·intro u hu;obtain⟨n,_,rfl⟩:=List.mem_map.1 hu;rfl
   ·rintro e w' ⟨v',rfl,ho,_,hb⟩;exact fin _ _ ⟨v',rfl,ho,hb⟩
theorem bLP:xC prog 121:=wJ func121 rfl rfl
def aJ:dO:=orc1 (pI .u64) sp
theorem ok:nR prog base.glob 121 aJ:=by
 intro ds g rs hd hg;unfold aJ orc1 at hd;split at hd
 ·split at hd
  ·rename_i x hx;have hd:=Option.some.inj hd;have e1:g=(sp x).1:=by rw[hd]
   have e2:rs=(sp x).2:=by rw[hd]
   subst e1;subst e2;exact⟨(aNQ x hg).bIN ((pI .u64).le hx),bLP⟩
  ·cases hd
 ·cases hd
end Clone
namespace Ph
def E:=mE [(121,Clone.aJ)] 10 [] [] []
def aF:=bd f69
theorem aU:Nk E aF:=nk
theorem start a b c:aG E f69 aF [D.agg [sc (bool a),ints u64 b,sc (int i64 c)]]=aN (b.length<=1099511627776) (some [D.agg [sc (bool a),ints u64 b,sc (int i64 c)]]):=eJ aU
def sp(x:fB):Prop×List D:=(x.2.1.length<=1099511627776,[.agg [.sc (.bool x.1),.ints .u64 x.2.1,.sc (.int .i64 x.2.2)]])
theorem spec:iH E f69 aF jQ sp:=fun x h=>(start x.1 x.2.1 x.2.2).trans (gP h)
def aJ:dO:=orc1 jQ sp
theorem ok:OK 69 aJ:=(eI E aF (aA Clone.ok aD) func69).oV rfl spec
end Ph
namespace Ce
def E:=mE [] 21 [] [(2,[0,3])] []
def aF:=bd f174
theorem aU:Nk E aF:=nk
def L2 a b:=nU E f174 aF 2 [iY a,bJ b]
theorem start a:aG E f174 aF [D.s (ints u64 a)]=Ce.L2 a (a.length:Int):=eJ aU
theorem lE a b:L2 a b=letI B:=(a.length:Int);letI A:=ints u64 (cEH 0 (cEG b.toNat a));aC (decide (0<b)) (if 0<=i64.wrap (b-1)/\i64.wrap (b-1)<B then aC (a.getD (i64.wrap (b-1)).toNat 0==(0:Int)) (Ce.L2 a (i64.wrap (b-1))) (if(0:Int)<=(0:Int)/\0<=b/\b<=B then some [D.s A]else none)else none) (if(0:Int)<=(0:Int)/\0<=b/\b<=B then some [D.s A]else none):=lJ aU
def sp(a:List Int):Prop×List D:=(M6.bM a/\a.length<=1099511627776,[.s (.ints .u64 (M6.dg (M6.val a)))])
theorem L{xs:List Int}(hd:M6.bM xs)(hl:xs.length<=4398046511104):∀n:Nat,n<=xs.length->L2 xs n=some [D.s (.ints .u64 (M6.dg (M6.val (xs.take n))))]
 |0,h=>by
  rw[lE,aM,aR];simp[M6.val,M6.cL]
 |n+1,h=>by
  rw[lE];have e:i64.wrap (((n+1:Nat):Int)-1)=(n:Int):=by rw[wrap_i64];omega
  rw[e,aO,aR,cCJ]
  by_cases hz:xs.getD n 0=0
  ·rw[dU hz,L hd hl n (by omega),M6.mW (by omega),hz];simp
  ·rw[cP hz,aR,cCJ,cER];have:M6.cO (xs.take (n+1)):=M6.Bb (hd.take _) fun d hg=>by
    rw[M6.getLast_take (by omega)]at hg;cases hg;exact hz
   rw[<-this]
theorem spec:iH E f174 aF (pI .u64) sp:=by
 rintro a ⟨hd,hl⟩;refine(start a).trans ?_;rw[L hd (by omega) a.length (bYN _),cFF];rfl
def aJ:dO:=orc1 (pI .u64) sp
theorem ok:OK 174 aJ:=(eI E aF aD func174).oV rfl spec
end Ce
namespace dP
def E:=mE [(174,Ce.aJ)] 10 [5] [] []
def aF:=bd f171
theorem aU:Nk E aF:=nk
theorem start a:aG E f171 aF [D.s (ints u64 a)]=aN (M6.bM a/\a.length<=1099511627776) (aC (decide (8192<(↑(M6.dg (M6.val a)).length:Int))) (some [D.s (sc (slice none 0 0)),D.s (sc (int i64 5))]) (some [D.s (ints u64 (M6.dg (M6.val a))),D.s (sc (int i64 0))])):=eJ aU
def oQ(n:Nat):Bool:=decide ((M6.dg n).length<=8192)
def sp(a:List Int):Prop×List D:=(M6.bM a/\a.length<=1099511627776,[.s (.ints .u64 (bif oQ (M6.val a)then M6.dg (M6.val a)else [])),.s (.sc (.int .i64 (bif oQ (M6.val a)then 0 else 5)))])
theorem spec:aTO E f171 aF (pI .u64) sp:=by
 intro a h;have hl:=M6.lZ h.1;have h2:=h.2;have e:=(start a).trans (gP h);unfold sp oQ;simp only
 by_cases hc:(M6.dg (M6.val a)).length<=8192
 ·rw[aM]at e;rw[dqT hc];exact⟨_,e,iZ.refl _⟩
 ·rw[aO]at e;rw[dqF hc];exact⟨_,e,.cons (Df.nil _) (iZ.refl _)⟩
def aJ:dO:=orc1 (pI .u64) sp
theorem ok:OK 171 aJ:=(eI E aF (aA Ce.ok aD) func171).bGL rfl spec
end dP
namespace Hh
def aUC:ByteArray:=⟨((bZX 256).map fun n=>UInt8.ofNat (bl n)).toArray⟩
def E:=mE [] 25 [] [(4,[0,2]),(7,[0,2])] [4,7]
def aF:=bd f176
theorem aU:Nk E aF:=nk
def J4 a b:=lP E f176 aF 4 [dR a,bJ b]
def J7 a b:=lP E f176 aF 7 [dR a,bJ b]
theorem start a:aG E f176 aF [D.s (sc (int u64 a))]=aC (decide (4294967296<=a)) (Hh.J4 (a/4294967296) 32) (Hh.J4 a 0):=eJ aU
theorem aOY a b:J4 a b=aC (decide (65536<=a)) (Hh.J7 (a/65536) (i64.wrap (b+16))) (Hh.J7 a b):=cJ aU
theorem Hi a b:J7 a b=aC (decide (256<=a)) (if 0<=u8.wrap (a/256)/\u8.wrap (a/256)<256 then some [D.s (sc (int i64 (i64.wrap (i64.wrap (b+8)+i64.wrap (Je aUC (u8.wrap (a/256)))))))]else none) (if 0<=u8.wrap a/\u8.wrap a<256 then some [D.s (sc (int i64 (i64.wrap (b+i64.wrap (Je aUC (u8.wrap a))))))]else none):=cJ aU
theorem Sl:(bZX 256).all (fun n=>Je aUC (n:Nat)==(bl n:Nat))=true:=by kernel_rfl
theorem Sk{x:Int}(h:0<=x)(h':x<256):Je aUC x=(bl x.toNat:Nat):=by
 have:=List.all_eq_true.1 Sl x.toNat (List.mem_range.2 (by omega));rw[show((x.toNat:Nat):Int)=x from by omega]at this;exact eq_of_beq this
theorem wrap_u8{x:Int}(h:0<=x)(h':x<256):u8.wrap x=x:=by
 show(if(false&&decide (x%256>=128))=true then x%256-256 else x%256)=x;rw[Int.emod_eq_of_lt h h'];simp
theorem wM{x:Int}{k:Nat}(h:(2:Int)^k<=x):bl x.toNat=k+bl (x/2^k).toNat:=by
 have hp:(0:Int)<2^k:=Int.pow_pos (by omega);have bUB:((2^k:Nat):Int)=2^k:=by rw[Int.natCast_pow];rfl
 obtain⟨n,rfl⟩:=cDO (show 0<=x by omega);rw[<-bUB]at h ⊢;rw[<-cEA,cCJ,cCJ];have h1:=cDT n (2^k);have h2:=cAV n (cBM (n:=k) (show 0<2 by omega));have h3:n/2^k≠0:=by
  intro h0;have:=(Nat.div_eq_zero_iff_lt (cBM (n:=k) (show 0<2 by omega))).1 h0;omega
 have:=Bq h2 h3;rw[show n%2^k+2^k*(n/2^k)=n from by omega]at this;exact this
theorem bQQ{x n:Int}(h:0<=x)(h':x<65536)(hn:0<=n)(aGY:n<=1000):J7 x n=some [D.s (.sc (.int .i64 (n+(bl x.toNat:Nat))))]:=by
 rw[Hi]
 by_cases hc:256<=x
 ·have hb:bl (x/256).toNat<=8:=eF.2 (by omega);have hs:=wM (x:=x) (k:=8) (by omega);rw[show((2:Int)^8)=256 from rfl]at hs;rw[aO hc,wrap_u8 (by omega) (by omega),if_pos ⟨by omega,by omega⟩,Sk (by omega) (by omega),wrap_i64 (n:=n+8),wrap_i64 (n:=((bl (x/256).toNat:Nat):Int)) (by omega) (by omega),wrap_i64,hs];congr 5;omega
 ·have hb:bl x.toNat<=8:=eF.2 (by omega);rw[aM hc,wrap_u8 (by omega) (by omega),if_pos ⟨by omega,by omega⟩,Sk (by omega) (by omega),wrap_i64 (n:=(bl x.toNat:Int)),wrap_i64]
theorem bQS{x n:Int}(h:0<=x)(h':x<4294967296)(hn:0<=n)(aGY:n<=500):J4 x n=some [D.s (.sc (.int .i64 (n+(bl x.toNat:Nat))))]:=by
 rw[aOY]
 by_cases hc:65536<=x
 ·have hs:=wM (x:=x) (k:=16) (by omega);rw[show((2:Int)^16)=65536 from rfl]at hs;rw[aO hc,wrap_i64 (n:=n+16),bQQ (by omega) (by omega) (by omega) (by omega),hs];congr 5;omega
 ·rw[aM hc,bQQ (by omega) (by omega) (by omega) (by omega)]
def sp(a:Int):Prop×List D:=(0<=a/\a<18446744073709551616,[.s (.sc (.int .i64 (bl a.toNat:Nat)))])
theorem spec:iH E f176 aF (pN .u64) sp:=by
 rintro a ⟨h1,h2⟩;refine(start a).trans ?_;show _=some [D.s (.sc (.int .i64 (bl a.toNat:Nat)))]
 by_cases hc:4294967296<=a
 ·have hs:=wM (x:=a) (k:=32) (by omega);rw[show((2:Int)^32)=4294967296 from rfl]at hs;rw[aO hc,bQS (by omega) (by omega) (by omega) (by omega),hs];congr 5
 ·rw[aM hc,bQS (by omega) (by omega) (by omega) (by omega)];congr 5;omega
def aJ:dO:=orc1 (pN .u64) sp
theorem ok:OK 176 aJ:=(eI E aF aD func176).oV rfl spec
end Hh
namespace yL
def E:=mE [(174,Ce.aJ),(176,Hh.aJ)] 21 [] [] []
def aF:=bd f127
theorem aU:Nk E aF:=nk
theorem start a:aG E f127 aF [D.s (ints u64 a)]=letI B:=M6.dg (M6.val a);letI A:=(B.length:Int);letI C:=A-(1:Int);letI F:=i64.wrap C;aN (M6.bM a/\a.length<=1099511627776) (aC (A==(0:Int)) (some [D.s (sc (int i64 0))]) (if 0<=i64.wrap C/\i64.wrap C<A then aN (0<=B.getD F.toNat 0/\B.getD F.toNat 0<(18446744073709551616:Int)) (some [D.s (sc (int i64 (i64.wrap (i64.wrap ((64:Int)*i64.wrap C)+(↑(bl (B.getD F.toNat 0).toNat):Int)))))])else none)):=eJ aU
def sp(a:List Int):Prop×List D:=(M6.bM a/\a.length<=1099511627776,[.s (.sc (.int .i64 (bl (M6.val a):Nat)))])
theorem Fz(k:Nat):18446744073709551616^k=2^(64*k):=by rw[cFD]
theorem spec:iH E f127 aF (pI .u64) sp:=by
 intro a h;refine(start a).trans ((gP h).trans ?_);show _=some [D.s (.sc (.int .i64 (bl (M6.val a):Nat)))];have hl:=M6.lZ h.1;have h2:=h.2;have hn:=M6.bA (M6.val a);have hv:=M6.bD (M6.val a);generalize M6.dg (M6.val a)=d at *;rw[<-hv]
 by_cases hz:d.length=0
 ·rw[dU,(M6.cY hn).1 hz];rfl
 ·have hd:=hn.iA.get (d.length-1);have hv:=M6.bR (a:=d) (d.length-1);rw[show d.length-1+1=d.length from by omega,M6.cC (bYN _)]at hv;have ht:d.getD (d.length-1) 0≠0:=by
   have:=M6.getLast_take (a:=d) (n:=d.length-1) (by omega);rw[show d.length-1+1=d.length from by omega,cFF]at this;exact hn.top this
  have hb:bl (d.getD (d.length-1) 0).toNat<=64:=eF.2 (by omega);have e:((d.length:Int)-1).toNat=d.length-1:=by omega
  rw[cP,wrap_i64 (n:=(d.length:Int)-1),aR,e,gP hd,wrap_i64 (n:=64*((d.length:Int)-1)),wrap_i64,
   hv,Fz,Bq (by rw[<-Fz];exact M6.fY hn.iA _) (by omega)]
  congr 5;omega
def aJ:dO:=orc1 (pI .u64) sp
theorem ok:OK 127 aJ:=(eI E aF (aA Ce.ok (aA Hh.ok aD)) func127).oV rfl spec
end yL
namespace mI
def E:=mE [(167,iC.aJ),(171,dP.aJ),(127,yL.aJ)] 71 [68] [(12,[0,6,7,8,34,35])] []
def aF:=bd f122
theorem aU:Nk E aF:=nk
def bCC a b c (d:Nat) (e:List Int) f g:=nU E f122 aF 12 [iY a,bJ b,bJ c,Dg 3 d 22 e,bJ f,bJ g]
theorem start a b:aG E f122 aF [D.s (ints u64 a),D.s (sc (int i64 b))]=letI C:=(a.length:Int);letI B:=sc (slice none 0 0);letI A:=i64.wrap (i64.wrap (b.tdiv 64)+C)+1;aC (decide (b<0)) (some [D.s B,D.s (sc (int i64 1))]) (aN (a.length<=1099511627776) (aC (!iC.qR a) (some [D.s B,D.s (sc (int i64 2))]) (aC (C==(0:Int)) (some [D.s B,D.s (sc (int i64 0))]) (aN (M6.bM a/\a.length<=1099511627776) (aC (decide (i64.wrap ((524288:Int)-(↑(bl (M6.val a)):Int))<b)) (some [D.s B,D.s (sc (int i64 5))]) (if 0<=i64.wrap A/\i64.wrap A<=i64.wrap A/\i64.wrap A<=8796093022208 then mI.bCC a (i64.wrap (b.tdiv 64)) (b.tmod 64) (i64.wrap A).toNat (cAQ (i64.wrap A).toNat (0:Int)) C 0 else none)))))):=eJ aU
theorem aOT a b c d e f g:bCC a b c d e f g=letI A:=i64.wrap (b+g)+1;aC (decide (g<f)) (if 0<=i64.wrap (b+g)/\i64.wrap (b+g)<(d:Int)then if 0<=g/\g<(a.length:Int)then if c<0 then none else if 0<=i64.wrap (b+g)/\i64.wrap (b+g)<(d:Int)then if 0<=g/\g<(a.length:Int)then if i64.wrap ((63:Int)-c)<0 then none else if 0<=i64.wrap A/\i64.wrap A<(d:Int)then mI.bCC a b c d ((e.set (i64.wrap (b+g)).toNat (gR BinOp.or u64 (e.getD (i64.wrap (b+g)).toNat 0) (u64.wrap (a.getD g.toNat 0*(↑((2:Nat)^min c.toNat 64):Int))))).set (i64.wrap A).toNat (a.getD g.toNat 0/(2:Int)/(↑((2:Nat)^min (i64.wrap ((63:Int)-c)).toNat 64):Int))) f (i64.wrap (g+1))else none else none else none else none else none) (aN (M6.bM e/\e.length<=1099511627776) (some [D.s (ints u64 (bif dP.oQ (M6.val e)then M6.dg (M6.val e)else [])),D.s (sc (int i64 (bif dP.oQ (M6.val e)then(0:Int)else(5:Int))))])):=lJ aU
theorem step{a P:List Int}{c:Int}{q k i r:Nat}(ha:M6.bM a)(hP:P.length=q+i)(hi:i<a.length)(hl:a.length<=8192)(hq:q<=8192)(hk:k<64)(h0:0<=c)(h1:c<((2^k:Nat):Int))(hr:i+(r+1)=a.length) :
  bCC a q k (q+a.length+1) (P ++ c :: cAQ (r+1) 0) a.length i =
   bCC a q k (q+a.length+1) ((P ++ [c+(((a.getD i 0).toNat*2^k%18446744073709551616:Nat):Int)]) ++ (((a.getD i 0).toNat/2^(64-k):Nat):Int) :: cAQ r 0) a.length ((i+1:Nat):Int):=by
 have g:=ha.get i;have w1:i64.wrap ((q:Int)+i)=((q+i:Nat):Int):=by rw[wrap_i64];omega
 have w2:i64.wrap (((q+i:Nat):Int)+1)=((q+i+1:Nat):Int):=by rw[wrap_i64];omega
 have w3:i64.wrap (63-(k:Int))=((63-k:Nat):Int):=by rw[wrap_i64];omega
 have m1:min k 64=k:=by omega
 have m2:min (63-k) 64=63-k:=by omega
 have bDQ:2^k<2^64:=cFE (by omega) hk;obtain⟨x,hx⟩:=cDO g.1;rw[aOT,aO,w1,if_pos ⟨by omega,by omega⟩,if_pos ⟨by omega,by omega⟩,bI,if_pos ⟨by omega,by omega⟩,if_pos ⟨by omega,by omega⟩,w3,bI,w2,if_pos ⟨by omega,by omega⟩,
  cCJ,cCJ,cCJ,cCJ,cCJ,m1,m2,Ii hP,Ht hP,wrap_i64 (n:=(i:Int)+1),hx,cCJ]
 have Vv:u64.wrap ((x:Int)*((2^k:Nat):Int))=((x*2^k%18446744073709551616:Nat):Int):=by
  rw[gG,<-cEW,cFC];rfl
 have jM:x*2^k%18446744073709551616<18446744073709551616:=cAV _ (by omega);have bDT:gR .or .u64 c ((x*2^k%18446744073709551616:Nat):Int)=c+((x*2^k%18446744073709551616:Nat):Int):=by
  rw[aRC h0 (by generalize 2^k=p at *;omega) (by omega) (by omega),cCJ,Kg x k hk,Te (by omega)];omega
 have Uc:(x:Int)/2/((2^(63-k):Nat):Int)=((x/2^(64-k):Nat):Int):=by
  have e:2^(64-k)=2*2^(63-k):=by rw[show 64-k=(63-k)+1 from by omega,cDL,cDM]
  rw[e,<-cEB,cEA,cEA];rfl
 rw[Vv,bDT,Uc];have hs:=Ht (pre:=P ++ [c+((x*2^k%18446744073709551616:Nat):Int)]) (i:=q+i+1) (by simp[hP]) 0 ((x/2^(64-k):Nat):Int) (cAQ r 0);rw[cAI,cFG,<-cDV]at hs;rw[hs];rfl
theorem L{a:List Int}{q k:Nat}(ha:M6.cO a)(hl:a.length<=8192)(hq:q<=8192)(hk:k<64)(Xm:dP.oQ (M6.val a*2^k*18446744073709551616^q)=true):∀(r i:Nat) (P:List Int) (c:Int),i+r=a.length->P.length=q+i->M6.bM P->0<=c->c<((2^k:Nat):Int) ->
  M6.val P+18446744073709551616^(q+i)*c.toNat=18446744073709551616^q*(M6.val (a.take i)*2^k) ->
  bCC a q k (q+a.length+1) (P ++ c :: cAQ r 0) a.length i=some [D.s (.ints .u64 (M6.dg (M6.val a*2^k*18446744073709551616^q))),D.s (.sc (.int .i64 0))]:=by
 intro r;have bDQ:2^k<2^64:=cFE (by omega) hk
 induction r with
 |zero =>
  intro i P c hi hP hd h0 h1 hv;have aGU:M6.val (P ++ c :: cAQ 0 0)=M6.val a*2^k*18446744073709551616^q:=by
   rw[cEY,M6.kT,hP,hv,M6.cC (by omega),cDM]
  have aMC:M6.bM (P ++ c :: cAQ 0 0):=by
   rw[cEY];exact M6.kV hd ⟨h0,by generalize 2^k=p at *;omega⟩
  rw[aOT,aM,gP ⟨aMC,by simp;omega⟩,aGU,Xm];rfl
 |succ r ih =>
  intro i P c hi hP hd h0 h1 hv;have g:=ha.iA.get i;rw[step ha.iA hP (by omega) hl hq hk h0 h1 (by omega)];have jM:(a.getD i 0).toNat*2^k%18446744073709551616<18446744073709551616:=cAV _ (by omega);have aAZ:=Kg (a.getD i 0).toNat k hk;have aXU:=Hq (a.getD i 0).toNat k hk;have Uc:(a.getD i 0).toNat/2^(64-k)<2^k:=by
   apply cEF;rw[<-cDP,show 64-k+k=64 from by omega];omega
  have aRV:c.toNat+(a.getD i 0).toNat*2^k%18446744073709551616<18446744073709551616:=by
   rw[aAZ];have hm:(a.getD i 0).toNat%2^(64-k)<2^(64-k):=cAV _ (cD);have e:(18446744073709551616:Nat)=2^k*2^(64-k):=by rw[<-cDP,show k+(64-k)=64 from by omega]
   have h3:2^k*((a.getD i 0).toNat%2^(64-k)+1)<=2^k*2^(64-k):=cBB _ hm;rw[<-e,cDN]at h3;omega
  refine ih (i+1) _ _ (by omega) (by simp[hP];omega) (M6.kV hd ⟨by omega,by omega⟩) (by omega) (by omega) ?_;rw[M6.kT,hP,M6.bR,cCJ,show q+(i+1)=(q+i)+1 from by omega,cDL,cDQ];have e1:(c+(((a.getD i 0).toNat*2^k%18446744073709551616:Nat):Int)).toNat=c.toNat+(a.getD i 0).toNat*2^k%18446744073709551616:=by omega
  rw[e1];have e2:18446744073709551616^(q+i)*(c.toNat+(a.getD i 0).toNat*2^k%18446744073709551616)+18446744073709551616^(q+i)*(18446744073709551616*((a.getD i 0).toNat/2^(64-k)))=18446744073709551616^(q+i)*c.toNat+18446744073709551616^(q+i)*((a.getD i 0).toNat*2^k):=by
   rw[<-cDN,<-cDN];congr 1;omega
  have e3:18446744073709551616^q*((M6.val (a.take i)+18446744073709551616^i*(a.getD i 0).toNat)*2^k)=18446744073709551616^q*(M6.val (a.take i)*2^k)+18446744073709551616^(q+i)*((a.getD i 0).toNat*2^k):=by
   rw[Nat.add_mul,cDN,cDP,cDQ,cDQ]
  rw[e3];omega
def kU(n k:Nat):Bool:=decide (n=0)||decide (bl n+k<=524288)
def sp(a:List Int)(n:Int):Prop×List D:=(M6.cO a/\a.length<=8192/\0<=n/\n<4611686018427387904,[.s (.ints .u64 (bif kU (M6.val a) n.toNat then M6.dg (M6.val a*2^n.toNat)else [])),.s (.sc (.int .i64 (bif kU (M6.val a) n.toNat then 0 else 5)))])
theorem spec:Om E f122 aF (pI .u64) (pN .i64) sp:=by
 rintro a n ⟨ha,hl,h0,h1⟩;have e:=start a n;have hb:=De ha.iA hl;rw[aM,gP,iC.pP ha hl,cAN,bF]at e;unfold sp kU;simp only
 by_cases hz:a.length=0
 ·have hv:=(M6.cY ha).1 hz;rw[dU]at e;rw[hv,Nat.zero_mul,M6.cL,dqT rfl,cEJ];exact⟨_,e,.cons (Df.nil _) (iZ.refl _)⟩
 ·have hv:M6.val a≠0:=fun h=>hz ((M6.cY ha).2 h)
  rw[cP,gP ⟨ha.iA,by omega⟩,wrap_i64 (n:=524288-(bl (M6.val a):Int))]at e;rw[dqF hv,cAO]
  by_cases hc:bl (M6.val a)+n.toNat<=524288
  ·have bLM:=mY hv;have eq:n/64=((n.toNat/64:Nat):Int):=by omega
   have ek:n%64=((n.toNat%64:Nat):Int):=by omega
   rw[aM,aJO h0,aJJ h0,wrap_i64 (n:=n/64),wrap_i64 (n:=n/64+a.length),wrap_i64,if_pos ⟨by omega,by omega,by omega⟩,eq,ek,
    show(((n.toNat/64:Nat):Int)+(a.length:Int)+1).toNat=n.toNat/64+a.length+1 from by omega]at e
   have hval:M6.val a*2^n.toNat=M6.val a*2^(n.toNat%64)*18446744073709551616^(n.toNat/64):=by
    rw[Mg,cDQ,cDM (2^(n.toNat%64))]
   have Xm:dP.oQ (M6.val a*2^(n.toNat%64)*18446744073709551616^(n.toNat/64))=true:=by
    rw[<-hval];exact dqT (gI (k:=8192) (by rw[cDM,Ny hv];omega))
   have:=L (q:=n.toNat/64) (k:=n.toNat%64) ha hl (by omega) (by omega) Xm a.length 0 (cAQ (n.toNat/64) 0) 0 (by omega) (by simp) (M6.gU _) (by omega) (by have:=cBM (n:=n.toNat%64) (show 0<2 by omega);omega) (by rw[M6.iD];simp[M6.val]);rw[show(cAQ (n.toNat/64) (0:Int) ++ 0 :: cAQ a.length 0)=cAQ (n.toNat/64+a.length+1) 0 from by rw[<-cDV,List.replicate_append_replicate,cCD]]at this;rw[dqT hc,hval];exact⟨_,e.trans this,iZ.refl _⟩
  ·rw[aO]at e;rw[dqF hc];exact⟨_,e,.cons (Df.nil _) (iZ.refl _)⟩
def aJ:dO:=orc2 (pI .u64) (pN .i64) sp
theorem ok:OK 122 aJ:=(eI E aF (aA iC.ok (aA dP.ok (aA yL.ok aD))) func122).aIW rfl spec
end mI
namespace Fc
def E:=mE [] 13 [] [] []
def aF:=bd f116
theorem aU:Nk E aF:=nk
theorem start a b:aG E f116 aF [D.s (sc (bool a)),D.s (ints u64 b)]=aC a (some [D.agg [sc (bool (decide (0<(b.length:Int)))),ints u64 b]]) (some [D.agg [sc (bool false),ints u64 b]]):=eJ aU
def sp(a:Bool)(b:List Int):Prop×List D:=(M6.cO b/\b.length<=1099511627776,[wD (zs a (M6.val b))])
theorem spec:fF E f116 aF pB (pI .u64) sp:=by
 rintro a b ⟨hb,hl⟩;refine(start a b).trans ?_;show _=some [wD (zs a (M6.val b))];rw[aTZ,<-hb];cases a with
 |false=>rfl
 |true =>
  rw[bT,cBO];have:=M6.cY hb
  by_cases hz:b.length=0
  ·rw[dqF (show ¬(0<(b.length:Int)) by omega),dqF (show ¬(M6.val b≠0)from fun h=>h (this.1 hz))]
  ·rw[dqT (show(0<(b.length:Int)) by omega),dqT (show(M6.val b≠0)from fun h=>hz (this.2 h))]
def aJ:dO:=orc2 pB (pI .u64) sp
theorem ok:OK 116 aJ:=(eI E aF aD func116).jZ rfl spec
end Fc
namespace Ci
def E:=mE [(116,Fc.aJ)] 15 [] [] []
def aF:=bd f123
theorem aU:Nk E aF:=nk
theorem start a b c:aG E f123 aF [D.s (sc (bool a)),D.s (ints u64 b),D.s (sc (int i64 c))]=aC (c !=0) (some [D.agg [sc (bool false),sc (slice none 0 0)],D.s (sc (int i64 c))]) (aN (M6.cO b/\b.length<=1099511627776) (some [D.agg [sc (bool (isNeg (zs a (M6.val b)))),ints u64 (M6.dg (zs a (M6.val b)).natAbs)],D.s (sc (int i64 0))])):=eJ aU
def sp(a:Bool)(b:List Int)(c:Int):Prop×List D:=(M6.cO b/\b.length<=1099511627776,[wD (bif c==0 then zs a (M6.val b)else 0),.s (.sc (.int .i64 c))])
theorem spec:bAB E f123 aF pB (pI .u64) (pN .i64) sp:=by
 intro a b c h;have e:=start a b c;have hg:M6.cO b/\b.length<=1099511627776:=h;unfold sp;simp only
 by_cases hc:c=0
 ·subst hc;rw[gA rfl,gP hg]at e;exact⟨_,e,iZ.refl _⟩
 ·rw[oG hc]at e;rw[beq_eq_false_iff_ne.2 hc,cond_false];refine⟨_,e,.cons ?_ (iZ.refl _)⟩;unfold wD;rw[show(0:Int).natAbs=0 from rfl,M6.cL];exact Df.agg (.cons (Ez.refl _) (.cons (Ez.nil _) .nil))
def aJ:dO:=orc3 pB (pI .u64) (pN .i64) sp
theorem ok:OK 123 aJ:=(eI E aF (aA Fc.ok aD) func123).bIA rfl spec
end Ci
namespace Iz
def E:=mE [(112,gF.aJ),(122,mI.aJ),(123,Ci.aJ)] 29 [26] [] []
def aF:=bd f70
theorem aU:Nk E aF:=nk
theorem start a c b:aG E f70 aF [D.agg [sc (bool a),ints u64 c],D.s (sc (int i64 b))]=letI B:=bif mI.kU (M6.val c) b.toNat then(0:Int)else(5:Int);letI A:=bif mI.kU (M6.val c) b.toNat then M6.dg (M6.val c*(2:Nat)^b.toNat)else [];letI C:=bif B==0 then zs a (M6.val A)else(0:Int);aC (decide (b<0)) (some [D.agg [sc (bool false),sc (slice none 0 0)],D.s (sc (int i64 1))]) (aN (c.length<=1099511627776) (aC (!gF.pW (a,c)) (some [D.agg [sc (bool false),sc (slice none 0 0)],D.s (sc (int i64 2))]) (aN (M6.cO c/\c.length<=8192/\0<=b/\b<4611686018427387904) (aN (M6.cO A/\A.length<=1099511627776) (some [D.agg [sc (bool (isNeg C)),ints u64 (M6.dg C.natAbs)],D.s (sc (int i64 B))]))))):=eJ aU
theorem Kh(n k:Nat):mI.kU n k=fit (n*2^k):=by
 unfold mI.kU fit
 by_cases h:n=0
 ·subst h;rw[Nat.zero_mul];rfl
 ·rw[dqF h,cAO,cDM,Ny h,cEL]
def sp(x:Bool×List Int)(n:Int):Prop×List D:=(jA x/\0<=n/\n<4611686018427387904,wE (fit (M6.val x.2*2^n.toNat)) (wv x*((2^n.toNat:Nat):Int)))
theorem spec:fF E f70 aF qQ (pN .i64) sp:=by
 rintro x n ⟨hx,h0,h1⟩;refine(start x.1 x.2 n).trans ?_;have l1:=hx.len;have f1:=gF.mS hx;obtain⟨p,a⟩:=x;have n1:M6.cO a:=hx.1
 try dsimp only at *
 unfold sp
 try dsimp only
 have hs:wv (p,a)*((2^n.toNat:Nat):Int)=zs p (M6.val a*2^n.toNat):=by
  unfold wv zs;cases p with
  |true=>simp[Int.neg_mul]
  |false=>simp
 rw[aM,gP,f1,cAN,bF,gP ⟨n1,l1,h0,h1⟩,gP (Kq (fun h=>by rw[Kh]at h;exact zH h)),Kd,Kh,hs]
def aJ:dO:=orc2 qQ (pN .i64) sp
theorem ok:OK 70 aJ:=(eI E aF (aA gF.ok (aA mI.ok (aA Ci.ok aD))) func70).jZ rfl spec
end Iz
namespace wW
def E:=mE [(167,iC.aJ),(171,dP.aJ)] 65 [62] [(8,[0,1,6,7,30,31]),(3,[0,1]),(5,[0,1]),(13,[0,1,6,7,8,9,30,31])] [3,5,13]
def aF:=bd f124
theorem aU:Nk E aF:=nk
def J3 a b:=lP E f124 aF 3 [iY a,iY b]
def J5 a b:=lP E f124 aF 5 [iY a,iY b]
def L8 a b (c:Nat) (d:List Int) e f g:=nU E f124 aF 8 [iY a,iY b,Dg 2 c 22 d,dR e,bJ f,bJ g]
def Qv a b (c:Nat) (d:List Int) e f g x7 h:=lP E f124 aF 13 [iY a,iY b,Dg 2 c 22 d,dR e,bJ f,dR g,bJ x7,bJ h]
theorem start a b:aG E f124 aF [D.s (ints u64 a),D.s (ints u64 b)]=letI A:=some [D.s (sc (slice none 0 0)),D.s (sc (int i64 2))];aN (a.length<=1099511627776) (aC (!iC.qR a) A (aN (b.length<=1099511627776) (aC (!iC.qR b) A (wW.J3 a b)))):=eJ aU
theorem fH a b:J3 a b=aC (decide ((a.length:Int)<(b.length:Int))) (wW.J5 b a) (wW.J5 a b):=cJ aU
theorem aOX a b:J5 a b=letI A:=(a.length:Int);letI B:=A+(1:Int);if 0<=i64.wrap B/\i64.wrap B<=i64.wrap B/\i64.wrap B<=8796093022208 then wW.L8 a b (i64.wrap B).toNat (cAQ (i64.wrap B).toNat (0:Int)) 0 A 0 else none:=cJ aU
theorem yM a b c d e f g:L8 a b c d e f g=letI B:=(a.length:Int);letI A:=d.set B.toNat e;aC (decide (g<f)) (aC (decide (g<(b.length:Int))) (if 0<=g/\g<(b.length:Int)then wW.Qv a b c d e g (b.getD g.toNat 0) f g else none) (wW.Qv a b c d e g 0 f g)) (if 0<=B/\B<(c:Int)then aN (M6.bM A/\A.length<=1099511627776) (some [D.s (ints u64 (bif dP.oQ (M6.val A)then M6.dg (M6.val A)else [])),D.s (sc (int i64 (bif dP.oQ (M6.val A)then(0:Int)else(5:Int))))])else none):=lJ aU
theorem zZ a b c d e f g h i:Qv a b c d e f g h i=letI A:=a.getD f.toNat 0+g+e;if 0<=f/\f<(a.length:Int)then aN (0<=a.getD f.toNat 0/\0<=g/\0<=e/\e<=1) (if 0<=f/\f<(c:Int)then wW.L8 a b c (d.set f.toNat (A%18446744073709551616)) (A/18446744073709551616) h (i64.wrap (i+1))else none)else none:=cJ aU
theorem step{a b pre:List Int}{c:Int}{i k:Nat}(ha:M6.bM a)(hb:M6.bM b)(hp:pre.length=i)(hi:i<a.length)(hl:a.length<=8192)(h0:0<=c)(h1:c<=1) :
  L8 a b (i+(k+1)) (pre ++ cAQ (k+1) 0) c a.length i=L8 a b ((i+1)+k) ((pre ++ [(a.getD i 0+b.getD i 0+c)%18446744073709551616]) ++ cAQ k 0) ((a.getD i 0+b.getD i 0+c)/18446744073709551616) a.length ((i+1:Nat):Int):=by
 have g1:=ha.get i;have g2:=hb.get i;have hJ:∀y:Int,0<=y->Qv a b (i+(k+1)) (pre ++ cAQ (k+1) 0) c i y a.length i=L8 a b ((i+1)+k) ((pre ++ [(a.getD i 0+y+c)%18446744073709551616]) ++ cAQ k 0) ((a.getD i 0+y+c)/18446744073709551616) a.length ((i+1:Nat):Int):=by
  intro y hy;rw[zZ,aR,cCJ,gP ⟨g1.1,hy,h0,h1⟩,aR,Ba hp,wrap_i64,show i+(k+1)=(i+1)+k from by omega];rfl
 rw[yM,aO]
 by_cases h:i<b.length
 ·rw[aO,aR,cCJ,hJ _ g2.1]
 ·rw[aM,hJ 0 (by omega),M6.getD_none (a:=b) (by omega)]
theorem L{a b:List Int}(ha:M6.bM a)(hb:M6.bM b)(hl:a.length<=8192)(aSI:b.length<=a.length):∀(k i:Nat) (pre:List Int) (c:Int),i+k=a.length->pre.length=i->M6.bM pre->0<=c->c<=1 ->
  M6.val pre+18446744073709551616^i*c.toNat=M6.val (a.take i)+M6.val (b.take i) ->
  L8 a b (i+(k+1)) (pre ++ cAQ (k+1) 0) c a.length i=some [D.s (.ints .u64 (bif dP.oQ (M6.val a+M6.val b)then M6.dg (M6.val a+M6.val b)else [])),D.s (.sc (.int .i64 (bif dP.oQ (M6.val a+M6.val b)then 0 else 5)))]:=by
 intro k
 induction k with
 |zero =>
  intro i pre c hi hp hd h0 h1 hv;have bKS:i=a.length:=by omega
  subst bKS;have hs:(pre ++ cAQ (0+1) 0).set a.length c=pre ++ [c]:=by rw[Ba hp];simp
  have aGU:M6.val (pre ++ [c])=M6.val a+M6.val b:=by
   rw[M6.kT,hp,hv,M6.cC (bYN _),M6.cC (by omega)]
  rw[yM,aM,aR,cCJ,hs,aGU,gP ⟨M6.kV hd (by omega),by simp;omega⟩]
 |succ k ih =>
  intro i pre c hi hp hd h0 h1 hv;have g1:=ha.get i;have g2:=hb.get i;rw[step ha hb hp (by omega) hl h0 h1];refine ih (i+1) _ _ (by omega) (by simp[hp]) (M6.kV hd (by omega)) (by omega) (by omega) ?_;rw[M6.kT,M6.bR,M6.bR,hp,cDL,cDQ];generalize a.getD i 0=x at *;generalize b.getD i 0=y at *;generalize 18446744073709551616^i=B at *;have e:18446744073709551616*((x+y+c)/18446744073709551616).toNat+((x+y+c)%18446744073709551616).toNat=c.toNat+x.toNat+y.toNat:=by omega
  have e2:B*(18446744073709551616*((x+y+c)/18446744073709551616).toNat)+B*((x+y+c)%18446744073709551616).toNat=B*c.toNat+B*x.toNat+B*y.toNat:=by
   rw[<-cDN,e,cDN,cDN]
  omega
theorem bQR{a b:List Int}(ha:M6.bM a)(hb:M6.bM b)(hl:a.length<=8192)(aSI:b.length<=a.length):J5 a b=some [D.s (.ints .u64 (bif dP.oQ (M6.val a+M6.val b)then M6.dg (M6.val a+M6.val b)else [])),D.s (.sc (.int .i64 (bif dP.oQ (M6.val a+M6.val b)then 0 else 5)))]:=by
 rw[aOX,wrap_i64,if_pos ⟨by omega,by omega,by omega⟩,show((a.length:Int)+1).toNat=0+(a.length+1)from by omega];have:=L ha hb hl aSI a.length 0 [] 0 (by omega) rfl M6.lC (by omega) (by omega) (by simp[M6.val]);rw[cCP]at this;rw[show 0+(a.length+1)=a.length+1 from by omega]at this ⊢;exact this
def sp(a b:List Int):Prop×List D:=(M6.cO a/\M6.cO b/\a.length<=8192/\b.length<=8192,[.s (.ints .u64 (bif dP.oQ (M6.val a+M6.val b)then M6.dg (M6.val a+M6.val b)else [])),.s (.sc (.int .i64 (bif dP.oQ (M6.val a+M6.val b)then 0 else 5)))])
theorem spec:fF E f124 aF (pI .u64) (pI .u64) sp:=by
 rintro a b ⟨ha,hb,h1,h2⟩;refine(start a b).trans ?_;rw[gP,gP,iC.pP ha h1,iC.pP hb h2,cAN,bF,bF,fH]
 by_cases hl:a.length<b.length
 ·rw[aO,bQR hb.iA ha.iA h2 (by omega),cEL];rfl
 ·rw[aM,bQR ha.iA hb.iA h1 (by omega)];rfl
def aJ:dO:=orc2 (pI .u64) (pI .u64) sp
theorem ok:OK 124 aJ:=(eI E aF (aA iC.ok (aA dP.ok aD)) func124).jZ rfl spec
end wW
namespace Ch
def E:=mE [(174,Ce.aJ)] 47 [] [(7,[5,6,7])] []
def aF:=bd f125
theorem aU:Nk E aF:=nk
def L7 a b c:=nU E f125 aF 7 [iY a,iY b,bJ c]
theorem start a b:aG E f125 aF [D.s (ints u64 a),D.s (ints u64 b)]=letI B:=M6.dg (M6.val b);letI A:=(↑(M6.dg (M6.val a)).length:Int);aN (M6.bM a/\a.length<=1099511627776) (aN (M6.bM b/\b.length<=1099511627776) (aC (A !=(B.length:Int)) (aC (decide (A<(B.length:Int))) (some [D.s (sc (int i64 (-1:Int)))]) (some [D.s (sc (int i64 1))])) (Ch.L7 (M6.dg (M6.val a)) B (i64.wrap (A-(1:Int)))))):=eJ aU
theorem yN a b c:L7 a b c=aC (decide (0<=c)) (if 0<=c/\c<(a.length:Int)then if 0<=c/\c<(b.length:Int)then aC (a.getD c.toNat 0 !=b.getD c.toNat 0) (if 0<=c/\c<(a.length:Int)then if 0<=c/\c<(b.length:Int)then aC (decide (a.getD c.toNat 0<b.getD c.toNat 0)) (some [D.s (sc (int i64 (-1:Int)))]) (some [D.s (sc (int i64 1))])else none else none) (Ch.L7 a b (i64.wrap (c-1)))else none else none) (some [D.s (sc (int i64 0))]):=lJ aU
def sp(a b:List Int):Prop×List D:=(M6.bM a/\M6.bM b/\a.length<=1099511627776/\b.length<=1099511627776,[.s (.sc (.int .i64 (iW (M6.val a) (M6.val b))))])
theorem L{a b:List Int}(ha:M6.bM a)(hb:M6.bM b)(hl:a.length=b.length)(hm:a.length<=4398046511104):∀n:Nat,n<=a.length->L7 a b ((n:Int)-1)=some [D.s (.sc (.int .i64 (iW (M6.val (a.take n)) (M6.val (b.take n)))))]
 |0,_=>by
  rw[yN,aM];simp[iW,M6.val]
 |n+1,h=>by
  have e:(((n+1:Nat):Int)-1)=(n:Int):=by omega
  rw[e,yN,aO,aR,aR,aR,aR,cCJ,wrap_i64,L ha hb hl hm n (by omega)];have h1:=ha.get n;have h2:=hb.get n;have l1:=M6.fY ha n;have l2:=M6.fY hb n;rw[M6.bR,M6.bR];generalize a.getD n 0=x at *;generalize b.getD n 0=y at *;generalize M6.val (a.take n)=u at *;generalize M6.val (b.take n)=v at *;generalize 18446744073709551616^n=B at *
  by_cases aPO:x<y
  ·rw[oG,aO aPO];have:B*x.toNat+B<=B*y.toNat:=by
    have:B*(x.toNat+1)<=B*y.toNat:=cBB _ (by omega);rw[cDN]at this;omega
   unfold iW;rw[aR]
  ·by_cases bJE:y<x
   ·rw[oG,aM aPO];have:B*y.toNat+B<=B*x.toNat:=by
     have:B*(y.toNat+1)<=B*x.toNat:=cBB _ (by omega);rw[cDN]at this;omega
    unfold iW;rw[bI,aR]
   ·have:x=y:=by omega
    subst this;rw[gA rfl,Yt]
theorem spec:fF E f125 aF (pI .u64) (pI .u64) sp:=by
 rintro a b ⟨ha,hb,h1,h2⟩;refine(start a b).trans ?_;have la:=M6.lZ ha;have lb:=M6.lZ hb;rw[gP ⟨ha,h1⟩,gP ⟨hb,h2⟩];show _=some [D.s (.sc (.int .i64 (iW (M6.val a) (M6.val b))))];have na:=M6.bA (M6.val a);have nb:=M6.bA (M6.val b);have va:=M6.bD (M6.val a);have vb:=M6.bD (M6.val b);rw[<-va,<-vb];generalize M6.dg (M6.val a)=x at *;generalize M6.dg (M6.val b)=y at *;have e1:=M6.Tj na;have e2:=M6.Tj nb;rw[e1,e2]
 by_cases hl:x.length=y.length
 ·rw[gA,wrap_i64,L na.iA nb.iA hl (by omega) x.length (bYN _),M6.cC (bYN _),M6.cC (by omega)]
 ·rw[oG]
  by_cases jM:x.length<y.length
  ·have:=M6.oB na.iA nb jM;rw[aO];unfold iW;rw[if_pos this]
  ·have:=M6.oB nb.iA na (by omega);rw[aM];unfold iW;rw[bI,if_pos this]
def aJ:dO:=orc2 (pI .u64) (pI .u64) sp
theorem ok:OK 125 aJ:=(eI E aF (aA Ce.ok aD) func125).jZ rfl spec
end Ch
namespace vK
def E:=mE [(167,iC.aJ),(171,dP.aJ),(125,Ch.aJ)] 56 [53] [(8,[0,1,6,7,26,27]),(3,[0,1]),(13,[0,1,6,7,8,9,26,27])] [3,13]
def aF:=bd f126
theorem aU:Nk E aF:=nk
def J3 a b:=lP E f126 aF 3 [iY a,iY b]
def L8 a b (c:Nat) (d:List Int) e f g:=nU E f126 aF 8 [iY a,iY b,Dg 2 c 22 d,dR e,bJ f,bJ g]
def Qv a b (c:Nat) (d:List Int) e f g x7 h:=lP E f126 aF 13 [iY a,iY b,Dg 2 c 22 d,dR e,bJ f,dR g,bJ x7,bJ h]
theorem start a b:aG E f126 aF [D.s (ints u64 a),D.s (ints u64 b)]=letI A:=some [D.s (sc (slice none 0 0)),D.s (sc (int i64 2))];aN (a.length<=1099511627776) (aC (!iC.qR a) A (aN (b.length<=1099511627776) (aC (!iC.qR b) A (vK.J3 a b)))):=eJ aU
theorem fH a b:J3 a b=letI A:=(a.length:Int);aN (M6.bM a/\M6.bM b/\a.length<=1099511627776/\b.length<=1099511627776) (aC (decide (iW (M6.val a) (M6.val b)<0)) (some [D.s (sc (slice none 0 0)),D.s (sc (int i64 3))]) (if 0<=A/\A<=A/\A<=(8796093022208:Int)then vK.L8 a b A.toNat (cAQ A.toNat (0:Int)) 0 A 0 else none)):=cJ aU
theorem yM a b c d e f g:L8 a b c d e f g=aC (decide (g<f)) (aC (decide (g<(b.length:Int))) (if 0<=g/\g<(b.length:Int)then vK.Qv a b c d e g (b.getD g.toNat 0) f g else none) (vK.Qv a b c d e g 0 f g)) (aN (M6.bM d/\d.length<=1099511627776) (some [D.s (ints u64 (bif dP.oQ (M6.val d)then M6.dg (M6.val d)else [])),D.s (sc (int i64 (bif dP.oQ (M6.val d)then(0:Int)else(5:Int))))])):=lJ aU
theorem zZ a b c d e f g h i:Qv a b c d e f g h i=if 0<=f/\f<(a.length:Int)then aN (0<=a.getD f.toNat 0/\0<=g/\g<18446744073709551616/\0<=e/\e<=1) (if 0<=f/\f<(c:Int)then vK.L8 a b c (d.set f.toNat ((a.getD f.toNat 0-g-e)%18446744073709551616)) (if a.getD f.toNat 0<g+e then(1:Int)else(0:Int)) h (i64.wrap (i+1))else none)else none:=cJ aU
theorem step{a b pre:List Int}{o:Int}{i k:Nat}(ha:M6.bM a)(hb:M6.bM b)(hp:pre.length=i)(hi:i<a.length)(hl:a.length<=8192)(h0:0<=o)(h1:o<=1) :
  L8 a b (i+(k+1)) (pre ++ cAQ (k+1) 0) o a.length i=L8 a b ((i+1)+k) ((pre ++ [(a.getD i 0-b.getD i 0-o)%18446744073709551616]) ++ cAQ k 0) (if a.getD i 0<b.getD i 0+o then 1 else 0) a.length ((i+1:Nat):Int):=by
 have g1:=ha.get i;have g2:=hb.get i;have hJ:∀y:Int,0<=y->y<18446744073709551616->Qv a b (i+(k+1)) (pre ++ cAQ (k+1) 0) o i y a.length i=L8 a b ((i+1)+k) ((pre ++ [(a.getD i 0-y-o)%18446744073709551616]) ++ cAQ k 0) (if a.getD i 0<y+o then 1 else 0) a.length ((i+1:Nat):Int):=by
  intro y hy bJH;rw[zZ,aR,cCJ,gP ⟨g1.1,hy,bJH,h0,h1⟩,aR,Ba hp,wrap_i64,show i+(k+1)=(i+1)+k from by omega];rfl
 rw[yM,aO]
 by_cases h:i<b.length
 ·rw[aO,aR,cCJ,hJ _ g2.1 g2.2]
 ·rw[aM,hJ 0 (by omega) (by omega),M6.getD_none (a:=b) (by omega)]
theorem L{a b:List Int}(ha:M6.bM a)(hb:M6.bM b)(hl:a.length<=8192)(aMH:b.length<=a.length)(aSI:M6.val b<=M6.val a):∀(k i:Nat) (pre:List Int) (o:Int),i+k=a.length->pre.length=i->M6.bM pre->0<=o->o<=1 ->
  M6.val pre+M6.val (b.take i)=M6.val (a.take i)+18446744073709551616^i*o.toNat ->
  L8 a b (i+k) (pre ++ cAQ k 0) o a.length i=some [D.s (.ints .u64 (M6.dg (M6.val a-M6.val b))),D.s (.sc (.int .i64 0))]:=by
 intro k
 induction k with
 |zero =>
  intro i pre o hi hp hd h0 h1 hv;have aXQ:=M6.cR hd;rw[hp]at aXQ;rw[M6.cC (by omega),M6.cC (by omega)]at hv;have:o=0:=by
   by_cases ho:o=0
   ·exact ho
   ·exfalso;have:o=1:=by omega
    subst this;rw[show(1:Int).toNat=1 from rfl,Nat.mul_one]at hv;omega
  subst this;simp only[cGF,cFH,bZO]at hv;have hlen:=M6.lZ hd;have Xm:dP.oQ (M6.val pre)=true:=dqT (by omega);rw[yM,aM,cEY,cEK,gP ⟨hd,by omega⟩,Xm,cond_true,cond_true,show M6.val pre=M6.val a-M6.val b from by omega]
 |succ k ih =>
  intro i pre o hi hp hd h0 h1 hv;have g1:=ha.get i;have g2:=hb.get i;rw[step ha hb hp (by omega) hl h0 h1];refine ih (i+1) _ _ (by omega) (by simp[hp]) (M6.kV hd (by omega)) (by split <;> omega) (by split <;> omega) ?_;rw[M6.kT,M6.bR,M6.bR,hp,cDL,cDQ];generalize a.getD i 0=x at *;generalize b.getD i 0=y at *;have e:((x-y-o)%18446744073709551616).toNat+y.toNat+o.toNat=x.toNat+18446744073709551616*(if x<y+o then 1 else 0:Int).toNat:=by split <;> omega
  generalize 18446744073709551616^i=B at *;have e2:=congrArg (B*·) e;simp only[cDN]at e2;omega
def sp(a b:List Int):Prop×List D:=(M6.cO a/\M6.cO b/\a.length<=8192/\b.length<=8192,[.s (.ints .u64 (M6.dg (M6.val a-M6.val b))),.s (.sc (.int .i64 (if M6.val a<M6.val b then 3 else 0)))])
theorem spec:Om E f126 aF (pI .u64) (pI .u64) sp:=by
 rintro a b ⟨ha,hb,h1,h2⟩;have e:=start a b;rw[gP,gP,iC.pP ha h1,iC.pP hb h2,cAN,bF,bF,fH,gP ⟨ha.iA,hb.iA,by omega,by omega⟩]at e;unfold sp;simp only
 by_cases hc:M6.val a<M6.val b
 ·rw[aO (by unfold iW;rw[if_pos hc];omega)]at e;rw[if_pos hc,show M6.val a-M6.val b=0 from by omega,M6.cL];exact⟨_,e,.cons (Df.nil _) (iZ.refl _)⟩
 ·have aMH:b.length<=a.length:=by
   rcases bZC a.length b.length with h |h
   ·have:=M6.oB ha.iA hb h;omega
   ·exact h
  have:=L ha.iA hb.iA h1 aMH (by omega) a.length 0 [] 0 (by omega) rfl M6.lC (by omega) (by omega) (by simp[M6.val]);rw[aM (by unfold iW;rw[if_neg hc];split <;> omega),if_pos ⟨by omega,by omega,by omega⟩,cCJ]at e;rw[cCP,show 0+a.length=a.length from by omega]at this;rw[if_neg hc];exact⟨_,e.trans this,iZ.refl _⟩
def aJ:dO:=orc2 (pI .u64) (pI .u64) sp
theorem ok:OK 126 aJ:=(eI E aF (aA iC.ok (aA dP.ok (aA Ch.ok aD))) func126).aIW rfl spec
end vK
namespace Hg
def E:=mE [(112,gF.aJ),(124,wW.aJ),(125,Ch.aJ),(126,vK.aJ),(123,Ci.aJ)] 62 [36,59] [(3,[2,3,4]),(8,[2,3,4])] [3,8]
def aF:=bd f71
theorem aU:Nk E aF:=nk
def J3 a b c d e:=lP E f71 aF 3 [bK 0 27 [bC a,eR b],bK 1 27 [bC c,eR d],bK 2 27 [bC e,sc (slice none 0 0)]]
def J8 a b c d e:=lP E f71 aF 8 [bK 0 27 [bC a,eR b],bK 1 27 [bC c,eR d],bK 2 27 [bC e,sc (slice none 0 0)]]
theorem start a b c d:aG E f71 aF [D.agg [sc (bool a),ints u64 b],D.agg [sc (bool c),ints u64 d]]=letI A:=some [D.agg [sc (bool false),sc (slice none 0 0)],D.s (sc (int i64 2))];aN (b.length<=1099511627776) (aC (!gF.pW (a,b)) A (aN (d.length<=1099511627776) (aC (!gF.pW (c,d)) A (Hg.J3 a b c d false)))):=eJ aU
theorem fH a b c d e:J3 a b c d e=letI F:=M6.val b+M6.val d;letI B:=bif dP.oQ F then(0:Int)else(5:Int);letI A:=bif dP.oQ F then M6.dg F else [];letI C:=bif B==0 then zs a (M6.val A)else(0:Int);aC (a==c) (aN (M6.cO b/\M6.cO d/\b.length<=8192/\d.length<=8192) (aN (M6.cO A/\A.length<=1099511627776) (some [D.agg [sc (bool (isNeg C)),ints u64 (M6.dg C.natAbs)],D.s (sc (int i64 B))]))) (aN (M6.bM b/\M6.bM d/\b.length<=1099511627776/\d.length<=1099511627776) (aC (decide (iW (M6.val b) (M6.val d)<0)) (Hg.J8 c d a b e) (Hg.J8 a b c d e))):=cJ aU
theorem Al a b c d e:J8 a b c d e=letI B:=M6.dg (M6.val b-M6.val d);letI A:=bif (if M6.val b<M6.val d then(3:Int)else(0:Int))==0 then zs a (M6.val B)else(0:Int);aN (M6.cO b/\M6.cO d/\b.length<=8192/\d.length<=8192) (aN (M6.cO B/\B.length<=1099511627776) (some [D.agg [sc (bool (isNeg A)),ints u64 (M6.dg A.natAbs)],D.s (sc (int i64 (if M6.val b<M6.val d then(3:Int)else(0:Int))))])):=cJ aU
theorem aEH(n:Nat):dP.oQ n=fit n:=Cx
def sp(x y:Bool×List Int):Prop×List D:=(jA x/\jA y,wE (fit (wv x+wv y).natAbs) (wv x+wv y))
theorem spec:fF E f71 aF qQ qQ sp:=by
 rintro x y ⟨hx,hy⟩;refine(start x.1 x.2 y.1 y.2).trans ?_;have l1:=hx.len;have l2:=hy.len;have f1:=gF.mS hx;have f2:=gF.mS hy;have b1:=hx.bl;have b2:=hy.bl;obtain⟨p,a⟩:=x;obtain⟨q,b⟩:=y;have n1:M6.cO a:=hx.1;have n2:M6.cO b:=hy.1
 try dsimp only at *
 unfold sp
 try dsimp only
 rw[gP,f1,cAN,bF,gP,f2,cAN,bF,fH];have one:∀(s:Bool) (m n:Nat),n<=m->bl m<=524288->some [D.agg [S.sc (.bool (isNeg (bif (if m<n then(3:Int)else 0)==0 then zs s (M6.val (M6.dg (m-n)))else 0))),S.ints .u64 (M6.dg (bif (if m<n then(3:Int)else 0)==0 then zs s (M6.val (M6.dg (m-n)))else 0).natAbs)],D.s (S.sc (.int .i64 (if m<n then 3 else 0)))]=some (wE (fit (zs s (m-n)).natAbs) (zs s (m-n))):=by
  intro s m n h hb;have:fit (zs s (m-n)).natAbs=true:=by
   rw[nM];exact dqT (bZJ (gD (cEV _ _)) hb)
  rw[bI,this,show((0:Int)==0)=true from rfl,cond_true,M6.bD];rfl
 by_cases he:p=q
 ·subst he;have hs:wv (p,a)+wv (p,b)=zs p (M6.val a+M6.val b):=by
   unfold wv zs;cases p <;> simp <;> omega
  rw[Uw (by simp),gP ⟨n1,n2,l1,l2⟩,gP (Kq (fun h=>by rw[aEH]at h;exact zH h)),Kd,aEH,hs,nM]
 ·rw[Nz (by simpa using he),gP ⟨n1.iA,n2.iA,by omega,by omega⟩]
  by_cases hc:M6.val b<=M6.val a
  ·have hs:wv (p,a)+wv (q,b)=zs p (M6.val a-M6.val b):=by
    unfold wv zs;cases p <;> cases q <;> simp_all <;> omega
   have l3:=gI (n:=M6.val a-M6.val b) (k:=8192) (bZJ (gD (cEV _ _)) b1);rw[aM (by have:=Lc.2 hc;omega),Al,gP ⟨n1,n2,l1,l2⟩,gP ⟨M6.bA _,by omega⟩,hs,one _ _ _ hc b1]
  ·have hs:wv (p,a)+wv (q,b)=zs q (M6.val b-M6.val a):=by
    unfold wv zs;cases p <;> cases q <;> simp_all <;> omega
   have l3:=gI (n:=M6.val b-M6.val a) (k:=8192) (bZJ (gD (cEV _ _)) b2);rw[aO (by have:=(not_congr Lc).2 hc;omega),Al,gP ⟨n2,n1,l2,l1⟩,gP ⟨M6.bA _,by omega⟩,hs,one _ _ _ (by omega) b2]
def aJ:dO:=orc2 qQ qQ sp
theorem ok:OK 71 aJ:=(eI E aF (aA gF.ok (aA wW.ok (aA Ch.ok (aA vK.ok (aA Ci.ok aD))))) func71).jZ rfl spec
end Hg
namespace aZZ
def E:=mE [] 14 [] [] []
def aF:=bd f170
theorem aU:Nk E aF:=nk
theorem start a:aG E f170 aF [D.s (sc (int u64 a))]=letI A:=gR BinOp.and u64 a (u64.wrap ((0:Int)-a))*285870213051353865;aC (a==0) (some [D.s (sc (int i64 64))]) (if 0<=u64.wrap A/288230376151711744/\u64.wrap A/288230376151711744<(64:Int)then some [D.s (sc (int i64 (i64.wrap ([(0:Int),(1:Int),(56:Int),(2:Int),(57:Int),(49:Int),(28:Int),(3:Int),(61:Int),(58:Int),(42:Int),(50:Int),(38:Int),(29:Int),(17:Int),(4:Int),(62:Int),(47:Int),(59:Int),(36:Int),(45:Int),(43:Int),(51:Int),(22:Int),(53:Int),(39:Int),(33:Int),(30:Int),(24:Int),(18:Int),(12:Int),(5:Int),(63:Int),(55:Int),(48:Int),(27:Int),(60:Int),(41:Int),(37:Int),(16:Int),(46:Int),(35:Int),(44:Int),(21:Int),(52:Int),(32:Int),(23:Int),(11:Int),(54:Int),(26:Int),(40:Int),(15:Int),(34:Int),(20:Int),(31:Int),(10:Int),(25:Int),(14:Int),(19:Int),(9:Int),(13:Int),(8:Int),(7:Int),(6:Int)].getD (u64.wrap A/288230376151711744).toNat 0))))]else none):=eJ aU
def aUC:List Int:=[0,1,56,2,57,49,28,3,61,58,42,50,38,29,17,4,62,47,59,36,45,43,51,22,53,39,33,30,24,18,12,5,63,55,48,27,60,41,37,16,46,35,44,21,52,32,23,11,54,26,40,15,34,20,31,10,25,14,19,9,13,8,7,6]
theorem Sl:(bZX 64).all (fun k=>aUC.getD (((2^k*285870213051353865%18446744073709551616:Nat):Int)/288230376151711744).toNat 0==(k:Int))=true:=by kernel_rfl
theorem Sk{k:Nat}(h:k<64):aUC.getD (((2^k*285870213051353865%18446744073709551616:Nat):Int)/288230376151711744).toNat 0=(k:Int):=eq_of_beq (List.all_eq_true.1 Sl k (List.mem_range.2 h))
def sp(a:Int):Prop×List D:=(0<=a/\a<18446744073709551616,[.s (.sc (.int .i64 (if a=0 then 64 else(tz a.toNat:Int))))])
theorem spec:iH E f170 aF (pN .u64) sp:=by
 rintro a ⟨h1,h2⟩;refine(start a).trans ?_;show _=some [D.s (.sc (.int .i64 (if a=0 then 64 else(tz a.toNat:Int))))]
 by_cases hz:a=0
 ·rw[dU hz,if_pos hz]
 ·have jM:tz a.toNat<64:=by
   have:=aJB (n:=a.toNat) (by omega);rcases bZC (tz a.toNat) 64 with h |h
   ·exact h
   ·have h3:2^64<=2^tz a.toNat:=cBN (by omega) h;omega
  have ew:u64.wrap (0-a)=18446744073709551616-a:=by rw[gG];omega
  have el:gR .and .u64 a (u64.wrap (0-a))=((2^tz a.toNat:Nat):Int):=by
   rw[ew,Zc h1 h2 (by omega) (by omega),Xh 64 a.toNat (18446744073709551616-a).toNat (by omega) (by omega) (by omega)]
  have em:u64.wrap (((2^tz a.toNat:Nat):Int)*285870213051353865)=((2^tz a.toNat*285870213051353865%18446744073709551616:Nat):Int):=by
   rw[gG];generalize 2^tz a.toNat=p;omega
  have ht:=Sk jM;have hm:2^tz a.toNat*285870213051353865%18446744073709551616<18446744073709551616:=cAV _ (by omega);rw[cP hz,if_neg hz,el,em];generalize 2^tz a.toNat*285870213051353865%18446744073709551616=q at *;rw[if_pos ⟨by omega,by omega⟩];have e3:([0,1,56,2,57,49,28,3,61,58,42,50,38,29,17,4,62,47,59,36,45,43,51,22,53,39,33,30,24,18,12,5,63,55,48,27,60,41,37,16,46,35,44,21,52,32,23,11,54,26,40,15,34,20,31,10,25,14,19,9,13,8,7,6]:List Int)=aUC:=rfl;rw[e3,ht,wrap_i64]
def aJ:dO:=orc1 (pN .u64) sp
theorem ok:OK 170 aJ:=(eI E aF aD func170).oV rfl spec
end aZZ
namespace Fb
def E:=mE [(170,aZZ.aJ)] 23 [] [(2,[0,5,6])] []
def aF:=bd f114
theorem aU:Nk E aF:=nk
def L2 a b c:=nU E f114 aF 2 [iY a,bJ b,bJ c]
theorem start a:aG E f114 aF [D.s (ints u64 a)]=Fb.L2 a (a.length:Int) 0:=eJ aU
theorem lE a b c:L2 a b c=aC (decide (c<b)) (if 0<=c/\c<(a.length:Int)then aC (a.getD c.toNat 0 !=(0:Int)) (if 0<=c/\c<(a.length:Int)then aN (0<=a.getD c.toNat 0/\a.getD c.toNat 0<(18446744073709551616:Int)) (some [D.s (sc (int i64 (i64.wrap (i64.wrap ((64:Int)*c)+if a.getD c.toNat 0=(0:Int)then(64:Int)else(↑(tz (a.getD c.toNat 0).toNat):Int)))))])else none) (Fb.L2 a b (i64.wrap (c+1)))else none) (some [D.s (sc (int i64 0))]):=lJ aU
def sp(a:List Int):Prop×List D:=(M6.bM a/\a.length<=1099511627776,[.s (.sc (.int .i64 (tz (M6.val a):Nat)))])
theorem L{a:List Int}(ha:M6.bM a)(hl:a.length<=1099511627776):∀(d i:Nat),i+d=a.length->L2 a a.length i=some [D.s (.sc (.int .i64 (if M6.val (a.drop i)=0 then 0 else(((64*i+tz (M6.val (a.drop i)):Nat)):Int))))]:=by
 intro d
 induction d with
 |zero =>
  intro i hi;rw[lE,aM,cDZ (by omega)];rfl
 |succ d ih =>
  intro i hi;have g:=ha.get i;have hv:=M6.gH (a:=a) i;have bUW:=ih (i+1) (by omega);rw[lE,aO,aR,cCJ,aR,gP g,wrap_i64 (n:=(i:Int)+1),wrap_i64 (n:=64*(i:Int)),show(i:Int)+1=((i+1:Nat):Int)from by omega,bUW];generalize a.getD i 0=x at *;rw[hv]
  by_cases hz:x=0
  ·subst hz;rw[gA rfl];simp only[cGF,bYP]
   by_cases aXM:M6.val (a.drop (i+1))=0
   ·rw[if_pos aXM,aR]
   ·have:=Zz aXM 64;rw[show(2:Nat)^64=18446744073709551616 from rfl]at this;rw[if_neg aXM,bI,this];congr 5;omega
  ·have ht:=aJB (n:=x.toNat) (by omega);have bGX:tz x.toNat<64:=by
    rcases bZC (tz x.toNat) 64 with h |h
    ·exact h
    ·have h3:2^64<=2^tz x.toNat:=cBN (by omega) h;omega
   have:=aVY (r:=x.toNat) (k:=64) (n:=M6.val (a.drop (i+1))) (by omega) (by omega);rw[show(2:Nat)^64=18446744073709551616 from rfl]at this;rw[oG hz,if_neg hz,bI,this,wrap_i64];congr 5
theorem spec:iH E f114 aF (pI .u64) sp:=by
 rintro a ⟨ha,hl⟩;refine(start a).trans ?_;have:=L ha hl a.length 0 (by omega);rw[show(0:Int)=((0:Nat):Int)from rfl,this,cER];show _=some [D.s (.sc (.int .i64 (tz (M6.val a):Nat)))]
 by_cases hz:M6.val a=0
 ·rw[if_pos hz,hz];simp[tz]
 ·rw[if_neg hz];congr 5;omega
def aJ:dO:=orc1 (pI .u64) sp
theorem ok:OK 114 aJ:=(eI E aF (aA aZZ.ok aD) func114).oV rfl spec
end Fb
namespace Hf
def E:=mE [(167,iC.aJ),(171,dP.aJ)] 73 [70] [(10,[0,6,7,8,29,30])] []
def aF:=bd f115
theorem aU:Nk E aF:=nk
def Ja a b c (d:Nat) (e:List Int) f g:=nU E f115 aF 10 [iY a,bJ b,bJ c,Dg 3 d 22 e,bJ f,bJ g]
theorem start a b:aG E f115 aF [D.s (ints u64 a),D.s (sc (int i64 b))]=letI G:=b.tdiv 64;letI C:=sc (slice none 0 0);letI A:=(a.length:Int);letI B:=A-i64.wrap G;letI F:=i64.wrap B;aC (decide (b<0)) (some [D.s C,D.s (sc (int i64 1))]) (aN (a.length<=1099511627776) (aC (!iC.qR a) (some [D.s C,D.s (sc (int i64 2))]) (aC (decide (A<=i64.wrap G)) (some [D.s C,D.s (sc (int i64 0))]) (if 0<=i64.wrap B/\i64.wrap B<=i64.wrap B/\i64.wrap B<=8796093022208 then Hf.Ja a (i64.wrap G) (b.tmod 64) F.toNat (cAQ F.toNat (0:Int)) (F.toNat:Int) 0 else none)))):=eJ aU
theorem tI a b c d e f g:Ja a b c d e f g=letI C:=(a.length:Int);letI B:=i64.wrap (b+g)+1;letI A:=e.set g.toNat (a.getD (i64.wrap (b+g)).toNat 0/(↑((2:Nat)^min c.toNat 64):Int));aC (decide (g<f)) (if 0<=i64.wrap (b+g)/\i64.wrap (b+g)<C then if c<0 then none else if 0<=g/\g<(d:Int)then aC (decide (i64.wrap B<C)) (if 0<=g/\g<(d:Int)then if 0<=i64.wrap B/\i64.wrap B<C then if i64.wrap ((63:Int)-c)<0 then none else if 0<=g/\g<(d:Int)then Hf.Ja a b c d (A.set g.toNat (gR BinOp.or u64 (A.getD g.toNat 0) (u64.wrap (u64.wrap (a.getD (i64.wrap B).toNat 0*(2:Int))*(↑((2:Nat)^min (i64.wrap ((63:Int)-c)).toNat 64):Int))))) f (i64.wrap (g+1))else none else none else none) (Hf.Ja a b c d A f (i64.wrap (g+1)))else none else none) (aN (M6.bM e/\e.length<=1099511627776) (some [D.s (ints u64 (bif dP.oQ (M6.val e)then M6.dg (M6.val e)else [])),D.s (sc (int i64 (bif dP.oQ (M6.val e)then(0:Int)else(5:Int))))])):=lJ aU
theorem aBJ(a:List Int)(q i:Nat):(a.drop q).getD i 0=a.getD (q+i) 0:=by
 simp[cDR,bYZ]
theorem high{x k:Nat}(h:k<64):x*2^(64-k)%18446744073709551616=2^(64-k)*(x%2^k):=by
 rw[show(18446744073709551616:Nat)=2^(64-k)*2^k from by rw[<-cDP,show 64-k+k=64 from by omega],cDM x,Nat.mul_mod_mul_left]
theorem step{a P:List Int}{q k i r:Nat}(ha:M6.bM a)(hP:P.length=i)(hk:k<64)(hl:a.length<=8192)(hr:q+i+(r+1)=a.length) :
  Ja a q k (a.length-q) (P ++ cAQ (r+1) 0) ((a.length-q:Nat):Int) i =
   Ja a q k (a.length-q) ((P ++ [(((a.getD (q+i) 0).toNat/2^k+2^(64-k)*((a.getD (q+i+1) 0).toNat%2^k):Nat):Int)]) ++ cAQ r 0) ((a.length-q:Nat):Int) ((i+1:Nat):Int):=by
 have g:=ha.get (q+i);have g1:=ha.get (q+i+1);have w1:i64.wrap ((q:Int)+i)=((q+i:Nat):Int):=by rw[wrap_i64];omega
 have w2:i64.wrap (((q+i:Nat):Int)+1)=((q+i+1:Nat):Int):=by rw[wrap_i64];omega
 have w3:i64.wrap (63-(k:Int))=((63-k:Nat):Int):=by rw[wrap_i64];omega
 have m1:min k 64=k:=by omega
 have m2:min (63-k) 64=63-k:=by omega
 have aUW:(a.getD (q+i) 0)/((2^k:Nat):Int)=(((a.getD (q+i) 0).toNat/2^k:Nat):Int):=by
  obtain⟨x,hx⟩:=cDO g.1;rw[hx,cCJ,cEA]
 have aAZ:(a.getD (q+i) 0).toNat/2^k<2^(64-k):=by
  apply cEF;rw[<-cDP,show k+(64-k)=64 from by omega];omega
 rw[tI,aO,w1,if_pos ⟨by omega,by omega⟩,bI,if_pos ⟨by omega,by omega⟩,w2,w3,wrap_i64 (n:=(i:Int)+1),
  cCJ,cCJ,cCJ,cCJ,cCJ,m1,m2,cDV,Ht hP,Ii hP,aUW]
 by_cases hn:q+i+1<a.length
 ·rw[aO,if_pos ⟨by omega,by omega⟩,if_pos ⟨by omega,by omega⟩,bI,if_pos ⟨by omega,by omega⟩,Ht hP];have hw:u64.wrap (u64.wrap (a.getD (q+i+1) 0*2)*((2^(63-k):Nat):Int))=((2^(64-k)*((a.getD (q+i+1) 0).toNat%2^k):Nat):Int):=by
   obtain⟨x,hx⟩:=cDO g1.1;have aEM:u64.wrap ((x:Int)*2)=((x*2%18446744073709551616:Nat):Int):=by rw[gG];omega
   have bJI:∀p:Nat,u64.wrap (((x*2%18446744073709551616:Nat):Int)*(p:Int))=((x*2*p%18446744073709551616:Nat):Int):=by
    intro p;rw[gG,<-cEW,show(18446744073709551616:Int)=((18446744073709551616:Nat):Int)from rfl,<-cFC,cEU,Nat.mod_mod,<-cEU]
   rw[hx,aEM,bJI,cCJ,<-high hk,show 64-k=(63-k)+1 from by omega,cDL,cDQ,cDM 2]
  have hh:2^(64-k)*((a.getD (q+i+1) 0).toNat%2^k)<18446744073709551616:=by rw[<-high hk];exact cAV _ (by omega)
  have bMB:2^(64-k)<=2^64:=gO;have bDT:gR .or .u64 (((a.getD (q+i) 0).toNat/2^k:Nat):Int) ((2^(64-k)*((a.getD (q+i+1) 0).toNat%2^k):Nat):Int)=(((a.getD (q+i) 0).toNat/2^k+2^(64-k)*((a.getD (q+i+1) 0).toNat%2^k):Nat):Int):=by
   have:=Te (n:=(a.getD (q+i+1) 0).toNat%2^k) aAZ;rw[<-this];generalize 2^(64-k)*((a.getD (q+i+1) 0).toNat%2^k)=Y at *;generalize (a.getD (q+i) 0).toNat/2^k=X at *;generalize 2^(64-k)=p at *;rw[aRC (by omega) (by omega) (by omega) (by omega),cCJ,cCJ]
  rw[hw,bDT,cAI,cFG];rfl
 ·rw[aM,M6.getD_none (a:=a) (n:=q+i+1) (by omega),show((0:Int).toNat%2^k)=0 from Nat.zero_mod _,cFH,bZO,cAI,cFG];rfl
theorem L{a:List Int}{q k:Nat}(ha:M6.cO a)(hl:a.length<=8192)(hq:q<a.length)(hk:k<64):∀(r i:Nat) (P:List Int),q+i+r=a.length->P.length=i->M6.bM P ->
  2^k*M6.val P+(a.getD q 0).toNat%2^k=M6.val ((a.drop q).take i)+18446744073709551616^i*((a.getD (q+i) 0).toNat%2^k) ->
  Ja a q k (a.length-q) (P ++ cAQ r 0) ((a.length-q:Nat):Int) i=some [D.s (.ints .u64 (M6.dg (M6.val (a.drop q)/2^k))),D.s (.sc (.int .i64 0))]:=by
 intro r;have bDQ:0<2^k:=cD
 induction r with
 |zero =>
  intro i P hi hP hd hv;rw[M6.getD_none (a:=a) (n:=q+i) (by omega),show((0:Int).toNat%2^k)=0 from Nat.zero_mod _,cFH,bZO,M6.cC (by rw[cCM];omega)]at hv;have bOI:M6.val P=M6.val (a.drop q)/2^k:=by
   rw[<-hv,Nat.mul_add_div bDQ,cEI (cAV _ bDQ),bZO]
  have Xm:dP.oQ (M6.val (a.drop q)/2^k)=true:=by
   refine dqT ?_;rw[<-bOI];have:=M6.lZ hd;omega
  rw[cEY,cEK,tI,aM,gP ⟨hd,by omega⟩,bOI,Xm];rfl
 |succ r ih =>
  intro i P hi hP hd hv;have g:=ha.iA.get (q+i);have aAZ:(a.getD (q+i) 0).toNat/2^k<2^(64-k):=by
   apply cEF;rw[<-cDP,show k+(64-k)=64 from by omega];omega
  have aHO:2^(64-k)*2^k=18446744073709551616:=by rw[<-cDP,show 64-k+k=64 from by omega]
  have hs:(a.getD (q+i) 0).toNat/2^k+2^(64-k)*((a.getD (q+i+1) 0).toNat%2^k)<18446744073709551616:=by
   have hm:(a.getD (q+i+1) 0).toNat%2^k<2^k:=cAV _ bDQ;have h3:2^(64-k)*((a.getD (q+i+1) 0).toNat%2^k+1)<=2^(64-k)*2^k:=cBB _ hm;rw[aHO,cDN]at h3;omega
  rw[step ha.iA hP hk hl (by omega)];refine ih (i+1) _ (by omega) (by simp[hP]) (M6.kV hd ⟨Int.natCast_nonneg _,by have:=Int.ofNat_lt.2 hs;exact this⟩) ?_;rw[M6.kT,hP,M6.bR,aBJ,cCJ,<-cCD q i 1,cDN,cFN,hv];have hx:=cDT (a.getD (q+i) 0).toNat (2^k);generalize (a.getD (q+i) 0).toNat=x at *;generalize (a.getD (q+i+1) 0).toNat%2^k=y at *;generalize M6.val ((a.drop q).take i)=v at *;have e1:2^k*(18446744073709551616^i*(x/2^k+2^(64-k)*y))=18446744073709551616^i*(2^k*(x/2^k))+18446744073709551616^(i+1)*y:=by
   rw[cDL];generalize (18446744073709551616^i)=B;rw[cGH,cDN,<-cDQ (2^k) (2^(64-k)),cDM (2^k) (2^(64-k)),aHO,cDN,cDQ B]
  rw[e1];have e2:18446744073709551616^i*x=18446744073709551616^i*(2^k*(x/2^k))+18446744073709551616^i*(x%2^k):=by rw[<-cDN,hx]
  rw[e2];omega
def sp(a:List Int)(n:Int):Prop×List D:=(M6.cO a/\a.length<=8192/\0<=n/\n<4611686018427387904,[.s (.ints .u64 (M6.dg (M6.val a/2^n.toNat))),.s (.sc (.int .i64 0))])
theorem spec:Om E f115 aF (pI .u64) (pN .i64) sp:=by
 rintro a n ⟨ha,hl,h0,h1⟩;have e:=start a n;have eq:n/64=((n.toNat/64:Nat):Int):=by omega
 have ek:n%64=((n.toNat%64:Nat):Int):=by omega
 rw[aM,gP,iC.pP ha hl,cAN,bF,aJO h0,aJJ h0,wrap_i64 (n:=n/64),eq,ek]at e;unfold sp;simp only;rw[Mg,<-cEB];generalize hqq:n.toNat/64=q at *;have hk:n.toNat%64<64:=cAV _ (by omega);generalize n.toNat%64=k at *
 by_cases hz:a.length<=q
 ·have hv:M6.val a/18446744073709551616^q=0:=cEI (bZN (M6.cR ha.iA) (cBN (by omega) hz));rw[aO]at e;rw[hv,Nat.zero_div,M6.cL];exact⟨_,e,.cons (Df.nil _) (iZ.refl _)⟩
 ·have hval:M6.val a/18446744073709551616^q=M6.val (a.drop q):=by
   rw[M6.fD a (n:=q) (by omega),cFB _ _ (cD),cEI (M6.fY ha.iA _),bYP]
  have w:i64.wrap ((a.length:Int)-(q:Int))=((a.length-q:Nat):Int):=by rw[wrap_i64];omega
  rw[aM,w,if_pos ⟨by omega,by omega,by omega⟩,cCJ]at e;have:=L (q:=q) (k:=k) ha hl (by omega) hk (a.length-q) 0 [] (by omega) rfl M6.lC (by simp[M6.val]);rw[hval];exact⟨_,e.trans this,iZ.refl _⟩
def aJ:dO:=orc2 (pI .u64) (pN .i64) sp
theorem ok:OK 115 aJ:=(eI E aF (aA iC.ok (aA dP.ok aD)) func115).aIW rfl spec
end Hf
namespace mH
def E:=mE [(112,gF.aJ),(114,Fb.aJ),(115,Hf.aJ)] 55 [] [(8,[1,2,4,6])] [8]
def aF:=bd f63
theorem aU:Nk E aF:=nk
def J8 a b c d e f:=lP E f63 aF 8 [bJ a,bK 1 27 [bC b,eR c],bK 2 29 [bC d,sc (slice none 0 0),cV e],bJ f]
theorem start a c b:aG E f63 aF [D.agg [sc (bool a),ints u64 c],D.s (sc (int i64 b))]=letI G:=bool false;letI F:=int i64 0;letI C:=slice none 0 0;letI B:=(↑(tz (M6.val c)):Int);letI A:=some [D.agg [sc G,sc C,sc F],D.s (sc (int i64 5))];aN (c.length<=1099511627776) (aC (!gF.pW (a,c)) (some [D.agg [sc G,sc C,sc F],D.s (sc (int i64 2))]) (aC ((c.length:Int)==(0:Int)) (some [D.agg [sc G,sc C,sc F],D.s (sc F)]) (aN (M6.bM c/\c.length<=1099511627776) (aC (decide (1048576<b)) A (aC (decide (b<(-1572864:Int))) A (aC (decide (i64.wrap (b+B)<(-1048576:Int))) A (aC (decide (1048576<i64.wrap (b+B))) A (mH.J8 b a c false 0 B)))))))):=eJ aU
theorem Al a b c d e f:J8 a b c d e f=aN (M6.cO c/\c.length<=8192/\0<=f/\f<4611686018427387904) (some [D.agg [sc (bool b),ints u64 (M6.dg (M6.val c/(2:Nat)^f.toNat)),sc (int i64 (i64.wrap (a+f)))],D.s (sc (int i64 0))]):=cJ aU
def sp(x:Bool×List Int)(e:Int):Prop×List D:=(jA x/\-9223372036854775808<=e/\e<9223372036854775808,dE (jR (wv x) e) (bW (wv x) e))
theorem uH(p:Int×Int):iZ [D.agg [.sc (.bool false),.sc (.slice none 0 0),.sc (.int .i64 0)],.s (.sc (.int .i64 5))] (dE false p):=by
 refine .cons ?_ (iZ.refl _);show Df _ (M.dD (0,0));unfold dD;rw[show((0,0):Int×Int).1.natAbs=0 from rfl,M6.cL];exact Df.agg (.cons (Ez.refl _) (.cons (Ez.nil _) (Ab.refl _)))
theorem spec:Om E f63 aF qQ (pN .i64) sp:=by
 rintro x e ⟨hw,h1,h2⟩;have s:=start x.1 x.2 e;have hl:=hw.len;have hf:=gF.mS hw;have hb:=hw.bl;obtain⟨b,a⟩:=x;have hn:M6.cO a:=hw.1
 try dsimp only at *
 unfold sp
 try dsimp only
 rw[gP,hf,cAN,bF]at s;have aMI:=iX (b,a)
 try dsimp only at aMI
 by_cases hz:a.length=0
 ·have hv:=(M6.cY hn).1 hz;have aAV:wv (b,a)=0:=by omega
  rw[dU]at s;refine⟨_,s,?_⟩;rw[aAV];refine .cons ?_ (iZ.refl _);show Df _ (M.dD (0,0));unfold dD;rw[show((0,0):Int×Int).1.natAbs=0 from rfl,M6.cL];exact Df.agg (.cons (Ez.refl _) (.cons (Ez.nil _) (Ab.refl _)))
 ·have hv:M6.val a≠0:=fun h=>hz ((M6.cY hn).2 h)
  have aAV:wv (b,a)≠0:=by omega
  have ht:=Qw hv;have hs:=yU _ hv;have Cy:∀p:Bool,(p=(decide (-1048576<=e+(tz (M6.val a):Nat))&&decide (e+(tz (M6.val a):Nat)<=1048576)))->jR (wv (b,a)) e=p:=by
   intro p hp;unfold jR;rw[aMI,dqF aAV,cAO,hp]
  rw[cP,gP ⟨hn.iA,by omega⟩]at s
  by_cases c1:1048576<e
  ·rw[aO c1]at s;rw[Cy false (by rw[dqF (show ¬(e+(tz (M6.val a):Nat)<=1048576) by omega),cDY])];exact⟨_,s,uH _⟩
  ·rw[aM c1]at s
   by_cases c2:e < -1572864
   ·rw[aO c2]at s;rw[Cy false (by rw[dqF (show ¬(-1048576<=e+(tz (M6.val a):Nat)) by omega),cDW])];exact⟨_,s,uH _⟩
   ·have w:i64.wrap (e+(tz (M6.val a):Int))=e+(tz (M6.val a):Int):=wrap_i64;rw[aM c2,w]at s
    by_cases c3:e+(tz (M6.val a):Int) < -1048576
    ·rw[aO c3]at s;rw[Cy false (by rw[dqF (show ¬(-1048576<=e+(tz (M6.val a):Nat)) by omega),cDW])];exact⟨_,s,uH _⟩
    ·rw[aM c3]at s
     by_cases c4:1048576<e+(tz (M6.val a):Int)
     ·rw[aO c4]at s;rw[Cy false (by rw[dqF (show ¬(e+(tz (M6.val a):Nat)<=1048576) by omega),cDY])];exact⟨_,s,uH _⟩
     ·rw[aM c4,Al,gP ⟨hn,hl,by omega,by omega⟩,w,cCJ]at s;rw[Cy true (by rw[dqT (show(e+(tz (M6.val a):Nat)<=1048576) by omega),dqT (show(-1048576<=e+(tz (M6.val a):Nat)) by omega)];rfl)];refine⟨_,s,?_⟩;have:bW (wv (b,a)) e=(zs b (M6.val a/2^tz (M6.val a)),e+(tz (M6.val a):Nat)):=by
       unfold bW;rw[if_neg aAV,aMI];have:=aVW (b:=b) (cBM (n:=tz (M6.val a)) (show 0<2 by decide)) hs.1;rw[<-this];rfl
      rw[this];have hq:M6.val a/2^tz (M6.val a)≠0:=by omega
      show iZ _ [M.dD (zs b (M6.val a/2^tz (M6.val a)),e+(tz (M6.val a):Nat)),_];unfold dD
      try dsimp only
      rw[Lm,nM,dqT hq,Bool.and_true];exact iZ.refl _
def aJ:dO:=orc2 qQ (pN .i64) sp
theorem ok:OK 63 aJ:=(eI E aF (aA gF.ok (aA Fb.ok (aA Hf.ok aD))) func63).aIW rfl spec
end mH
namespace cB
def E:=mE [(61,oU.aJ),(68,pV.aJ),(69,Ph.aJ),(70,Iz.aJ),(71,Hg.aJ),(63,mH.aJ)] 79 [44,67,76] [(7,[2,3,4]),(12,[4,6,7,9])] [7,12]
def aF:=bd f26
theorem aU:Nk E aF:=nk
def J7 a b c d e f g h:=lP E f26 aF 7 [bK 0 29 [bC a,eR b,cV c],bK 1 29 [bC d,eR e,cV f],bK 2 29 [bC g,sc (slice none 0 0),cV h]]
def bQU a b c d e f g:=lP E f26 aF 12 [bK 0 29 [bC a,sc (slice none 0 0),cV b],bJ c,bK 2 27 [bC d,eR e],bK 3 27 [bC f,eR g]]
theorem start a b c d e f:aG E f26 aF [D.agg [sc (bool a),ints u64 b,sc (int i64 c)],D.agg [sc (bool d),ints u64 e,sc (int i64 f)]]=aN (aQ (a,b,c)) (aN (aQ (d,e,f)) (aN True (aC ((b.length:Int)==(0:Int)) (aN (e.length<=1099511627776) (some [D.agg [sc (bool d),ints u64 e,sc (int i64 f)],D.s (sc (int i64 0))])) (aN True (aC ((e.length:Int)==(0:Int)) (aN (b.length<=1099511627776) (some [D.agg [sc (bool a),ints u64 b,sc (int i64 c)],D.s (sc (int i64 0))])) (cB.J7 a b c d e f false 0)))))):=eJ aU
theorem Hi a b c d e f g h:J7 a b c d e f g h=letI G:=i64.wrap (c-if f<c then f else c);letI I:=M6.val b*(2:Nat)^G.toNat;letI F:=i64.wrap (f-if f<c then f else c);letI H:=M6.val e*(2:Nat)^F.toNat;letI C:=some [D.agg [sc (bool false),sc (slice none 0 0),sc (int i64 0)],D.s (sc (int i64 5))];letI B:=bif fit H then wv (d,e)*(↑((2:Nat)^F.toNat):Int)else(0:Int);letI A:=bif fit I then wv (a,b)*(↑((2:Nat)^G.toNat):Int)else(0:Int);aN (jA (a,b)/\0<=i64.wrap (c-if f<c then f else c)/\i64.wrap (c-if f<c then f else c)<4611686018427387904) (aN (jA (d,e)/\0<=i64.wrap (f-if f<c then f else c)/\i64.wrap (f-if f<c then f else c)<4611686018427387904) (aC ((bif fit I then(0:Int)else(5:Int)) !=0) C (aC ((bif fit H then(0:Int)else(5:Int)) !=0) C (cB.bQU g h (if f<c then f else c) (isNeg A) (M6.dg A.natAbs) (isNeg B) (M6.dg B.natAbs))))):=cJ aU
theorem bAS a b c d e f g:bQU a b c d e f g=letI G:=wv (d,e)+wv (f,g);letI F:=bif fit G.natAbs then(0:Int)else(5:Int);letI C:=bif fit G.natAbs then wv (d,e)+wv (f,g)else(0:Int);letI A:=(isNeg C,M6.dg C.natAbs);letI B:=bif jR (wv A) c then bW (wv A) c else((0:Int),(0:Int));aN (jA (d,e)/\jA (f,g)) (aC (F !=0) (some [D.agg [sc (bool false),sc (slice none 0 0),sc (int i64 0)],D.s (sc (int i64 F))]) (aN (jA A/\(-9223372036854775808:Int)<=c/\c<9223372036854775808) (some [D.agg [sc (bool (isNeg B.fst)),ints u64 (M6.dg B.fst.natAbs),sc (int i64 B.snd)],D.s (sc (int i64 (bif jR (wv A) c then(0:Int)else(5:Int))))]))):=cJ aU
def iV(p q:Int×Int):Int:=if q.2<p.2 then q.2 else p.2
def pU(p q:Int×Int):Int:=p.1*((2^(p.2-iV p q).toNat:Nat):Int)
def pT(p q:Int×Int):Int:=q.1*((2^(q.2-iV p q).toNat:Nat):Int)
def kI(p q:Int×Int):Int×Int:=if p.1=0 then q else if q.1=0 then p else bW (pU p q+pT p q) (iV p q)
def jW(p q:Int×Int):Bool:=decide (p.1=0)||(decide (q.1=0)||(fit (pU p q).natAbs&&(fit (pT p q).natAbs&&(fit (pU p q+pT p q).natAbs&&jR (pU p q+pT p q) (iV p q)))))
def sp(x y:fB):Prop×List D:=(aQ x/\aQ y,dE (jW (dv x) (dv y)) (kI (dv x) (dv y)))
theorem spec:Om E f26 aF jQ jQ sp:=by
 rintro x y ⟨hx,hy⟩;have s:=start x.1 x.2.1 x.2.2 y.1 y.2.1 y.2.2;have dx:=hx.dD;have dy:=hy.dD;have lx:=hx.len;have ly:=hy.len;have rx:=hx.2.1;have ry:=hy.2.1;have zx:=M6.cY hx.Fi;have zy:=M6.cY hy.Fi;have wx:=hx.Ln;have wy:=hy.Ln;obtain⟨b,a,e⟩:=x;obtain⟨c,d,f⟩:=y
 try dsimp only at *
 unfold sp
 try dsimp only
 have ax:=iX (b,a);have ay:=iX (c,d)
 try dsimp only at ax ay
 rw[gP hx,gP hy,gP trivial]at s
 by_cases h0:a.length=0
 ·have hw:(dv (b,a,e)).1=0:=by have:=zx.1 h0;show wv (b,a)=0;omega
  rw[dU,gP]at s;refine⟨_,s,?_⟩;unfold jW kI;rw[dqT hw,cEJ,if_pos hw];show iZ _ [M.dD (dv (c,d,f)),_];rw[dy];exact iZ.refl _
 ·have hw:(dv (b,a,e)).1≠0:=by have:M6.val a≠0:=fun h=>h0 (zx.2 h);show wv (b,a)≠0;omega
  rw[cP,gP trivial]at s
  by_cases g0:d.length=0
  ·have hv:(dv (c,d,f)).1=0:=by have:=zy.1 g0;show wv (c,d)=0;omega
   rw[dU,gP]at s;refine⟨_,s,?_⟩;unfold jW kI;rw[dqF hw,cAO,dqT hv,cEJ,if_neg hw,if_pos hv];show iZ _ [M.dD (dv (b,a,e)),_];rw[dx];exact iZ.refl _
  ·have hv:(dv (c,d,f)).1≠0:=by have:M6.val d≠0:=fun h=>g0 (zy.2 h);show wv (c,d)≠0;omega
   have i1:iV (dv (b,a,e)) (dv (c,d,f))<=e/\iV (dv (b,a,e)) (dv (c,d,f))<=f/\-1048576<=iV (dv (b,a,e)) (dv (c,d,f)):=by
    unfold iV dv
    try dsimp only
    split <;> omega
   have u1:i64.wrap (e-iV (dv (b,a,e)) (dv (c,d,f)))=e-iV (dv (b,a,e)) (dv (c,d,f)):=wrap_i64;have u2:i64.wrap (f-iV (dv (b,a,e)) (dv (c,d,f)))=f-iV (dv (b,a,e)) (dv (c,d,f)):=wrap_i64;have e1:(if f<e then f else e)=iV (dv (b,a,e)) (dv (c,d,f)):=rfl;have f1:M6.val a*2^(e-iV (dv (b,a,e)) (dv (c,d,f))).toNat=(pU (dv (b,a,e)) (dv (c,d,f))).natAbs:=by
    show _=(wv (b,a)*_).natAbs;rw[cEC,ax,cED];rfl
   have f2:M6.val d*2^(f-iV (dv (b,a,e)) (dv (c,d,f))).toNat=(pT (dv (b,a,e)) (dv (c,d,f))).natAbs:=by
    show _=(wv (c,d)*_).natAbs;rw[cEC,ay,cED];rfl
   have f3:wv (b,a)*((2^(e-iV (dv (b,a,e)) (dv (c,d,f))).toNat:Nat):Int)=pU (dv (b,a,e)) (dv (c,d,f)):=rfl;have f4:wv (c,d)*((2^(f-iV (dv (b,a,e)) (dv (c,d,f))).toNat:Nat):Int)=pT (dv (b,a,e)) (dv (c,d,f)):=rfl;rw[cP,Hi,e1,u1,u2]at s
   try dsimp only at s
   rw[f1,f2,f3,f4,gP ⟨wx,by omega,by omega⟩,gP ⟨wy,by omega,by omega⟩]at s;have ao:jW (dv (b,a,e)) (dv (c,d,f))=(fit (pU (dv (b,a,e)) (dv (c,d,f))).natAbs&&(fit (pT (dv (b,a,e)) (dv (c,d,f))).natAbs&&(fit (pU (dv (b,a,e)) (dv (c,d,f))+pT (dv (b,a,e)) (dv (c,d,f))).natAbs&&jR (pU (dv (b,a,e)) (dv (c,d,f))+pT (dv (b,a,e)) (dv (c,d,f))) (iV (dv (b,a,e)) (dv (c,d,f)))))):=by
    unfold jW;rw[dqF hw,cAO,dqF hv,cAO]
   have ad:kI (dv (b,a,e)) (dv (c,d,f))=bW (pU (dv (b,a,e)) (dv (c,d,f))+pT (dv (b,a,e)) (dv (c,d,f))) (iV (dv (b,a,e)) (dv (c,d,f))):=by
    unfold kI;rw[if_neg hw,if_neg hv]
   rw[ao,ad];generalize pU (dv (b,a,e)) (dv (c,d,f))=X at *;generalize pT (dv (b,a,e)) (dv (c,d,f))=Y at *;generalize iV (dv (b,a,e)) (dv (c,d,f))=k at *;cases c1:fit X.natAbs with
   |false =>
    rw[c1,cond_false,oG]at s;rw[cDW];exact⟨_,s,mH.uH _⟩
   |true =>
    rw[c1,cond_true,gA rfl]at s;cases c2:fit Y.natAbs with
    |false =>
     rw[c2,cond_false,oG]at s;rw[cDW,cDY];exact⟨_,s,mH.uH _⟩
    |true =>
     rw[c2,cond_true,gA rfl,bAS,gP ⟨iF (zH c1),iF (zH c2)⟩]at s
     try dsimp only[cond_true]at s
     rw[tQ,tQ]at s;cases c3:fit (X+Y).natAbs with
     |false =>
      rw[c3]at s
      try dsimp only[cond_false]at s
      rw[oG]at s;rw[cDW,cDY,cDY];exact⟨_,s,mH.uH _⟩
     |true =>
      rw[c3]at s
      try dsimp only[cond_true]at s
      rw[gA rfl,gP ⟨iF (zH c3),by omega,by omega⟩,tQ]at s;rw[cBO,cBO,cBO];exact⟨_,s,iZ.refl _⟩
def aJ:dO:=orc2 jQ jQ sp
theorem ok:OK 26 aJ:=(eI E aF (aA oU.ok (aA pV.ok (aA Ph.ok (aA Iz.ok (aA Hg.ok (aA mH.ok aD)))))) func26).aIW rfl spec
end cB
namespace dY
def E:=mE [(61,oU.aJ),(68,pV.aJ),(69,Ph.aJ)] 45 [] [(7,[1,2,4])] [7]
def aF:=bd f46
theorem aU:Nk E aF:=nk
def J7 a b c d e f:=lP E f46 aF 7 [bJ a,bK 1 29 [bC b,eR c,cV d],bK 2 29 [bC e,sc (slice none 0 0),cV f]]
theorem start a c d b:aG E f46 aF [D.agg [sc (bool a),ints u64 c,sc (int i64 d)],D.s (sc (int i64 b))]=letI B:=int i64 0;letI A:=some [D.agg [sc (bool false),sc (slice none 0 0),sc B],D.s (sc (int i64 5))];aN (aQ (a,c,d)) (aN True (aC ((c.length:Int)==(0:Int)) (some [D.agg [sc (bool false),sc (slice none 0 0),sc B],D.s (sc B)]) (aC (decide (2097152<b)) A (aC (decide (b<(-2097152:Int))) A (aC (decide (1048576<i64.wrap (d+b))) A (aC (decide (i64.wrap (d+b)<(-1048576:Int))) A (dY.J7 b a c d false 0))))))):=eJ aU
theorem Hi a b c d e f:J7 a b c d e f=aN (c.length<=1099511627776) (some [D.agg [sc (bool b),ints u64 c,sc (int i64 (i64.wrap (d+a)))],D.s (sc (int i64 0))]):=cJ aU
def Am(p:Int×Int)(n:Int):Int×Int:=if p.1=0 then(0,0)else(p.1,p.2+n)
def vW(p:Int×Int)(n:Int):Bool:=decide (p.1=0)||(decide (-1048576<=p.2+n)&&decide (p.2+n<=1048576))
def sp(x:fB)(n:Int):Prop×List D:=(aQ x/\-9223372036854775808<=n/\n<9223372036854775808,dE (vW (dv x) n) (Am (dv x) n))
theorem spec:Om E f46 aF jQ (pN .i64) sp:=by
 rintro x n ⟨h,h1,h2⟩;have hl:=h.len;have hd:=h.dD;have hr:=h.2.1;have s:=start x.1 x.2.1 x.2.2 n;obtain⟨b,a,e⟩:=x
 try dsimp only at *
 unfold sp
 try dsimp only
 have hz:=M6.cY h.Fi;have ha:=iX (b,a)
 try dsimp only at ha hz
 rw[gP h,gP trivial]at s
 by_cases h0:a.length=0
 ·have hw:(dv (b,a,e)).1=0:=by have:=hz.1 h0;show wv (b,a)=0;omega
  rw[dU]at s;refine⟨_,s,?_⟩;unfold vW Am;rw[dqT hw,cEJ,if_pos hw];refine .cons ?_ (iZ.refl _);show Df _ (M.dD (0,0));unfold M.dD;rw[show((0,0):Int×Int).1.natAbs=0 from rfl,M6.cL];exact Df.agg (.cons (Ez.refl _) (.cons (Ez.nil _) (Ab.refl _)))
 ·have hw:(dv (b,a,e)).1≠0:=by have:M6.val a≠0:=fun h=>h0 (hz.2 h);show wv (b,a)≠0;omega
  have Cy:∀p:Bool,(p=(decide (-1048576<=e+n)&&decide (e+n<=1048576)))->vW (dv (b,a,e)) n=p:=by
   intro p hp;unfold vW;rw[dqF hw,cAO,hp];rfl
  rw[cP]at s
  by_cases c1:2097152<n
  ·rw[aO c1]at s;rw[Cy false (by rw[dqF (show ¬(e+n<=1048576) by omega),cDY])];exact⟨_,s,mH.uH _⟩
  ·rw[aM c1]at s
   by_cases c2:n < -2097152
   ·rw[aO c2]at s;rw[Cy false (by rw[dqF (show ¬(-1048576<=e+n) by omega),cDW])];exact⟨_,s,mH.uH _⟩
   ·have w:i64.wrap (e+n)=e+n:=wrap_i64;rw[aM c2,w]at s
    by_cases c3:1048576<e+n
    ·rw[aO c3]at s;rw[Cy false (by rw[dqF (show ¬(e+n<=1048576) by omega),cDY])];exact⟨_,s,mH.uH _⟩
    ·rw[aM c3]at s
     by_cases c4:e+n < -1048576
     ·rw[aO c4]at s;rw[Cy false (by rw[dqF (show ¬(-1048576<=e+n) by omega),cDW])];exact⟨_,s,mH.uH _⟩
     ·rw[aM c4,Hi]at s
      try dsimp only at s
      rw[gP,w]at s;rw[Cy true (by rw[dqT (show(e+n<=1048576) by omega),dqT (show(-1048576<=e+n) by omega)];rfl)];refine⟨_,s,?_⟩;unfold Am;rw[if_neg hw];have hc:=h.Ln.cells;show iZ _ [M.dD (wv (b,a),e+n),_];unfold M.dD
      try dsimp only
      rw[hc.1,hc.2];exact iZ.refl _
def aJ:dO:=orc2 jQ (pN .i64) sp
theorem ok:OK 46 aJ:=(eI E aF (aA oU.ok (aA pV.ok (aA Ph.ok aD))) func46).aIW rfl spec
end dY
namespace aOL
def E:=mE [(127,yL.aJ)] 11 [] [] []
def aF:=bd f168
theorem aU:Nk E aF:=nk
theorem start a b:aG E f168 aF [D.agg [sc (bool a),ints u64 b]]=aN (M6.bM b/\b.length<=1099511627776) (aC ((↑(bl (M6.val b)):Int)==(0:Int)) (some [D.s (sc (int i64 0))]) (aC a (some [D.s (sc (int i64 (-1:Int)))]) (some [D.s (sc (int i64 1))]))):=eJ aU
def sp(x:Bool×List Int):Prop×List D:=(jA x,[.s (.sc (.int .i64 (cZ (wv x) 0)))])
theorem spec:iH E f168 aF qQ sp:=by
 intro x h;refine(start x.1 x.2).trans ?_;have h:jA x:=h;have hl:=h.len;obtain⟨h1,h2,h3⟩:=h;unfold sp;simp only;rw[gP ⟨h1.iA,by omega⟩]
 by_cases hz:M6.val x.2=0
 ·rw[hz,zQ,dU (a:=((0:Nat):Int)) (b:=0) rfl];cases hx:x.1 with
  |true=>exact(h2 hx hz).elim
  |false=>rw[Hm hx,hz];rfl
 ·have:=mY hz;rw[cP];cases hx:x.1 with
  |true=>rw[bT,Sg hx];unfold cZ;rw[aR]
  |false=>rw[bF,Hm hx];unfold cZ;rw[bI,aR]
def aJ:dO:=orc1 qQ sp
theorem ok:OK 168 aJ:=(eI E aF (aA yL.ok aD) func168).oV rfl spec
end aOL
namespace aPD
def E:=mE [(127,yL.aJ)] 11 [] [] []
def aF:=bd f197
theorem aU:Nk E aF:=nk
theorem start a b c:aG E f197 aF [D.agg [sc (bool a),ints u64 b,sc (int i64 c)]]=aN (M6.bM b/\b.length<=1099511627776) (some [D.s (sc (int i64 (i64.wrap (i64.wrap (c+(↑(bl (M6.val b)):Int))-1))))]):=eJ aU
def sp(x:fB):Prop×List D:=(aQ x,[.s (.sc (.int .i64 (x.2.2+(bl (M6.val x.2.1):Nat)-1)))])
theorem spec:iH E f197 aF jQ sp:=by
 intro x h;have h:aQ x:=h;have hl:=h.len;have hb:=h.Ln.bl;refine(start x.1 x.2.1 x.2.2).trans ?_;have he:=h.2.1
 try dsimp only at hb
 rw[gP ⟨h.Fi.iA,by omega⟩,wrap_i64 (n:=x.2.2+_),wrap_i64];rfl
def aJ:dO:=orc1 jQ sp
theorem ok:OK 197 aJ:=(eI E aF (aA yL.ok aD) func197).oV rfl spec
end aPD
namespace aPE
def E:=mE [(197,aPD.aJ),(122,mI.aJ),(125,Ch.aJ)] 54 [53] [] []
def aF:=bd f169
theorem aU:Nk E aF:=nk
theorem start a b c d e f:aG E f169 aF [D.agg [sc (bool a),ints u64 b,sc (int i64 c)],D.agg [sc (bool d),ints u64 e,sc (int i64 f)]]=letI H:=(↑(bl (M6.val e)):Int);letI G:=(↑(bl (M6.val b)):Int);letI F:=i64.wrap (c-if f<c then f else c);letI C:=i64.wrap (f-if f<c then f else c);letI B:=bif mI.kU (M6.val e) C.toNat then M6.dg (M6.val e*(2:Nat)^C.toNat)else [];letI A:=bif mI.kU (M6.val b) F.toNat then M6.dg (M6.val b*(2:Nat)^F.toNat)else [];aN (aQ (a,b,c)) (aN (aQ (d,e,f)) (aC (decide (c+G-(1:Int)<f+H-(1:Int))) (some [D.s (sc (int i64 (-1:Int)))]) (aC (decide (f+H-(1:Int)<c+G-(1:Int))) (some [D.s (sc (int i64 1))]) (aN (M6.cO b/\b.length<=8192/\0<=i64.wrap (c-if f<c then f else c)/\i64.wrap (c-if f<c then f else c)<4611686018427387904) (aN (M6.cO e/\e.length<=8192/\0<=i64.wrap (f-if f<c then f else c)/\i64.wrap (f-if f<c then f else c)<4611686018427387904) (aN (M6.bM A/\M6.bM B/\A.length<=1099511627776/\B.length<=1099511627776) (some [D.s (sc (int i64 (iW (M6.val A) (M6.val B))))]))))))):=eJ aU
def sp(x y:fB):Prop×List D:=((aQ x/\aQ y)/\x.2.1.length≠0/\y.2.1.length≠0,[.s (.sc (.int .i64 (iW (cB.pU (dv x) (dv y)).natAbs (cB.pT (dv x) (dv y)).natAbs)))])
theorem spec:fF E f169 aF jQ jQ sp:=by
 rintro x y ⟨⟨hx,hy⟩,h0,g0⟩;refine(start x.1 x.2.1 x.2.2 y.1 y.2.1 y.2.2).trans ?_;have lx:=hx.len;have ly:=hy.len;have nx:=hx.Fi;have ny:=hy.Fi;have bx:=hx.Ln.bl;have bXM:=hy.Ln.bl
 have rx:=hx.2.1;have ry:=hy.2.1;obtain⟨b,a,e⟩:=x;obtain⟨c,d,f⟩:=y
 try dsimp only at *
 unfold sp
 try dsimp only
 have ax:=iX (b,a);have ay:=iX (c,d)
 try dsimp only at ax ay
 have vx:M6.val a≠0:=fun h=>h0 ((M6.cY nx).2 h)
 have vy:M6.val d≠0:=fun h=>g0 ((M6.cY ny).2 h)
 rw[gP hx,gP hy];have i1:cB.iV (dv (b,a,e)) (dv (c,d,f))<=e/\cB.iV (dv (b,a,e)) (dv (c,d,f))<=f/\-1048576<=cB.iV (dv (b,a,e)) (dv (c,d,f))/\(cB.iV (dv (b,a,e)) (dv (c,d,f))=e\/cB.iV (dv (b,a,e)) (dv (c,d,f))=f):=by
  unfold cB.iV dv
  try dsimp only
  split <;> omega
 have u1:i64.wrap (e-cB.iV (dv (b,a,e)) (dv (c,d,f)))=e-cB.iV (dv (b,a,e)) (dv (c,d,f)):=wrap_i64;have u2:i64.wrap (f-cB.iV (dv (b,a,e)) (dv (c,d,f)))=f-cB.iV (dv (b,a,e)) (dv (c,d,f)):=wrap_i64;have e1:(if f<e then f else e)=cB.iV (dv (b,a,e)) (dv (c,d,f)):=rfl;have f1:(cB.pU (dv (b,a,e)) (dv (c,d,f))).natAbs=M6.val a*2^(e-cB.iV (dv (b,a,e)) (dv (c,d,f))).toNat:=by
  show(wv (b,a)*_).natAbs=_;rw[cEC,ax,cED];rfl
 have f2:(cB.pT (dv (b,a,e)) (dv (c,d,f))).natAbs=M6.val d*2^(f-cB.iV (dv (b,a,e)) (dv (c,d,f))).toNat:=by
  show(wv (c,d)*_).natAbs=_;rw[cEC,ay,cED];rfl
 rw[f1,f2,e1,u1,u2];generalize cB.iV (dv (b,a,e)) (dv (c,d,f))=k at *;have m1:bl (M6.val a*2^(e-k).toNat)=(e-k).toNat+bl (M6.val a):=by rw[cDM,Ny vx]
 have m2:bl (M6.val d*2^(f-k).toNat)=(f-k).toNat+bl (M6.val d):=by rw[cDM,Ny vy]
 have lt:∀m n:Nat,bl m<bl n->m<n:=fun m n h=>Nat.lt_of_not_le fun hc=>by have:=gD hc;omega
 by_cases c1:e+(bl (M6.val a):Int)-1<f+(bl (M6.val d):Int)-1
 ·have:=lt (M6.val a*2^(e-k).toNat) (M6.val d*2^(f-k).toNat) (by rw[m1,m2];omega);rw[aO c1];unfold iW;rw[if_pos this]
 ·rw[aM c1]
  by_cases c2:f+(bl (M6.val d):Int)-1<e+(bl (M6.val a):Int)-1
  ·have:=lt (M6.val d*2^(f-k).toNat) (M6.val a*2^(e-k).toNat) (by rw[m1,m2];omega);rw[aO c2];unfold iW;rw[bI,if_pos this]
  ·have o1:mI.kU (M6.val a) (e-k).toNat=true:=by
    unfold mI.kU;rw[dqT (show bl (M6.val a)+(e-k).toNat<=524288 by omega),cEX]
   have o2:mI.kU (M6.val d) (f-k).toNat=true:=by
    unfold mI.kU;rw[dqT (show bl (M6.val d)+(f-k).toNat<=524288 by omega),cEX]
   have k1:=gI (n:=M6.val a*2^(e-k).toNat) (k:=8192) (by rw[m1];omega);have k2:=gI (n:=M6.val d*2^(f-k).toNat) (k:=8192) (by rw[m2];omega);rw[aM c2,gP ⟨nx,lx,by omega,by omega⟩,gP ⟨ny,ly,by omega,by omega⟩,o1,o2,cond_true,cond_true,gP ⟨M6.cA _,M6.cA _,by omega,by omega⟩,M6.bD,M6.bD]
def aJ:dO:=orc2 jQ jQ sp
theorem ok:OK 169 aJ:=(eI E aF (aA aPD.ok (aA mI.ok (aA Ch.ok aD))) func169).jZ rfl spec
end aPE
namespace Kc
def E:=mE [(61,oU.aJ),(168,aOL.aJ),(169,aPE.aJ)] 38 [] [(3,[2,3])] [3]
def aF:=bd f113
theorem aU:Nk E aF:=nk
def J3 a b c d e f:=lP E f113 aF 3 [bK 0 29 [bC a,eR b,cV c],bK 1 29 [bC d,eR e,cV f]]
theorem start a b c d e f:aG E f113 aF [D.agg [sc (bool a),ints u64 b,sc (int i64 c)],D.agg [sc (bool d),ints u64 e,sc (int i64 f)]]=aN (aQ (a,b,c)) (aN (aQ (d,e,f)) (Kc.J3 a b c d e f)):=eJ aU
theorem fH a b c d e f:J3 a b c d e f=letI B:=wv (a,b);letI A:=sc (int i64 0);aN (jA (a,b)) (aN (jA (d,e)) (aC (decide (cZ B 0<cZ (wv (d,e)) 0)) (some [D.s (sc (int i64 (-1:Int))),D.s A]) (aC (decide (cZ (wv (d,e)) 0<cZ B 0)) (some [D.s (sc (int i64 1)),D.s A]) (aC (cZ B 0==(0:Int)) (some [D.s A,D.s A]) (aN ((aQ (a,b,c)/\aQ (d,e,f))/\b.length≠0/\e.length≠0) (some [D.s (sc (int i64 (i64.wrap (cZ B 0*iW (cB.pU (dv (a,b,c)) (dv (d,e,f))).natAbs (cB.pT (dv (a,b,c)) (dv (d,e,f))).natAbs)))),D.s A])))))):=cJ aU
def sp(x y:fB):Prop×List D:=(aQ x/\aQ y,[.s (.sc (.int .i64 (cZ (cB.pU (dv x) (dv y)) (cB.pT (dv x) (dv y))))),.s (.sc (.int .i64 0))])
theorem bNQ(z:Int)(P:Nat)(h:0<P):(0<z->0<z*(P:Int))/\(z<0->z*(P:Int)<0)/\(z=0->z*(P:Int)=0) :=
 ⟨fun hz=>Int.mul_pos hz (by omega),fun hz=>Int.mul_neg_of_neg_of_pos hz (by omega),fun hz=>by rw[hz,cFI]⟩
theorem cz(z:Int):(0<z/\cZ z 0=1)\/(z<0/\cZ z 0=-1)\/(z=0/\cZ z 0=0):=by
 unfold cZ
 by_cases h:z<0
 ·rw[if_pos h];omega
 ·rw[if_neg h]
  by_cases h':0<z
  ·rw[if_pos h'];omega
  ·rw[if_neg h'];omega
theorem spec:fF E f113 aF jQ jQ sp:=by
 rintro x y ⟨hx,hy⟩;refine(start x.1 x.2.1 x.2.2 y.1 y.2.1 y.2.2).trans ?_;have wx:=hx.Ln;have wy:=hy.Ln;have nx:=hx.Fi;have ny:=hy.Fi;obtain⟨b,a,e⟩:=x;obtain⟨c,d,f⟩:=y
 try dsimp only at *
 unfold sp
 try dsimp only
 have ax:=iX (b,a);have ay:=iX (c,d)
 try dsimp only at ax ay
 have zx:=M6.cY nx;have zy:=M6.cY ny;have sX:(0<wv (b,a)->0<cB.pU (dv (b,a,e)) (dv (c,d,f)))/\(wv (b,a)<0->cB.pU (dv (b,a,e)) (dv (c,d,f))<0)/\(wv (b,a)=0->cB.pU (dv (b,a,e)) (dv (c,d,f))=0):=bNQ _ _ (cBM (by decide));have sY:(0<wv (c,d)->0<cB.pT (dv (b,a,e)) (dv (c,d,f)))/\(wv (c,d)<0->cB.pT (dv (b,a,e)) (dv (c,d,f))<0)/\(wv (c,d)=0->cB.pT (dv (b,a,e)) (dv (c,d,f))=0):=bNQ _ _ (cBM (by decide));rw[gP hx,gP hy,fH,gP wx,gP wy];have guard:wv (b,a)≠0->wv (c,d)≠0->(aQ (b,a,e)/\aQ (c,d,f))/\a.length≠0/\d.length≠0:=fun h1 h2=>⟨⟨hx,hy⟩,fun h=>h1 (by have:=zx.1 h;omega),fun h=>h2 (by have:=zy.1 h;omega)⟩
 generalize cB.pU (dv (b,a,e)) (dv (c,d,f))=X at *;generalize cB.pT (dv (b,a,e)) (dv (c,d,f))=Y at *;have aZS:∀n:Int,cZ X Y=n->some [D.s (.sc (.int .i64 n)),D.s (.sc (.int .i64 0))]=some [D.s (.sc (.int .i64 (cZ X Y))),D.s (.sc (.int .i64 0))]:=fun n h=>by rw[h]
 rcases cz (wv (b,a))with ⟨h1,c1⟩ |⟨h1,c1⟩ |⟨h1,c1⟩ <;> rcases cz (wv (c,d))with ⟨h2,c2⟩ |⟨h2,c2⟩ |⟨h2,c2⟩ <;> rw[c1,c2]
 ·rw[aM,aM,cP,gP (guard (by omega) (by omega))];have:=sX.1 h1;have:=sY.1 h2;refine(congrArg (fun n=>some [D.s (.sc (.int .i64 n)),D.s (.sc (.int .i64 0))]) ?_);unfold iW cZ;split <;> split <;> (try split) <;> (try split) <;> first |rfl |omega
 ·rw[aM,aO];refine aZS _ ?_;have:=sX.1 h1;have:=sY.2.1 h2;unfold cZ;rw[bI,aR]
 ·rw[aM,aO];refine aZS _ ?_;have:=sX.1 h1;have:=sY.2.2 h2;unfold cZ;rw[bI,aR]
 ·rw[aO];refine aZS _ ?_;have:=sX.2.1 h1;have:=sY.1 h2;unfold cZ;rw[aR]
 ·rw[aM,aM,cP,gP (guard (by omega) (by omega))];have:=sX.2.1 h1;have:=sY.2.1 h2;refine(congrArg (fun n=>some [D.s (.sc (.int .i64 n)),D.s (.sc (.int .i64 0))]) ?_);unfold iW cZ;split <;> split <;> (try split) <;> (try split) <;> first |rfl |omega
 ·rw[aO];refine aZS _ ?_;have:=sX.2.1 h1;have:=sY.2.2 h2;unfold cZ;rw[aR]
 ·rw[aO];refine aZS _ ?_;have:=sX.2.2 h1;have:=sY.1 h2;unfold cZ;rw[aR]
 ·rw[aM,aO];refine aZS _ ?_;have:=sX.2.2 h1;have:=sY.2.1 h2;unfold cZ;rw[bI,aR]
 ·rw[aM,aM,dU rfl];refine aZS _ ?_;have:=sX.2.2 h1;have:=sY.2.2 h2;unfold cZ;rw[bI,bI]
def aJ:dO:=orc2 jQ jQ sp
theorem ok:OK 113 aJ:=(eI E aF (aA oU.ok (aA aOL.ok (aA aPE.ok aD))) func113).jZ rfl spec
end Kc
end W
namespace M
open Go AI W
def p2(n:Int):Int:=((2^n.toNat:Nat):Int)
theorem Tb(k:Nat):p2 (k:Int)=((2^k:Nat):Int):=by unfold p2;rw[cCJ]
theorem iN(e:Int):bW 0 e=(0,0):=by unfold bW;rw[if_pos rfl]
theorem tK{z e:Int}:(bW z e).1=0↔z=0:=by
 constructor
 ·intro h;unfold bW at h
  by_cases hz:z=0
  ·exact hz
  ·rw[if_neg hz]at h;dsimp only at h;have hs:=(yU z.natAbs (by omega)).1;have hd:((2^tz z.natAbs:Nat):Int)∣z:=Int.ofNat_dvd_left.2 (cFJ hs);have:=cGI hd;rw[h,cFI]at this;omega
 ·rintro rfl;rw[iN]
theorem xW{z e:Int}(hz:z≠0):z=(bW z e).1*p2 (tz z.natAbs:Nat)/\(bW z e).2=e+(tz z.natAbs:Nat):=by
 unfold bW;rw[if_neg hz];dsimp only;have hs:=(yU z.natAbs (by omega)).1;have hd:((2^tz z.natAbs:Nat):Int)∣z:=Int.ofNat_dvd_left.2 (cFJ hs);rw[Tb,cGI hd];exact⟨rfl,rfl⟩
theorem aRF(z e:Int){k:Int}(hk:0<=k):bW (z*p2 k) e=bW z (e+k):=by
 obtain⟨n,rfl⟩:=cDO hk;rw[Tb]
 by_cases hz:z=0
 ·subst hz;rw[cFI,iN,iN]
 ·have hp:0<2^n:=cBM (by decide);have hn:z*((2^n:Nat):Int)≠0:=Int.mul_ne_zero hz (by omega);have ht:tz (z*((2^n:Nat):Int)).natAbs=n+tz z.natAbs:=by
   rw[cEC,cED,cDM,Zz (by omega)]
  unfold bW;rw[if_neg hz,if_neg hn,ht,cDP,cEW,Int.mul_comm z,Int.mul_ediv_mul_of_pos _ _ (by omega)];congr 1;omega
theorem Rf{p:Int×Int}(h0:p.1=0->p.2=0)(h1:p.1≠0->p.1%2=1):bW p.1 p.2=p:=by
 unfold bW
 by_cases hz:p.1=0
 ·rw[if_pos hz];exact Prod.ext hz.symm (h0 hz).symm
 ·rw[if_neg hz,Hn (by have:=h1 hz;omega)];refine Prod.ext ?_ ?_
  ·show p.1/((2^0:Nat):Int)=p.1;rw[Nat.pow_zero];omega
  ·show p.2+((0:Nat):Int)=p.2;omega
theorem nC.same{p:Int×Int}(h:nC p):bW p.1 p.2=p:=Rf h.2.2.1 h.2.2.2
theorem Xb{z e:Int}(h:(bW z e).1≠0):(bW z e).1%2=1:=by
 have hz:z≠0:=fun hz=>h (tK.2 hz)
 have hs:=(yU z.natAbs (by omega));have hv:=(xW (e:=e) hz).1;have ha:z.natAbs=(bW z e).1.natAbs*2^tz z.natAbs:=by
  rw[Tb]at hv;have:=congrArg Int.natAbs hv;rwa [cEC,cED]at this
 have:z.natAbs/2^tz z.natAbs=(bW z e).1.natAbs:=by
  have hp:0<2^tz z.natAbs:=cBM (by decide);generalize tz z.natAbs=t at *;rw[ha,Nat.mul_div_cancel _ hp]
 rw[this]at hs;omega
theorem Mp{z e:Int}(h:(bW z e).1=0):(bW z e).2=0:=by rw[tK.1 h,iN]
theorem vB{z e:Int}(hz:z≠0):e<=(bW z e).2:=by have:=(xW (e:=e) hz).2;omega
theorem aKU(z e:Int):bW (-z) e=(-(bW z e).1,(bW z e).2):=by
 by_cases hz:z=0
 ·subst hz;rw[Int.neg_zero,iN];rfl
 ·have h:=xW (e:=e) hz;unfold bW;rw[if_neg hz,bI,cGD];have hs:=(yU z.natAbs (by omega)).1;have hd:((2^tz z.natAbs:Nat):Int)∣z:=Int.ofNat_dvd_left.2 (cFJ hs);rw[Int.neg_ediv_of_dvd hd]
theorem aRM{p q:Int×Int}:cB.iV p q<=p.2/\cB.iV p q<=q.2:=by unfold cB.iV;split <;> omega
theorem kZ{z e:Int}(h1:-1048576<=e)(h2:e+(bl z.natAbs:Int)<=1048577):jR z e=true:=by
 unfold jR
 by_cases hz:z=0
 ·rw[dqT hz,cEJ]
 ·have:=Qw (n:=z.natAbs) (by omega);rw[dqT (show -1048576<=e+(tz z.natAbs:Int) by omega),dqT (show e+(tz z.natAbs:Int)<=1048576 by omega),cBO,cEX]
theorem Xc(z e:Int):(bW z e).1.natAbs<=z.natAbs:=by
 unfold bW;split
 ·simp
 ·exact qL (cBM (by decide))
theorem jE{z e:Int}(hi:jR z e=true)(hf:bl z.natAbs<=524288):nC (bW z e):=by
 refine⟨bZJ (gD (Xc z e)) hf,?_,Mp,Xb⟩
 by_cases hz:z=0
 ·subst hz;rw[iN];exact⟨by show(-1048576:Int)<=0;omega,by show(0:Int)<=1048576;omega⟩
 ·rw[(xW hz).2];unfold jR at hi;rw[dqF hz,cAO,bYT]at hi;exact⟨of_decide_eq_true hi.1,of_decide_eq_true hi.2⟩
theorem aZV:bl (1:Int).natAbs<=1:=eF.2 (by decide)
theorem vl{α R:Type}(x:α)(k:α->Option R):aB x k=k x:=rfl
end M
namespace AI
open Go Go.RowKit
def allB:Nat->(Nat->Bool)->Bool
 |0,_=>true
 |n+1,f=>f n&&allB n f
theorem Ze{f:Nat->Bool}:∀{n:Nat},allB n f=true->∀i,i<n->f i=true
 |0,_,i,hi=>absurd hi (by omega)
 |n+1,h,i,hi=>by
  simp only[allB,bYT]at h
  by_cases hc:i=n
  ·subst hc;exact h.1
  ·exact Ze h.2 i (by omega)
def pR{β:Type}(p:SPar β)(d:β):oI (Nat×(Nat->β)) where
 put x:=.rows p.n x.1 fun i=>p.put (x.2 i)
 get
  | .rows sz n g=>if sz=p.n/\allB n (fun i=>(p.get (g i)).isSome)=true then some (n,fun i=>(p.get (g i)).getD d)else none
  |_=>none
 le:=by
  intro dd x h
  match dd,h with
  | .rows sz n g,h =>
   dsimp only at h;split at h
   ·rename_i hc;cases h;obtain⟨rfl,Bn⟩:=hc;rintro Y w v ⟨A,c,hv,hle,aXX⟩;refine⟨A,c,hv,hle,fun i hi=>?_⟩;obtain⟨h1,b,off,hA,h2⟩:=aXX i hi;have hs:=Ze Bn i hi;obtain⟨y,hy⟩:=Option.isSome_iff_exists.1 hs;obtain⟨a1,a2,a3⟩:=p.le hy;dsimp only;rw[hy];refine⟨a2,b,off,hA,fun j s hj=>?_⟩;obtain⟨s0,Pq⟩:=bV (l:=g i) (i:=j) (by have:=bB hj;simp only[Option.getD_some]at this;omega);obtain⟨b1,b2,u,hu,hr⟩:=h2 j s0 Pq;exact⟨b1,b2,u,hu,a3 j s0 s Pq hj Y w u hr⟩
   ·cases h
def pFn(id:FuncId):oI Unit where
 put _:=.s (.sc (.func (.func id) #[] #[]))
 get
  | .s (.sc (.func (.func g) ⟨[]⟩ ⟨[]⟩))=>if g=id then some ()else none
  |_=>none
 le:=by
  intro dd x h;split at h
  ·split at h
   ·rename_i hg;subst hg;exact Fl.refl _
   ·cases h
  ·cases h
end AI
namespace R
def sum(f:Nat->Rat):Nat->Rat
 |0=>0
 |n+1=>sum f n+f n
theorem eB(f:Nat->Rat)(n:Nat):sum f (n+1)=sum f n+f n:=rfl
theorem lK{f g:Nat->Rat}{n:Nat}(h:∀k,k<n->f k=g k):sum f n=sum g n:=by
 induction n with
 |zero=>rfl
 |succ n ih=>rw[eB,eB,ih fun k hk=>h k (by omega),h n (by omega)]
theorem sum_add(f g:Nat->Rat)(n:Nat):sum (fun k=>f k+g k) n=sum f n+sum g n:=by
 induction n with
 |zero=>simp only[sum];grind
 |succ n ih=>simp only[eB,ih];grind
theorem Cp(f g:Nat->Rat)(n:Nat):sum (fun k=>f k-g k) n=sum f n-sum g n:=by
 induction n with
 |zero=>simp only[sum];grind
 |succ n ih=>simp only[eB,ih];grind
theorem oT(c:Rat)(f:Nat->Rat)(n:Nat):sum (fun k=>c*f k) n=c*sum f n:=by
 induction n with
 |zero=>simp only[sum];grind
 |succ n ih=>simp only[eB,ih];grind
theorem xE{f g:Nat->Rat}{n:Nat}(h:∀k,k<n->f k<=g k):sum f n<=sum g n:=by
 induction n with
 |zero=>simp only[sum];grind
 |succ n ih=>simp only[eB];have:=ih fun k hk=>h k (by omega);have:=h n (by omega);grind
def ab(x:Rat):Rat:=if 0<=x then x else -x
theorem aT(x:Rat):0<=ab x:=by unfold ab;split <;> grind
theorem xY(x:Rat):x<=ab x:=by unfold ab;split <;> grind
theorem mJ(x:Rat):-x<=ab x:=by unfold ab;split <;> grind
theorem bY{x a:Rat}:ab x<=a↔-a<=x/\x<=a:=by unfold ab;split <;> grind
theorem iL(x:Rat):ab (-x)=ab x:=by unfold ab;split <;> split <;> grind
theorem xM(x y:Rat):ab (x+y)<=ab x+ab y:=by unfold ab;split <;> split <;> split <;> grind
theorem aI{a b:Rat}(h:0<=a)(h':0<=b):0<=a*b:=Rat.mul_nonneg h h'
theorem dV(x y:Rat):ab (x*y)=ab x*ab y:=by
 unfold ab
 by_cases hx:0<=x <;> by_cases hy:0<=y
 ·rw[if_pos hx,if_pos hy,if_pos (aI hx hy)]
 ·rw[if_pos hx,if_neg hy];have:=aI hx (show 0<=-y by grind);split <;> grind
 ·rw[if_neg hx,if_pos hy];have:=aI (show 0<=-x by grind) hy;split <;> grind
 ·rw[if_neg hx,if_neg hy];have:=aI (show 0<=-x by grind) (show 0<=-y by grind);split <;> grind
theorem cT{a b c d:Rat}(h1:0<=a)(h2:a<=b)(h3:0<=c)(h4:c<=d):a*c<=b*d:=by
 have:=aI h1 (show 0<=d-c by grind);have:=aI (show 0<=b-a by grind) (show 0<=d by grind);grind
theorem zR(f:Nat->Rat)(n:Nat):ab (sum f n)<=sum (fun k=>ab (f k)) n:=by
 induction n with
 |zero=>simp[sum,ab]
 |succ n ih=>simp only[eB];have:=xM (sum f n) (f n);grind
theorem aJT{f:Nat->Rat}{n:Nat}(h:∀k,0<=f k):0<=sum f n:=by
 induction n with
 |zero=>simp only[sum];grind
 |succ n ih=>simp only[eB];have:=h n;grind
def conv(f g:Nat->Rat)(m:Nat):Rat:=sum (fun j=>f j*g (m-j)) (m+1)
theorem aJU(f g:Nat->Rat)(n:Nat):sum (conv f g) n=sum (fun j=>f j*sum g (n-j)) n:=by
 induction n with
 |zero=>rfl
 |succ n ih =>
  rw[eB,ih,conv,eB,eB];rw[show n+1-n=1 by omega,cCR];have:sum (fun j=>f j*sum g (n+1-j)) n=sum (fun j=>f j*sum g (n-j)+f j*g (n-j)) n :=
   lK fun k hk=>by rw[show n+1-k=(n-k)+1 by omega,eB];grind
  rw[this,sum_add];have:sum g 1=g 0:=by simp only[sum];grind
  grind
theorem Fy(f g:Nat->Rat)(n:Nat):sum f n*sum g n=sum (conv f g) n+sum (fun j=>f j*(sum g n-sum g (n-j))) n:=by
 rw[aJU,<-sum_add];have:sum (fun k=>f k*sum g (n-k)+f k*(sum g n-sum g (n-k))) n=sum (fun k=>sum g n*f k) n:=lK fun k _=>by grind
 rw[this,oT];grind
def tm(x:Rat):Nat->Rat
 |0=>1
 |k+1=>tm x k*x/((k+1:Nat):Rat)
theorem cast_pos(k:Nat):(0:Rat)<((k+1:Nat):Rat):=by
 exact_mod_cast Nat.succ_pos k
theorem lY(x:Rat)(k:Nat):((k+1:Nat):Rat)*tm x (k+1)=x*tm x k:=by
 have:=cast_pos k;rw[tm];grind
theorem Si(x y:Rat):∀m,conv (tm x) (tm y) m=tm (x+y) m
 |0=>by simp only[conv,sum,tm,Nat.sub_zero];grind
 |m+1=>by
  have ih:=Si x y m;have hp:=cast_pos m;have e:=lY (x+y) m;have h:((m+1:Nat):Rat)*conv (tm x) (tm y) (m+1)=(x+y)*conv (tm x) (tm y) m:=by
   unfold conv;rw[<-oT];have h1:sum (fun k=>((m+1:Nat):Rat)*(tm x k*tm y (m+1-k))) (m+1+1)=sum (fun k=>(k:Rat)*tm x k*tm y (m+1-k)) (m+1+1)+sum (fun k=>tm x k*(((m+1-k:Nat):Rat)*tm y (m+1-k))) (m+1+1):=by
    rw[<-sum_add];refine lK fun k hk=>?_
    have:((m+1:Nat):Rat)=(k:Rat)+((m+1-k:Nat):Rat):=by
     rw[<-Rat.natCast_add];congr 1;omega
    rw[this];grind
   have h2:∀n,sum (fun k=>(k:Rat)*tm x k*tm y (m+1-k)) (n+1)=x*sum (fun k=>tm x k*tm y (m-k)) n:=by
    intro n
    induction n with
    |zero=>simp only[sum];grind
    |succ n ih =>
     rw[eB,ih,eB,show m+1-(n+1)=m-n by omega];have:=lY x n;grind
   have h3:sum (fun k=>tm x k*(((m+1-k:Nat):Rat)*tm y (m+1-k))) (m+1+1)=y*sum (fun k=>tm x k*tm y (m-k)) (m+1):=by
    rw[eB,cCR];have:sum (fun k=>tm x k*(((m+1-k:Nat):Rat)*tm y (m+1-k))) (m+1)=sum (fun k=>y*(tm x k*tm y (m-k))) (m+1):=by
     refine lK fun k hk=>?_
     have:=lY y (m-k);rw[show m+1-k=m-k+1 by omega];grind
    rw[this,oT];grind
   rw[h1,h2,h3];grind
  rw[ih]at h;generalize ((m+1:Nat):Rat)=q at *;generalize conv (tm x) (tm y) (m+1)=u at *;generalize tm (x+y) (m+1)=v at *;have:q*u=q*v:=by rw[h,e]
  have hq:q≠0:=by grind
  clear h e ih;grind
theorem lI(f:Nat->Rat)(a n:Nat):sum f (a+n)=sum f a+sum (fun i=>f (a+i)) n:=by
 induction n with
 |zero=>simp only[sum,bZO];grind
 |succ n ih=>rw[<-cCD,eB,ih,eB];grind
theorem Wh{f:Nat->Rat}(h:∀k,0<=f k){a b:Nat}(aSJ:a<=b):sum f a<=sum f b:=by
 obtain⟨n,rfl⟩:=bZS aSJ;rw[lI];have:=aJT (f:=fun i=>f (a+i)) (n:=n) fun k=>h _
 grind
def hf:Nat->Rat
 |0=>1
 |k+1=>hf k/2
theorem wI:∀k,0<hf k
 |0=>by simp only[hf];grind
 |k+1=>by have:=wI k;simp only[hf];grind
theorem Ng(a:Nat):∀b,hf (a+b)=hf a*hf b
 |0=>by simp only[hf,bZO];grind
 |b+1=>by rw[<-cCD,hf,Ng a b,hf];grind
theorem aLZ{a b:Nat}(h:a<=b):hf b<=hf a:=by
 obtain⟨n,rfl⟩:=bZS h;clear h
 induction n with
 |zero=>grind
 |succ n ih=>rw[<-cCD,hf];have:=wI (a+n);grind
theorem Ih(k:Nat):hf k*(2^k:Nat)=1:=by
 induction k with
 |zero=>simp only[hf];grind
 |succ k ih=>rw[hf,cDL,cFK];grind
theorem bMG(n:Nat):sum hf n<=2:=by
 have:sum hf n=2-2*hf n:=by
  induction n with
  |zero=>simp only[sum,hf];grind
  |succ n ih=>rw[eB,ih,hf];grind
 have:=wI n;grind
theorem oS{x:Rat}(h:0<=x):∀k,0<=tm x k
 |0=>by simp only[tm];grind
 |k+1=>by
  have h1:=aI h (oS h k);have h2:=lY x k;have h3:=cast_pos k;refine Rat.not_lt.1 fun hn=>?_
  have:=cEE h3 (show 0 < -(tm x (k+1)) by grind);grind
theorem Qy(x:Rat):∀k,ab (tm x k)=tm (ab x) k
 |0=>by simp only[tm,ab];grind
 |k+1=>by
  have h3:=cast_pos k;have h1:=Qy x k;have h2:=lY x k;have h4:=lY (ab x) k;have h5:ab (((k+1:Nat):Rat)*tm x (k+1))=ab x*ab (tm x k):=by rw[h2,dV]
  rw[dV,h1]at h5;have h6:ab ((k+1:Nat):Rat)=((k+1:Nat):Rat):=by unfold ab;rw[if_pos (by grind)]
  rw[h6]at h5;generalize ((k+1:Nat):Rat)=q at *;generalize ab (tm x (k+1))=u at *;generalize tm (ab x) (k+1)=v at *;have hq:q≠0:=by grind
  have:q*u=q*v:=by grind
  clear h1 h2 h4 h5 h6;grind
theorem aDE{x y:Rat}(h:0<=x)(aPO:x<=y):∀k,tm x k<=tm y k
 |0=>by simp only[tm];grind
 |k+1=>by
  have h1:=cT (oS h k) (aDE h aPO k) h aPO;have h2:=lY x k;have h4:=lY y k;have h3:=cast_pos k;refine Rat.not_lt.1 fun hn=>?_
  have:=cEE h3 (show 0<tm x (k+1)-tm y (k+1) by grind);grind
theorem aJM(j:Nat):tm 4 (8+j)<=2*hf j:=by
 induction j with
 |zero =>
  have:tm 4 8=65536/40320:=by simp only[tm];grind
  simp only[hf,bZO,this];grind
 |succ j ih =>
  have h2:=lY 4 (8+j);have h3:(8:Rat)<=((8+j+1:Nat):Rat):=by exact_mod_cast(show 8<=8+j+1 by omega)
  have h4:=oS (x:=4) (by grind) (8+j+1);rw[<-cCD,hf];have:=aI (show 0<=((8+j+1:Nat):Rat)-8 by grind) h4;grind
theorem Ar(m n:Nat):sum (fun i=>tm 4 (8+m+i)) n<=4*hf m:=by
 have h1:sum (fun i=>tm 4 (8+m+i)) n<=sum (fun i=>2*hf m*hf i) n:=xE fun k _=>by
  have:=aJM (m+k);rw[Ng,<-cCD]at this;grind
 rw[oT]at h1;have:=aI (show 0<=2*hf m by have:=wI m;grind) (show 0<=2-sum hf n by have:=bMG n;grind);grind
theorem aDF(n:Nat):sum (tm 4) n<=64:=by
 have h0:∀k,0<=tm 4 k:=oS (by grind);have h1:=Wh h0 (show n<=8+n by omega);have h2:=lI (tm 4) 8 n;have h3:=Ar 0 n;have h4:sum (tm 4) 8<=52:=by
  simp only[sum,tm];grind
 simp only[hf,bZO]at h3;grind
theorem Kj{f g:Nat->Rat}(aVF:∀k,ab (f k)<=tm 4 k)(hg:∀k,ab (g k)<=tm 4 k)(m:Nat) :
  ab (sum (fun j=>f j*(sum g (2*(8+m))-sum g (2*(8+m)-j))) (2*(8+m)))<=512*hf m:=by
 have hG:∀a n,ab (sum g (a+n)-sum g a)<=sum (fun i=>tm 4 (a+i)) n:=fun a n=>by
  rw[lI,show sum g a+sum (fun i=>g (a+i)) n-sum g a=sum (fun i=>g (a+i)) n by grind];exact cDS (zR _ _) (xE fun k _=>hg _)
 have h0:∀k,0<=tm 4 k:=oS (by grind);refine cDS (zR _ _) ?_;have hp:=wI m;have e:2*(8+m)=(8+m)+(8+m):=by omega
 rw[show sum (fun k=>ab (f k*(sum g (2*(8+m))-sum g (2*(8+m)-k)))) (2*(8+m))=sum (fun k=>ab (f k*(sum g (2*(8+m))-sum g (2*(8+m)-k)))) ((8+m)+(8+m)) by rw[<-e],lI];have p1:sum (fun k=>ab (f k*(sum g (2*(8+m))-sum g (2*(8+m)-k)))) (8+m)<=sum (fun k=>4*hf m*tm 4 k) (8+m):=xE fun k hk=>by
  rw[dV];have h1:=hG (2*(8+m)-k) k;rw[show 2*(8+m)-k+k=2*(8+m) by omega]at h1;have h2:=Ar (8+m-k) k;rw[show 8+(8+m-k)=2*(8+m)-k-m by omega]at h2;have h3:=Ar (m+(8+m-k)-8+8-8+8) k;have h5:sum (fun i=>tm 4 (2*(8+m)-k+i)) k<=4*hf (2*(8+m)-k-8):=by
   have:=Ar (2*(8+m)-k-8) k;rwa [show 8+(2*(8+m)-k-8)=2*(8+m)-k by omega]at this
  have h6:=aLZ (show m<=2*(8+m)-k-8 by omega);have:=cT (aT _) (aVF k) (aT _) (show ab (sum g (2*(8+m))-sum g (2*(8+m)-k))<=4*hf m by grind);grind
 have p2:sum (fun i=>ab (f (8+m+i)*(sum g (2*(8+m))-sum g (2*(8+m)-(8+m+i))))) (8+m)<=sum (fun i=>64*tm 4 (8+m+i)) (8+m):=xE fun k hk=>by
  rw[dV];have h1:=hG (2*(8+m)-(8+m+k)) (8+m+k);rw[show 2*(8+m)-(8+m+k)+(8+m+k)=2*(8+m) by omega]at h1;have h2:=lI (tm 4) (2*(8+m)-(8+m+k)) (8+m+k);have h3:=aDF (2*(8+m)-(8+m+k)+(8+m+k));have h4:=aJT (n:=2*(8+m)-(8+m+k)) h0;have:=cT (aT _) (aVF (8+m+k)) (aT _) (show ab (sum g (2*(8+m))-sum g (2*(8+m)-(8+m+k)))<=64 by grind);grind
 rw[oT]at p1 p2;have t1:=aDF (8+m);have t2:=Ar m (8+m);have:=aI (show 0<=4*hf m by grind) (show 0<=64-sum (tm 4) (8+m) by grind);grind
def cc(k:Nat):Rat:=if k%4=0 then 1 else if k%4=2 then -1 else 0
def ss(k:Nat):Rat:=if k%4=1 then 1 else if k%4=3 then -1 else 0
theorem aZR(j l:Nat):cc j*cc l-ss j*ss l=cc (j+l):=by
 unfold cc ss;rw[cET];have h1:=cAV j (show 4>0 by omega);have h2:=cAV l (show 4>0 by omega);generalize j%4=a at *;generalize l%4=b at *;have h3:a=0\/a=1\/a=2\/a=3:=by omega
 have h4:b=0\/b=1\/b=2\/b=3:=by omega
 rcases h3 with rfl |rfl |rfl |rfl <;> rcases h4 with rfl |rfl |rfl |rfl <;> simp <;> grind
theorem aWH(j l:Nat):ss j*cc l+cc j*ss l=ss (j+l):=by
 unfold cc ss;rw[cET];have h1:=cAV j (show 4>0 by omega);have h2:=cAV l (show 4>0 by omega);generalize j%4=a at *;generalize l%4=b at *;have h3:a=0\/a=1\/a=2\/a=3:=by omega
 have h4:b=0\/b=1\/b=2\/b=3:=by omega
 rcases h3 with rfl |rfl |rfl |rfl <;> rcases h4 with rfl |rfl |rfl |rfl <;> simp <;> grind
theorem aNT(k:Nat):ab (cc k)<=1:=by
 unfold cc ab;split <;> split <;> grind
theorem aDJ(k:Nat):ab (ss k)<=1:=by
 unfold ss ab;split <;> split <;> grind
def vI(x:Rat)(n:Nat):Rat:=sum (fun k=>cc k*tm x k) n
def uX(x:Rat)(n:Nat):Rat:=sum (fun k=>ss k*tm x k) n
theorem aFK{x:Rat}(h:ab x<=4)(k:Nat):ab (cc k*tm x k)<=tm 4 k:=by
 rw[dV,Qy];have:=cT (aT _) (aNT k) (oS (aT x) k) (aDE (aT x) h k);grind
theorem aDI{x:Rat}(h:ab x<=4)(k:Nat):ab (ss k*tm x k)<=tm 4 k:=by
 rw[dV,Qy];have:=cT (aT _) (aDJ k) (oS (aT x) k) (aDE (aT x) h k);grind
theorem aZP(x y:Rat)(m:Nat):conv (fun k=>cc k*tm x k) (fun k=>cc k*tm y k) m-conv (fun k=>ss k*tm x k) (fun k=>ss k*tm y k) m=cc m*tm (x+y) m:=by
 rw[<-Si];unfold conv;rw[<-Cp,<-oT];refine lK fun k hk=>?_
 have:=aZR k (m-k);rw[show k+(m-k)=m by omega]at this;rw[<-this];grind
theorem aZO(x y:Rat)(m:Nat):conv (fun k=>ss k*tm x k) (fun k=>cc k*tm y k) m+conv (fun k=>cc k*tm x k) (fun k=>ss k*tm y k) m=ss m*tm (x+y) m:=by
 rw[<-Si];unfold conv;rw[<-sum_add,<-oT];refine lK fun k hk=>?_
 have:=aWH k (m-k);rw[show k+(m-k)=m by omega]at this;rw[<-this];grind
theorem aNN{x y:Rat}(hx:ab x<=4)(hy:ab y<=4)(m:Nat):ab (vI (x+y) (2*(8+m))-(vI x (2*(8+m))*vI y (2*(8+m))-uX x (2*(8+m))*uX y (2*(8+m))))<=1024*hf m:=by
 have h1:=Kj (aFK hx) (aFK hy) m;have h2:=Kj (aDI hx) (aDI hy) m;unfold vI uX;rw[Fy,Fy];have h3:sum (fun k=>cc k*tm (x+y) k) (2*(8+m))=sum (conv (fun k=>cc k*tm x k) (fun k=>cc k*tm y k)) (2*(8+m))-sum (conv (fun k=>ss k*tm x k) (fun k=>ss k*tm y k)) (2*(8+m)):=by
  rw[<-Cp];exact lK fun k _=>(aZP x y k).symm
 rw[h3];rw[bY]at *;grind
theorem aKE{x y:Rat}(hx:ab x<=4)(hy:ab y<=4)(m:Nat):ab (uX (x+y) (2*(8+m))-(uX x (2*(8+m))*vI y (2*(8+m))+vI x (2*(8+m))*uX y (2*(8+m))))<=1024*hf m:=by
 have h1:=Kj (aDI hx) (aFK hy) m;have h2:=Kj (aFK hx) (aDI hy) m;unfold vI uX;rw[Fy,Fy];have h3:sum (fun k=>ss k*tm (x+y) k) (2*(8+m))=sum (conv (fun k=>ss k*tm x k) (fun k=>cc k*tm y k)) (2*(8+m))+sum (conv (fun k=>cc k*tm x k) (fun k=>ss k*tm y k)) (2*(8+m)):=by
  rw[<-sum_add];exact lK fun k _=>(aZO x y k).symm
 rw[h3];rw[bY]at *;grind
theorem aNO(x:Rat)(n:Nat):vI (-x) n=vI x n:=by
 refine lK fun k _=>?_
 have:∀k,cc k*tm (-x) k=cc k*tm x k/\ss k*tm (-x) k=- (ss k*tm x k):=by
  intro k;have h:∀j,tm (-x) (2*j)=tm x (2*j)/\tm (-x) (2*j+1)=- tm x (2*j+1):=by
   intro j
   induction j with
   |zero=>simp only[tm];grind
   |succ j ih =>
    rw[show 2*(j+1)=2*j+1+1 by omega];obtain⟨h1,h2⟩:=ih;have e:tm (-x) (2*j+1+1)=tm x (2*j+1+1):=by rw[tm,h2];grind [tm]
    refine⟨e,?_⟩;rw[tm,e];grind [tm]
  have:=h (k/2);unfold cc ss
  by_cases hk:k%2=0
  ·rw[show 2*(k/2)=k by omega]at this;rw[if_neg (show ¬k%4=1 by omega),if_neg (show ¬k%4=3 by omega),this.1];grind
  ·rw[show 2*(k/2)+1=k by omega]at this;rw[if_neg (show ¬k%4=0 by omega),if_neg (show ¬k%4=2 by omega),this.2];grind
 exact(this k).1
theorem aKF(x:Rat)(n:Nat):uX (-x) n=- uX x n:=by
 unfold uX;rw[show -sum (fun k=>ss k*tm x k) n=(-1)*sum (fun k=>ss k*tm x k) n by grind,<-oT];refine lK fun k _=>?_
 have h:∀j,tm (-x) (2*j)=tm x (2*j)/\tm (-x) (2*j+1)=- tm x (2*j+1):=by
  intro j
  induction j with
  |zero=>simp only[tm];grind
  |succ j ih =>
   rw[show 2*(j+1)=2*j+1+1 by omega];obtain⟨h1,h2⟩:=ih;have e:tm (-x) (2*j+1+1)=tm x (2*j+1+1):=by rw[tm,h2];grind [tm]
   refine⟨e,?_⟩;rw[tm,e];grind [tm]
 have:=h (k/2);unfold ss
 by_cases hk:k%2=0
 ·rw[if_neg (show ¬k%4=1 by omega),if_neg (show ¬k%4=3 by omega)];grind
 ·rw[show 2*(k/2)+1=k by omega]at this;rw[this.2];grind
theorem Ls{x:Rat}(h0:0<=x)(h1:x<=1)(a:Nat)(ha:1<=a)(n:Nat):sum (fun i=>tm x (a+i)) n<=2*tm x a:=by
 have hh:∀i,tm x (a+i)<=tm x a*hf i:=by
  intro i
  induction i with
  |zero=>simp only[hf,bZO];grind
  |succ i ih =>
   have h2:=lY x (a+i);have h3:(2:Rat)<=((a+i+1:Nat):Rat):=by exact_mod_cast(show 2<=a+i+1 by omega)
   have h4:=oS h0 (a+i+1);have h5:=oS h0 (a+i);have:=aI (show 0<=((a+i+1:Nat):Rat)-2 by grind) h4;have:=aI (show 0<=1-x by grind) h5;rw[<-cCD,hf];grind
 have h1:sum (fun i=>tm x (a+i)) n<=sum (fun i=>tm x a*hf i) n:=xE fun k _=>hh k
 rw[oT]at h1;have:=aI (oS h0 a) (show 0<=2-sum hf n by have:=bMG n;grind);grind
theorem aNM{x:Rat}(h:ab x<=1){a n:Nat}(ha:1<=a)(hn:a<=n):ab (vI x n-vI x a)<=2*tm (ab x) a:=by
 obtain⟨m,rfl⟩:=bZS hn;unfold vI;rw[lI,show sum (fun k=>cc k*tm x k) a+sum (fun i=>cc (a+i)*tm x (a+i)) m-sum (fun k=>cc k*tm x k) a=sum (fun i=>cc (a+i)*tm x (a+i)) m by grind];refine cDS (zR _ _) (cDS (xE fun k _=>?_) (Ls (aT x) h a ha m));rw[dV,Qy];have:=cT (aT _) (aNT (a+k)) (oS (aT x) (a+k)) cEZ;grind
theorem aKC{x:Rat}(h:ab x<=1){a n:Nat}(ha:1<=a)(hn:a<=n):ab (uX x n-uX x a)<=2*tm (ab x) a:=by
 obtain⟨m,rfl⟩:=bZS hn;unfold uX;rw[lI,show sum (fun k=>ss k*tm x k) a+sum (fun i=>ss (a+i)*tm x (a+i)) m-sum (fun k=>ss k*tm x k) a=sum (fun i=>ss (a+i)*tm x (a+i)) m by grind];refine cDS (zR _ _) (cDS (xE fun k _=>?_) (Ls (aT x) h a ha m));rw[dV,Qy];have:=cT (aT _) (aDJ (a+k)) (oS (aT x) (a+k)) cEZ;grind
theorem bGG:∃k:Nat,k=1048576:=⟨_,rfl⟩
def K:Nat:=Classical.choose bGG
theorem bAN:K=1048576:=Classical.choose_spec bGG
def aTK:Nat:=2*(8+(K+10))
def vR:Rat:=hf K
def sn(x:Rat):Rat:=uX x aTK
def cs(x:Rat):Rat:=vI x aTK
theorem vF:0<vR:=wI K
theorem aMX:1024*hf (K+10)=vR:=by
 have:=Ng K 10;have h:hf 10=1/1024:=by simp only[hf];grind
 unfold vR;grind
theorem Da{n:Nat}(h:n<=1048576):vR<=hf n:=aLZ (by rw[bAN];exact h)
theorem Gn:vR<=1/1048576:=by
 have:=Da (n:=20) (by omega);simp only[hf]at this;grind
theorem Es{x y:Rat}(hx:ab x<=4)(hy:ab y<=4):ab (cs (x+y)-(cs x*cs y-sn x*sn y))<=vR:=by
 rw[<-aMX];exact aNN hx hy _
theorem aAE{x y:Rat}(hx:ab x<=4)(hy:ab y<=4):ab (sn (x+y)-(sn x*cs y+cs x*sn y))<=vR:=by
 rw[<-aMX];exact aKE hx hy _
theorem aBQ(x:Rat):cs (-x)=cs x:=aNO x _
theorem Ay(x:Rat):sn (-x)=- sn x:=aKF x _
theorem aQI(k:Nat):tm 0 (k+1)=0:=by rw[tm];grind
theorem aQO:sn 0=0:=by
 have:=Ay 0;rw[show(-0:Rat)=0 by grind]at this;grind
theorem Uv{a:Nat}(h:a<=1048576):a<=aTK:=by unfold aTK;rw[bAN];omega
theorem Lb{x:Rat}(h:ab x<=1){a:Nat}(ha:1<=a)(hn:a<=1048576):ab (cs x-vI x a)<=2*tm (ab x) a:=aNM h ha (Uv hn)
theorem So{x:Rat}(h:ab x<=1){a:Nat}(ha:1<=a)(hn:a<=1048576):ab (sn x-uX x a)<=2*tm (ab x) a:=aKC h ha (Uv hn)
theorem aFL:cs 0=1:=by
 have h:=Lb (x:=0) (by simp only[ab];grind) (a:=1) (by omega) (by omega);rw[show ab 0=0 by simp only[ab];grind,show(1:Nat)=0+1 by rfl,aQI]at h;have h2:vI 0 (0+1)=1:=by simp[vI,sum,cc,tm];grind
 rw[bY,h2]at h;grind
theorem aKP{x:Rat}(hx:ab x<=4):ab (sn x*sn x+cs x*cs x-1)<=vR:=by
 have:=Es hx (show ab (-x)<=4 by rwa [iL]);rw[show x+-x=0 by grind,aFL,aBQ,Ay]at this;rw[bY]at *;grind
theorem Rb{x:Rat}(hx:ab x<=4):ab (sn (2*x)-2*sn x*cs x)<=vR:=by
 have:=aAE hx hx;rw[show x+x=2*x by grind]at this;rw[bY]at *;grind
theorem Rr{x:Rat}(hx:ab x<=4):ab (cs (2*x)-(1-2*(sn x*sn x)))<=2*vR:=by
 have:=Es hx hx;have:=aKP hx;rw[show x+x=2*x by grind]at *;rw[bY]at *;grind
theorem xT{a b:Rat}(h:a*a<=b*b)(hb:0<=b):ab a<=b:=by
 rw[bY];constructor
 ·refine Rat.not_lt.1 fun hn=>?_
  have:=cEE (show 0 < -a-b by grind) (show 0 < -a+b by grind);grind
 ·refine Rat.not_lt.1 fun hn=>?_
  have:=cEE (show 0<a-b by grind) (show 0<a+b by grind);grind
theorem bIC(a:Rat):0<=a*a:=by
 by_cases h:0<=a
 ·exact aI h h
 ·have:=aI (show 0<=-a by grind) (show 0<=-a by grind);grind
theorem aDP{x:Rat}(hx:ab x<=4):ab (sn x)<=1+vR:=by
 have h:=aKP hx;have h1:=vF;have h2:=bIC (cs x);have h3:=aI (show 0<=vR by grind) (show 0<=vR by grind);refine xT ?_ (by grind);rw[bY]at h;grind
theorem aFO{x:Rat}(hx:ab x<=4):ab (cs x)<=1+vR:=by
 have h:=aKP hx;have h1:=vF;have h2:=bIC (sn x);have h3:=aI (show 0<=vR by grind) (show 0<=vR by grind);refine xT ?_ (by grind);rw[bY]at h;grind
theorem bQ{x:Rat}(h:0<=x):ab x=x:=by unfold ab;rw[if_pos h]
theorem Dz(x:Rat):tm x 1=x/\tm x 2=x*x/2/\tm x 3=x*x*x/6/\tm x 4=x*x*x*x/24/\tm x 5=x*x*x*x*x/120/\tm x 6=x*x*x*x*x*x/720:=by
 simp only[tm];refine⟨?_,?_,?_,?_,?_,?_⟩ <;> grind
theorem Ax{x:Rat}(h0:0<=x)(h1:x<=1):x-x*x*x/6<=sn x/\sn x<=x-x*x*x/6+x*x*x*x*x/60:=by
 have a1:ab x<=1:=by rwa [bQ h0]
 have t5:=So a1 (a:=5) (by omega) (by omega);have t7:=So a1 (a:=7) (by omega) (by omega);rw[bQ h0]at t5 t7;obtain⟨e1,e2,e3,e4,e5,e6⟩:=Dz x;have p5:uX x 5=x-x*x*x/6:=by simp[uX,sum,ss];rw[e1,e3];grind
 have p7:uX x 7=x-x*x*x/6+x*x*x*x*x/120:=by simp[uX,sum,ss];rw[e1,e3,e5];grind
 have e7:tm x 7<=tm x 5/4:=by
  have h2:=lY x 6;have h3:=lY x 5;have:=oS h0 7;have:=oS h0 6;have:=oS h0 5;have:=aI (show 0<=1-x by grind) (oS h0 6);have:=aI (show 0<=1-x by grind) (oS h0 5);norm_cast at h2 h3;grind
 rw[bY,p5,e5]at t5;rw[bY,p7]at t7;rw[e5]at e7;grind
theorem Gr{x:Rat}(h0:0<=x)(h1:x<=1):1-x*x/2<=cs x/\cs x<=1-x*x/2+x*x*x*x/12:=by
 have a1:ab x<=1:=by rwa [bQ h0]
 have t5:=Lb a1 (a:=4) (by omega) (by omega);have t7:=Lb a1 (a:=6) (by omega) (by omega);rw[bQ h0]at t5 t7;obtain⟨e1,e2,e3,e4,e5,e6⟩:=Dz x;have p5:vI x 4=1-x*x/2:=by simp[vI,sum,cc];rw[e2,tm];grind
 have p7:vI x 6=1-x*x/2+x*x*x*x/24:=by simp[vI,sum,cc];rw[e2,e4,tm];grind
 have e7:tm x 6<=tm x 4/4:=by
  have h2:=lY x 5;have h3:=lY x 4;have:=oS h0 6;have:=oS h0 5;have:=oS h0 4;have:=aI (show 0<=1-x by grind) (oS h0 5);have:=aI (show 0<=1-x by grind) (oS h0 4);norm_cast at h2 h3;grind
 rw[bY,p5,e4]at t5;rw[bY,p7]at t7;rw[e4]at e7;grind
theorem aJL{x y:Rat}(hx:ab x<=1)(hy:ab y<=1):∀k,ab (tm y (k+1)-tm x (k+1))<=ab (y-x)*tm 1 k
 |0=>by
  obtain⟨e1,_⟩:=Dz x;obtain⟨e2,_⟩:=Dz y;rw[show 0+1=1 by rfl,e1,e2,tm];grind
 |k+1=>by
  have ih:=aJL hx hy k;have h2:=lY x (k+1);have h3:=lY y (k+1);have h1:=lY 1 k;have hp:=cast_pos (k+1);have e:((k+1+1:Nat):Rat)*(tm y (k+1+1)-tm x (k+1+1))=(y-x)*tm y (k+1)+x*(tm y (k+1)-tm x (k+1)):=by grind
  have e2:=congrArg ab e;have e3:=xM ((y-x)*tm y (k+1)) (x*(tm y (k+1)-tm x (k+1)));rw[dV,bQ (show(0:Rat)<=((k+1+1:Nat):Rat) by grind)]at e2;rw[dV,dV,Qy]at e3;have b1:=cT (aT (y-x)) cEZ (oS (aT y) (k+1)) (aDE (aT y) hy (k+1));have b2:=cT (aT x) hx (aT _) ih;have hc:((k+1+1:Nat):Rat)=((k+1:Nat):Rat)+1:=by norm_cast
  refine Rat.not_lt.1 fun hn=>?_
  have:=cEE hp (show 0<ab (tm y (k+1+1)-tm x (k+1+1))-ab (y-x)*tm 1 (k+1) by grind);have aBG:tm 1 k=((k+1:Nat):Rat)*tm 1 (k+1):=by grind
  rw[aBG]at b2;rw[hc]at this e2;clear e h2 h3 h1 ih aBG hc hp hx hy;generalize ((k+1:Nat):Rat)=q at *;generalize ab (tm y (k+1+1)-tm x (k+1+1))=A at *;generalize ab ((y-x)*tm y (k+1)+x*(tm y (k+1)-tm x (k+1)))=B at *;generalize ab (y-x)=d at *;generalize tm 1 (k+1)=T at *;grind
theorem aJN(a:Nat)(ha:1<=a)(n:Nat):sum (fun i=>tm 1 (a+i)) n<=2*tm 1 a:=Ls (by grind) (by grind) a ha n
theorem aAD{x y:Rat}(hx:ab x<=1)(hy:ab y<=1):ab (sn y-sn x-(y-x))<=3/4*ab (y-x):=by
 have hN:=Uv (a:=3) (by omega);obtain⟨n,hn⟩:=bZS hN;unfold sn uX;rw[hn,lI,lI];obtain⟨e1,_⟩:=Dz x;obtain⟨e2,_⟩:=Dz y;have p:sum (fun k=>ss k*tm x k) 3=x:=by simp[sum,ss];rw[e1];grind
 have q:sum (fun k=>ss k*tm y k) 3=y:=by simp[sum,ss];rw[e2];grind
 rw[p,q,show y+sum (fun i=>ss (3+i)*tm y (3+i)) n-(x+sum (fun i=>ss (3+i)*tm x (3+i)) n)-(y-x)=sum (fun i=>ss (3+i)*tm y (3+i)) n-sum (fun i=>ss (3+i)*tm x (3+i)) n by grind,<-Cp];refine cDS (zR _ _) ?_;have h1:sum (fun k=>ab (ss (3+k)*tm y (3+k)-ss (3+k)*tm x (3+k))) n<=sum (fun k=>ab (y-x)*tm 1 (2+k)) n:=xE fun k _=>by
  have:=aJL hx hy (2+k);rw[show 2+k+1=3+k by omega]at this;rw[show ss (3+k)*tm y (3+k)-ss (3+k)*tm x (3+k)=ss (3+k)*(tm y (3+k)-tm x (3+k)) by grind,dV];have:=cT (aT _) (aDJ (3+k)) (aT _) this;grind
 rw[oT]at h1;have h2:sum (fun k=>tm 1 (2+k)) n<=3/4:=by
  have h3:=Wh (f:=fun k=>tm 1 (2+k)) (fun k=>oS (by grind) _) (show n<=2+n by omega);have h4:=lI (fun k=>tm 1 (2+k)) 2 n;have h5:=aJN 4 (by omega) n;obtain⟨_,f2,f3,f4,_⟩:=Dz 1;have h6:sum (fun k=>tm 1 (2+k)) 2=2/3:=by simp[sum];rw[f2,f3];grind
  have h7:sum (fun i=>tm 1 (2+(2+i))) n=sum (fun i=>tm 1 (4+i)) n:=lK fun k _=>by rw[show 2+(2+k)=4+k by omega]
  rw[f4]at h5;grind
 have:=aI (aT (y-x)) (show 0<=3/4-sum (fun k=>tm 1 (2+k)) n by grind);grind
theorem aFN{a b:Rat}(ha:ab a<=4)(hb:ab b<=4):ab (cs (a-b)-cs (a+b)-2*(sn a*sn b))<=2*vR:=by
 have h1:=Es ha hb;have h2:=Es ha (show ab (-b)<=4 by rwa [iL]);rw[aBQ,Ay,show a+-b=a-b by grind]at h2;rw[bY]at *;grind
theorem Ly{x:Rat}(h0:0<=x)(h1:x<=1):0<=sn x:=by
 have:=(Ax h0 h1).1;have h2:=cT h0 h1 h0 h1;have h3:=aI h0 (show 0<=1*1-x*x by grind);grind
theorem aDN{x:Rat}(h0:0<=x)(h1:x<=1):sn x<=x:=by
 have:=(Ax h0 h1).2;have h2:=cT h0 h1 h0 h1;have h4:=aI (aI h0 h0) h0;have h3:=aI h4 (show 0<=1*1-x*x by grind);grind
theorem aAG{x:Rat}(h:ab x<=1):ab (sn x)<=ab x:=by
 by_cases h0:0<=x
 ·rw[bQ h0]at *;have:=Ly h0 h;have:=aDN h0 h;rw[bY];grind
 ·have e:ab x=-x:=by unfold ab;rw[if_neg h0]
  rw[e]at h;rw[e];have h1:=Ly (show 0<=-x by grind) h;have h2:=aDN (show 0<=-x by grind) h;rw[Ay]at h1 h2;rw[bY];grind
theorem aFM{x y:Rat}(h0:0<=x)(h:x<=y)(h1:y<=1):cs y<=cs x+2*vR:=by
 have h2:=aFN (a:=(x+y)/2) (b:=(y-x)/2) (by rw[bY];grind) (by rw[bY];grind);rw[show(x+y)/2-(y-x)/2=x by grind,show(x+y)/2+(y-x)/2=y by grind,bY]at h2;have h3:=aI (Ly (x:=(x+y)/2) (by grind) (by grind)) (Ly (x:=(y-x)/2) (by grind) (by grind));grind
theorem aBR{x y:Rat}(hx:ab x<=1)(hy:ab y<=1):ab (cs y-cs x)<=ab (y-x)+2*vR:=by
 have b1:ab ((x+y)/2)<=1:=by rw[bY]at *;grind
 have b2:ab ((y-x)/2)<=1:=by rw[bY]at *;grind
 have h2:=aFN (a:=(x+y)/2) (b:=(y-x)/2) (by grind) (by grind);rw[show(x+y)/2-(y-x)/2=x by grind,show(x+y)/2+(y-x)/2=y by grind]at h2;have h3:=cT (aT _) (aAG b1) (aT _) (aAG b2);have h4:=cT (aT _) b1 (aT _) (show ab ((y-x)/2)<=ab ((y-x)/2)from cEZ);rw[<-dV]at h3;have h5:ab ((y-x)/2)=ab (y-x)/2:=by unfold ab;split <;> split <;> grind
 rw[h5]at h3 h4;have h6:=xY (sn ((x+y)/2)*sn ((y-x)/2));have h7:=mJ (sn ((x+y)/2)*sn ((y-x)/2));rw[bY]at h2 ⊢;clear h5 b1 b2 hx hy;generalize sn ((x+y)/2)*sn ((y-x)/2)=P at *;generalize ab ((x+y)/2)*(ab (y-x)/2)=Q at *;grind
theorem Sp{x y:Rat}(hx:ab x<=1)(hy:ab y<=1):ab (sn y-sn x)<=2*ab (y-x):=by
 have h:=aAD hx hy;have h1:=xY (y-x);have h2:=mJ (y-x);rw[bY]at h ⊢;grind
theorem aDM{x y:Rat}(hx:ab x<=1)(hy:ab y<=1)(h:x<=y):sn x<=sn y:=by
 have h1:=aAD hx hy;rw[bQ (show 0<=y-x by grind),bY]at h1;grind
theorem rT(a:Nat){b:Nat}(_hb:0<b):(b:Rat)*((a/b:Nat):Rat)<=(a:Rat)/\(a:Rat)<(b:Rat)*((a/b:Nat):Rat)+(b:Rat):=by
 have h1:=cDT a b;have h2:=cAV a _hb;constructor
 ·exact_mod_cast(show b*(a/b)<=a by omega)
 ·exact_mod_cast(show a<b*(a/b)+b by omega)
theorem bP{q a b:Rat}(hq:0<q)(h:q*a<=q*b):a<=b:=by
 refine Rat.not_lt.1 fun hn=>?_
 have:=cEE hq (show 0<a-b by grind);grind
theorem qU{q a b:Rat}(hq:0<q)(h:q*a<q*b):a<b:=by
 refine Rat.not_le.1 fun hn=>?_
 have:=aI (cDU hq) (show 0<=a-b by grind);grind
def sq(u W:Nat):Nat->Nat
 |0=>W
 |k+1=>sq u W k*u/W/(k+1)
theorem Lw{u W:Nat}(hW:0<W){x:Rat}(hx:x*(W:Rat)=(u:Rat))(h0:0<=x)(h1:x<=1/2):∀k,0<=tm x k*W-sq u W k/\tm x k*W-sq u W k<=2
 |0=>by simp only[tm,sq];grind
 |k+1=>by
  obtain⟨i1,i2⟩:=Lw hW hx h0 h1 k;obtain⟨d1,d2⟩:=rT (sq u W k*u) (b:=W*(k+1)) (cFL hW (by omega));rw[sq,cEB];rw[cFK,cFK,<-hx]at d1 d2;have hc:=lY x k;have hp:=cast_pos k;have h1k:(1:Rat)<=((k+1:Nat):Rat):=by exact_mod_cast(show 1<=k+1 by omega)
  have aMK:(0:Rat)<(W:Rat):=by exact_mod_cast hW
  generalize ((sq u W k*u/(W*(k+1)):Nat):Rat)=t' at *;generalize (sq u W k:Rat)=t at *;generalize ((k+1:Nat):Rat)=q at *;have bXK:q*t'<=t*x:=bP aMK (by grind);have bXJ:t*x<q*t'+q:=qU aMK (by grind);have hcW:q*tm x (k+1)*(W:Rat)=x*tm x k*(W:Rat):=by rw[hc]
  have e1:=aI h0 i1;have e2:=aI (show 0<=1/2-x by grind) i1;refine⟨bP hp ?_,bP hp ?_⟩ <;> grind
theorem aJS{u W:Nat}(hW:0<W){x:Rat}(hx:x*(W:Rat)=(u:Rat))(h0:0<=x)(h1:x<=1/2){n:Nat}(hn:1<=n)(aGY:n<=1048576)(hz:sq u W n=0) :
  ab (sum (fun k=>cc k*(sq u W k:Rat)) n-W*cs x)<=2*(n:Rat)+4:=by
 have hs:ab (sum (fun k=>cc k*(sq u W k:Rat)) n-W*vI x n)<=2*(n:Rat):=by
  unfold vI;rw[<-oT,<-Cp];refine cDS (zR _ _) ?_;have:∀m,sum (fun k=>ab (cc k*(sq u W k:Rat)-W*(cc k*tm x k))) m<=2*(m:Rat):=by
   intro m
   induction m with
   |zero=>simp only[sum];grind
   |succ m ih =>
    rw[eB];obtain⟨a1,a2⟩:=Lw hW hx h0 h1 m;have:ab (cc m*(sq u W m:Rat)-W*(cc m*tm x m))<=2:=by
     rw[show cc m*(sq u W m:Rat)-W*(cc m*tm x m)=cc m*(sq u W m-tm x m*W) by grind,dV];have b1:ab (sq u W m-tm x m*W)<=2:=by rw[bY];grind
     have:=cT (aT _) (aNT m) (aT _) b1;grind
    have hc:((m+1:Nat):Rat)=(m:Rat)+1:=by norm_cast
    rw[hc];grind
  exact this n
 have ht:=Lb (x:=x) (by rw[bQ h0];grind) hn aGY;obtain⟨a1,a2⟩:=Lw hW hx h0 h1 n;rw[hz]at a2;rw[bQ h0]at ht;have aMK:(0:Rat)<(W:Rat):=by exact_mod_cast hW
 rw[bY]at *;have b1:=aI (cDU aMK) (show 0<=2*tm x n-(cs x-vI x n) by grind);have b2:=aI (cDU aMK) (show 0<=2*tm x n+(cs x-vI x n) by grind);have aRT:((0:Nat):Rat)=0:=by norm_cast
 rw[aRT]at a2;grind
theorem aJR{u W:Nat}(hW:0<W){x:Rat}(hx:x*(W:Rat)=(u:Rat))(h0:0<=x)(h1:x<=1/2){n:Nat}(hn:1<=n)(aGY:n<=1048576)(hz:sq u W n=0) :
  ab (sum (fun k=>ss k*(sq u W k:Rat)) n-W*sn x)<=2*(n:Rat)+4:=by
 have hs:ab (sum (fun k=>ss k*(sq u W k:Rat)) n-W*uX x n)<=2*(n:Rat):=by
  unfold uX;rw[<-oT,<-Cp];refine cDS (zR _ _) ?_;have:∀m,sum (fun k=>ab (ss k*(sq u W k:Rat)-W*(ss k*tm x k))) m<=2*(m:Rat):=by
   intro m
   induction m with
   |zero=>simp only[sum];grind
   |succ m ih =>
    rw[eB];obtain⟨a1,a2⟩:=Lw hW hx h0 h1 m;have:ab (ss m*(sq u W m:Rat)-W*(ss m*tm x m))<=2:=by
     rw[show ss m*(sq u W m:Rat)-W*(ss m*tm x m)=ss m*(sq u W m-tm x m*W) by grind,dV];have b1:ab (sq u W m-tm x m*W)<=2:=by rw[bY];grind
     have:=cT (aT _) (aDJ m) (aT _) b1;grind
    have hc:((m+1:Nat):Rat)=(m:Rat)+1:=by norm_cast
    rw[hc];grind
  exact this n
 have ht:=So (x:=x) (by rw[bQ h0];grind) hn aGY;obtain⟨a1,a2⟩:=Lw hW hx h0 h1 n;rw[hz]at a2;rw[bQ h0]at ht;have aMK:(0:Rat)<(W:Rat):=by exact_mod_cast hW
 rw[bY]at *;have b1:=aI (cDU aMK) (show 0<=2*tm x n-(sn x-uX x n) by grind);have b2:=aI (cDU aMK) (show 0<=2*tm x n+(sn x-uX x n) by grind);have aRT:((0:Nat):Rat)=0:=by norm_cast
 rw[aRT]at a2;grind
theorem mV{W x e s c s' c':Rat}(hW:1<=W)(hx:ab x<=1)(hs:ab (s-W*sn x)<=e)(hc:ab (c-W*cs x)<=e)(he:8*(e*e)<=W)(bJU:(8*e+4*W)*vR<=1/4)
  (h1:ab (W*s'-2*(s*c))<=2*W) (h2:ab (W*c'-(W*W-2*(s*s)))<=2*W):ab (s'-W*sn (2*x))<=4*e+4/\ab (c'-W*cs (2*x))<=4*e+4:=by
 have bGR:ab x<=4:=by grind
 have d1:=Rb bGR;have d2:=Rr bGR;have bs:=aDP bGR;have bc:=aFO bGR;have bBN:0<=e:=cDS (aT _) hs;have aSE:=vF;generalize sn (2*x)=S2 at *;generalize cs (2*x)=C2 at *;generalize sn x=S at *;generalize cs x=C at *;obtain⟨a,ha⟩:∃a,a=s-W*S:=⟨_,rfl⟩;obtain⟨b,hb⟩:∃b,b=c-W*C:=⟨_,rfl⟩;rw[<-ha]at hs;rw[<-hb]at hc;have es:s=W*S+a:=by grind
 have ec:c=W*C+b:=by grind
 subst es;subst ec;have q1:=cT (aT S) bs (aT b) hc;have q2:=cT (aT C) bc (aT a) hs;have q3:=cT (aT a) hs (aT b) hc;have q4:=cT (aT S) bs (aT a) hs;have q5:=cT (aT a) hs (aT a) hs;rw[<-dV]at q1 q2 q3 q4 q5;have bBT:0<=W:=by grind
 have w1:∀{t r:Rat},ab t<=r->-(W*r)<=W*t/\W*t<=W*r:=fun {t r} h=>by
  rw[bY]at h;have:=aI bBT (show 0<=r-t by grind);have:=aI bBT (show 0<=r+t by grind);constructor <;> grind
 have k1:=w1 q1;have k2:=w1 q2;have k4:=w1 q4;have k6:=w1 (r:=W*vR) (t:=W*(S2-2*S*C)) (by
  have:=w1 d1;rw[bY];grind)
 have k7:=w1 (r:=W*(2*vR)) (t:=W*(C2-(1-2*(S*S)))) (by
  have:=w1 d2;rw[bY];grind)
 have hq:0<W:=by grind
 have z1:=aI bBT (show 0<=1/4-(8*e+4*W)*vR by grind);rw[bY]at h1 h2 q3 q5;constructor
 ·rw[bY];constructor
  ·refine bP hq ?_;grind
  ·refine bP hq ?_;grind
 ·rw[bY];constructor
  ·refine bP hq ?_;grind
  ·refine bP hq ?_;grind
def sg(j:Nat):Rat:=if j%2=0 then 1 else -1
theorem aUE(j:Nat):ab (sg j)=1:=by unfold sg ab;split <;> split <;> grind
def iR(n w j:Nat):Nat:=2^w/n^(2*j+1)/(2*j+1)
def apart(n j:Nat):Rat:=1/((n^(2*j+1)*(2*j+1):Nat):Rat)
def Oa(n:Nat):Rat:=sum (fun j=>sg j*apart n j) K
theorem yJ{n:Nat}(hn:0<n)(j:Nat):0<apart n j/\apart n j*((n^(2*j+1)*(2*j+1):Nat):Rat)=1:=by
 unfold apart;have h:0<n^(2*j+1)*(2*j+1):=cFL (cBM hn) (by omega);have h':(0:Rat)<((n^(2*j+1)*(2*j+1):Nat):Rat):=by exact_mod_cast h
 generalize ((n^(2*j+1)*(2*j+1):Nat):Rat)=q at *;have:q≠0:=by grind
 constructor
 ·have:=Rat.inv_pos.2 h';grind
 ·grind
theorem Ry{n:Nat}(hn:0<n)(w j:Nat):0<=((2^w:Nat):Rat)*apart n j-iR n w j/\((2^w:Nat):Rat)*apart n j-iR n w j<=1:=by
 obtain⟨h1,h2⟩:=yJ hn j;have h:0<n^(2*j+1)*(2*j+1):=cFL (cBM hn) (by omega);obtain⟨d1,d2⟩:=rT (2^w) h;unfold iR;rw[cEB];have h':(0:Rat)<((n^(2*j+1)*(2*j+1):Nat):Rat):=by exact_mod_cast h
 generalize ((n^(2*j+1)*(2*j+1):Nat):Rat)=q at *;generalize ((2^w/(n^(2*j+1)*(2*j+1)):Nat):Rat)=t at *;generalize ((2^w:Nat):Rat)=W at *;have e:q*(W*apart n j)=W:=by
  rw[show q*(W*apart n j)=W*(apart n j*q) by grind,h2];grind
 refine⟨?_,?_⟩
 ·have:t<=W*apart n j:=bP h' (by grind);grind
 ·have:W*apart n j<=t+1:=bP h' (by grind);grind
theorem aCB{n:Nat}(hn:2<=n)(j:Nat):apart n (j+1)<=apart n j/2:=by
 obtain⟨h1,h2⟩:=yJ (show 0<n by omega) j;obtain⟨h3,h4⟩:=yJ (show 0<n by omega) (j+1);have hle:2*(n^(2*j+1)*(2*j+1))<=n^(2*(j+1)+1)*(2*(j+1)+1):=by
  have e:n^(2*(j+1)+1)=n^(2*j+1)*(n*n):=by
   rw[show 2*(j+1)+1=(2*j+1)+2 by omega,cDP,Nat.pow_two]
  have bMD:4<=n*n:=Nat.mul_le_mul hn hn;rw[e,cDQ,cGH];refine cBB _ ?_;have:4*(2*(j+1)+1)<=n*n*(2*(j+1)+1):=Nat.mul_le_mul_right _ bMD;omega
 have hle':(2:Rat)*((n^(2*j+1)*(2*j+1):Nat):Rat)<=((n^(2*(j+1)+1)*(2*(j+1)+1):Nat):Rat):=by exact_mod_cast hle
 generalize ((n^(2*j+1)*(2*j+1):Nat):Rat)=p at *;generalize ((n^(2*(j+1)+1)*(2*(j+1)+1):Nat):Rat)=q at *;have hp:0<p:=by
  refine Rat.not_le.1 fun hn=>?_
  have:=aI (cDU h1) (show 0<=-p by grind);grind
 have:=aI (cDU h3) (show 0<=q-2*p by grind);refine bP hp ?_;grind
theorem aCA{n:Nat}(hn:2<=n)(a m:Nat):sum (fun i=>apart n (a+i)) m<=2*apart n a:=by
 have hh:∀i,apart n (a+i)<=apart n a*hf i:=by
  intro i
  induction i with
  |zero=>simp only[hf,bZO];grind
  |succ i ih =>
   have:=aCB hn (a+i);rw[<-cCD,hf];grind
 have h1:sum (fun i=>apart n (a+i)) m<=sum (fun i=>apart n a*hf i) m:=xE fun k _=>hh k
 rw[oT]at h1;have h2:=(yJ (show 0<n by omega) a).1;have:=aI (cDU h2) (show 0<=2-sum hf m by have:=bMG m;grind);grind
theorem aFW{n:Nat}(hn:2<=n)(w:Nat){J:Nat}(hJ:J<=1048576)(hz:iR n w J=0):ab (sum (fun j=>sg j*(iR n w j:Rat)) J-((2^w:Nat):Rat)*Oa n)<=(J:Rat)+2:=by
 obtain⟨m,hm⟩:=bZS (show J<=K by rw[bAN];exact hJ);unfold Oa;rw[hm,lI];have h1:∀i,ab (sum (fun j=>sg j*(iR n w j:Rat)) i-((2^w:Nat):Rat)*sum (fun j=>sg j*apart n j) i)<=(i:Rat):=by
  intro i;rw[<-oT,<-Cp];refine cDS (zR _ _) ?_
  induction i with
  |zero=>simp only[sum];grind
  |succ i ih =>
   rw[eB];obtain⟨a1,a2⟩:=Ry (show 0<n by omega) w i;have:ab (sg i*(iR n w i:Rat)-((2^w:Nat):Rat)*(sg i*apart n i))<=1:=by
    rw[show sg i*(iR n w i:Rat)-((2^w:Nat):Rat)*(sg i*apart n i)=sg i*(iR n w i-((2^w:Nat):Rat)*apart n i) by grind,dV,aUE];have b1:ab (iR n w i-((2^w:Nat):Rat)*apart n i)<=1:=by rw[bY];grind
    grind
   have hc:((i+1:Nat):Rat)=(i:Rat)+1:=by norm_cast
   rw[hc];grind
 have h2:ab (sum (fun i=>sg (J+i)*apart n (J+i)) m)<=2*apart n J:=by
  refine cDS (zR _ _) (cDS (xE fun k _=>?_) (aCA hn J m));rw[dV,aUE,bQ (cDU (yJ (show 0<n by omega) _).1)];grind
 have h3:=(Ry (show 0<n by omega) w J).2;have h4:=h1 J;have h0:(0:Rat)<=((2^w:Nat):Rat):=by exact_mod_cast cEN _
 rw[hz]at h3;have aRT:((0:Nat):Rat)=0:=by norm_cast
 rw[aRT]at h3;rw[bY]at *;have b1:=aI h0 (show 0<=2*apart n J-sum (fun i=>sg (J+i)*apart n (J+i)) m by grind);have b2:=aI h0 (show 0<=2*apart n J+sum (fun i=>sg (J+i)*apart n (J+i)) m by grind);grind
end R
end Go.Proofs.YtcnlagnipklcmaaGreatDoor
end
