/- Contracts of functions and laws, for the claim. -/
import Derived.KernelRfl
import Derived.Laws.Externs
import Derived.Test.YtaajbopgknekmaaGreatDoorProg
import Derived.Shelf.SlGeneric
import Derived.Ground.SlgnProg
import Derived.Shelf.SlicesE.Clone
import Derived.Test.YtaajbopgknekmaaGreatDoorBShared1
set_option linter.unusedVariables false
set_option linter.unusedSimpArgs false
noncomputable section
open Go.IntKind(i8 i16 i32 i64 u8 u16 u32 u64)
open Go.Proofs.Tryz
open Int renaming toNat_natCast->cBF,eq_ofNat_of_zero_le->cCM,natCast_ediv->cDA,natAbs_mul->cDE,natAbs_natCast->cDF,natCast_mul->cDY,natCast_emod->cED,tdiv_eq_ediv_of_nonneg->cEF,tmod_eq_emod_of_nonneg->cEG,zero_mul->cEL,natAbs_neg->cFM,toNat_zero->cFP,ediv_mul_cancel->cFR
open Nat renaming pow_add->cCH,mul_comm->cCI,pow_succ->cCK,beq->bXI,mul_assoc->cCN,mul_add->cCO,mul_le_mul_left->bZW,le_refl->bXK,eq_of_beq_eq_true->bXT,ble->bXS,le_of_ble_eq_true->bZF,mod_lt->bZR,pow_pos->cAH,lt_or_ge->bXZ,pow_le_pow_right->cAI,add_zero->bYI,zero_le->cCR,div_add_mod->cCS,lt_of_lt_of_le->bYH,div_div_eq_div_mul->cCT,le_trans->bYC,add_assoc->cAY,zero_add->bXL,div_eq_of_lt->cCW,strongRecOn->cCZ,div_lt_of_lt_mul->cDC,exists_eq_add_of_le->bYQ,add_mul_div_left->cDI,pow_mul->cDJ,div_le_self->cDK,add_comm->cDO,beq_refl->cBO,min_eq_left->cDS,add_mod->cDV,mul_mod->cDW,sub_le->cDX,sub_self->cBM,mul_zero->cEB,mul_le_mul_right->cBK,lt_of_le_of_lt->cEC,pow_lt_pow_right->cEE,mul_left_comm->cEJ,zero_div->cEK,dvd_of_mod_eq_zero->cEM,pow_zero->cEN,mul_pos->cEO,pow_two->cEP,testBit_mod_two_pow->cEQ,testBit_div_two_pow->cER,div_mul_le_self->cES,lt_div_mul_add->cET,add_right_comm->cEX,and_one_is_mod->cFN,div_le_div_left->cFT,testBit_two_pow_sub_one->cFU,le_of_not_lt->cFW,lt_mul_div_succ->cFX,div_lt_iff_lt_mul->cFY,div_eq_of_lt_le->cFZ
open List renaming replicate->bZK,mem_append->bYK,getD_eq_getElem?_getD->cCQ,replicate_succ->cCV,length_take->bZC,length_cons->cAS,append_assoc->bYY,drop_eq_nil_of_le->cDD,take->cDG,drop->cDH,cons_append->bYS,getLast?_cons_cons->cDQ,take_succ_eq_append_getElem->cDR,getElem?_eq_none->bYZ,drop_zero->cDT,drop_eq_getElem_cons->cDU,replicate_zero->cEA,take_length->cEH,range->bYR,singleton_append->cEI,nodup_cons->cBV,mem_cons->bYO,length_drop->cEY,getElem?_drop->bXV,mem_of_mem_take->cFA,mem_of_mem_drop->cFB,replicate_succ'->cFC,take_append_drop->cFD,getElem?_eq_getElem->bXY,getLast?_append->cFE,take_of_length_le->cFG,mem_or_eq_of_mem_set->cFH,drop_set->cFI,set_append_right->cFK,set_cons_zero->cFL,getElem?_map->bXM,nil_append->cBJ,append_nil->cAG
open Rat renaming le_of_lt->cCJ,le_trans->cCL,natCast_mul->cCP,mul_pos->cCX,le_refl->cDM,mul_assoc->cEU,intCast_mul->cEV,intCast_natCast->cEW,div_mul_cancel->cFV
open Option renaming bind_some->bYV,isSome_or->cDP
open Bool renaming true_and->cAJ,not_true->bZH,false_and->cCU,false_or->bZI,and_false->cDB,true_or->cDL,and_eq_true->bXN,or_eq_true->bYP,or_true->cDZ
namespace Go.Proofs.YtaajbopgknekmaaGreatDoor
namespace AI
open Go Go.RowKit
theorem sL{R:Type}(E:Env)(draw:Bool)(ops:Array Oper)(base:Nat):∀(rest:List Oper) (i:Nat) (qD:List Rec) (st:St) (K:St->Option R),
  opsK E draw ops base rest i qD st K=(opsK E draw ops base rest i qD st some).bind K
 | [],i,qD,st,K=>rfl
 |o :: rest,i,qD,st,K=>by
  unfold opsK;cases (kG E.nt o&&(!draw||zK i o))with
  |false=>rfl
  |true =>
   simp only[cond_true];split
   ·rw[qP,qP];cases sV E (base+8*i) o (evA E st.fr) st.hp with
    |none=>rfl
    |some p =>
     simp only[bYV];cases (!draw||qD.all fun r=>indep ops r i o (uK o (evA E st.fr) p.2) (p.2.map (·.1)))with
     |false=>rfl
     |true=>exact sL E draw ops base rest (i+1) _ _ K
   ·split
    ·split
     ·rename_i want _ _ d _ _ b _;cases b with
      |true =>
       simp only[cond_true];cases (true==want)with
       |true =>
        simp only[cond_true];rw[qP,qP];cases sV E (base+8*i) o (evA E (Ck st.fr d (Dh (.bool true)))) st.hp with
        |none=>rfl
        |some p =>
         simp only[bYV];cases (!draw||qD.all fun r=>indep ops r i o (uK o (evA E (Ck st.fr d (Dh (.bool true)))) p.2) (p.2.map (·.1)))with
         |false=>rfl
         |true=>exact sL E draw ops base rest (i+1) _ _ K
       |false =>
        simp only[cond_false];cases (!draw||qD.all fun r=>indep ops r i o [] [])with
        |false=>rfl
        |true=>exact sL E draw ops base rest (i+1) _ _ K
      |false =>
       simp only[cond_false];cases (false==want)with
       |true =>
        simp only[cond_true];rw[qP,qP];cases sV E (base+8*i) o (evA E (Ck st.fr d (Dh (.bool false)))) st.hp with
        |none=>rfl
        |some p =>
         simp only[bYV];cases (!draw||qD.all fun r=>indep ops r i o (uK o (evA E (Ck st.fr d (Dh (.bool false)))) p.2) (p.2.map (·.1)))with
         |false=>rfl
         |true=>exact sL E draw ops base rest (i+1) _ _ K
       |false =>
        simp only[cond_false];cases (!draw||qD.all fun r=>indep ops r i o [] [])with
        |false=>rfl
        |true=>exact sL E draw ops base rest (i+1) _ _ K
     ·cases (!draw||qD.all fun r=>indep ops r i o [] [])with
      |false=>rfl
      |true=>exact sL E draw ops base rest (i+1) _ _ K
     ·rfl
    ·rfl
section
variable (n0:Nat) (keep:List Nat) (f:St->Option (Ex×St))
def runs:Nat->List KV->Option (Ex×St)
 |0,_=>none
 |n+1,l=>(f (mk n0 keep l)).bind fun p=>match p.1 with
  | .normal=>runs n (canon n0 keep p.2)
  | .exit i=>some (.exit i,p.2)
  | .ret=>some (.ret,p.2)
theorem Hl:∀(n k:Nat) (l:List KV) (p:Ex×St),runs n0 keep f n l=some p->runs n0 keep f (n+k) l=some p
 |0,_,_,_,h=>by cases h
 |n+1,k,l,p,h=>by
  rw[cEX];simp only[runs]at h ⊢;cases hf:f (mk n0 keep l)with
  |none=>rw[hf]at h;cases h
  |some q =>
   rw[hf]at h;simp only[bYV]at h ⊢;obtain⟨ex,st⟩:=q;cases ex with
   |normal=>exact Hl n k _ p h
   |exit i=>exact h
   |ret=>exact h
theorem Lw{n m:Nat}{l:List KV}{p q:Ex×St}(h:runs n0 keep f n l=some p)(h':runs n0 keep f m l=some q):p=q:=by
 have h1:=Hl n0 keep f n m l p h;have h2:=Hl n0 keep f m n l q h';rw[cDO m n,h1]at h2;exact Option.some.inj h2
open Classical in
def aHK (l:List KV):Option (Ex×St):=if h:∃p,∃n,runs n0 keep f n l=some p then some (Classical.choose h)else none
theorem Mr{n:Nat}{l:List KV}{p:Ex×St}(h:runs n0 keep f n l=some p):aHK n0 keep f l=some p:=by
 unfold aHK;have hex:∃p,∃n,runs n0 keep f n l=some p:=⟨p,n,h⟩;rw[dif_pos hex];obtain⟨m,hm⟩:=Classical.choose_spec hex;rw[Lw n0 keep f hm h]
theorem Sn{l:List KV}{p:Ex×St}(h:aHK n0 keep f l=some p):∃n,runs n0 keep f n l=some p:=by
 unfold aHK at h;split at h
 ·rename_i hex;cases h;exact Classical.choose_spec hex
 ·cases h
theorem aWI(l:List KV):aHK n0 keep f l=(f (mk n0 keep l)).bind fun p=>match p.1 with
  | .normal=>aHK n0 keep f (canon n0 keep p.2)
  | .exit i=>some (.exit i,p.2)
  | .ret=>some (.ret,p.2):=by
 cases hf:f (mk n0 keep l)with
 |none =>
  cases hl:aHK n0 keep f l with
  |none=>rfl
  |some p =>
   obtain⟨n,hn⟩:=Sn n0 keep f hl;cases n with
   |zero=>cases hn
   |succ n=>simp only[runs,hf]at hn;cases hn
 |some q =>
  obtain⟨ex,st⟩:=q;simp only[bYV];cases ex with
  |normal =>
   simp only;cases hl:aHK n0 keep f (canon n0 keep st)with
   |some p =>
    obtain⟨n,hn⟩:=Sn n0 keep f hl;exact Mr n0 keep f (n:=n+1) (by simp only[runs,hf,bYV];exact hn)
   |none =>
    cases bGD:aHK n0 keep f l with
    |none=>rfl
    |some p =>
     obtain⟨n,hn⟩:=Sn n0 keep f bGD;cases n with
     |zero=>cases hn
     |succ n =>
      simp only[runs,hf,bYV]at hn;rw[Mr n0 keep f hn]at hl;cases hl
  |exit i=>exact Mr n0 keep f (n:=1) (by simp only[runs,hf,bYV])
  |ret=>exact Mr n0 keep f (n:=1) (by simp only[runs,hf,bYV])
def aHV{R:Type}(K:Ex->St->Option R)(rec:List KV->Option R)(l:List KV):Option R :=
 (f (mk n0 keep l)).bind fun p=>match p.1 with
  | .normal=>rec (canon n0 keep p.2)
  | .exit i=>K (.exit i) p.2
  | .ret=>K .ret p.2
theorem vD{R:Type}(K:Ex->St->Option R):∀(n:Nat) (l:List KV),iter (aHV n0 keep f K) n l=(runs n0 keep f n l).bind fun p=>K p.1 p.2
 |0,_=>rfl
 |n+1,l=>by
  simp only[iter,aHV,runs];cases f (mk n0 keep l)with
  |none=>rfl
  |some q =>
   obtain⟨ex,st⟩:=q;simp only[bYV];cases ex with
   |normal=>exact vD K n _
   |exit i=>rfl
   |ret=>rfl
theorem Tj{R:Type}(K:Ex->St->Option R)(l:List KV):fix (aHV n0 keep f K) l=(aHK n0 keep f l).bind fun p=>K p.1 p.2:=by
 cases hl:aHK n0 keep f l with
 |none =>
  unfold fix;rw[dif_neg]
  ·rfl
  ·rintro ⟨r,n,h⟩;rw[vD]at h;cases hr:runs n0 keep f n l with
   |none=>rw[hr]at h;cases h
   |some p=>rw[Mr n0 keep f hr]at hl;cases hl
 |some p =>
  obtain⟨n,hn⟩:=Sn n0 keep f hl;simp only[bYV];cases hK:K p.1 p.2 with
  |some r =>
   unfold fix;have hex:∃r,∃n,iter (aHV n0 keep f K) n l=some r:=⟨r,n,by rw[vD,hn];exact hK⟩;rw[dif_pos hex];obtain⟨m,hm⟩:=Classical.choose_spec hex;rw[vD]at hm;cases hr:runs n0 keep f m l with
   |none=>rw[hr]at hm;cases hm
   |some q =>
    rw[hr,Lw n0 keep f hr hn]at hm;simp only[bYV]at hm;rw[hK]at hm;exact hm.symm
  |none =>
   unfold fix;rw[dif_neg];rintro ⟨r,m,h⟩;rw[vD]at h;cases hr:runs n0 keep f m l with
   |none=>rw[hr]at h;cases h
   |some q =>
    rw[hr,Lw n0 keep f hr hn]at h;simp only[bYV]at h;rw[hK]at h;cases h
theorem aRQ{R:Type}(K:Ex->St->Option R)(l:List KV):fix (aHV n0 keep f K) l=aHV n0 keep f K (fix (aHV n0 keep f K)) l:=by
 rw[Tj,aWI];unfold aHV;cases f (mk n0 keep l)with
 |none=>rfl
 |some q =>
  obtain⟨ex,st⟩:=q;simp only[bYV];cases ex with
  |normal=>exact(Tj n0 keep f K _).symm
  |exit i=>rfl
  |ret=>rfl
end
def condSt(c:Operand)(st:St):Option (Bool×St):=match c with
 | .tmp s=>match st.fr s with
  | .v (.one (.s (.sc (.bool t))))=>some (t,⟨Ck st.fr s (Dh (.bool t)),st.hp,st.n⟩)
  |_=>none
 | .const (.bool t)=>some (t,st)
 |_=>none
theorem Xo{R:Type}(E:Env)(c:Operand)(a b:Code)(st:St)(K:Ex->St->Option R):evalCode E (.cond c a b) st K=(condSt c st).bind fun p=>bif p.1 then evalCode E a p.2 K else evalCode E b p.2 K:=by
 cases c with
 |tmp s =>
  simp only[evalCode,condSt];split
  ·rename_i t h;simp only[h,bYV];cases t <;> rfl
  ·rename_i h;split
   ·rename_i t h';exact(h t h').elim
   ·rfl
 |const v=>cases v <;> simp only[evalCode,condSt] <;> rfl
 |_=>simp only[evalCode,condSt];rfl
theorem evalCode_bind(E:Env)(c:Code):∃f:St->Option (Ex×St),∀(st:St) {R:Type} (K:Ex->St->Option R),evalCode E c st K=(f st).bind fun p=>K p.1 p.2:=by
 induction c with
 |skip=>exact⟨fun st=>some (.normal,st),fun st R K=>rfl⟩
 |label l=>exact⟨fun st=>some (.normal,st),fun st R K=>rfl⟩
 |exit id=>exact⟨fun st=>some (.exit id,st),fun st R K=>rfl⟩
 |ret=>exact⟨fun st=>some (.ret,st),fun st R K=>rfl⟩
 |region id ops draw =>
  refine⟨fun st=>(opsK E draw ops st.n ops.toList 0 [] st some).bind fun gH=>some (.normal,⟨gH.fr,gH.hp,st.n+8*ops.size⟩),fun st R K=>?_⟩;unfold evalCode;rw[sL];simp only[];cases opsK E draw ops st.n ops.toList 0 [] st some <;> rfl
 |seq a b Bk Bj =>
  obtain⟨f,hf⟩:=Bk;obtain⟨g,hg⟩:=Bj;refine⟨fun st=>(f st).bind fun p=>match p.1 with
   | .normal=>match E.cut (keyOf b)with
    |some keep=>g (mk E.n0 keep (canon E.n0 keep p.2))
    |none=>g p.2
   | .exit i=>some (.exit i,p.2)
   | .ret=>some (.ret,p.2),fun st R K=>?_⟩
  unfold evalCode;rw[hf];simp only[];cases f st with
  |none=>rfl
  |some q =>
   obtain⟨ex,gH⟩:=q;cases ex with
   |normal =>
    simp only[bYV];cases E.cut (keyOf b)with
    |none=>exact hg gH K
    |some keep=>exact hg _ K
   |exit i=>rfl
   |ret=>rfl
 |cond cd a b Bk Bj =>
  obtain⟨f,hf⟩:=Bk;obtain⟨g,hg⟩:=Bj;refine⟨fun st=>(condSt cd st).bind fun p=>bif p.1 then f p.2 else g p.2,fun st R K=>?_⟩;rw[Xo];simp only[];cases condSt cd st with
  |none=>rfl
  |some p =>
   obtain⟨t,gH⟩:=p;cases t with
   |true=>exact hf _ K
   |false=>exact hg _ K
 |block id c ih =>
  obtain⟨f,hf⟩:=ih;refine⟨fun st=>(f st).bind fun p=>match p.1 with
   | .normal=>some (.normal,p.2)
   | .exit i=>bif bXI i id then some (.normal,p.2)else some (.exit i,p.2)
   | .ret=>some (.ret,p.2),fun st R K=>?_⟩
  unfold evalCode;rw[hf];simp only[];cases f st with
  |none=>rfl
  |some q =>
   obtain⟨ex,gH⟩:=q;cases ex with
   |normal=>rfl
   |exit i =>
    simp only[bYV];cases bXI i id <;> rfl
   |ret=>rfl
 |loop c ih =>
  obtain⟨f,hf⟩:=ih;have hG:∀{R:Type} (keep:List Nat) (K:Ex->St->Option R),(fun(rec:List KV->Option R) l=>evalCode E c (mk E.n0 keep l) fun ex gH=>match ex with
    | .normal=>rec (canon E.n0 keep gH)
    | .exit i=>K (.exit i) gH
    | .ret=>K .ret gH)=aHV E.n0 keep f K:=by
   intro R keep K;funext rec l;rw[hf];unfold aHV;cases f (mk E.n0 keep l)with
   |none=>rfl
   |some q=>obtain⟨ex,gH⟩:=q;cases ex <;> rfl
  refine⟨fun st=>match E.roll (keyOf c)with
   |some n=>runs E.n0 (E.keep (keyOf c)) f n (canon E.n0 (E.keep (keyOf c)) st)
   |none=>aHK E.n0 (E.keep (keyOf c)) f (canon E.n0 (E.keep (keyOf c)) st),fun st R K=>?_⟩
  simp only[evalCode];cases E.roll (keyOf c)with
  |some n=>exact(congrArg (fun G=>iter G n (canon E.n0 (E.keep (keyOf c)) st)) (hG _ K)).trans (vD _ _ _ _ _ _)
  |none=>exact(congrArg (fun G=>fix G (canon E.n0 (E.keep (keyOf c)) st)) (hG _ K)).trans (Tj _ _ _ _ _)
 |rangeFunc f ps x y _ _=>exact⟨fun _=>none,fun st R K=>rfl⟩
 |scope c ih =>
  obtain⟨f,hf⟩:=ih;exact⟨f,fun st R K=>by unfold evalCode;exact hf st K⟩
 |goto l=>exact⟨fun _=>none,fun st R K=>rfl⟩
 |refuse bMM=>exact⟨fun _=>none,fun st R K=>rfl⟩
theorem aQS{R:Type}(E:Env)(keep:List Nat)(c:Code)(K:Ex->St->Option R)(l:List KV) :
  fix (roundOf (evalCode E) E.n0 keep c K) l=roundOf (evalCode E) E.n0 keep c K (fix (roundOf (evalCode E) E.n0 keep c K)) l:=by
 obtain⟨f,hf⟩:=evalCode_bind E c;have hG:roundOf (evalCode E) E.n0 keep c K=aHV E.n0 keep f K:=by
  funext rec l;unfold roundOf;rw[hf];unfold aHV;cases f (mk E.n0 keep l)with
  |none=>rfl
  |some q=>obtain⟨ex,gH⟩:=q;cases ex <;> rfl
 rw[hG];exact aRQ E.n0 keep f K l
def Hu(E:Env)(fn:Func)(c:Code)(key:Nat)(l:List KV):Option (List D) :=
 match findLoop E key c (sP E fn)with
 |some (b,K)=>fix (roundOf (evalCode E) E.n0 (E.keep key) b K) l
 |none=>none
def Sh(E:Env)(fn:Func)(c:Code)(key:Nat)(l:List KV):Option (List D) :=
 match findLoop E key c (sP E fn)with
 |some (b,K)=>roundOf (evalCode E) E.n0 (E.keep key) b K (fix (roundOf (evalCode E) E.n0 (E.keep key) b K)) l
 |none=>none
theorem aFR(E:Env)(fn:Func)(c:Code)(key:Nat)(l:List KV):Hu E fn c key l=Sh E fn c key l:=by
 unfold Hu Sh;cases findLoop E key c (sP E fn)with
 |none=>rfl
 |some p=>exact aQS E _ p.1 p.2 l
def cutAt(E:Env)(fn:Func)(c:Code)(key:Nat)(l:List KV):Option (List D) :=
 match fK E key c (sP E fn),E.cut key with
 |some (b,K),some keep=>Cz key l fun l=>evalCode E b (mk E.n0 keep l) K
 |_,_=>none
def Tr(E:Env)(fn:Func)(c:Code)(key:Nat)(l:List KV):Option (List D) :=
 match fK E key c (sP E fn),E.cut key with
 |some (b,K),some keep=>evalCode E b (mk E.n0 keep l) K
 |_,_=>none
theorem aML(E:Env)(fn:Func)(c:Code)(key:Nat)(l:List KV):cutAt E fn c key l=Tr E fn c key l:=by
 unfold cutAt Tr Cz;rfl
end AI
namespace AI
open Go Go.RowKit
theorem Contract.of{P:Program}{G:Nat->Option (IntKind×List Int)}{f:FuncId}{ds ds' rs:List D}(h:Contract P G f ds' rs)(hl:ds.length=ds'.length)
  (hd:∀(i:Nat) (d d':D),ds[i]?=some d->ds'[i]?=some d'->∀(Y:Nat->Prop) (w:World) (v:Value),oW Y w d v->oW Y w d' v):Contract P G f ds rs:=by
 intro Y w vs hY hG hlen hargs;refine h Y w vs hY hG (by omega) fun i d' v hi hv=>?_
 obtain⟨d,Bm⟩:=cK (l:=ds) (i:=i) (by have:=bJ hi;omega);exact hd i d d' Bm hi Y w v (hargs i d v Bm hv)
def dI(k:IntKind):D->Option (List Int)
 | .s (.ints k' ns)=>if _h:k=k' then some ns else none
 | .s (.sc (.slice none 0 0))=>some []
 |_=>none
def dN(k:IntKind):D->Option Int
 | .s (.sc (.int k' n))=>if _h:k=k' then some n else none
 |_=>none
def dB:D->Option Bool
 | .s (.sc (.bool b))=>some b
 |_=>none
def Fk(d d':D):Prop:=∀(Y:Nat->Prop) (w:World) (v:Value),oW Y w d v->oW Y w d' v
theorem Fk.refl(d:D):Fk d d:=fun _ _ _ h=>h
theorem bET{k:IntKind}{d:D}{ns:List Int}(h:dI k d=some ns):Fk d (.s (.ints k ns)):=by
 intro Y w v hr;unfold dI at h;split at h
 ·split at h
  ·rename_i hk;cases h;subst hk;exact hr
  ·cases h
 ·cases h;obtain⟨rfl,_⟩:=hr;exact⟨none,0,rfl,bXK _,fun i n hn=>by simp at hn⟩
 ·cases h
theorem bES{k:IntKind}{d:D}{n:Int}(h:dN k d=some n):d=.s (.sc (.int k n)):=by
 unfold dN at h;split at h
 ·split at h
  ·rename_i hk;cases h;subst hk;rfl
  ·cases h
 ·cases h
theorem bER{k:IntKind}{d:D}{n:Int}(h:dN k d=some n):Fk d (.s (.sc (.int k n))):=by rw[bES h];exact Fk.refl _
theorem bEW{d:D}{b:Bool}(h:dB d=some b):d=.s (.sc (.bool b)):=by
 unfold dB at h;split at h
 ·cases h;rfl
 ·cases h
theorem bEV{d:D}{b:Bool}(h:dB d=some b):Fk d (.s (.sc (.bool b))):=by rw[bEW h];exact Fk.refl _
theorem Contract.bHO{P:Program}{G:Nat->Option (IntKind×List Int)}{f:FuncId}{d d':D}{rs:List D}(h:Contract P G f [d'] rs)(hd:Fk d d'):Contract P G f [d] rs :=
 h.of rfl fun i x x' hx Ai=>by
  match i with
  |0=>simp at hx Ai;subst hx;subst Ai;exact hd
  |i+1=>simp at hx
theorem Contract.bFP{P:Program}{G:Nat->Option (IntKind×List Int)}{f:FuncId}{d d' e e':D}{rs:List D}(h:Contract P G f [d',e'] rs)(hd:Fk d d')(he:Fk e e'):Contract P G f [d,e] rs :=
 h.of rfl fun i x x' hx Ai=>by
  match i with
  |0=>simp at hx Ai;subst hx;subst Ai;exact hd
  |1=>simp at hx Ai;subst hx;subst Ai;exact he
  |i+2=>simp at hx
theorem Contract.bMV{P:Program}{G:Nat->Option (IntKind×List Int)}{f:FuncId}{d d' e e' g g':D}{rs:List D}(h:Contract P G f [d',e',g'] rs)(hd:Fk d d')(he:Fk e e')(hg:Fk g g'):Contract P G f [d,e,g] rs :=
 h.of rfl fun i x x' hx Ai=>by
  match i with
  |0=>simp at hx Ai;subst hx;subst Ai;exact hd
  |1=>simp at hx Ai;subst hx;subst Ai;exact he
  |2=>simp at hx Ai;subst hx;subst Ai;exact hg
  |i+3=>simp at hx
theorem Contract.bQY{P:Program}{G:Nat->Option (IntKind×List Int)}{f:FuncId}{d d' e e' g g' k k':D}{rs:List D}(h:Contract P G f [d',e',g',k'] rs)(hd:Fk d d')(he:Fk e e')(hg:Fk g g')(hk:Fk k k'):Contract P G f [d,e,g,k] rs :=
 h.of rfl fun i x x' hx Ai=>by
  match i with
  |0=>simp at hx Ai;subst hx;subst Ai;exact hd
  |1=>simp at hx Ai;subst hx;subst Ai;exact he
  |2=>simp at hx Ai;subst hx;subst Ai;exact hg
  |3=>simp at hx Ai;subst hx;subst Ai;exact hk
  |i+4=>simp at hx
abbrev dG:=List D->Option (Prop×List D)
def lT(P:Program)(G:Nat->Option (IntKind×List Int))(f:FuncId)(o:dG):Prop :=
 ∀ds g rs,o ds=some (g,rs)->g->Contract P G f ds rs/\wY P f
def callsOf(Ll:List (Nat×dG))(f:FuncId)(ds:List D):Option (Prop×List D):=match tlook Ll f with
 |some o=>o ds
 |none=>none
theorem iH{P:Program}{E:Env}(Ll:List (Nat×dG))(hC:E.C=callsOf Ll)(h:∀p∈Ll,lT P E.glob p.1 p.2)
  (hx:∀f vs g rs,E.ext f vs=some (g,rs)->g->(∀v∈rs,v.oneCell'=true)/\∀w,(callFunc f vs.toArray).run P w=.ok (.value (resV rs)) w) (hF:E.ioF=(fun _=>[]):=by rfl):lZ P E:=by
 refine⟨fun f ds g rs _ he hg=>?_,fun f p ps ds g rs he=>(by rw[hF]at he;cases he),hx⟩;rw[hC]at he;unfold callsOf at he;split at he
 ·rename_i o ho;exact h _ (xM ho) ds g rs he hg
 ·cases he
theorem aE{P:Program}{G:Nat->Option (IntKind×List Int)}:∀p∈([]:List (Nat×dG)),lT P G p.1 p.2:=fun _ h=>by cases h
theorem aA{P:Program}{G:Nat->Option (IntKind×List Int)}{f:Nat}{o:dG}{Ll:List (Nat×dG)}(h:lT P G f o)(ht:∀p∈Ll,lT P G p.1 p.2):∀p∈(f,o) :: Ll,lT P G p.1 p.2:=by
 intro p hp;rcases List.mem_cons.1 hp with rfl |hp
 ·exact h
 ·exact ht p hp
def rW(P:Program)(G:Nat->Option (IntKind×List Int))(f:FuncId)(o:dG):Prop :=
 ∀ds g rs,o ds=some (g,rs)->g->(∃Hm js,rs=Hm ++ js/\qL P G f [0] ds Hm js)/\wY P f
def rP(aPO:List (Nat×dG))(r:FuncId->List D->Option (Prop×List D))(f:FuncId)(ds:List D):Option (Prop×List D):=match tlook aPO f with
 |some o=>o ds
 |none=>r f ds
def Mt(aPO:List (Nat×dG))(f:FuncId):List Nat:=match tlook aPO f with
 |some _=>[0]
 |none=>[]
theorem mP{P:Program}{E:Env}(aPO Ll:List (Nat×dG))(hC:E.C=rP aPO (callsOf Ll))(hF:E.ioF=Mt aPO)(hi:∀p∈aPO,rW P E.glob p.1 p.2)(h:∀p∈Ll,lT P E.glob p.1 p.2)
  (hx:∀f vs g rs,E.ext f vs=some (g,rs)->g->(∀v∈rs,v.oneCell'=true)/\∀w,(callFunc f vs.toArray).run P w=.ok (.value (resV rs)) w):lZ P E:=by
 refine⟨fun f ds g rs h0 he hg=>?_,fun f p ps ds g rs h0 he hg=>?_,hx⟩
 ·rw[hF]at h0;rw[hC]at he;unfold Mt at h0;unfold rP at he;cases ht:tlook aPO f with
  |some o=>rw[ht]at h0;cases h0
  |none =>
   rw[ht]at he;simp only at he;unfold callsOf at he;split at he
   ·rename_i o ho;exact h _ (xM ho) ds g rs he hg
   ·cases he
 ·rw[hF]at h0;rw[hC]at he;unfold Mt at h0;unfold rP at he;cases ht:tlook aPO f with
  |none=>rw[ht]at h0;cases h0
  |some o =>
   rw[ht]at h0 he;simp only at h0 he;cases h0;obtain⟨⟨Hm,js,h1,h2⟩,h3⟩:=hi _ (xM ht) ds g rs he hg;exact⟨Hm,js,h1,h2,h3⟩
theorem wQ{P:Program}{G:Nat->Option (IntKind×List Int)}:∀p∈([]:List (Nat×dG)),rW P G p.1 p.2:=fun _ h=>by cases h
theorem nB{P:Program}{G:Nat->Option (IntKind×List Int)}{f:Nat}{o:dG}{Ll:List (Nat×dG)}(h:rW P G f o)(ht:∀p∈Ll,rW P G p.1 p.2):∀p∈(f,o) :: Ll,rW P G p.1 p.2:=by
 intro p hp;rcases List.mem_cons.1 hp with rfl |hp
 ·exact h
 ·exact ht p hp
theorem qL.bQZ{P:Program}{G:Nat->Option (IntKind×List Int)}{f:FuncId}{d:D}{ds ds' rs js:List D}(h:qL P G f [0] (d :: ds') rs js)(hl:ds.length=ds'.length)
  (hd:∀(i:Nat) (x x':D),ds[i]?=some x->ds'[i]?=some x'->Gf x=false/\Gf x'=false/\Fk x x'):qL P G f [0] (d :: ds) rs js:=by
 refine⟨h.len,fun j i hj=>?_,fun Y w vs g hY hG hlen hargs Bl=>?_⟩
 ·obtain⟨e,k,ns,off,n,e',k',oN,h1,h2,h3⟩:=h.io j i hj;have hi:i=0:=by
   match j with
   |0=>simp at hj;exact hj.symm
   |j+1=>simp at hj
  subst hi;exact⟨e,k,ns,off,n,e',k',oN,by simpa using h1,h2,h3⟩
 ·refine h.run Y w vs g hY hG (by simp at hlen ⊢;omega) (fun i x' v hi hv=>?_) Bl
  match i with
  |0=>exact hargs 0 x' v (by simpa using hi) hv
  |i+1 =>
   have hi:ds'[i]?=some x':=by simpa using hi
   obtain⟨x,hx⟩:=cK (l:=ds) (i:=i) (by have:=bJ hi;omega);obtain⟨h1,h2,h3⟩:=hd i x x' hx hi;exact Oc h2 (h3 Y w v (aCR h1 (hargs (i+1) x v (by simpa using hx) hv)))
def aFB(P:Program)(ext:FuncId->List Value->Option (Prop×List Value)):Prop:=∀f vs g rs,ext f vs=some (g,rs)->g->(∀v∈rs,v.oneCell'=true)/\∀w,(callFunc f vs.toArray).run P w=.ok (.value (resV rs)) w
end AI
namespace AI
open Go Go.RowKit
section
variable {R:Type} (E:Env) (J L:Nat->List KV->Option R)
def evalJ:Code->St->(Ex->St->Option R)->Option R
 | .skip,st,K=>K .normal st
 | .label _,st,K=>K .normal st
 | .region _ ops draw,st,K=>opsK E draw ops st.n ops.toList 0 [] st fun gH=>K .normal ⟨gH.fr,gH.hp,st.n+8*ops.size⟩
 | .seq a b,st,K=>evalJ a st fun ex gH=>match ex with
  | .normal=>match E.cut (keyOf b)with
   |some keep=>J (keyOf b) (canon E.n0 keep gH)
   |none=>evalJ b gH K
  | .exit i=>K (.exit i) gH
  | .ret=>K .ret gH
 | .cond c a b,st,K=>match c with
  | .tmp s=>match st.fr s with
   | .v (.one (.s (.sc (.bool t))))=>aD t (evalJ a ⟨Ck st.fr s (Dh (.bool true)),st.hp,st.n⟩ K) (evalJ b ⟨Ck st.fr s (Dh (.bool false)),st.hp,st.n⟩ K)
   |_=>none
  | .const (.bool t)=>aD t (evalJ a st K) (evalJ b st K)
  |_=>none
 | .block id c,st,K=>evalJ c st fun ex gH=>match ex with
  | .normal=>K .normal gH
  | .exit i=>bif bXI i id then K .normal gH else K (.exit i) gH
  | .ret=>K .ret gH
 | .exit id,st,K=>K (.exit id) st
 | .ret,st,K=>K .ret st
 | .loop c,st,_=>L (keyOf c) (canon E.n0 (E.keep (keyOf c)) st)
 | .scope c,st,K=>evalJ c st K
 |_,_,_=>none
def aCO(b:Code)(K:Ex->St->Option R)(ex:Ex)(gH:St):Option R:=match ex with
 | .normal=>match E.cut (keyOf b)with
  |some keep=>J (keyOf b) (canon E.n0 keep gH)
  |none=>evalJ E J L b gH K
 | .exit i=>K (.exit i) gH
 | .ret=>K .ret gH
def Ss(c:Code)(K:Ex->St->Option R)(ex:Ex)(gH:St):Option R:=match ex with
 | .normal=>L (keyOf c) (canon E.n0 (E.keep (keyOf c)) gH)
 | .exit i=>K (.exit i) gH
 | .ret=>K .ret gH
def findLoopJ(key:Nat):Code->(Ex->St->Option R)->Option (Code×(Ex->St->Option R))
 | .seq a b,K=>(findLoopJ key a (aCO E J L b K)).or (findLoopJ key b K)
 | .cond _ a b,K=>(findLoopJ key a K).or (findLoopJ key b K)
 | .block id c,K=>findLoopJ key c (Nw id K)
 | .loop c,K=>bif bXI (keyOf c) key then some (c,K)else findLoopJ key c (Ss E L c K)
 | .scope c,K=>findLoopJ key c K
 |_,_=>none
def mN(key:Nat):Code->(Ex->St->Option R)->Option (Code×(Ex->St->Option R))
 | .seq a b,K=>bif bXI (keyOf b) key then some (b,K)else(mN key a (aCO E J L b K)).or (mN key b K)
 | .cond _ a b,K=>(mN key a K).or (mN key b K)
 | .block id c,K=>mN key c (Nw id K)
 | .loop c,K=>mN key c (Ss E L c K)
 | .scope c,K=>mN key c K
 |_,_=>none
end
def loopKeys:Code->List Nat
 | .seq a b=>loopKeys a ++ loopKeys b
 | .cond _ a b=>loopKeys a ++ loopKeys b
 | .block _ c=>loopKeys c
 | .loop c=>keyOf c :: loopKeys c
 | .scope c=>loopKeys c
 |_=>[]
def gL(E:Env):Code->List Nat
 | .seq a b=>(match E.cut (keyOf b)with |some _=>[keyOf b] |none=>[]) ++ (gL E a ++ gL E b)
 | .cond _ a b=>gL E a ++ gL E b
 | .block _ c=>gL E c
 | .loop c=>gL E c
 | .scope c=>gL E c
 |_=>[]
theorem nodup_iff:∀{xs:List Nat},nodup xs=true↔xs.Nodup
 | []=>by simp[nodup]
 |x :: xs=>by
  have ih:=nodup_iff (xs:=xs);simp only[nodup,bXN,Bool.not_eq_true',cBV,ih];constructor
  ·rintro ⟨h1,h2⟩;refine⟨fun hm=>?_,h2⟩;have:xs.elem x=true:=List.elem_eq_true_of_mem hm;rw[this]at h1;cases h1
  ·rintro ⟨h1,h2⟩;refine⟨?_,h2⟩;cases hb:xs.elem x with
   |false=>rfl
   |true=>exact(h1 (List.mem_of_elem_eq_true hb)).elim
section
variable {R:Type} (E:Env)
theorem sU(key:Nat):∀(c:Code) (K:Ex->St->Option R),(findLoop E key c K).isSome=true↔key∈loopKeys c:=by
 intro c
 induction c with
 |seq a b Bk Bj =>
  intro K;simp only[findLoop,loopKeys,bYK,cDP,bYP,Bk,Bj]
 |cond cd a b Bk Bj =>
  intro K;simp only[findLoop,loopKeys,bYK,cDP,bYP,Bk,Bj]
 |block id c ih=>intro K;simp only[findLoop,loopKeys,ih]
 |scope c ih=>intro K;simp only[findLoop,loopKeys,ih]
 |loop c ih =>
  intro K;simp only[findLoop,loopKeys,bYO];cases hb:bXI (keyOf c) key with
  |true=>simp[(bXT hb)]
  |false =>
   have:key≠keyOf c:=fun h=>by subst h;rw[cBO]at hb;cases hb
   simp only[cond_false,ih,this,false_or]
 |_=>intro K;simp[findLoop,loopKeys]
theorem uV{key:Nat}:∀{c:Code},key∈gL E c->(E.cut key).isSome=true:=by
 intro c
 induction c with
 |seq a b Bk Bj =>
  intro h;simp only[gL,bYK]at h;rcases h with h |h |h
  ·split at h
   ·rename_i keep hk;simp at h;subst h;rw[hk];rfl
   ·cases h
  ·exact Bk h
  ·exact Bj h
 |cond cd a b Bk Bj =>
  intro h;simp only[gL,bYK]at h;exact h.elim Bk Bj
 |block id c ih=>intro h;exact ih h
 |scope c ih=>intro h;exact ih h
 |loop c ih=>intro h;exact ih h
 |_=>intro h;simp[gL]at h
theorem uS{key:Nat}(hk:(E.cut key).isSome=true):∀(c:Code) (K:Ex->St->Option R),(fK E key c K).isSome=true↔key∈gL E c:=by
 intro c
 induction c with
 |seq a b Bk Bj =>
  intro K;simp only[fK,gL,bYK];cases hb:bXI (keyOf b) key with
  |true =>
   have:=bXT hb;subst this;cases hc:E.cut (keyOf b)with
   |none=>rw[hc]at hk;cases hk
   |some x=>simp
  |false =>
   have hn:key≠keyOf b:=fun h=>by subst h;rw[cBO]at hb;cases hb
   simp only[cond_false,cDP,bYP,Bk,Bj];constructor
   ·intro h;exact .inr h
   ·rintro (h |h)
    ·split at h
     ·simp at h;exact(hn h).elim
     ·cases h
    ·exact h
 |cond cd a b Bk Bj =>
  intro K;simp only[fK,gL,bYK,cDP,bYP,Bk,Bj]
 |block id c ih=>intro K;simp only[fK,gL,ih]
 |scope c ih=>intro K;simp only[fK,gL,ih]
 |loop c ih=>intro K;simp only[fK,gL,ih]
 |_=>intro K;simp[fK,gL]
theorem Kl{α:Type}{x y:Option α}(h:x.isSome=true):x.or y=x:=by cases x <;> simp_all
theorem Fz{α:Type}{x y:Option α}(h:¬x.isSome=true):x.or y=y:=by cases x <;> simp_all
structure Sub(c0:Code)(K0:Ex->St->Option R)(c:Code)(K:Ex->St->Option R):Prop where
 lp:∀key,key∈loopKeys c->findLoop E key c0 K0=findLoop E key c K
 ct:∀key,key∈gL E c->fK E key c0 K0=fK E key c K
 dl:(loopKeys c).Nodup
 dc:(gL E c).Nodup
variable {E} {c0:Code} {K0:Ex->St->Option R}
theorem Sub.seq1{a b:Code}{K:Ex->St->Option R}(h:Sub E c0 K0 (.seq a b) K):Sub E c0 K0 a (Za E b K):=by
 have hl:=h.dl;have hc:=h.dc;simp only[loopKeys]at hl;simp only[gL]at hc;refine⟨fun key hk=>?_,fun key hk=>?_,(List.nodup_append.1 hl).1,(List.nodup_append.1 (List.nodup_append.1 hc).2.1).1⟩
 ·rw[h.lp key (by simp only[loopKeys,bYK];exact .inl hk),findLoop];exact Kl ((sU E key a _).2 hk)
 ·rw[h.ct key (by simp only[gL,bYK];exact .inr (.inl hk)),fK];have hs:=uV E hk;cases hb:bXI (keyOf b) key with
  |true =>
   exfalso;have:=bXT hb;subst this;cases hx:E.cut (keyOf b)with
   |none=>rw[hx]at hs;cases hs
   |some x =>
    rw[hx]at hc;exact(List.nodup_append.1 hc).2.2 (keyOf b) (by simp) (keyOf b) (List.mem_append.2 (.inl hk)) rfl
  |false =>
   simp only[cond_false];exact Kl ((uS E hs a _).2 hk)
theorem Sub.Zb{a b:Code}{K:Ex->St->Option R}(h:Sub E c0 K0 (.seq a b) K):Sub E c0 K0 b K:=by
 have hl:=h.dl;have hc:=h.dc;simp only[loopKeys]at hl;simp only[gL]at hc;refine⟨fun key hk=>?_,fun key hk=>?_,(List.nodup_append.1 hl).2.1,(List.nodup_append.1 (List.nodup_append.1 hc).2.1).2.1⟩
 ·rw[h.lp key (by simp only[loopKeys,bYK];exact .inr hk),findLoop];refine Fz fun hx=>?_
  exact(List.nodup_append.1 hl).2.2 key ((sU E key a _).1 hx) key hk rfl
 ·rw[h.ct key (by simp only[gL,bYK];exact .inr (.inr hk)),fK];have hs:=uV E hk;cases hb:bXI (keyOf b) key with
  |true =>
   exfalso;have:=bXT hb;subst this;cases hx:E.cut (keyOf b)with
   |none=>rw[hx]at hs;cases hs
   |some x =>
    rw[hx]at hc;exact(List.nodup_append.1 hc).2.2 (keyOf b) (by simp) (keyOf b) (List.mem_append.2 (.inr hk)) rfl
  |false =>
   simp only[cond_false];refine Fz fun hx=>?_
   exact(List.nodup_append.1 (List.nodup_append.1 hc).2.1).2.2 key ((uS E hs a _).1 hx) key hk rfl
theorem Sub.Xq{cd:Operand}{a b:Code}{K:Ex->St->Option R}(h:Sub E c0 K0 (.cond cd a b) K):Sub E c0 K0 a K:=by
 have hl:=h.dl;have hc:=h.dc;simp only[loopKeys]at hl;simp only[gL]at hc;refine⟨fun key hk=>?_,fun key hk=>?_,(List.nodup_append.1 hl).1,(List.nodup_append.1 hc).1⟩
 ·rw[h.lp key (by simp only[loopKeys,bYK];exact .inl hk),findLoop];exact Kl ((sU E key a _).2 hk)
 ·rw[h.ct key (by simp only[gL,bYK];exact .inl hk),fK];exact Kl ((uS E (uV E hk) a _).2 hk)
theorem Sub.Xp{cd:Operand}{a b:Code}{K:Ex->St->Option R}(h:Sub E c0 K0 (.cond cd a b) K):Sub E c0 K0 b K:=by
 have hl:=h.dl;have hc:=h.dc;simp only[loopKeys]at hl;simp only[gL]at hc;refine⟨fun key hk=>?_,fun key hk=>?_,(List.nodup_append.1 hl).2.1,(List.nodup_append.1 hc).2.1⟩
 ·rw[h.lp key (by simp only[loopKeys,bYK];exact .inr hk),findLoop];refine Fz fun hx=>?_
  exact(List.nodup_append.1 hl).2.2 key ((sU E key a _).1 hx) key hk rfl
 ·rw[h.ct key (by simp only[gL,bYK];exact .inr hk),fK];refine Fz fun hx=>?_
  exact(List.nodup_append.1 hc).2.2 key ((uS E (uV E hk) a _).1 hx) key hk rfl
theorem Sub.block{id:Nat}{c:Code}{K:Ex->St->Option R}(h:Sub E c0 K0 (.block id c) K):Sub E c0 K0 c (Nw id K) :=
 ⟨fun key hk=>h.lp key hk,fun key hk=>h.ct key hk,h.dl,h.dc⟩
theorem Sub.scope{c:Code}{K:Ex->St->Option R}(h:Sub E c0 K0 (.scope c) K):Sub E c0 K0 c K :=
 ⟨fun key hk=>h.lp key hk,fun key hk=>h.ct key hk,h.dl,h.dc⟩
theorem Sub.loop{c:Code}{K:Ex->St->Option R}(h:Sub E c0 K0 (.loop c) K):Sub E c0 K0 c (Qr E c K):=by
 have hl:=h.dl;simp only[loopKeys,cBV]at hl;refine⟨fun key hk=>?_,fun key hk=>h.ct key hk,hl.2,h.dc⟩;rw[h.lp key (by simp only[loopKeys,bYO];exact .inr hk),findLoop];cases hb:bXI (keyOf c) key with
 |true=>have:=bXT hb;subst this;exact(hl.1 hk).elim
 |false=>rfl
def Mq(E:Env)(c0:Code)(K0:Ex->St->Option R)(key:Nat)(l:List KV):Option R :=
 match findLoop E key c0 K0 with
 |some (b,K)=>fix (roundOf (evalCode E) E.n0 (E.keep key) b K) l
 |none=>none
def Pz(E:Env)(c0:Code)(K0:Ex->St->Option R)(key:Nat)(l:List KV):Option R :=
 match fK E key c0 K0,E.cut key with
 |some (b,K),some keep=>Cz key l fun l=>evalCode E b (mk E.n0 keep l) K
 |_,_=>none
theorem Sub.aKK{c:Code}{K:Ex->St->Option R}(h:Sub E c0 K0 (.loop c) K)(l:List KV):Mq E c0 K0 (keyOf c) l=fix (roundOf (evalCode E) E.n0 (E.keep (keyOf c)) c K) l:=by
 unfold Mq;rw[h.lp (keyOf c) (by simp[loopKeys]),findLoop,cBO];rfl
theorem Sub.aMM{a b:Code}{K:Ex->St->Option R}(h:Sub E c0 K0 (.seq a b) K){keep:List Nat}(hk:E.cut (keyOf b)=some keep)(l:List KV):Pz E c0 K0 (keyOf b) l=evalCode E b (AI.mk E.n0 keep l) K:=by
 unfold Pz;rw[h.ct (keyOf b) (by simp[gL,hk]),fK,cBO,hk];rfl
theorem Gi(hr:∀k,E.roll k=none):∀(c:Code) (K:Ex->St->Option R),Sub E c0 K0 c K->∀st,evalJ E (Pz E c0 K0) (Mq E c0 K0) c st K=evalCode E c st K:=by
 intro c
 induction c with
 |seq a b Bk Bj =>
  intro K h st;simp only[evalJ];have e:(fun(ex:Ex) (gH:St)=>match ex with
   | .normal=>match E.cut (keyOf b)with
    |some keep=>Pz E c0 K0 (keyOf b) (canon E.n0 keep gH)
    |none=>evalJ E (Pz E c0 K0) (Mq E c0 K0) b gH K
   | .exit i=>K (.exit i) gH
   | .ret=>K .ret gH)=Za E b K:=by
   funext ex gH;unfold Za;cases ex with
   |normal =>
    cases hk:E.cut (keyOf b)with
    |some keep=>simp only[];rw[h.aMM hk];rfl
    |none=>simp only[];exact Bj K h.Zb gH
   |exit i=>rfl
   |ret=>rfl
  rw[e,Bk _ h.seq1 st];rfl
 |cond cd a b Bk Bj =>
  intro K h st;simp only[evalJ,evalCode];have ha:=Bk K h.Xq;have hb:=Bj K h.Xp;simp only[ha,hb];rfl
 |block id c ih =>
  intro K h st;exact ih _ h.block st
 |loop c ih =>
  intro K h st;simp only[evalJ,evalCode,hr];rw[h.aKK]
 |region id ops draw=>intro K h st;rfl
 |skip=>intro K h st;rfl
 |label l=>intro K h st;rfl
 |exit i=>intro K h st;rfl
 |ret=>intro K h st;rfl
 |rangeFunc f ps x y _ _=>intro K h st;rfl
 |scope c ih=>intro K h st;exact ih _ h.scope st
 |goto l=>intro K h st;rfl
 |refuse bMM=>intro K h st;rfl
theorem Vq(hr:∀k,E.roll k=none){a b:Code}{K:Ex->St->Option R}(h:Sub E c0 K0 (.seq a b) K):aCO E (Pz E c0 K0) (Mq E c0 K0) b K=Za E b K:=by
 funext ex gH;unfold aCO Za;cases ex with
 |normal =>
  cases hk:E.cut (keyOf b)with
  |some keep=>simp only[];rw[h.aMM hk];rfl
  |none=>simp only[];exact Gi hr b K h.Zb gH
 |exit i=>rfl
 |ret=>rfl
theorem Hs{c:Code}{K:Ex->St->Option R}(h:Sub E c0 K0 (.loop c) K):Ss E (Mq E c0 K0) c K=Qr E c K:=by
 funext ex gH;unfold Ss Qr;cases ex with
 |normal=>exact h.aKK _
 |exit i=>rfl
 |ret=>rfl
theorem Tk(hr:∀k,E.roll k=none)(key:Nat):∀(c:Code) (K:Ex->St->Option R),Sub E c0 K0 c K->findLoopJ E (Pz E c0 K0) (Mq E c0 K0) key c K=findLoop E key c K:=by
 intro c
 induction c with
 |seq a b Bk Bj =>
  intro K h;rw[findLoopJ,findLoop,Vq hr h,Bk _ h.seq1,Bj _ h.Zb]
 |cond cd a b Bk Bj =>
  intro K h;rw[findLoopJ,findLoop,Bk _ h.Xq,Bj _ h.Xp]
 |block id c ih=>intro K h;rw[findLoopJ,findLoop,ih _ h.block]
 |scope c ih=>intro K h;rw[findLoopJ,findLoop,ih _ h.scope]
 |loop c ih=>intro K h;rw[findLoopJ,findLoop,Hs h,ih _ h.loop]
 |_=>intro K h;rfl
theorem Xc(hr:∀k,E.roll k=none)(key:Nat):∀(c:Code) (K:Ex->St->Option R),Sub E c0 K0 c K->mN E (Pz E c0 K0) (Mq E c0 K0) key c K=fK E key c K:=by
 intro c
 induction c with
 |seq a b Bk Bj =>
  intro K h;rw[mN,fK,Vq hr h,Bk _ h.seq1,Bj _ h.Zb]
 |cond cd a b Bk Bj =>
  intro K h;rw[mN,fK,Bk _ h.Xq,Bj _ h.Xp]
 |block id c ih=>intro K h;rw[mN,fK,ih _ h.block]
 |scope c ih=>intro K h;rw[mN,fK,ih _ h.scope]
 |loop c ih=>intro K h;rw[mN,fK,Hs h,ih _ h.loop]
 |_=>intro K h;rfl
theorem Sub.aZD:∀(c:Code) (K:Ex->St->Option R),Sub E c0 K0 c K->∀{key:Nat} {b:Code} {K':Ex->St->Option R},findLoop E key c K=some (b,K')->key=keyOf b/\Sub E c0 K0 (.loop b) K':=by
 intro c
 induction c with
 |seq a b Bk Bj =>
  intro K h key b' K' hf;rw[findLoop]at hf;rcases Option.or_eq_some_iff.1 hf with hf |⟨_,hf⟩
  ·exact Bk _ h.seq1 hf
  ·exact Bj _ h.Zb hf
 |cond cd a b Bk Bj =>
  intro K h key b' K' hf;rw[findLoop]at hf;rcases Option.or_eq_some_iff.1 hf with hf |⟨_,hf⟩
  ·exact Bk _ h.Xq hf
  ·exact Bj _ h.Xp hf
 |block id c ih=>intro K h key b' K' hf;exact ih _ h.block hf
 |scope c ih=>intro K h key b' K' hf;exact ih _ h.scope hf
 |loop c ih =>
  intro K h key b' K' hf;rw[findLoop]at hf;cases hb:bXI (keyOf c) key with
  |true =>
   rw[hb]at hf;cases hf;exact⟨(bXT hb).symm,h⟩
  |false=>rw[hb]at hf;exact ih _ h.loop hf
 |_=>intro K h key b' K' hf;simp[findLoop]at hf
theorem Sub.bEZ:∀(c:Code) (K:Ex->St->Option R),Sub E c0 K0 c K->∀{key:Nat} {b:Code} {K':Ex->St->Option R},fK E key c K=some (b,K')->Sub E c0 K0 b K':=by
 intro c
 induction c with
 |seq a b Bk Bj =>
  intro K h key b' K' hf;rw[fK]at hf;cases hb:bXI (keyOf b) key with
  |true=>rw[hb]at hf;cases hf;exact h.Zb
  |false =>
   rw[hb]at hf;rcases Option.or_eq_some_iff.1 hf with hf |⟨_,hf⟩
   ·exact Bk _ h.seq1 hf
   ·exact Bj _ h.Zb hf
 |cond cd a b Bk Bj =>
  intro K h key b' K' hf;rw[fK]at hf;rcases Option.or_eq_some_iff.1 hf with hf |⟨_,hf⟩
  ·exact Bk _ h.Xq hf
  ·exact Bj _ h.Xp hf
 |block id c ih=>intro K h key b' K' hf;exact ih _ h.block hf
 |scope c ih=>intro K h key b' K' hf;exact ih _ h.scope hf
 |loop c ih=>intro K h key b' K' hf;exact ih _ h.loop hf
 |_=>intro K h key b' K' hf;simp[fK]at hf
end
def zA(E:Env)(c:Code):Bool:=nodup (loopKeys c)&&nodup (gL E c)
theorem sub_self{E:Env}{c:Code}{K:Ex->St->Option (List D)}(h:zA E c=true):Sub E c K c K:=by
 unfold zA at h;rw[bXN,nodup_iff,nodup_iff]at h;exact⟨fun _ _=>rfl,fun _ _=>rfl,h.1,h.2⟩
section
variable (E:Env) (fn:Func) (c:Code)
def aJC(J L:Nat->List KV->Option (List D))(ds:List D):Option (List D) :=
 evalJ E J L c ⟨Xy ds,argHp 0 ds,E.n0⟩ (sP E fn)
def Zf(J L:Nat->List KV->Option (List D))(key:Nat)(l:List KV):Option (List D) :=
 match findLoopJ E J L key c (sP E fn)with
 |some (b,K)=>evalJ E J L b (mk E.n0 (E.keep key) l) fun ex gH=>match ex with
  | .normal=>L key (canon E.n0 (E.keep key) gH)
  | .exit i=>K (.exit i) gH
  | .ret=>K .ret gH
 |none=>none
def aYS(J L:Nat->List KV->Option (List D))(key:Nat)(l:List KV):Option (List D) :=
 match mN E J L key c (sP E fn),E.cut key with
 |some (b,K),some keep=>evalJ E J L b (mk E.n0 keep l) K
 |_,_=>none
end
variable {E:Env} {fn:Func} {c:Code}
theorem No:cutAt E fn c=Pz E c (sP E fn):=by
 funext key l;unfold cutAt Pz;cases fK E key c (sP E fn) <;> cases E.cut key <;> rfl
theorem Ht:Hu E fn c=Mq E c (sP E fn):=by
 funext key l;unfold Hu Mq;cases findLoop E key c (sP E fn) <;> rfl
theorem aMN(E:Env)(fn:Func)(c:Code):∃f:Nat->List KV->Option (List D),f=cutAt E fn c:=⟨_,rfl⟩
def lE(E:Env)(fn:Func)(c:Code):Nat->List KV->Option (List D):=Classical.choose (aMN E fn c)
theorem aAH:lE E fn c=cutAt E fn c:=Classical.choose_spec (aMN E fn c)
theorem aKL(E:Env)(fn:Func)(c:Code):∃f:Nat->List KV->Option (List D),f=Hu E fn c:=⟨_,rfl⟩
def nN(E:Env)(fn:Func)(c:Code):Nat->List KV->Option (List D):=Classical.choose (aKL E fn c)
theorem Zn:nN E fn c=Hu E fn c:=Classical.choose_spec (aKL E fn c)
theorem aLV(hr:E.roll=fun _=>none)(h:zA E c=true)(ds:List D):aG E fn c ds=aJC E fn c (lE E fn c) (nN E fn c) ds:=by
 rw[aAH,Zn,No,Ht];exact(Gi (c0:=c) (K0:=sP E fn) (fun k=>by rw[hr]) c (sP E fn) (sub_self h) _).symm
theorem aKM(hr:E.roll=fun _=>none)(h:zA E c=true)(key:Nat)(l:List KV):nN E fn c key l=Zf E fn c (lE E fn c) (nN E fn c) key l:=by
 rw[aAH,Zn,aFR,No,Ht];unfold Sh Zf;have hs:=sub_self (K:=sP E fn) h;have e:=Tk (c0:=c) (K0:=sP E fn) (fun k=>by rw[hr]) key c (sP E fn) hs;rw[e];cases hf:findLoop E key c (sP E fn)with
 |none=>rfl
 |some p =>
  obtain⟨b,K⟩:=p;simp only[];obtain⟨rfl,hb⟩:=Sub.aZD c (sP E fn) hs hf;have e2:(fun(ex:Ex) (gH:St)=>match ex with
   | .normal=>Mq E c (sP E fn) (keyOf b) (canon E.n0 (E.keep (keyOf b)) gH)
   | .exit i=>K (.exit i) gH
   | .ret=>K .ret gH)=Qr E b K:=Hs hb
  rw[e2];exact(Gi (c0:=c) (K0:=sP E fn) (fun k=>by rw[hr]) b _ hb.loop _).symm
theorem aSC(hr:E.roll=fun _=>none)(h:zA E c=true)(key:Nat)(l:List KV):lE E fn c key l=aYS E fn c (lE E fn c) (nN E fn c) key l:=by
 rw[aAH,Zn,aML,No,Ht];unfold Tr aYS;have hs:=sub_self (K:=sP E fn) h;have e:=Xc (c0:=c) (K0:=sP E fn) (fun k=>by rw[hr]) key c (sP E fn) hs;rw[e];cases hf:fK E key c (sP E fn)with
 |none=>rfl
 |some p =>
  obtain⟨b,K⟩:=p;cases hc:E.cut key with
  |none=>rfl
  |some keep=>exact(Gi (c0:=c) (K0:=sP E fn) (fun k=>by rw[hr]) b _ (Sub.bEZ c _ hs hf) _).symm
def Nk(E:Env)(c:Code):Prop:=(E.roll=fun _=>none)/\zA E c=true
theorem nk{E:Env}{c:Code}(h:zA E c=true:=by kernel_rfl)(hr:E.roll=fun _=>none:=by rfl):Nk E c:=⟨hr,h⟩
section
variable {E:Env} {fn:Func} {c:Code} {key:Nat} {l:List KV} {ds:List D} {r:Option (List D)} (h:Nk E c)
include h
theorem eJ(e:aJC E fn c (lE E fn c) (nN E fn c) ds=r:=by kernel_rfl):aG E fn c ds=r:=(aLV h.1 h.2 ds).trans e
theorem lJ(e:Zf E fn c (lE E fn c) (nN E fn c) key l=r:=by kernel_rfl):nN E fn c key l=r:=(aKM h.1 h.2 key l).trans e
theorem cJ(e:aYS E fn c (lE E fn c) (nN E fn c) key l=r:=by kernel_rfl):lE E fn c key l=r:=(aSC h.1 h.2 key l).trans e
end
end AI
namespace AI
open Go Go.RowKit
structure oH(α:Type) where
 put:α->D
 get:D->Option α
 le:∀{d x},get d=some x->Fk d (put x)
def pI(k:IntKind):oH (List Int):=⟨fun a=>.s (.ints k a),dI k,bET⟩
def pN(k:IntKind):oH Int:=⟨fun n=>.s (.sc (.int k n)),dN k,bER⟩
def dIO(e:TypeId)(k:IntKind):D->Option (List Int×Nat×Nat)
 | .io e' k' ns off n=>if _h:e=e'/\k=k' then some (ns,off,n)else none
 |_=>none
theorem Tq{e:TypeId}{k:IntKind}{d:D}{x:List Int×Nat×Nat}(h:dIO e k d=some x):d=.io e k x.1 x.2.1 x.2.2:=by
 unfold dIO at h;split at h
 ·split at h
  ·rename_i hk;obtain⟨rfl,rfl⟩:=hk;cases h;rfl
  ·cases h
 ·cases h
def Ej(e:TypeId)(k:IntKind):oH (List Int×Nat×Nat):=⟨fun x=>.io e k x.1 x.2.1 x.2.2,dIO e k,fun h=>by rw[Tq h];exact Fk.refl _⟩
def pB:oH Bool:=⟨fun b=>.s (.sc (.bool b)),dB,bEV⟩
def dF(k:FloatKind):D->Option Nat
 | .s (.sc (.float k' b))=>if _h:k=k' then some b else none
 |_=>none
theorem bEU{k:FloatKind}{d:D}{n:Nat}(h:dF k d=some n):Fk d (.s (.sc (.float k n))):=by
 unfold dF at h;split at h
 ·split at h
  ·rename_i hk;cases h;subst hk;exact Fk.refl _
  ·cases h
 ·cases h
def pF(k:FloatKind):oH Nat:=⟨fun b=>.s (.sc (.float k b)),dF k,bEU⟩
class aGZ{α:Type}(p:oH α):Prop where
 no:∀{d x},p.get d=some x->Gf d=false/\Gf (p.put x)=false
instance {k:IntKind}:aGZ (pI k):=⟨fun {d x} h=>⟨by cases d <;> first |rfl | (simp[pI,dI]at h),rfl⟩⟩
instance {k:IntKind}:aGZ (pN k):=⟨fun {d x} h=>⟨by cases d <;> first |rfl | (simp[pN,dN]at h),rfl⟩⟩
instance:aGZ pB:=⟨fun {d x} h=>⟨by cases d <;> first |rfl | (simp[pB,dB]at h),rfl⟩⟩
structure SPar(α:Type) where
 n:Nat
 put:α->List S
 get:List S->Option α
 le:∀{d x},get d=some x->d.length=n/\(put x).length=n/\∀(i:Nat) (s s':S),d[i]?=some s->(put x)[i]?=some s'->∀X w v,rH X w s v->rH X w s' v
def bHG{α:Type}(p:oH α)(put:α->S)(h:∀x,p.put x=.s (put x)):SPar α where
 n:=1
 put x:=[put x]
 get
  | [s]=>p.get (.s s)
  |_=>none
 le:=by
  intro d x hd
  match d,hd with
  | [s],hd =>
   refine⟨rfl,rfl,fun i s1 s2 h1 h2=>?_⟩
   match i with
   |0 =>
    simp at h1 h2;subst h1;subst h2;intro X w v hr;have:=p.le hd X w v hr;rw[h]at this;exact this
   |i+1=>simp at h1
def sI(k:IntKind):SPar (List Int):=bHG (pI k) (fun a=>.ints k a) fun _=>rfl
def sN(k:IntKind):SPar Int:=bHG (pN k) (fun n=>.sc (.int k n)) fun _=>rfl
def sB:SPar Bool:=bHG pB (fun b=>.sc (.bool b)) fun _=>rfl
def SPar.pair{α β:Type}(p:SPar α)(q:SPar β):SPar (α×β) where
 n:=p.n+q.n
 put x:=p.put x.1 ++ q.put x.2
 get d:=match p.get (d.take p.n),q.get (d.drop p.n)with
  |some a,some b=>some (a,b)
  |_,_=>none
 le:=by
  intro d x h;split at h
  ·rename_i a b ha hb;cases h;obtain⟨a1,a2,a3⟩:=p.le ha;obtain⟨b1,b2,b3⟩:=q.le hb;simp only[bZC,cEY]at a1 b1;have bFC:(p.put (a,b).fst).length=p.n:=a2;refine⟨by omega,by simp[a2,b2],fun i s s' h1 h2=>?_⟩
   by_cases hi:i<p.n
   ·rw[List.getElem?_append_left (by rw[bFC];exact hi)]at h2;exact a3 i s s' (by rw[List.getElem?_take_of_lt hi];exact h1) h2
   ·rw[List.getElem?_append_right (by rw[bFC];omega),bFC]at h2;exact b3 (i-p.n) s s' (by rw[bXV,show p.n+(i-p.n)=i from by omega];exact h1) h2
  ·cases h
def pG{α:Type}(p:SPar α):oH α where
 put x:=.agg (p.put x)
 get
  | .agg cs=>p.get cs
  |_=>none
 le:=by
  intro d x h
  match d,h with
  | .agg cs,h =>
   obtain⟨h1,h2,h3⟩:=p.le h;rintro Y w v ⟨arr,rfl,hl,hr⟩;refine⟨arr,rfl,by omega,fun i s u hs hu=>?_⟩;obtain⟨s0,Pk⟩:=cK (l:=cs) (i:=i) (by have:=bJ hs;omega);exact h3 i s0 s Pk hs Y w u (hr i s0 u Pk hu)
def De(d d':D):Prop:=(d'=d)\/(mA d'=false/\((∃e k ns,d=.own e k ns/\d'=.s (.ints k ns))\/(mA d=false/\Fk d d')))
theorem De.refl(d:D):De d d:=.inl rfl
theorem De.own(e:TypeId)(k:IntKind)(ns:List Int):De (.own e k ns) (.s (.ints k ns)):=.inr ⟨rfl,.inl ⟨e,k,ns,rfl,rfl⟩⟩
theorem De.nil(k:IntKind):De (.s (.sc (.slice none 0 0))) (.s (.ints k [])) :=
 .inr ⟨rfl,.inr ⟨rfl,fun Y w v h=>by obtain⟨rfl,_⟩:=h;exact⟨none,0,rfl,bXK _,fun i n hn=>by simp at hn⟩⟩⟩
def Ew(s s':S):Prop:=∀X w v,rH X w s v->rH X w s' v
theorem Ew.refl(s:S):Ew s s:=fun _ _ _ h=>h
theorem Ew.nil(k:IntKind):Ew (.sc (.slice none 0 0)) (.ints k []):=fun X w v h=>by
 obtain⟨rfl,_⟩:=h;exact⟨none,0,rfl,bXK _,fun i n hn=>by simp at hn⟩
inductive Ae:List S->List S->Prop where
 |nil:Ae [] []
 |cons {s s':S} {l l':List S}:Ew s s'->Ae l l'->Ae (s :: l) (s' :: l')
theorem Ae.refl:∀l,Ae l l
 | []=>.nil
 |s :: l=>.cons (Ew.refl s) (Ae.refl l)
theorem Ae.len{l l':List S}(h:Ae l l'):l.length=l'.length:=by induction h with |nil=>rfl |cons _ _ ih=>simp[ih]
theorem Ae.at{l l':List S}(h:Ae l l'):∀{i:Nat} {s s':S},l[i]?=some s->l'[i]?=some s'->Ew s s':=by
 induction h with
 |nil=>intro i s s' h;simp at h
 |cons hs _ ih =>
  intro i s s' h1 h2;cases i with
  |zero=>simp at h1 h2;subst h1;subst h2;exact hs
  |succ i=>simp at h1 h2;exact ih h1 h2
theorem De.agg{l l':List S}(h:Ae l l'):De (.agg l) (.agg l') :=
 .inr ⟨rfl,.inr ⟨rfl,fun Y w v hv=>by
  obtain⟨arr,rfl,hl,hr⟩:=hv;refine⟨arr,rfl,by rw[<-h.len];exact hl,fun i s u hs hu=>?_⟩;obtain⟨s0,Pk⟩:=cK (l:=l) (i:=i) (by have:=bJ hs;rw[h.len];exact this);exact h.at Pk hs Y w u (hr i s0 u Pk hu)⟩⟩
inductive iV:List D->List D->Prop where
 |nil:iV [] []
 |cons {s s':D} {l l':List D}:De s s'->iV l l'->iV (s :: l) (s' :: l')
theorem iV.refl:∀l,iV l l
 | []=>.nil
 |s :: l=>.cons (De.refl s) (iV.refl l)
theorem iV.len{l l':List D}(h:iV l l'):l.length=l'.length:=by induction h with |nil=>rfl |cons _ _ ih=>simp[ih]
theorem iV.at{l l':List D}(h:iV l l'):∀{i:Nat} {s s':D},l[i]?=some s->l'[i]?=some s'->De s s':=by
 induction h with
 |nil=>intro i s s' h;simp at h
 |cons hs _ ih =>
  intro i s s' h1 h2;cases i with
  |zero=>simp at h1 h2;subst h1;subst h2;exact hs
  |succ i=>simp at h1 h2;exact ih h1 h2
theorem Contract.less{P:Program}{G:Nat->Option (IntKind×List Int)}{f:FuncId}{ds rs aPY:List D}(h:Contract P G f ds rs)(hr:iV rs aPY):Contract P G f ds aPY:=by
 intro Y w vs hY hG hlen hargs;refine(h Y w vs hY hG hlen hargs).mono ?_;rintro e w' ⟨Ag,he,hb,g,hl,Bl,Zt⟩;have tY:∀{i:Nat} {d d':D},rs[i]?=some d->aPY[i]?=some d'->mA d'=true->d'=d:=by
  intro i d d' h1 h2 ho;rcases hr.at h1 h2 with h3 |⟨h3,_⟩
  ·exact h3
  ·rw[h3]at ho;cases ho
 have xE:∀{i:Nat} {d':D},aPY[i]?=some d'->∃d,rs[i]?=some d:=fun {i d'} h=>cK (l:=rs) (i:=i) (by have:=bJ h;rw[hr.len];exact this)
 have aWS:∀b,(Y b\/∃(j:Nat) (d':D),aPY[j]?=some d'/\mA d'=true/\g j=b)->(Y b\/∃(j:Nat) (d':D),rs[j]?=some d'/\mA d'=true/\g j=b):=by
  rintro b (hb |⟨j,d',h1,h2,h3⟩)
  ·exact .inl hb
  ·obtain⟨d,hd⟩:=xE h1;have:=tY hd h1 h2;subst this;exact .inr ⟨j,d',hd,h2,h3⟩
 refine⟨Ag,he,hb,g,by rw[<-hr.len];exact hl,?_,?_⟩
 ·intro i j d d' h1 h2 h3 h4 h5;obtain⟨e1,aOW⟩:=xE h1;obtain⟨e2,aUO⟩:=xE h2;have q1:=tY aOW h1 h3;have q2:=tY aUO h2 h4;subst q1;subst q2;exact Bl i j _ _ aOW aUO h3 h4 h5
 ·intro i d' v h1 hv;obtain⟨d,hd⟩:=xE h1;have bGJ:=Zt i d v hd hv;have aXJ:∀(X:Nat->Prop),(∀b,X b->(Y b\/∃(j:Nat) (d':D),rs[j]?=some d'/\mA d'=true/\g j=b))->jB (fun b=>Y b\/∃(j:Nat) (d':D),rs[j]?=some d'/\mA d'=true/\g j=b) w' X w' :=
   fun X hX=>⟨bXK _,fun b _ hn=>⟨rfl,fun hx=>hn (hX b hx)⟩⟩
  have bNO:∀{x:D},mA x=false->oW (fun b=>Y b\/∃(j:Nat) (d':D),rs[j]?=some d'/\mA d'=true/\g j=b) w' x v->oW (fun b=>Y b\/∃(j:Nat) (d':D),aPY[j]?=some d'/\mA d'=true/\g j=b) w' x v :=
   fun _ hx=>hx.later (aXJ _ aWS)
  have bDE:∀{x:D},mA x=false->(match x with
   | .own e k ns=>Rm w.heap.size w' (g i) e k ns v
   |d=>oW (fun b=>Y b\/∃(j:Nat) (d':D),rs[j]?=some d'/\mA d'=true/\g j=b) w' d v)->oW (fun b=>Y b\/∃(j:Nat) (d':D),rs[j]?=some d'/\mA d'=true/\g j=b) w' x v:=by
   intro x hx hm;cases x with
   |own e k ns=>cases hx
   |s x=>exact hm
   |rows a b c=>exact hm
   |agg cs=>exact hm
   |io=>exact hm
   |back=>exact hm
  have aDT:∀{x:D},mA x=false->oW (fun b=>Y b\/∃(j:Nat) (d':D),aPY[j]?=some d'/\mA d'=true/\g j=b) w' x v->(match x with
   | .own e k ns=>Rm w.heap.size w' (g i) e k ns v
   |d=>oW (fun b=>Y b\/∃(j:Nat) (d':D),aPY[j]?=some d'/\mA d'=true/\g j=b) w' d v):=by
   intro x hx hm;cases x with
   |own e k ns=>cases hx
   |s x=>exact hm
   |rows a b c=>exact hm
   |agg cs=>exact hm
   |io=>exact hm
   |back=>exact hm
  rcases hr.at hd h1 with rfl |⟨h3,⟨e0,k,ns,rfl,rfl⟩ |⟨h4,h5⟩⟩
  ·cases aUH:mA d' with
   |true =>
    cases d' with
    |own e k ns=>exact bGJ
    |s x=>cases aUH
    |io=>cases aUH
    |back=>cases aUH
    |rows a b c=>cases aUH
    |agg cs=>cases aUH
   |false=>exact aDT aUH (bNO aUH (bDE aUH bGJ))
  ·obtain⟨arr,cap,aFV,hbg,hh,bAO,hn1b,bDI,Nd⟩:=bGJ;refine⟨_,_,aFV,bAO,fun j n hj=>⟨g i,0,rfl,?_,?_,?_⟩⟩
   ·exact(Array.getElem?_eq_some_iff.1 hh).1
   ·rintro (hy |⟨j',d',q1,q2,q3⟩)
    ·have:=hY _ hy;omega
    ·obtain⟨d2,bAY⟩:=xE q1;have:=tY bAY q1 q2;subst this;have:=Bl j' i _ _ bAY hd q2 rfl q3;subst this;rw[h1]at q1;cases q1;cases q2
   ·rw[cell_of_row w' (g i) _ arr e0 (0,0) hh];simpa using Nd j n hj
  ·exact aDT h3 (h5 _ _ _ (bNO h4 (bDE h4 bGJ)))
def orc0(r:Prop×List D):dG
 | []=>some r
 |_=>none
def orc1{α:Type}(p:oH α)(f:α->Prop×List D):dG
 | [a]=>match p.get a with
  |some x=>some (f x)
  |none=>none
 |_=>none
def orc2{α β:Type}(p:oH α)(q:oH β)(f:α->β->Prop×List D):dG
 | [a,b]=>match p.get a,q.get b with
  |some x,some y=>some (f x y)
  |_,_=>none
 |_=>none
def orc3{α β γ:Type}(p:oH α)(q:oH β)(r:oH γ)(f:α->β->γ->Prop×List D):dG
 | [a,b,c]=>match p.get a,q.get b,r.get c with
  |some x,some y,some z=>some (f x y z)
  |_,_,_=>none
 |_=>none
def orc4{α β γ δ:Type}(p:oH α)(q:oH β)(r:oH γ)(s:oH δ)(f:α->β->γ->δ->Prop×List D):dG
 | [a,b,c,d]=>match p.get a,q.get b,r.get c,s.get d with
  |some x,some y,some z,some u=>some (f x y z u)
  |_,_,_,_=>none
 |_=>none
structure qG(P:Program)(E:Env)(f:FuncId)(fn:Func)(c:Code):Prop where
 ty:qA P E.T
 calls:lZ P E
 mix:P.follows .mixedOrders=true
 fnc:P.funcs[f]?=some fn
 body:fn.body=some c
 nt:E.nt=fn.ntmps
 has:wY P f
 io:E.io=[]
theorem Hy{P:Program}{E:Env}{f:FuncId}{fn:Func}{c:Code}(ty:qA P E.T)(mix:P.follows .mixedOrders=true)(calls:lZ P E)(hf:P.funcs[f]?=some fn)(hb:fn.body=some c)(nt:E.nt=fn.ntmps)(hn:(fn.name== "runtime.NumGoroutine")=false)(io:E.io=[]:=by rfl):qG P E f fn c :=
 ⟨ty,calls,mix,hf,hb,nt,vQ hf hb hn,io⟩
structure nJ(P:Program)(E:Env)(f:FuncId)(fn:Func)(c:Code):Prop where
 ty:qA P E.T
 calls:lZ P E
 mix:P.follows .mixedOrders=true
 fnc:P.funcs[f]?=some fn
 body:fn.body=some c
 nt:E.nt=fn.ntmps
 has:wY P f
 io:E.io=[0]
 n0:E.n0=1
theorem vR{P:Program}{E:Env}{f:FuncId}{fn:Func}{c:Code}(ty:qA P E.T)(mix:P.follows .mixedOrders=true)(calls:lZ P E)(hf:P.funcs[f]?=some fn)(hb:fn.body=some c)(nt:E.nt=fn.ntmps)(hn:(fn.name== "runtime.NumGoroutine")=false)(io:E.io=[0])(n0:E.n0=1):nJ P E f fn c :=
 ⟨ty,calls,mix,hf,hb,nt,vQ hf hb hn,io,n0⟩
variable {P:Program} {E:Env} {f:FuncId} {fn:Func} {c:Code}
theorem qG.bHN(h:qG P E f fn c){r:Prop×List D}(hs:r.1->aG E fn c []=some r.2):lT P E.glob f (orc0 r):=by
 intro ds g rs hd hg;unfold orc0 at hd;split at hd
 ·cases hd;exact⟨fn_contract h.ty h.calls h.mix h.fnc h.body h.nt h.io (cCR _) (hs hg),h.has⟩
 ·cases hd
theorem qG.oS{α:Type}(h:qG P E f fn c){p:oH α}{g:α->Prop×List D}(hn:bXS 1 fn.ntmps=true)(hs:∀x,(g x).1->aG E fn c [p.put x]=some (g x).2):lT P E.glob f (orc1 p g):=by
 intro ds q rs hd hg;unfold orc1 at hd;split at hd
 ·split at hd
  ·rename_i x hx;have hd:=Option.some.inj hd;have e1:q=(g x).1:=by rw[hd]
   have e2:rs=(g x).2:=by rw[hd]
   subst e1;subst e2;exact⟨(fn_contract (ds:=[p.put x]) h.ty h.calls h.mix h.fnc h.body h.nt h.io (bZF hn) (hs x hg)).bHO (p.le hx),h.has⟩
  ·cases hd
 ·cases hd
theorem qG.jR{α β:Type}(h:qG P E f fn c){p:oH α}{p':oH β}{g:α->β->Prop×List D}(hn:bXS 2 fn.ntmps=true)(hs:∀x y,(g x y).1->aG E fn c [p.put x,p'.put y]=some (g x y).2):lT P E.glob f (orc2 p p' g):=by
 intro ds q rs hd hg;unfold orc2 at hd;split at hd
 ·split at hd
  ·rename_i x y hx hy;have hd:=Option.some.inj hd;have e1:q=(g x y).1:=by rw[hd]
   have e2:rs=(g x y).2:=by rw[hd]
   subst e1;subst e2;exact⟨(fn_contract (ds:=[p.put x,p'.put y]) h.ty h.calls h.mix h.fnc h.body h.nt h.io (bZF hn) (hs x y hg)).bFP (p.le hx) (p'.le hy),h.has⟩
  ·cases hd
 ·cases hd
theorem qG.Cq{α β γ:Type}(h:qG P E f fn c){p:oH α}{p':oH β}{Sk:oH γ}{g:α->β->γ->Prop×List D}(hn:bXS 3 fn.ntmps=true)(hs:∀x y z,(g x y z).1->aG E fn c [p.put x,p'.put y,Sk.put z]=some (g x y z).2):lT P E.glob f (orc3 p p' Sk g):=by
 intro ds q rs hd hg;unfold orc3 at hd;split at hd
 ·split at hd
  ·rename_i x y z hx hy hz;have hd:=Option.some.inj hd;have e1:q=(g x y z).1:=by rw[hd]
   have e2:rs=(g x y z).2:=by rw[hd]
   subst e1;subst e2;exact⟨(fn_contract (ds:=[p.put x,p'.put y,Sk.put z]) h.ty h.calls h.mix h.fnc h.body h.nt h.io (bZF hn) (hs x y z hg)).bMV (p.le hx) (p'.le hy) (Sk.le hz),h.has⟩
  ·cases hd
 ·cases hd
theorem qG.aQH{α β γ δ:Type}(h:qG P E f fn c){p:oH α}{p':oH β}{Sk:oH γ}{p3:oH δ}{g:α->β->γ->δ->Prop×List D}(hn:bXS 4 fn.ntmps=true)(hs:∀x y z u,(g x y z u).1->aG E fn c [p.put x,p'.put y,Sk.put z,p3.put u]=some (g x y z u).2):lT P E.glob f (orc4 p p' Sk p3 g):=by
 intro ds q rs hd hg;unfold orc4 at hd;split at hd
 ·split at hd
  ·rename_i x y z u hx hy hz hu;have hd:=Option.some.inj hd;have e1:q=(g x y z u).1:=by rw[hd]
   have e2:rs=(g x y z u).2:=by rw[hd]
   subst e1;subst e2;exact⟨(fn_contract (ds:=[p.put x,p'.put y,Sk.put z,p3.put u]) h.ty h.calls h.mix h.fnc h.body h.nt h.io (bZF hn) (hs x y z u hg)).bQY (p.le hx) (p'.le hy) (Sk.le hz) (p3.le hu),h.has⟩
  ·cases hd
 ·cases hd
theorem nJ.bHL(h:nJ P E f fn c){e:TypeId}{k:IntKind}{x:List Int×Nat×Nat}{ds ds' rs:List D}{oN:List Int}(hn:1+ds'.length<=fn.ntmps)
  (hs:aG E fn c ((Ej e k).put x :: ds')=some (rs ++ [.io e k oN 0 0])) (hl:oN.length=x.1.length) (bAX:ds.length=ds'.length)
  (hd:∀(i:Nat) (y y':D),ds[i]?=some y->ds'[i]?=some y'->Gf y=false/\Gf y'=false/\Fk y y'):qL P E.glob f [0] ((Ej e k).put x :: ds) rs [.io e k oN 0 0]:=by
 have Cw:∀(i:Nat) (d:D),ds'[i]?=some d->Gf d=false:=fun i d hi=>by
  obtain⟨y,hy⟩:=cK (l:=ds) (i:=i) (by have:=bJ hi;omega);exact(hd i y d hy hi).2.1
 have:=Pr h.ty h.calls h.mix h.fnc h.body h.nt (fun i hi=>by rw[h.io]at hi;rw[h.n0];simp at hi;omega) (ds:=(Ej e k).put x :: ds') (by simp;omega) hs (by rw[h.io];rfl)
  (by
   rw[h.io];intro j i hj
   match j with
   |0 =>
    simp at hj;subst hj;exact⟨e,k,x.1,x.2.1,x.2.2,e,k,oN,rfl,rfl,hl⟩
   |j+1=>simp at hj)
  (by
   rw[h.io];intro i d hi Nb
   match i with
   |0=>simp
   |i+1=>rw[Cw i d (by simpa using hi)]at Nb;cases Nb)
 rw[h.io]at this;exact this.bQZ bAX hd
theorem nJ.oS(h:nJ P E f fn c){e:TypeId}{k:IntKind}{g:List Int×Nat×Nat->Prop×List D}(hn:bXS 1 fn.ntmps=true)(hs:∀x,(g x).1->aG E fn c [(Ej e k).put x]=some (g x).2/\∃rs oN,(g x).2=rs ++ [.io e k oN 0 0]/\oN.length=x.1.length):rW P E.glob f (orc1 (Ej e k) g):=by
 intro ds q rs hd hg;unfold orc1 at hd;split at hd
 ·rename_i d1;split at hd
  ·rename_i x hx;have hd:=Option.some.inj hd;have e1:q=(g x).1:=by rw[hd]
   have e2:rs=(g x).2:=by rw[hd]
   subst e1;subst e2;obtain⟨h1,Hm,oN,h2,h3⟩:=hs x hg;rw[h2]at h1 ⊢;refine⟨⟨Hm,_,rfl,?_⟩,h.has⟩;have e3:=Tq (show dIO e k d1=some x from hx);rw[e3];exact h.bHL (x:=x) (ds':=[]) (by have:=bZF hn;simp;omega) h1 h3 rfl fun i a b ha hb=>by simp at ha
  ·cases hd
 ·cases hd
theorem nJ.jR{α:Type}(h:nJ P E f fn c){e:TypeId}{k:IntKind}{p:oH α}[hp:aGZ p]{g:List Int×Nat×Nat->α->Prop×List D}(hn:bXS 2 fn.ntmps=true)(hs:∀x y,(g x y).1->aG E fn c [(Ej e k).put x,p.put y]=some (g x y).2/\∃rs oN,(g x y).2=rs ++ [.io e k oN 0 0]/\oN.length=x.1.length):rW P E.glob f (orc2 (Ej e k) p g):=by
 intro ds q rs hd hg;unfold orc2 at hd;split at hd
 ·rename_i d1 d2;split at hd
  ·rename_i x y hx hy;have hd:=Option.some.inj hd;have e1:q=(g x y).1:=by rw[hd]
   have e2:rs=(g x y).2:=by rw[hd]
   subst e1;subst e2;obtain⟨h1,Hm,oN,h2,h3⟩:=hs x y hg;rw[h2]at h1 ⊢;refine⟨⟨Hm,_,rfl,?_⟩,h.has⟩;have e3:=Tq (show dIO e k d1=some x from hx);rw[e3];refine h.bHL (x:=x) (ds':=[p.put y]) (by have:=bZF hn;simp;omega) h1 h3 rfl fun i a b ha hb=>?_
   match i with
   |0=>simp at ha hb;subst ha;subst hb;exact⟨(hp.no hy).1,(hp.no hy).2,p.le hy⟩
   |i+1=>simp at ha
  ·cases hd
 ·cases hd
theorem nJ.Cq{α β:Type}(h:nJ P E f fn c){e:TypeId}{k:IntKind}{p:oH α}[hp:aGZ p]{p':oH β}[hp':aGZ p']{g:List Int×Nat×Nat->α->β->Prop×List D}(hn:bXS 3 fn.ntmps=true)(hs:∀x y z,(g x y z).1->aG E fn c [(Ej e k).put x,p.put y,p'.put z]=some (g x y z).2/\∃rs oN,(g x y z).2=rs ++ [.io e k oN 0 0]/\oN.length=x.1.length):rW P E.glob f (orc3 (Ej e k) p p' g):=by
 intro ds q rs hd hg;unfold orc3 at hd;split at hd
 ·rename_i d1 d2 d3;split at hd
  ·rename_i x y z hx hy hz;have hd:=Option.some.inj hd;have e1:q=(g x y z).1:=by rw[hd]
   have e2:rs=(g x y z).2:=by rw[hd]
   subst e1;subst e2;obtain⟨h1,Hm,oN,h2,h3⟩:=hs x y z hg;rw[h2]at h1 ⊢;refine⟨⟨Hm,_,rfl,?_⟩,h.has⟩;have e3:=Tq (show dIO e k d1=some x from hx);rw[e3];refine h.bHL (x:=x) (ds':=[p.put y,p'.put z]) (by have:=bZF hn;simp;omega) h1 h3 rfl fun i a b ha hb=>?_
   match i with
   |0=>simp at ha hb;subst ha;subst hb;exact⟨(hp.no hy).1,(hp.no hy).2,p.le hy⟩
   |1=>simp at ha hb;subst ha;subst hb;exact⟨(hp'.no hz).1,(hp'.no hz).2,p'.le hz⟩
   |i+2=>simp at ha
  ·cases hd
 ·cases hd
theorem qG.bFM{α:Type}(h:qG P E f fn c){p:oH α}{g:α->Prop×List D}(hn:bXS 1 fn.ntmps=true)(hs:∀x,(g x).1->∃rs,aG E fn c [p.put x]=some rs/\iV rs (g x).2):lT P E.glob f (orc1 p g):=by
 intro ds q rs hd hg;unfold orc1 at hd;split at hd
 ·split at hd
  ·rename_i x hx;have hd:=Option.some.inj hd;have e1:q=(g x).1:=by rw[hd]
   have e2:rs=(g x).2:=by rw[hd]
   subst e1;subst e2;obtain⟨Sg,he,hle⟩:=hs x hg;exact⟨((fn_contract (ds:=[p.put x]) h.ty h.calls h.mix h.fnc h.body h.nt h.io (bZF hn) he).bHO (p.le hx)).less hle,h.has⟩
  ·cases hd
 ·cases hd
theorem qG.aHY{α β:Type}(h:qG P E f fn c){p:oH α}{p':oH β}{g:α->β->Prop×List D}(hn:bXS 2 fn.ntmps=true)(hs:∀x y,(g x y).1->∃rs,aG E fn c [p.put x,p'.put y]=some rs/\iV rs (g x y).2):lT P E.glob f (orc2 p p' g):=by
 intro ds q rs hd hg;unfold orc2 at hd;split at hd
 ·split at hd
  ·rename_i x y hx hy;have hd:=Option.some.inj hd;have e1:q=(g x y).1:=by rw[hd]
   have e2:rs=(g x y).2:=by rw[hd]
   subst e1;subst e2;obtain⟨Sg,he,hle⟩:=hs x y hg;exact⟨((fn_contract (ds:=[p.put x,p'.put y]) h.ty h.calls h.mix h.fnc h.body h.nt h.io (bZF hn) he).bFP (p.le hx) (p'.le hy)).less hle,h.has⟩
  ·cases hd
 ·cases hd
theorem qG.bHD{α β γ:Type}(h:qG P E f fn c){p:oH α}{p':oH β}{Sk:oH γ}{g:α->β->γ->Prop×List D}(hn:bXS 3 fn.ntmps=true)(hs:∀x y z,(g x y z).1->∃rs,aG E fn c [p.put x,p'.put y,Sk.put z]=some rs/\iV rs (g x y z).2):lT P E.glob f (orc3 p p' Sk g):=by
 intro ds q rs hd hg;unfold orc3 at hd;split at hd
 ·split at hd
  ·rename_i x y z hx hy hz;have hd:=Option.some.inj hd;have e1:q=(g x y z).1:=by rw[hd]
   have e2:rs=(g x y z).2:=by rw[hd]
   subst e1;subst e2;obtain⟨Sg,he,hle⟩:=hs x y z hg;exact⟨((fn_contract (ds:=[p.put x,p'.put y,Sk.put z]) h.ty h.calls h.mix h.fnc h.body h.nt h.io (bZF hn) he).bMV (p.le hx) (p'.le hy) (Sk.le hz)).less hle,h.has⟩
  ·cases hd
 ·cases hd
def aED(f:FuncId)(g:List Value->Option (Prop×List Value))(r:FuncId->List Value->Option (Prop×List Value)):FuncId->List Value->Option (Prop×List Value):=fun f' vs=>bif bXI f' f then g vs else r f' vs
def aEC:FuncId->List Value->Option (Prop×List Value):=fun _ _=>none
theorem aAD:aFB P aEC:=fun _ _ _ _ h=>by cases h
structure aVB(P:Program)(f:FuncId)(e:Array Value->Sem Value):Prop where
 run:∀(args:Array Value) (w:World),(callFunc f args).run P w=((e args).run P w).andThen fun v w'=>.ok (.value v) w'
theorem Xe{f:FuncId}{g:List Value->Option (Prop×List Value)}{r:FuncId->List Value->Option (Prop×List Value)}{e:Array Value->Sem Value}(hf:aVB P f e)
  (hg:∀vs q rs,g vs=some (q,rs)->q->(∀v∈rs,v.oneCell'=true)/\∀w,(e vs.toArray).run P w=.ok (resV rs) w) (hr:aFB P r):aFB P (aED f g r):=by
 intro f' vs q rs h hq;unfold aED at h;cases hb:bXI f' f with
 |true =>
  rw[hb]at h;have:=bXT hb;subst this;obtain⟨h1,h2⟩:=hg vs q rs h hq;exact⟨h1,fun w=>by rw[hf.run,h2];rfl⟩
 |false=>rw[hb]at h;exact hr f' vs q rs h hq
def gAdd:List Value->Option (Prop×List Value)
 | [.int .u64 x,.int .u64 y,.int .u64 c]=>some ((0<=x/\0<=y/\0<=c/\c<=1),[.int .u64 ((x+y+c)%18446744073709551616),.int .u64 ((x+y+c)/18446744073709551616)])
 |_=>none
theorem aRO(vs:List Value)(q:Prop)(rs:List Value)(h:gAdd vs=some (q,rs))(hq:q):(∀v∈rs,v.oneCell'=true)/\∀w,(add64Entry vs.toArray).run P w=.ok (resV rs) w:=by
 unfold gAdd at h;split at h
 ·cases h;obtain⟨h1,h2,h3,h4⟩:=hq;exact⟨by simp[Value.oneCell'],fun w=>run_add64 _ _ _ h1 h2 h3 h4 w⟩
 ·cases h
def yV:Array Value->Sem Value:=fun args=>do
 let (x,y,b) <-Extern.MathBitsCarry.three "Sub64" args
 pure (Extern.MathBitsCarry.pair ((x+Extern.MathBitsCarry.m64-y-b)%Extern.MathBitsCarry.m64) (if x<y+b then 1 else 0))
theorem aFL(x y c:Int)(hx:0<=x)(hy:0<=y)(bIH:y<18446744073709551616)(bGL:0<=c)(hc:c<=1)(w:World) :
  (yV #[.int .u64 x,.int .u64 y,.int .u64 c]).run P w =
   .ok (.tuple #[.int .u64 ((x-y-c)%18446744073709551616),.int .u64 (if x<y+c then 1 else 0)]) w:=by
 have key:∀k:Nat,k<=1->(yV #[.int .u64 x,.int .u64 y,.int .u64 (k:Int)]).run P w =
   .ok (Extern.MathBitsCarry.pair ((x.toNat+Extern.MathBitsCarry.m64-y.toNat-k)%Extern.MathBitsCarry.m64) (if x.toNat<y.toNat+k then 1 else 0)) w:=by
  intro k hk;have:k=0\/k=1:=by omega
  rcases this with rfl |rfl <;> rfl
 obtain⟨k,rfl⟩:=cCM bGL;rw[key k (by omega)];obtain⟨X,rfl⟩:=cCM hx;obtain⟨Y,rfl⟩:=cCM hy;simp only[Extern.MathBitsCarry.pair,Extern.MathBitsCarry.m64,cBF];have e1:Int.ofNat ((X+2^64-Y-k)%2^64)=((X:Int)-Y-k)%18446744073709551616:=by
  show((((X+2^64-Y-k)%2^64:Nat)):Int)=_;omega
 have e2:Int.ofNat (if X<Y+k then 1 else 0)=if(X:Int)<Y+k then 1 else 0:=by
  show(((if X<Y+k then 1 else 0:Nat)):Int)=_;split <;> split <;> omega
 rw[e1,e2]
def aYJ:List Value->Option (Prop×List Value)
 | [.int .u64 x,.int .u64 y,.int .u64 c]=>some ((0<=x/\0<=y/\y<18446744073709551616/\0<=c/\c<=1),[.int .u64 ((x-y-c)%18446744073709551616),.int .u64 (if x<y+c then 1 else 0)])
 |_=>none
theorem aRN(vs:List Value)(q:Prop)(rs:List Value)(h:aYJ vs=some (q,rs))(hq:q):(∀v∈rs,v.oneCell'=true)/\∀w,(yV vs.toArray).run P w=.ok (resV rs) w:=by
 unfold aYJ at h;split at h
 ·cases h;obtain⟨h1,h2,h3,h4,h5⟩:=hq;exact⟨by simp[Value.oneCell'],fun w=>aFL _ _ _ h1 h2 h3 h4 h5 w⟩
 ·cases h
theorem Xf{f:FuncId}{fn:Func}{e:Array Value->Sem Value}(hf:P.funcs[f]?=some fn)(bDH:(fn.name== "runtime.NumGoroutine")=false)
  (hb:fn.body.isNone=true) (hn:Extern.findNext fn=none) (he:Extern.find fn=some e):aVB P f e:=⟨fun args w=>run_callFunc_extern hf bDH hb hn he args w⟩
end AI
namespace M
open Go
def val:List Int->Nat
 | []=>0
 |d :: r=>d.toNat+4294967296*val r
def dg(n:Nat):List Int:=if h:n=0 then []else((n%4294967296:Nat):Int) :: dg (n/4294967296)
termination_by n
decreasing_by omega
def bN(a:List Int):Prop:=∀d∈a,0<=d/\d<4294967296
def cI(a:List Int):Prop:=a=dg (val a)
theorem cG:dg 0=[]:=by rw[dg];rfl
theorem oV{n:Nat}(h:n≠0):dg n=((n%4294967296:Nat):Int) :: dg (n/4294967296):=by rw[dg,dif_neg h]
theorem bD(n:Nat):val (dg n)=n:=by
 induction n using cCZ with
 |_ n ih =>
  by_cases h:n=0
  ·subst h;rw[cG];rfl
  ·rw[oV h,val,ih _ (by omega)];have:=cCS n 4294967296;omega
theorem lB:bN []:=fun _ h=>by cases h
theorem jY{d:Int}{r:List Int}:bN (d :: r)↔(0<=d/\d<4294967296)/\bN r:=by
 unfold bN;simp
theorem lS{a b:List Int}:bN (a ++ b)↔bN a/\bN b:=by
 unfold bN;simp only[bYK];exact⟨fun h=>⟨fun d hd=>h d (.inl hd),fun d hd=>h d (.inr hd)⟩,fun h d hd=>hd.elim (h.1 d) (h.2 d)⟩
theorem bN.take{a:List Int}(h:bN a)(n:Nat):bN (a.take n):=fun d hd=>h d (cFA hd)
theorem bN.drop{a:List Int}(h:bN a)(n:Nat):bN (a.drop n):=fun d hd=>h d (cFB hd)
theorem gM(n:Nat):bN (bZK n 0):=fun d hd=>by rw[(List.mem_replicate.1 hd).2];omega
theorem bZ(n:Nat):bN (dg n):=by
 induction n using cCZ with
 |_ n ih =>
  by_cases h:n=0
  ·subst h;rw[cG];exact lB
  ·rw[oV h];exact jY.2 ⟨by omega,ih _ (by omega)⟩
theorem bA(n:Nat):cI (dg n):=by unfold cI;rw[bD]
theorem cI.gT{a:List Int}(h:cI a):bN a:=by rw[h];exact bZ _
theorem iE:∀(a b:List Int),val (a ++ b)=val a+4294967296^a.length*val b
 | [],b=>by simp[val]
 |d :: a,b=>by
  simp only[bYS,val,iE a b,cAS,cCK];rw[cCO,<-cCN,cCI 4294967296 (4294967296^a.length)];omega
theorem cR:∀{a:List Int},bN a->val a<4294967296^a.length
 | [],_=>by simp[val]
 |d :: a,h=>by
  obtain⟨h1,h2⟩:=jY.1 h;have:=cR h2;simp only[val,cAS,cCK];have:d.toNat<4294967296:=by omega
  have:4294967296*val a+4294967296<=4294967296^a.length*4294967296:=by
   rw[cCI (4294967296^a.length)];have:4294967296*(val a+1)<=4294967296*4294967296^a.length:=bZW _ (by omega);omega
  omega
theorem gW:∀n,val (bZK n 0)=0
 |0=>rfl
 |n+1=>by simp[cCV,val,gW n]
theorem Er:∀{a:List Int},bN a->∃k,a=dg (val a) ++ bZK k 0
 | [],_=>⟨0,by simp[val,cG]⟩
 |d :: a,h=>by
  obtain⟨h1,h2⟩:=jY.1 h;obtain⟨k,hk⟩:=Er h2
  by_cases hz:d.toNat+4294967296*val a=0
  ·have hd:d=0:=by omega
   have hv:val a=0:=by omega
   rw[hv,cG]at hk;refine⟨k+1,?_⟩;simp only[val];rw[hz,cG,hd,hk];simp[cCV]
  ·refine⟨k,?_⟩;simp only[val];rw[oV hz];have e1:(d.toNat+4294967296*val a)%4294967296=d.toNat:=by omega
   have e2:(d.toNat+4294967296*val a)/4294967296=val a:=by omega
   rw[e1,e2,bYS,<-hk];congr 1;omega
theorem Ga:cI []:=by unfold cI;simp[val,cG]
theorem Bd{a:List Int}(h:bN a)(ht:∀d,a.getLast?=some d->d≠0):cI a:=by
 obtain⟨k,hk⟩:=Er h;cases k with
 |zero=>unfold cI;simpa using hk
 |succ k =>
  exfalso;refine ht 0 ?_ rfl;rw[hk,cFC,<-bYY];simp
theorem cI.top{a:List Int}(h:cI a){d:Int}(hd:a.getLast?=some d):d≠0:=by
 have key:∀n,∀d,(dg n).getLast?=some d->d≠0:=by
  intro n
  induction n using cCZ with
  |_ n ih =>
   intro d hd
   by_cases hn:n=0
   ·subst hn;rw[cG]at hd;cases hd
   ·rw[oV hn]at hd
    by_cases hq:n/4294967296=0
    ·rw[hq,cG]at hd;simp at hd;omega
    ·refine ih (n/4294967296) (by omega) d ?_;rw[oV hq]at hd ⊢;rwa [cDQ]at hd
 rw[h]at hd;exact key _ d hd
theorem Mj{d:Int}{a:List Int}(h:cI (d :: a)):cI a:=by
 have hd:=h.gT;refine Bd (jY.1 hd).2 fun e he=>h.top ?_
 cases a with
 |nil=>cases he
 |cons x r=>rwa [cDQ]
theorem cU {n k : Nat} (h : n < 4294967296 ^ k) : (dg n).length ≤ k := by
  induction k generalizing n with
  | zero => have : n = 0 := by simpa using h
            subst this; rw [cG]; exact bXK _
  | succ k ih =>
    by_cases hn : n = 0
    · subst hn; rw [cG]; simp
    · rw [oV hn, cAS]
      have := ih (n := n / 4294967296) (by rw [cCK] at h; exact cDC (by rw [cCI]; exact h))
      omega
theorem oK{n:Nat}:n<4294967296^(dg n).length:=by
 have:=cR (bZ n);rwa [bD]at this
theorem jX{n m:Nat}(h:n<=m):(dg n).length<=(dg m).length:=cU (cEC h oK)
theorem lW{a:List Int}(h:bN a):(dg (val a)).length<=a.length:=cU (cR h)
theorem Cx{n k:Nat}(h:k<(dg n).length):4294967296^k<=n:=by
 rcases bXZ n (4294967296^k)with h1 |h1
 ·have:=cU h1;omega
 ·exact h1
theorem mQ{a:List Int}{n:Nat}(h:n<a.length):val (a.take (n+1))=val (a.take n)+4294967296^n*(a.getD n 0).toNat:=by
 rw[cDR h,iE,bZC,cDS (by omega)];simp[val,cCQ,h]
theorem eZ(a:List Int){n:Nat}(h:n<=a.length):val a=val (a.take n)+4294967296^n*val (a.drop n):=by
 have e:=iE (a.take n) (a.drop n);rw[cFD,bZC,cDS h]at e;exact e
theorem Nj{a:List Int}{n:Nat}(h:n<a.length):a.getD n 0∈a:=by
 rw[cCQ,bXY h];simp
theorem bN.get{a:List Int}(h:bN a)(n:Nat):0<=a.getD n 0/\a.getD n 0<4294967296:=by
 rcases bXZ n a.length with hn |hn
 ·exact h _ (Nj hn)
 ·rw[cCQ,bYZ hn];simp
theorem getLast_take{a:List Int}{n:Nat}(h:n<a.length):(a.take (n+1)).getLast?=some (a.getD n 0):=by
 rw[cDR h,cFE];simp[cCQ,h]
theorem aMR{xs:List Int}{n:Nat}(h:n<=xs.length):cDG n (cDH 0 (cDG n xs)) ++ cDH (min (cDH 0 (cDG n xs)).length n) (bZK n 0)=xs.take n:=by
 have e:(cDH 0 (cDG n xs)).length=n:=by simp;omega
 rw[e,Nat.min_self,cDT,List.take_take,Nat.min_self];simp
theorem kM{w:Int}(h:0<=w)(h':w<18446744073709551616):AI.fU .and .u64 w 4294967295=w%4294967296:=by
 obtain⟨n,rfl⟩:=cCM h;rw[AI.tG];unfold AI.bitsI0;simp only;have e:(BitVec.ofInt u64.bits (n:Int) &&& BitVec.ofInt u64.bits 4294967295).toNat=n%4294967296:=by
  show(BitVec.ofInt 64 (n:Int) &&& BitVec.ofInt 64 4294967295).toNat=_;rw[BitVec.toNat_and];have e1:(BitVec.ofInt 64 (n:Int)).toNat=n:=by simp;omega
  have e2:(BitVec.ofInt 64 4294967295).toNat=2^32-1:=by decide
  rw[e1,e2,Nat.and_two_pow_sub_one_eq_mod]
 rw[e,wrap_u64];omega
section
variable {R:Type} {x y:Option R}
theorem aR{p:Prop}[Decidable p](h:p:=by omega):AI.aD (decide p) x y=x:=by simp only[AI.aD,decide_eq_true h,cond_true]
theorem aN{p:Prop}[Decidable p](h:¬p:=by omega):AI.aD (decide p) x y=y:=by simp only[AI.aD,decide_eq_false h,cond_false]
theorem cL{a b:Int}(h:a=b:=by omega):AI.aD (a==b) x y=x:=by subst h;simp[AI.aD]
theorem cO{a b:Int}(h:a≠b:=by omega):AI.aD (a==b) x y=y:=by rw[beq_eq_false_iff_ne.2 h];rfl
theorem nD{a b:Int}(h:a≠b:=by omega):AI.aD (a !=b) x y=x:=by rw[bne_iff_ne.2 h];rfl
theorem gG{a b:Int}(h:a=b:=by omega):AI.aD (a !=b) x y=y:=by subst h;simp[AI.aD]
theorem bT:AI.aD true x y=x:=rfl
theorem bF:AI.aD false x y=y:=rfl
theorem Nz{b:Bool}(h:b=true):AI.aD b x y=x:=by rw[h];rfl
theorem Ii{b:Bool}(h:b=false):AI.aD b x y=y:=by rw[h];rfl
theorem gP{g:Prop}(h:g:=by omega):AI.aO g x=x:=AI.aDY h
end
theorem aFD{n:Int}(h:0<=n/\n<18446744073709551616):u64.wrap n=n:=wrap_u64 h.1 h.2
theorem oJ{n:Int}(h:0<=n/\n<4294967296):u32.wrap n=n:=by rw[wrap_u32];omega
def iS(a b:Nat):Int:=if a<b then -1 else if b<a then 1 else 0
theorem getD_none{a:List Int}{n:Nat}(h:a.length<=n):a.getD n 0=0:=by
 rw[cCQ,bYZ h];rfl
theorem cA{a:List Int}{n:Nat}(h:a.length<=n):val (a.take n)=val a:=by rw[cFG h]
theorem bR{a:List Int}(n:Nat):val (a.take (n+1))=val (a.take n)+4294967296^n*(a.getD n 0).toNat:=by
 rcases bXZ n a.length with h |h
 ·exact mQ h
 ·rw[cA (by omega),cA h,getD_none h];simp
theorem fR{a:List Int}(h:bN a)(n:Nat):val (a.take n)<4294967296^n:=by
 have:=cR (h.take n);exact bYH this (cAI (by omega) (by rw[bZC];omega))
theorem kR{a:List Int}{d:Int}:val (a ++ [d])=val a+4294967296^a.length*d.toNat:=by
 rw[iE];simp[val]
theorem kU{a:List Int}{d:Int}(h:bN a)(hd:0<=d/\d<4294967296):bN (a ++ [d]):=by
 rw[lS,jY];exact⟨h,hd,lB⟩
theorem So{a:List Int}(h:cI a):dg (val a)=a:=h.symm
theorem nV{a b:List Int}(ha:bN a)(hb:cI b)(h:a.length<b.length):val a<val b:=by
 have h1:=cR ha;have h2:4294967296^a.length<=val b:=Cx (by rw[<-hb];exact h);omega
theorem cX{a:List Int}(ha:cI a):a.length=0↔val a=0:=by
 constructor
 ·intro h;have:a=[]:=List.length_eq_zero_iff.1 h;subst this;rfl
 ·intro h;rw[ha,h,cG];rfl
theorem fT{n:Nat}:(dg n).length=0↔n=0:=by rw[cX (bA n),bD]
theorem kI{a:List Int}(h:bN a){n:Nat}{d:Int}(hd:0<=d/\d<4294967296):bN (a.set n d):=by
 intro x hx;rcases cFH hx with h1 |h1
 ·exact h x h1
 ·subst h1;exact hd
theorem nP{a:List Int}{n:Nat}(h:n<a.length)(d:Int):val ((a.set n d).drop n)=d.toNat+4294967296*val (a.drop (n+1)):=by
 have e:(a.set n d).drop n=d :: a.drop (n+1):=by
  rw[cDU (by simpa using h)];simp[cFI]
 rw[e];rfl
theorem gB{a:List Int}(n:Nat):val (a.drop n)=(a.getD n 0).toNat+4294967296*val (a.drop (n+1)):=by
 rcases bXZ n a.length with h |h
 ·rw[cDU h];simp[val,cCQ,h]
 ·rw[cDD h,cDD (by omega),getD_none h];rfl
theorem aMH{l B n d r w:Nat}(hw:0<w):((l*B+d)*n+r)/w=(((l*B+d)%w)*n+r)/w+n*((l*B+d)/w):=by
 have h:=cCS (l*B+d) w;have e:(l*B+d)*n+r=((l*B+d)%w*n+r)+w*(n*((l*B+d)/w)):=by
  generalize l*B+d=t at *;generalize t/w=q at *;generalize t%w=m at *;subst h;rw[Nat.add_mul];have:w*q*n=w*(n*q):=by rw[cCN,cCI q n]
  omega
 rw[e,cDI _ _ hw]
theorem aKF{l B n d r w:Nat}:((l*B+d)*n+r)%w=(((l*B+d)%w)*n+r)%w:=by
 conv=>rhs;rw[cDV,cDW,Nat.mod_mod,<-cDW,<-cDV]
theorem Xr(u v k:Nat):iS (u+k) (v+k)=iS u v:=by
 unfold iS;simp only[Nat.add_lt_add_iff_right]
theorem Vj{a b:Int}(ha:0<=a)(hb:0<=b):(a/b).toNat=a.toNat/b.toNat:=by
 obtain⟨x,rfl⟩:=cCM ha;obtain⟨y,rfl⟩:=cCM hb;rw[<-cDA,cBF,cBF,cBF]
theorem Vi{a b:Int}(ha:0<=a)(hb:0<=b):(a%b).toNat=a.toNat%b.toNat:=by
 obtain⟨x,rfl⟩:=cCM ha;obtain⟨y,rfl⟩:=cCM hb;rw[<-cED,cBF,cBF,cBF]
end M
namespace M
open Go
def bl(n:Nat):Nat:=if n=0 then 0 else n.log2+1
theorem wV:bl 0=0:=rfl
theorem wP(n:Nat):n<2^bl n:=by
 unfold bl;split
 ·omega
 ·exact Nat.lt_log2_self
theorem Rg{n:Nat}(h:n≠0):2^(bl n-1)<=n:=by
 unfold bl;rw[if_neg h];exact Nat.log2_self_le h
theorem dX{n k:Nat}:bl n<=k↔n<2^k:=by
 constructor
 ·intro h;exact bYH (wP n) (cAI (by omega) h)
 ·intro h
  by_cases hn:n=0
  ·subst hn;exact cCR _
  ·rcases bXZ k (bl n)with h1 |h1
   ·exfalso;have h2:=Rg hn;have h3:2^k<=2^(bl n-1):=fM;omega
   ·exact h1
theorem sO{n k:Nat}:k<bl n↔2^k<=n:=by
 have:=@dX n k;omega
theorem oO{n:Nat}(h:n≠0):0<bl n:=by rw[sO];simp;omega
theorem bEY{n k:Nat}(h:2^k<=n)(h':n<2^(k+1)):bl n=k+1:=by
 have:=dX.2 h';have:=sO.2 h;omega
theorem Bq{r k t:Nat}(hr:r<2^k)(ht:t≠0):bl (r+2^k*t)=k+bl t:=by
 have hp:=oO ht;have e:k+bl t=(k+(bl t-1))+1:=by omega
 rw[e];apply bEY
 ·rw[cCH];have:=bZW (2^k) (Rg ht);omega
 ·have h1:=wP t;have h2:2^k*(t+1)<=2^k*2^bl t:=bZW _ h1;rw[<-cCH]at h2;rw[cCO]at h2;have e2:k+(bl t-1)+1=k+bl t:=by omega
  rw[e2];omega
theorem Ny{k t:Nat}(ht:t≠0):bl (2^k*t)=k+bl t:=by
 have:=Bq (r:=0) (k:=k) (t:=t) (cB) ht;rwa [bXL]at this
theorem aSI{n:Nat}(h:n≠0):bl n=bl (n/2)+1:=by
 by_cases h2:n/2=0
 ·rw[h2];have:n=1:=by omega
  subst this;rfl
 ·have:=Bq (r:=n%2) (k:=1) (t:=n/2) (by simp;omega) h2;have e:n%2+2^1*(n/2)=n:=by omega
  rw[e]at this;omega
theorem fW{a b:Nat}(h:a<=b):bl a<=bl b:=dX.2 (cEC h (wP b))
theorem Iy(k:Nat):4294967296^k=2^(32*k):=by rw[cDJ]
theorem mL{n k:Nat}(h:n<2^k):(dg n).length<=k/32+1:=by
 apply cU;rw[Iy];exact bYH h (fM)
theorem Lt{k:Int}(h:0<=k)(h':k<32):u32.wrap (1*((2^(min k.toNat 32):Nat):Int))=((2^k.toNat:Nat):Int):=by
 have e:min k.toNat 32=k.toNat:=by omega
 rw[e,Int.one_mul,wrap_u32];have:2^k.toNat<2^32:=cEE (by omega) (by omega);generalize 2^k.toNat=p at *;omega
theorem aIU{n:Int}(h:0<=n):n.tdiv 32=n/32:=cEF h
theorem aIO{n:Int}(h:0<=n):n.tmod 32=n%32:=cEG h
theorem xS(n:Nat):2^n=4294967296^(n/32)*2^(n%32):=by
 rw[Iy,<-cCH];congr 1;omega
theorem aGN(v n:Nat):v/4294967296^(n/32)/2^(n%32)=v/2^n:=by
 rw[cCT,<-xS]
theorem iL{a:List Int}(h:bN a)(n:Nat):val (a.drop n)=val a/4294967296^n:=by
 rcases Nat.le_or_ge n a.length with hn |hn
 ·rw[eZ a hn,cDI _ _ (cB),cCW (fR h n),bXL]
 ·rw[cDD hn,cCW]
  ·rfl
  ·exact bYH (cR h) (cAI (by omega) hn)
end M
namespace M6
open Go
def val:List Int->Nat
 | []=>0
 |d :: r=>d.toNat+18446744073709551616*val r
def dg(n:Nat):List Int:=if h:n=0 then []else((n%18446744073709551616:Nat):Int) :: dg (n/18446744073709551616)
termination_by n
decreasing_by omega
def bN(a:List Int):Prop:=∀d∈a,0<=d/\d<18446744073709551616
def cI(a:List Int):Prop:=a=dg (val a)
theorem cG:dg 0=[]:=by rw[dg];rfl
theorem oV{n:Nat}(h:n≠0):dg n=((n%18446744073709551616:Nat):Int) :: dg (n/18446744073709551616):=by rw[dg,dif_neg h]
theorem bD(n:Nat):val (dg n)=n:=by
 induction n using cCZ with
 |_ n ih =>
  by_cases h:n=0
  ·subst h;rw[cG];rfl
  ·rw[oV h,val,ih _ (by omega)];have:=cCS n 18446744073709551616;omega
theorem lB:bN []:=fun _ h=>by cases h
theorem jY{d:Int}{r:List Int}:bN (d :: r)↔(0<=d/\d<18446744073709551616)/\bN r:=by
 unfold bN;simp
theorem lS{a b:List Int}:bN (a ++ b)↔bN a/\bN b:=by
 unfold bN;simp only[bYK];exact⟨fun h=>⟨fun d hd=>h d (.inl hd),fun d hd=>h d (.inr hd)⟩,fun h d hd=>hd.elim (h.1 d) (h.2 d)⟩
theorem bN.take{a:List Int}(h:bN a)(n:Nat):bN (a.take n):=fun d hd=>h d (cFA hd)
theorem bN.drop{a:List Int}(h:bN a)(n:Nat):bN (a.drop n):=fun d hd=>h d (cFB hd)
theorem gM(n:Nat):bN (bZK n 0):=fun d hd=>by rw[(List.mem_replicate.1 hd).2];omega
theorem bZ(n:Nat):bN (dg n):=by
 induction n using cCZ with
 |_ n ih =>
  by_cases h:n=0
  ·subst h;rw[cG];exact lB
  ·rw[oV h];exact jY.2 ⟨by omega,ih _ (by omega)⟩
theorem bA(n:Nat):cI (dg n):=by unfold cI;rw[bD]
theorem cI.gT{a:List Int}(h:cI a):bN a:=by rw[h];exact bZ _
theorem iE:∀(a b:List Int),val (a ++ b)=val a+18446744073709551616^a.length*val b
 | [],b=>by simp[val]
 |d :: a,b=>by
  simp only[bYS,val,iE a b,cAS,cCK];rw[cCO,<-cCN,cCI 18446744073709551616 (18446744073709551616^a.length)];omega
theorem cR:∀{a:List Int},bN a->val a<18446744073709551616^a.length
 | [],_=>by simp[val]
 |d :: a,h=>by
  obtain⟨h1,h2⟩:=jY.1 h;have:=cR h2;simp only[val,cAS,cCK];have:d.toNat<18446744073709551616:=by omega
  have:18446744073709551616*val a+18446744073709551616<=18446744073709551616^a.length*18446744073709551616:=by
   rw[cCI (18446744073709551616^a.length)];have:18446744073709551616*(val a+1)<=18446744073709551616*18446744073709551616^a.length:=bZW _ (by omega);omega
  omega
theorem gW:∀n,val (bZK n 0)=0
 |0=>rfl
 |n+1=>by simp[cCV,val,gW n]
theorem Er:∀{a:List Int},bN a->∃k,a=dg (val a) ++ bZK k 0
 | [],_=>⟨0,by simp[val,cG]⟩
 |d :: a,h=>by
  obtain⟨h1,h2⟩:=jY.1 h;obtain⟨k,hk⟩:=Er h2
  by_cases hz:d.toNat+18446744073709551616*val a=0
  ·have hd:d=0:=by omega
   have hv:val a=0:=by omega
   rw[hv,cG]at hk;refine⟨k+1,?_⟩;simp only[val];rw[hz,cG,hd,hk];simp[cCV]
  ·refine⟨k,?_⟩;simp only[val];rw[oV hz];have e1:(d.toNat+18446744073709551616*val a)%18446744073709551616=d.toNat:=by omega
   have e2:(d.toNat+18446744073709551616*val a)/18446744073709551616=val a:=by omega
   rw[e1,e2,bYS,<-hk];congr 1;omega
theorem Ga:cI []:=by unfold cI;simp[val,cG]
theorem Bd{a:List Int}(h:bN a)(ht:∀d,a.getLast?=some d->d≠0):cI a:=by
 obtain⟨k,hk⟩:=Er h;cases k with
 |zero=>unfold cI;simpa using hk
 |succ k =>
  exfalso;refine ht 0 ?_ rfl;rw[hk,cFC,<-bYY];simp
theorem cI.top{a:List Int}(h:cI a){d:Int}(hd:a.getLast?=some d):d≠0:=by
 have key:∀n,∀d,(dg n).getLast?=some d->d≠0:=by
  intro n
  induction n using cCZ with
  |_ n ih =>
   intro d hd
   by_cases hn:n=0
   ·subst hn;rw[cG]at hd;cases hd
   ·rw[oV hn]at hd
    by_cases hq:n/18446744073709551616=0
    ·rw[hq,cG]at hd;simp at hd;omega
    ·refine ih (n/18446744073709551616) (by omega) d ?_;rw[oV hq]at hd ⊢;rwa [cDQ]at hd
 rw[h]at hd;exact key _ d hd
theorem Mj{d:Int}{a:List Int}(h:cI (d :: a)):cI a:=by
 have hd:=h.gT;refine Bd (jY.1 hd).2 fun e he=>h.top ?_
 cases a with
 |nil=>cases he
 |cons x r=>rwa [cDQ]
theorem cU {n k : Nat} (h : n < 18446744073709551616 ^ k) : (dg n).length ≤ k := by
  induction k generalizing n with
  | zero => have : n = 0 := by simpa using h
            subst this; rw [cG]; exact bXK _
  | succ k ih =>
    by_cases hn : n = 0
    · subst hn; rw [cG]; simp
    · rw [oV hn, cAS]
      have := ih (n := n / 18446744073709551616) (by rw [cCK] at h; exact cDC (by rw [cCI]; exact h))
      omega
theorem oK{n:Nat}:n<18446744073709551616^(dg n).length:=by
 have:=cR (bZ n);rwa [bD]at this
theorem jX{n m:Nat}(h:n<=m):(dg n).length<=(dg m).length:=cU (cEC h oK)
theorem lW{a:List Int}(h:bN a):(dg (val a)).length<=a.length:=cU (cR h)
theorem Cx{n k:Nat}(h:k<(dg n).length):18446744073709551616^k<=n:=by
 rcases bXZ n (18446744073709551616^k)with h1 |h1
 ·have:=cU h1;omega
 ·exact h1
theorem mQ{a:List Int}{n:Nat}(h:n<a.length):val (a.take (n+1))=val (a.take n)+18446744073709551616^n*(a.getD n 0).toNat:=by
 rw[cDR h,iE,bZC,cDS (by omega)];simp[val,cCQ,h]
theorem eZ(a:List Int){n:Nat}(h:n<=a.length):val a=val (a.take n)+18446744073709551616^n*val (a.drop n):=by
 have e:=iE (a.take n) (a.drop n);rw[cFD,bZC,cDS h]at e;exact e
theorem Nj{a:List Int}{n:Nat}(h:n<a.length):a.getD n 0∈a:=by
 rw[cCQ,bXY h];simp
theorem bN.get{a:List Int}(h:bN a)(n:Nat):0<=a.getD n 0/\a.getD n 0<18446744073709551616:=by
 rcases bXZ n a.length with hn |hn
 ·exact h _ (Nj hn)
 ·rw[cCQ,bYZ hn];simp
theorem getLast_take{a:List Int}{n:Nat}(h:n<a.length):(a.take (n+1)).getLast?=some (a.getD n 0):=by
 rw[cDR h,cFE];simp[cCQ,h]
theorem getD_none{a:List Int}{n:Nat}(h:a.length<=n):a.getD n 0=0:=by
 rw[cCQ,bYZ h];rfl
theorem cA{a:List Int}{n:Nat}(h:a.length<=n):val (a.take n)=val a:=by rw[cFG h]
theorem bR{a:List Int}(n:Nat):val (a.take (n+1))=val (a.take n)+18446744073709551616^n*(a.getD n 0).toNat:=by
 rcases bXZ n a.length with h |h
 ·exact mQ h
 ·rw[cA (by omega),cA h,getD_none h];simp
theorem fR{a:List Int}(h:bN a)(n:Nat):val (a.take n)<18446744073709551616^n:=by
 have:=cR (h.take n);exact bYH this (cAI (by omega) (by rw[bZC];omega))
theorem kR{a:List Int}{d:Int}:val (a ++ [d])=val a+18446744073709551616^a.length*d.toNat:=by
 rw[iE];simp[val]
theorem kU{a:List Int}{d:Int}(h:bN a)(hd:0<=d/\d<18446744073709551616):bN (a ++ [d]):=by
 rw[lS,jY];exact⟨h,hd,lB⟩
theorem So{a:List Int}(h:cI a):dg (val a)=a:=h.symm
theorem nV{a b:List Int}(ha:bN a)(hb:cI b)(h:a.length<b.length):val a<val b:=by
 have h1:=cR ha;have h2:18446744073709551616^a.length<=val b:=Cx (by rw[<-hb];exact h);omega
theorem cX{a:List Int}(ha:cI a):a.length=0↔val a=0:=by
 constructor
 ·intro h;have:a=[]:=List.length_eq_zero_iff.1 h;subst this;rfl
 ·intro h;rw[ha,h,cG];rfl
theorem fT{n:Nat}:(dg n).length=0↔n=0:=by rw[cX (bA n),bD]
theorem kI{a:List Int}(h:bN a){n:Nat}{d:Int}(hd:0<=d/\d<18446744073709551616):bN (a.set n d):=by
 intro x hx;rcases cFH hx with h1 |h1
 ·exact h x h1
 ·subst h1;exact hd
theorem nP{a:List Int}{n:Nat}(h:n<a.length)(d:Int):val ((a.set n d).drop n)=d.toNat+18446744073709551616*val (a.drop (n+1)):=by
 have e:(a.set n d).drop n=d :: a.drop (n+1):=by
  rw[cDU (by simpa using h)];simp[cFI]
 rw[e];rfl
theorem gB{a:List Int}(n:Nat):val (a.drop n)=(a.getD n 0).toNat+18446744073709551616*val (a.drop (n+1)):=by
 rcases bXZ n a.length with h |h
 ·rw[cDU h];simp[val,cCQ,h]
 ·rw[cDD h,cDD (by omega),getD_none h];rfl
end M6
namespace M
open Go AI
def zs(b:Bool)(n:Nat):Int:=bif b then -(n:Int)else n
def zv(x:Bool×List Int):Int:=zs x.1 (val x.2)
def dP(x:Bool×List Int):Prop:=cI x.2/\(x.1=true->val x.2≠0)/\x.2.length<=549755813888
def isNeg(z:Int):Bool:=match z with
 | .negSucc _=>true
 | .ofNat _=>false
def zD(z:Int):D:=.agg [.sc (.bool (isNeg z)),.ints .u32 (dg z.natAbs)]
theorem jL{z:Int}:isNeg z=true↔z<0:=by cases z <;> simp[isNeg] <;> omega
theorem fH{z:Int}:isNeg z=false↔0<=z:=by cases z <;> simp[isNeg] <;> omega
theorem iX(z:Int):zv (isNeg z,dg z.natAbs)=z:=by
 unfold zv zs;simp only[bD];cases h:isNeg z with
 |true=>have:=jL.1 h;simp only[cond_true];omega
 |false=>have:=fH.1 h;simp only[cond_false];omega
theorem pV{z:Int}(h:(dg z.natAbs).length<=549755813888):dP (isNeg z,dg z.natAbs):=by
 refine⟨bA _,fun hn=>?_,h⟩;rw[bD];have:=jL.1 hn;omega
theorem Ve{z:Int}{k:Nat}(h:z.natAbs<2^k)(hk:k<=17179869184):dP (isNeg z,dg z.natAbs) :=
 pV (bYC (mL h) (by omega))
theorem Lc(b:Bool)(n:Nat):isNeg (zs b n)=(b&&decide (n≠0)):=by
 unfold zs;cases b with
 |false=>simp only[cond_false,cCU];exact fH.2 (by omega)
 |true =>
  simp only[cond_true,cAJ]
  by_cases h:n=0
  ·subst h;rfl
  ·rw[decide_eq_true h];exact jL.2 (by omega)
theorem nA(b:Bool)(n:Nat):(zs b n).natAbs=n:=by
 unfold zs;cases b <;> simp
theorem bBL(b:Bool)(n:Nat):zD (zs b n)=.agg [.sc (.bool (b&&decide (n≠0))),.ints .u32 (dg n)]:=by
 unfold zD;rw[Lc,nA]
theorem dP.cells{x:Bool×List Int}(h:dP x):isNeg (zv x)=x.1/\dg (zv x).natAbs=x.2:=by
 obtain⟨h1,h2,h3⟩:=h;unfold zv;rw[Lc,nA,<-h1];refine⟨?_,rfl⟩;cases hx:x.1 with
 |false=>rfl
 |true=>rw[decide_eq_true (h2 hx)];rfl
theorem dP.len{x:Bool×List Int}(h:dP x):x.2.length<=549755813888:=h.2.2
theorem kL(x:Bool×List Int):(zv x).natAbs=val x.2:=nA _ _
theorem aVC{x:Bool×List Int}(h:x.1=true):zv x=-(val x.2:Int):=by unfold zv zs;rw[h];rfl
theorem Yr{x:Bool×List Int}(h:x.1=false):zv x=(val x.2:Int):=by unfold zv zs;rw[h];rfl
theorem vO(a b:Nat):(dg (a+b)).length<=max (dg a).length (dg b).length+1:=by
 apply cU;have h1:=oK (n:=a);have h2:=oK (n:=b);have h3:4294967296^(dg a).length<=4294967296^max (dg a).length (dg b).length:=fM;have h4:4294967296^(dg b).length<=4294967296^max (dg a).length (dg b).length:=fM;rw[cCK];generalize 4294967296^max (dg a).length (dg b).length=p at *;omega
def cT(a b:Int):Int:=if a<b then -1 else if b<a then 1 else 0
theorem Nn:dg 1=[1]:=by simp[dg]
theorem Kx{a b:Nat}:0<=iS a b↔b<=a:=by unfold iS;split <;> (try split) <;> omega
theorem zE(n k:Nat):(dg (n*2^k)).length<=(dg n).length+k/32+1:=by
 apply cU;have h1:=oK (n:=n);have h2:2^k<=4294967296^(k/32+1):=by rw[Iy];exact fM
 have h3:0<2^k:=cB;rw[show(dg n).length+k/32+1=(dg n).length+(k/32+1)from by omega,cCH];have h4:n*2^k<4294967296^(dg n).length*2^k:=Nat.mul_lt_mul_of_pos_right h1 h3;exact bYH h4 (bZW _ h2)
theorem zB(a b:Nat):(dg (a-b)).length<=(dg a).length:=jX (cDX _ _)
theorem vM(a b:Nat):(dg (a/b)).length<=(dg a).length:=jX (cDK _ _)
theorem Ig{a:List Int}(h:bN a){n:Nat}(hn:a.length<=n):bl (val a)<=32*n:=by
 rw[dX,<-Iy];exact bYH (cR h) (cAI (by omega) hn)
theorem qR(a b:Nat):bl (a+b)<=max (bl a) (bl b)+1:=by
 rw[dX,cCK];have h1:=wP a;have h2:=wP b;have h3:2^bl a<=2^max (bl a) (bl b):=fM;have h4:2^bl b<=2^max (bl a) (bl b):=fM;omega
theorem nC(a b:Nat):bl (a*b)<=bl a+bl b:=by
 rw[dX,cCH];exact Nat.mul_lt_mul'' (wP a) (wP b)
theorem dU{z:Int}{k:Nat}(h:bl z.natAbs<=k)(hk:k<=17179869184):dP (isNeg z,dg z.natAbs):=Ve (dX.1 h) hk
theorem fD{n k:Nat}(h:bl n<=k):(dg n).length<=k/32+1:=mL (dX.1 h)
theorem aMT(a b:Int):cT (a-b) 0=cT a b:=by unfold cT;split <;> split <;> (try split) <;> (try split) <;> omega
theorem kX{x:List Int}(h:cI x):(dg (val x)).length=x.length:=by rw[<-h]
abbrev K6:=Int×Int×Int×Int×Int×Int
def kf(w:Bool):K6:=bif w then(9223372036854775808,53,-1074,971,9218868437227405312,9221120237041090561)else(2147483648,24,-149,104,2139095040,2143289345)
def bFK(k:K6):Prop:=k=kf true\/k=kf false
def kP(k:K6):Nat:=k.2.1.toNat
def kH(k:K6):Nat:=2^(kP k-1)
def kE(k:K6):Int:=k.2.2.1
def Iz(k:K6)(b:Nat):Nat:=if b/kH k=0 then b else kH k+b%kH k
def Vv(k:K6)(b:Nat):Nat:=b/kH k-1
def lR(m:Int)(e:Int)(l:Int)(f:Int):Int:=cT (m*2^(e-f).toNat) (l*2^(f-e).toNat)
end M
namespace M
open Go
theorem Ya{a b:Int}(ha:0<=a)(bGO:a<18446744073709551616)(hb:0<=b)(xJ:b<18446744073709551616):AI.fU .and .u64 a b=((a.toNat &&& b.toNat:Nat):Int):=by
 obtain⟨n,rfl⟩:=cCM ha;obtain⟨m,rfl⟩:=cCM hb;rw[AI.tG];unfold AI.bitsI0;simp only;have e:(BitVec.ofInt u64.bits (n:Int) &&& BitVec.ofInt u64.bits (m:Int)).toNat=n &&& m:=by
  show(BitVec.ofInt 64 (n:Int) &&& BitVec.ofInt 64 (m:Int)).toNat=_;rw[BitVec.toNat_and];have e1:(BitVec.ofInt 64 (n:Int)).toNat=n:=by simp;omega
  have e2:(BitVec.ofInt 64 (m:Int)).toNat=m:=by simp;omega
  rw[e1,e2]
 have hle:n &&& m<=n:=Nat.and_le_left;rw[e,wrap_u64];rfl
theorem aQF{a b:Int}(ha:0<=a)(bGO:a<18446744073709551616)(hb:0<=b)(xJ:b<18446744073709551616):AI.fU .or .u64 a b=((a.toNat |||b.toNat:Nat):Int):=by
 obtain⟨n,rfl⟩:=cCM ha;obtain⟨m,rfl⟩:=cCM hb;rw[AI.tG];unfold AI.bitsI0;simp only;have e:(BitVec.ofInt u64.bits (n:Int) |||BitVec.ofInt u64.bits (m:Int)).toNat=n |||m:=by
  show(BitVec.ofInt 64 (n:Int) |||BitVec.ofInt 64 (m:Int)).toNat=_;rw[BitVec.toNat_or];have e1:(BitVec.ofInt 64 (n:Int)).toNat=n:=by simp;omega
  have e2:(BitVec.ofInt 64 (m:Int)).toNat=m:=by simp;omega
  rw[e1,e2]
 have jM:n |||m<2^64:=Nat.or_lt_two_pow (by omega) (by omega);rw[e,wrap_u64];rfl
def tz:Nat->Nat
 |0=>0
 |n+1=>if(n+1)%2=1 then 0 else tz ((n+1)/2)+1
termination_by n=>n
decreasing_by omega
theorem He{n:Nat}(h:n%2=1):tz n=0:=by
 cases n with
 |zero=>omega
 |succ n=>rw[tz,if_pos h]
theorem Fl{n:Nat}(h0:n≠0)(h:n%2=0):tz n=tz (n/2)+1:=by
 cases n with
 |zero=>omega
 |succ n=>rw[tz,bG]
theorem yT:∀n,n≠0->n%2^tz n=0/\(n/2^tz n)%2=1:=by
 intro n
 induction n using cCZ with
 |_ n ih =>
  intro h0
  by_cases h:n%2=1
  ·rw[He h];simp[Nat.mod_one];exact h
  ·rw[Fl h0 (by omega)];obtain⟨h1,h2⟩:=ih (n/2) (by omega) (by omega);have e:2^(tz (n/2)+1)=2*2^tz (n/2):=by rw[cCK];omega
   rw[e];refine⟨?_,by rw[<-cCT];exact h2⟩;have h3:=cCS (n/2) (2^tz (n/2));rw[h1]at h3;generalize tz (n/2)=t at *;have h4:n=2*2^t*(n/2/2^t):=by rw[cCN];omega
   generalize n/2/2^t=q at *;rw[h4];exact Nat.mul_mod_right _ _
theorem aIF{n:Nat}(h:n≠0):2^tz n<=n:=by
 obtain⟨h1,h2⟩:=yT n h;have h3:=cCS n (2^tz n);rw[h1]at h3;generalize 2^tz n=p at *;generalize n/p=q at *;have:p*1<=p*q:=bZW _ (by omega);omega
theorem Yt{n:Nat}(h:n≠0):∀k,tz (2^k*n)=k+tz n
 |0=>by simp
 |k+1=>by
  have hp:0<2^k:=cB;have h0:2^k*n≠0:=Nat.mul_ne_zero (by omega) h;have e:2^(k+1)*n=2*(2^k*n):=by rw[cCK,cCI (2^k) 2,cCN]
  rw[e,Fl (by omega) (by omega),Nat.mul_div_cancel_left _ (by omega),Yt h k];omega
theorem aVG{r k n:Nat}(hr:r<2^k)(h:r≠0):tz (r+2^k*n)=tz r:=by
 induction k generalizing r n with
 |zero=>simp at hr;omega
 |succ k ih =>
  have e:2^(k+1)*n=2*(2^k*n):=by rw[cCK,cCI (2^k) 2,cCN]
  rw[e];rw[cCK]at hr
  by_cases ho:r%2=1
  ·rw[He ho,He (by omega)]
  ·rw[Fl (by omega) (by omega),Fl h (by omega),show(r+2*(2^k*n))/2=r/2+2^k*n from by omega,ih (by omega) (by omega)]
theorem Wj(a b:Nat):a &&& b=2*(a/2 &&& b/2)+(if a%2=1/\b%2=1 then 1 else 0):=by
 have h1:(a &&& b)/2=a/2 &&& b/2:=Nat.and_div_two;have h2:(a &&& b)%2=1↔a%2=1/\b%2=1:=Nat.and_mod_two_eq_one;rw[<-h1];split
 ·rename_i h;have:=h2.2 h;omega
 ·rename_i h;have:¬(a &&& b)%2=1:=fun hh=>h (h2.1 hh)
  omega
theorem Ms:∀(p m:Nat),m<2^p->m &&& (2^p-1-m)=0
 |0,m,h=>by simp at h;subst h;rfl
 |p+1,m,h=>by
  rw[cCK]at h ⊢;rw[Wj,show(2^p*2-1-m)/2=2^p-1-m/2 from by omega,Ms p (m/2) (by omega),bG]
theorem Wh:∀(p a b:Nat),a+b=2^p->a≠0->b≠0->a &&& b=2^tz a
 |0,a,b,h,ha,hb=>by simp at h;omega
 |p+1,a,b,h,ha,hb=>by
  rw[cCK]at h;rw[Wj]
  by_cases ho:a%2=1
  ·rw[He ho,show b/2=2^p-1-a/2 from by omega,Ms p (a/2) (by omega),aT]
  ·rw[Fl ha (by omega),Wh p (a/2) (b/2) (by omega) (by omega) (by omega),bG,cCK,cCI,bYI]
theorem Bc{pre:List Int}{i k:Nat}(h:pre.length=i)(v:Int):(pre ++ bZK (k+1) 0).set i v=(pre ++ [v]) ++ bZK k 0:=by
 subst h;rw[cFK _ _ (bXK _),cBM,cCV,cFL,bYY];rfl
theorem Hx{pre:List Int}{i:Nat}(h:pre.length=i)(v:Int)(r:List Int):(pre ++ v :: r).getD i 0=v:=by
 subst h;simp[cCQ]
theorem Hk{pre:List Int}{i:Nat}(h:pre.length=i)(v u:Int)(r:List Int):(pre ++ v :: r).set i u=pre ++ u :: r:=by
 subst h;rw[cFK _ _ (bXK _),cBM,cFL]
theorem Sl{c n k:Nat}(h:c<2^k):c |||2^k*n=c+2^k*n:=by
 rw[Nat.or_comm,<-Nat.two_pow_add_eq_or_of_lt h,cDO]
theorem Fx(k:Nat):18446744073709551616^k=2^(64*k):=by rw[cDJ]
theorem gD{n k:Nat}(h:bl n<=64*k):(M6.dg n).length<=k:=by
 apply M6.cU;rw[Fx,<-dX];exact h
theorem Dc{a:List Int}(h:M6.bN a){n:Nat}(hn:a.length<=n):bl (M6.val a)<=64*n:=by
 rw[dX,<-Fx];exact bYH (M6.cR h) (cAI (by omega) hn)
theorem aKC{x:List Int}(h:M6.cI x):(M6.dg (M6.val x)).length=x.length:=by rw[<-h]
theorem aIT{n:Int}(h:0<=n):n.tdiv 64=n/64:=cEF h
theorem aIN{n:Int}(h:0<=n):n.tmod 64=n%64:=cEG h
theorem Mb(n:Nat):2^n=18446744073709551616^(n/64)*2^(n%64):=by
 rw[Fx,<-cCH];congr 1;omega
theorem Hh(x k:Nat)(h:k<64):x*2^k=18446744073709551616*(x/2^(64-k))+x*2^k%18446744073709551616:=by
 have e:(18446744073709551616:Nat)=2^(64-k)*2^k:=by rw[<-cCH,show 64-k+k=64 from by omega]
 have h1:x*2^k/18446744073709551616=x/2^(64-k):=by
  rw[e,Nat.mul_div_mul_right _ _ (cB)]
 have:=cCS (x*2^k) 18446744073709551616;rw[h1]at this;omega
theorem Kb(x k:Nat)(h:k<64):x*2^k%18446744073709551616=2^k*(x%2^(64-k)):=by
 have e:(18446744073709551616:Nat)=2^(64-k)*2^k:=by rw[<-cCH,show 64-k+k=64 from by omega]
 rw[e,Nat.mul_mod_mul_right,cCI]
end M
namespace W
open Go AI
abbrev Uv(k:IntKind)(b:Nat):TI:={size:=1,bytes:=b,zero:=[.int k 0],kind:=.int k}
abbrev bAH(e:Nat):TI:={size:=1,bytes:=24,zero:=[.slice none 0 0],kind:=.slice e}
abbrev Jz(n b:Nat)(z:List Value)(f:List (Nat×Nat×Bool)):TI:={size:=n,bytes:=b,zero:=z,kind:=.struct f}
abbrev rA(k:IntKind):Value:=.int k 0
def Ll:List (Nat×TI):=[
 (2,Uv .i64 8),
 (3,Uv .i64 8),
 (4,{ size:=1,bytes:=1,zero:=[.bool false],kind:=TK.bool }),
 (5,Uv .u8 1),
 (6,Uv .u8 1),
 (7,Jz 4 24 [rA .i64,rA .i64,.bool false,rA .u8] [(0,1,false),(1,1,false),(2,1,false),(3,1,false)]),
 (8,Jz 4 24 [rA .i64,rA .i64,.bool false,rA .u8] [(0,1,false),(1,1,false),(2,1,false),(3,1,false)]),
 (9,{ size:=1,bytes:=16,zero:=[Value.string ByteArray.empty],kind:=TK.str }),
 (10,{ size:=1,bytes:=16,zero:=[Value.string ByteArray.empty],kind:=TK.str }),
 (11,{ size:=1,bytes:=16,zero:=[Value.string ByteArray.empty],kind:=TK.str }),
 (12,Uv .u64 8),
 (18,Jz 1 8 [.pointer none] [(0,1,false)]),
 (19,Jz 1 8 [.pointer none] [(0,1,false)]),
 (21,Uv .i32 4),
 (22,Uv .i64 8),
 (23,Uv .u64 8),
 (26,Jz 4 32 [rA .i64,rA .i64,rA .u64,rA .i64] [(0,1,false),(1,1,false),(2,1,false),(3,1,false)]),
 (27,Jz 4 32 [rA .i64,rA .i64,rA .u64,rA .i64] [(0,1,false),(1,1,false),(2,1,false),(3,1,false)]),
 (30,bAH 27),
 (31,bAH 23),
 (32,Jz 2 32 [.bool false,.slice none 0 0] [(0,1,false),(1,1,false)]),
 (33,Jz 2 32 [.bool false,.slice none 0 0] [(0,1,false),(1,1,false)]),
 (34,Jz 3 40 [.bool false,.slice none 0 0,rA .i64] [(0,2,true),(2,1,false)]),
 (35,Jz 3 40 [.bool false,.slice none 0 0,rA .i64] [(0,2,true),(2,1,false)]),
 (36,Jz 6 80 [.bool false,.slice none 0 0,rA .i64,.bool false,.slice none 0 0,rA .i64] [(0,3,true),(3,3,true)]),
 (37,Jz 6 80 [.bool false,.slice none 0 0,rA .i64,.bool false,.slice none 0 0,rA .i64] [(0,3,true),(3,3,true)]),
 (38,Uv .i64 8),
 (45,bAH 31),
 (70,bAH 112),
 (73,Jz 2 32 [.bool false,.slice none 0 0] [(0,1,false),(1,1,false)]),
 (74,Jz 2 32 [.bool false,.slice none 0 0] [(0,1,false),(1,1,false)]),
 (97,Jz 5 72 [.bool false,.slice none 0 0,.bool false,.slice none 0 0,rA .i64] [(0,2,true),(2,2,true),(4,1,false)]),
 (98,Jz 5 72 [.bool false,.slice none 0 0,.bool false,.slice none 0 0,rA .i64] [(0,2,true),(2,2,true),(4,1,false)]),
 (100,Uv .i64 8),
 (103,Uv .i64 8),
 (112,Uv .u32 4),
 (113,Uv .u64 8),
 (122,bAH 37),
 (131,bAH 35),
 (134,Jz 4 32 [rA .i64,rA .i64,rA .i64,rA .u64] [(0,1,false),(1,1,false),(2,1,false),(3,1,false)]),
 (135,Jz 4 32 [rA .i64,rA .i64,rA .i64,rA .u64] [(0,1,false),(1,1,false),(2,1,false),(3,1,false)]),
 (177,Uv .i64 8),
 (192,Jz 6 48 [rA .u64,rA .i64,rA .i64,rA .i64,rA .u64,rA .u64] [(0,1,false),(1,1,false),(2,1,false),(3,1,false),(4,1,false),(5,1,false)]),
 (193,Jz 6 48 [rA .u64,rA .i64,rA .i64,rA .i64,rA .u64,rA .u64] [(0,1,false),(1,1,false),(2,1,false),(3,1,false),(4,1,false),(5,1,false)]),
 (207,{ size:=64,bytes:=64,zero:=(bZK 64 (rA .u8)),kind:=TK.arr 64 1 false }),
 (236,{ size:=4,bytes:=96,zero:=[.slice none 0 0,.slice none 0 0,.slice none 0 0,.slice none 0 0],kind:=TK.arr 4 1 false }),
 (255,{ size:=0,bytes:=0,zero:=[],kind:=TK.arr 0 1 false }),
 (256,Jz 0 0 [] [(0,0,true)]),
 (257,Jz 0 0 [] [(0,0,true)]),
 (259,Uv .u8 1),
 (260,Uv .u8 1),
 (263,Uv .i32 4),
 (264,Uv .i32 4),
 (265,Jz 11 48 [rA .u64,rA .u64,rA .u32,rA .u8,rA .u8,rA .u8,rA .u8,Value.nilFunc,.pointer none,rA .i32,rA .i32] [(0,1,false),(1,1,false),(2,1,false),(3,1,false),(4,1,false),(5,1,false),(6,1,false),(7,1,false),(8,1,false),(9,1,false),(10,1,false)]),
 (266,Jz 11 48 [rA .u64,rA .u64,rA .u32,rA .u8,rA .u8,rA .u8,rA .u8,Value.nilFunc,.pointer none,rA .i32,rA .i32] [(0,1,false),(1,1,false),(2,1,false),(3,1,false),(4,1,false),(5,1,false),(6,1,false),(7,1,false),(8,1,false),(9,1,false),(10,1,false)])]
theorem oA:qA prog (tlook Ll):=aPK Ll (by kernel_rfl) (by kernel_rfl) (by kernel_rfl)
def ext:FuncId->List Value->Option (Prop×List Value):=(aED 178 aYJ (aED 174 gAdd aEC))
theorem lA:aFB prog ext:=(Xe (Xf (P:=prog) (f:=178) (fn:=f178) (e:=yV) func178 rfl rfl (by kernel_rfl) (by kernel_rfl)) aRN (Xe (Xf (P:=prog) (f:=174) (fn:=f174) (e:=add64Entry) func174 rfl rfl (by kernel_rfl) (by kernel_rfl)) aRO aAD))
def globs(g:Nat):Option (IntKind×List Int):=bif bXI g 0 then some (.u8,[0,1,56,2,57,49,28,3,61,58,42,50,38,29,17,4,62,47,59,36,45,43,51,22,53,39,33,30,24,18,12,5,63,55,48,27,60,41,37,16,46,35,44,21,52,32,23,11,54,26,40,15,34,20,31,10,25,14,19,9,13,8,7,6])else(none)
def base:Env:={ T:=tlook Ll,C:=fun _ _=>none,ext:=ext,glob:=globs,nt:=0,own:=[],keep:=fun _=>[],roll:=fun _=>none,cut:=fun _=>none }
theorem mixed:prog.follows .mixedOrders=true:=by kernel_rfl
abbrev OK(n:Nat)(o:dG):Prop:=lT prog base.glob n o
theorem dZ(E:Env)(c:Code){n:FuncId}{f:Func}{t:List (Nat×dG)}(h:∀p∈t,lT prog base.glob p.1 p.2)(hf:prog.funcs[n]?=some f)(hb:f.body=some c:=by exact rfl)(hn:(f.name== "runtime.NumGoroutine")=false:=by exact rfl)(hE:E={ base with C:=callsOf t,nt:=f.ntmps,own:=E.own,keep:=E.keep,cut:=E.cut,wide:=E.wide }:=by exact rfl):qG prog E n f c:=by
 have hg:E.glob=base.glob:=by rw[hE]
 exact Hy (by rw[hE];exact oA) mixed (iH t (by rw[hE]) (by rw[hg];exact h) (by rw[hE];exact lA) (by rw[hE];rfl)) hf hb (by rw[hE]) hn (by rw[hE];rfl)
abbrev kW:TypeId:=112
abbrev gN:TypeId:=23
end W
namespace AI
open Go Go.RowKit
theorem Contract.bQX{P:Program}{G:Nat->Option (IntKind×List Int)}{f:FuncId}{d d' e e' g g' k k' l l':D}{rs:List D}(h:Contract P G f [d',e',g',k',l'] rs)(hd:Fk d d')(he:Fk e e')(hg:Fk g g')(hk:Fk k k')(hl:Fk l l'):Contract P G f [d,e,g,k,l] rs :=
 h.of rfl fun i x x' hx Ai=>by
  match i with
  |0=>simp at hx Ai;subst hx;subst Ai;exact hd
  |1=>simp at hx Ai;subst hx;subst Ai;exact he
  |2=>simp at hx Ai;subst hx;subst Ai;exact hg
  |3=>simp at hx Ai;subst hx;subst Ai;exact hk
  |4=>simp at hx Ai;subst hx;subst Ai;exact hl
  |i+5=>simp at hx
def orc5{α β γ δ ε:Type}(p:oH α)(q:oH β)(r:oH γ)(s:oH δ)(t:oH ε)(f:α->β->γ->δ->ε->Prop×List D):dG
 | [a,b,c,d,e]=>match p.get a,q.get b,r.get c,s.get d,t.get e with
  |some x,some y,some z,some u,some v=>some (f x y z u v)
  |_,_,_,_,_=>none
 |_=>none
variable {P:Program} {E:Env} {f:FuncId} {fn:Func} {c:Code}
theorem qG.bCB{α β γ δ ε:Type}(h:qG P E f fn c){p:oH α}{p':oH β}{Sk:oH γ}{p3:oH δ}{p4:oH ε}{g:α->β->γ->δ->ε->Prop×List D}(hn:bXS 5 fn.ntmps=true)(hs:∀x y z u v,(g x y z u v).1->aG E fn c [p.put x,p'.put y,Sk.put z,p3.put u,p4.put v]=some (g x y z u v).2):lT P E.glob f (orc5 p p' Sk p3 p4 g):=by
 intro ds q rs hd hg;unfold orc5 at hd;split at hd
 ·split at hd
  ·rename_i x y z u v hx hy hz hu hv;have hd:=Option.some.inj hd;have e1:q=(g x y z u v).1:=by rw[hd]
   have e2:rs=(g x y z u v).2:=by rw[hd]
   subst e1;subst e2;exact⟨(fn_contract (ds:=[p.put x,p'.put y,Sk.put z,p3.put u,p4.put v]) h.ty h.calls h.mix h.fnc h.body h.nt h.io (bZF hn) (hs x y z u v hg)).bQX (p.le hx) (p'.le hy) (Sk.le hz) (p3.le hu) (p4.le hv),h.has⟩
  ·cases hd
 ·cases hd
end AI
namespace M
open Go AI
def wv(x:Bool×List Int):Int:=zs x.1 (M6.val x.2)
def iY(x:Bool×List Int):Prop:=M6.cI x.2/\(x.1=true->M6.val x.2≠0)/\x.2.length<=8192
def wD(z:Int):D:=.agg [.sc (.bool (isNeg z)),.ints .u64 (M6.dg z.natAbs)]
def fit(n:Nat):Bool:=decide (bl n<=524288)
theorem iT(x:Bool×List Int):(wv x).natAbs=M6.val x.2:=nA _ _
theorem Rp{x:Bool×List Int}(h:x.1=true):wv x=-(M6.val x.2:Int):=by unfold wv zs;rw[h];rfl
theorem Hd{x:Bool×List Int}(h:x.1=false):wv x=(M6.val x.2:Int):=by unfold wv zs;rw[h];rfl
theorem iY.cells{x:Bool×List Int}(h:iY x):isNeg (wv x)=x.1/\M6.dg (wv x).natAbs=x.2:=by
 obtain⟨h1,h2,h3⟩:=h;unfold wv;rw[Lc,nA,<-h1];refine⟨?_,rfl⟩;cases hx:x.1 with
 |false=>rfl
 |true=>rw[decide_eq_true (h2 hx)];rfl
theorem iY.len{x:Bool×List Int}(h:iY x):x.2.length<=8192:=h.2.2
theorem aTB(b:Bool)(n:Nat):wD (zs b n)=.agg [.sc (.bool (b&&decide (n≠0))),.ints .u64 (M6.dg n)]:=by
 unfold wD;rw[Lc,nA]
theorem tB(z:Int):wv (isNeg z,M6.dg z.natAbs)=z:=by
 unfold wv zs;simp only[M6.bD];cases h:isNeg z with
 |true=>have:=jL.1 h;simp only[cond_true];omega
 |false=>have:=fH.1 h;simp only[cond_false];omega
theorem gY{z:Int}(h:bl z.natAbs<=524288):iY (isNeg z,M6.dg z.natAbs):=by
 refine⟨M6.bA _,fun hn=>?_,gD (k:=8192) (by omega)⟩;rw[M6.bD];have:=jL.1 hn;omega
theorem aAQ{n:Nat}(h:(M6.dg n).length<=8192):bl n<=524288:=by
 have:=Dc (M6.bZ n) h;rw[M6.bD]at this;omega
theorem iY.bl{x:Bool×List Int}(h:iY x):bl (M6.val x.2)<=524288:=by
 have:=Dc h.1.gT h.len;omega
def wE(ok:Bool)(z:Int):List D:=[wD (bif ok then z else 0),.s (.sc (.int .i64 (bif ok then 0 else 5)))]
theorem Jy(neg ok:Bool)(n:Nat):[D.agg [.sc (.bool (isNeg (bif (bif ok then(0:Int)else 5)==0 then zs neg (M6.val (bif ok then M6.dg n else []))else 0))),.ints .u64 (M6.dg (bif (bif ok then(0:Int)else 5)==0 then zs neg (M6.val (bif ok then M6.dg n else []))else 0).natAbs)],D.s (.sc (.int .i64 (bif ok then 0 else 5)))]=wE ok (zs neg n):=by
 cases ok with
 |true=>rw[cond_true,cond_true,show((0:Int)==0)=true from rfl,cond_true,M6.bD];rfl
 |false=>rfl
theorem Kp{ok:Bool}{n:Nat}(h:ok=true->bl n<=524288):M6.cI (bif ok then M6.dg n else [])/\(bif ok then M6.dg n else []).length<=1099511627776:=by
 cases ok with
 |true=>have:=gD (n:=n) (k:=8192) (by have:=h rfl;omega);exact⟨M6.bA _,by rw[cond_true];omega⟩
 |false=>exact⟨M6.Ga,by simp⟩
theorem Cu{n:Nat}:decide ((M6.dg n).length<=8192)=fit n:=by
 unfold fit
 by_cases h:bl n<=524288
 ·rw[decide_eq_true h,decide_eq_true (gD (k:=8192) (by omega))]
 ·rw[decide_eq_false h,decide_eq_false (fun hl=>h (aAQ hl))]
theorem zG{n:Nat}(h:fit n=true):bl n<=524288:=of_decide_eq_true h
end M
namespace M
open Go AI
abbrev iW:=Bool×List Int×Int
def aW(x:iW):Prop:=iY (x.1,x.2.1)/\(-1048576<=x.2.2/\x.2.2<=1048576)/\(M6.val x.2.1=0->x.2.2=0)/\(M6.val x.2.1≠0->M6.val x.2.1%2=1)
def dv(x:iW):Int×Int:=(wv (x.1,x.2.1),x.2.2)
def dD(p:Int×Int):D:=.agg [.sc (.bool (isNeg p.1)),.ints .u64 (M6.dg p.1.natAbs),.sc (.int .i64 p.2)]
def dE(ok:Bool)(p:Int×Int):List D:=[dD (bif ok then p else(0,0)),.s (.sc (.int .i64 (bif ok then 0 else 5)))]
def bV(z e:Int):Int×Int:=if z=0 then(0,0)else(z/((2^tz z.natAbs:Nat):Int),e+(tz z.natAbs:Nat))
def jD(z e:Int):Bool:=decide (z=0)||(decide (-1048576<=e+(tz z.natAbs:Nat))&&decide (e+(tz z.natAbs:Nat)<=1048576))
theorem aW.Le{x:iW}(h:aW x):iY (x.1,x.2.1):=h.1
theorem aW.len{x:iW}(h:aW x):x.2.1.length<=8192:=h.1.len
theorem aW.Fh{x:iW}(h:aW x):M6.cI x.2.1:=h.1.1
theorem aW.dD{x:iW}(h:aW x):M.dD (dv x)=.agg [.sc (.bool x.1),.ints .u64 x.2.1,.sc (.int .i64 x.2.2)]:=by
 have:=h.Le.cells;unfold M.dD dv;dsimp only at *;rw[this.1,this.2]
theorem aBM{b:Bool}{n:Nat}:zs b n=0↔n=0:=by
 have:=nA b n;omega
theorem aVE{b:Bool}{n q:Nat}(hq:0<q)(h:n%q=0):zs b n/(q:Int)=zs b (n/q):=by
 have hd:=cCS n q;have e:n=q*(n/q):=by omega
 cases b with
 |false =>
  show((n:Nat):Int)/(q:Int)=((n/q:Nat):Int);rw[cDA]
 |true =>
  show -(n:Int)/(q:Int)=-((n/q:Nat):Int);have e1:-(n:Int)=(q:Int)*(-((n/q:Nat):Int)):=by rw[Int.mul_neg,<-cDY,<-e]
  rw[e1,Int.mul_ediv_cancel_left _ (by omega)]
theorem Qg{n:Nat}(h:n≠0):tz n<bl n:=by
 have h1:=aIF h;exact sO.2 h1
def mU(p:Int×Int):Prop:=bl p.1.natAbs<=524288/\(-1048576<=p.2/\p.2<=1048576)/\(p.1=0->p.2=0)/\(p.1≠0->p.1%2=1)
theorem gF(p:Int×Int):dv (isNeg p.1,M6.dg p.1.natAbs,p.2)=p:=by
 unfold dv;dsimp only;rw[tB]
theorem eI{p:Int×Int}(h:mU p):aW (isNeg p.1,M6.dg p.1.natAbs,p.2):=by
 obtain⟨h1,h2,h3,h4⟩:=h;refine⟨gY h1,h2,fun hz=>h3 ?_,fun hz=>?_⟩
 ·dsimp only at hz;rw[M6.bD]at hz;omega
 ·dsimp only at hz ⊢;rw[M6.bD]at hz ⊢;have:=h4 (by omega);omega
theorem aW.rB{x:iW}(h:aW x):mU (dv x):=by
 obtain⟨h1,h2,h3,h4⟩:=h;have ha:=iT (x.1,x.2.1);dsimp only at ha;refine⟨?_,h2,fun hz=>h3 ?_,fun hz=>?_⟩
 ·show bl (wv _).natAbs<=_;rw[ha];exact h1.bl
 ·have hz:wv (x.1,x.2.1)=0:=hz;omega
 ·have hz:wv (x.1,x.2.1)≠0:=hz;have:=h4 (by omega);show wv (x.1,x.2.1)%2=1;omega
theorem mU.neg{p:Int×Int}(h:mU p):mU (-p.1,p.2):=by
 obtain⟨h1,h2,h3,h4⟩:=h;refine⟨by dsimp only;rwa [cFM],h2,fun hz=>h3 (by dsimp only at hz;omega),fun hz=>?_⟩;have:=h4 (by dsimp only at hz;omega);dsimp only;omega
theorem qI{z:Int}{q:Nat}(hq:0<q):(z/(q:Int)).natAbs<=z.natAbs:=by
 have h:=Int.mul_ediv_add_emod z (q:Int);have h1:=Int.emod_nonneg z (show(q:Int)≠0 by omega);have h2:=Int.emod_lt_of_pos z (show 0<(q:Int) by omega)
 by_cases hz:0<=z
 ·have h3:0<=z/(q:Int):=Int.ediv_nonneg hz (by omega);have h4:z/(q:Int)<=z:=Int.ediv_le_self _ hz;omega
 ·have h3:z/(q:Int)<0:=Int.ediv_neg_of_neg_of_pos (by omega) (by omega);have h4:(q:Int)*(z/(q:Int)+1)<=1*(z/(q:Int)+1):=Int.mul_le_mul_of_nonpos_right (by omega) (by omega);rw[Int.mul_add]at h4;omega
end M
open Go.Value(int bool slice)
open AI.S(sc ints)
namespace W
open Go AI M
def mE(t:List (Nat×dG))(n:Nat)(o:List Nat)(k:List (Nat×List Nat))(c:List Nat):Env:={({base with C:=callsOf t})with nt:=n,own:=o,keep:=fun j=>(tlook k j).getD [],cut:=fun j=>bif c.elem j then tlook k j else none}
noncomputable def bd(f:Func):Code:=f.body.getD .skip
def vA(s:S):KV:=(A.v (V.one (L.s s)),none)
def iU(l:List Int):KV:=vA (S.ints .u64 l)
def mK(l:List Int):KV:=vA (S.ints .u32 l)
def bK(n:Int):KV:=vA (S.sc (.int .i64 n))
def dM(n:Int):KV:=vA (S.sc (.int .u64 n))
def aFE(b:Bool):KV:=vA (S.sc (.bool b))
def bM(i e:Nat)(c:List S):KV:=(A.v (V.one (L.ptr i 0)),some ⟨e,.cells c⟩)
def cV(n:Int):S:=S.sc (.int .i64 n)
def bBP(n:Int):S:=S.sc (.int .u64 n)
def bC(b:Bool):S:=S.sc (.bool b)
def eF(l:List Int):S:=S.ints .u64 l
def gU(l:List Int):S:=S.ints .u32 l
def Dg(i n e:Nat)(l:List Int):KV:=(A.v (V.one (L.buf i n)),some ⟨e,.ints .u64 l⟩)
abbrev iD{α:Type}(E:Env)(f:Func)(c:Code)(p:oH α)(g:α→Prop×List D):Prop:=∀x,(g x).1→aG E f c [p.put x]=some (g x).2
abbrev eR{α β:Type}(E:Env)(f:Func)(c:Code)(p:oH α)(q:oH β)(g:α→β→Prop×List D):Prop:=∀x y,(g x y).1→aG E f c [p.put x,q.put y]=some (g x y).2
abbrev sR{α β γ:Type}(E:Env)(f:Func)(c:Code)(p:oH α)(q:oH β)(r:oH γ)(g:α→β→γ→Prop×List D):Prop:=∀x y z,(g x y z).1→aG E f c [p.put x,q.put y,r.put z]=some (g x y z).2
abbrev Ud{α β γ δ:Type}(E:Env)(f:Func)(c:Code)(p:oH α)(q:oH β)(r:oH γ)(t:oH δ)(g:α→β→γ→δ→Prop×List D):Prop:=∀x y z u,(g x y z u).1→aG E f c [p.put x,q.put y,r.put z,t.put u]=some (g x y z u).2
abbrev aSP{α:Type}(E:Env)(f:Func)(c:Code)(p:oH α)(g:α→Prop×List D):Prop:=∀x,(g x).1→∃rs,aG E f c [p.put x]=some rs∧iV rs (g x).2
abbrev Ok{α β:Type}(E:Env)(f:Func)(c:Code)(p:oH α)(q:oH β)(g:α→β→Prop×List D):Prop:=∀x y,(g x y).1→∃rs,aG E f c [p.put x,q.put y]=some rs∧iV rs (g x y).2
abbrev aZH{α β γ:Type}(E:Env)(f:Func)(c:Code)(p:oH α)(q:oH β)(r:oH γ)(g:α→β→γ→Prop×List D):Prop:=∀x y z,(g x y z).1→∃rs,aG E f c [p.put x,q.put y,r.put z]=some rs∧iV rs (g x y z).2
abbrev tN:=pG (.pair sB (.pair (sI .u64) (.pair (sN .i64) (.pair sB (.pair (sI .u64) (sN .i64))))))
abbrev jE:=pG (.pair sB (.pair (sI .u64) (sN .i64)))
abbrev nM:=pG (.pair sB (sI .u32))
abbrev qN:=pG (.pair sB (sI .u64))
namespace gV
def E:=mE [] 20 [] [] []
def aF:=bd f147
theorem aU:Nk E aF:=nk
theorem start a:aG E f147 aF [D.s (ints u64 a)]=letI A:=(a.length:Int);letI B:=A-(1:Int);aD (decide (A<=(8192:Int))) (aD (A==(0:Int)) (some [D.s (sc (bool true))]) (if 0<=i64.wrap B/\i64.wrap B<A then some [D.s (sc (bool (a.getD (i64.wrap B).toNat 0 !=(0:Int))))]else none)) (some [D.s (sc (bool false))]):=eJ aU
def qO(a:List Int):Bool:=decide (a.length<=8192)&&(a.length==0||a.getD (a.length-1) 0 !=0)
theorem pD{a:List Int}(h:M6.cI a)(hl:a.length<=8192):qO a=true:=by
 unfold qO;rw[decide_eq_true hl,cAJ]
 by_cases hz:a.length=0
 ·simp[hz]
 ·have:=M6.getLast_take (a:=a) (n:=a.length-1) (by omega);rw[show a.length-1+1=a.length from by omega,cEH]at this;have:=h.top this;have e1:(a.getD (a.length-1) 0 !=0)=true:=by simpa using this
  rw[e1,cDZ]
def sp(a:List Int):Prop×List D:=(a.length<=1099511627776,[.s (.sc (.bool (qO a)))])
theorem spec:iD E f147 aF (pI .u64) sp:=by
 intro a h;have hl:a.length<=1099511627776:=h;refine(start a).trans ?_;show _=some [D.s (.sc (.bool (qO a)))];unfold qO
 by_cases h1:a.length<=8192
 ·rw[aR,decide_eq_true h1,cAJ]
  by_cases hz:a.length=0
  ·rw[cL];simp[hz]
  ·have e:((a.length:Int)-1).toNat=a.length-1:=by omega
   rw[cO,wrap_i64 (n:=(a.length:Int)-1),aT,e];simp[hz]
 ·rw[aN,decide_eq_false h1];rfl
def aJ:dG:=orc1 (pI .u64) sp
theorem ok:OK 147 aJ:=(dZ E aF aE func147).oS rfl spec
end gV
namespace fY
def E:=mE [(147,gV.aJ)] 17 [] [] []
def aF:=bd f104
theorem aU:Nk E aF:=nk
theorem start a b:aG E f104 aF [D.agg [sc (bool a),ints u64 b]]=aO (b.length<=1099511627776) (aD (gV.qO b) (aD a (some [D.s (sc (bool !(b.length:Int)==(0:Int)))]) (some [D.s (sc (bool true))])) (some [D.s (sc (bool false))])):=eJ aU
def pS(x:Bool×List Int):Bool:=gV.qO x.2&&!(x.1&&((x.2.length:Int)==0))
theorem mM{x:Bool×List Int}(h:iY x):pS x=true:=by
 unfold pS;rw[gV.pD h.1 h.len,cAJ];cases hx:x.1 with
 |false=>rfl
 |true =>
  have:=h.2.1 hx;have hz:x.2.length≠0:=fun hl=>this ((M6.cX h.1).1 hl)
  rw[cAJ,beq_eq_false_iff_ne.2 (by omega)];rfl
def sp(x:Bool×List Int):Prop×List D:=(x.2.length<=1099511627776,[.s (.sc (.bool (pS x)))])
theorem spec:iD E f104 aF qN sp:=by
 intro x h;have hl:x.2.length<=1099511627776:=h;refine(start x.1 x.2).trans ?_;show _=some [D.s (.sc (.bool (pS x)))];unfold pS;rw[gP hl];cases gV.qO x.2 with
 |false=>rfl
 |true=>cases x.1 <;> rfl
def aJ:dG:=orc1 qN sp
theorem ok:OK 104 aJ:=(dZ E aF (aA gV.ok aE) func104).oS rfl spec
end fY
namespace pO
def E:=mE [] 8 [] [] []
def aF:=bd f91
theorem aU:Nk E aF:=nk
theorem start a b c:aG E f91 aF [D.agg [sc (bool a),ints u64 b,sc (int i64 c)]]=some [D.s (sc (bool ((b.length:Int)==(0:Int))))]:=eJ aU
def sp(x:iW):Prop×List D:=(True,[.s (.sc (.bool ((x.2.1.length:Int)==0)))])
theorem spec:iD E f91 aF jE sp:=fun x h=>start x.1 x.2.1 x.2.2
def aJ:dG:=orc1 jE sp
theorem ok:OK 91 aJ:=(dZ E aF aE func91).oS rfl spec
end pO
namespace oR
def E:=mE [(104,fY.aJ),(91,pO.aJ)] 29 [] [(3,[1])] [3]
def aF:=bd f84
theorem aU:Nk E aF:=nk
def J3 a b c:=lE E f84 aF 3 [bM 0 35 [bC a,eF b,cV c]]
theorem start a b c:aG E f84 aF [D.agg [sc (bool a),ints u64 b,sc (int i64 c)]]=letI A:=some [D.s (sc (bool false))];aO (b.length<=1099511627776) (aD (!fY.pS (a,b)) A (aD (decide (c<(-1048576:Int))) A (aD (decide (1048576<c)) A (oR.J3 a b c)))):=eJ aU
theorem fB a b c:J3 a b c=aO True (aD ((b.length:Int)==(0:Int)) (some [D.s (sc (bool (c==0)))]) (if(0:Int)<=(0:Int)/\0<(b.length:Int)then some [D.s (sc (bool (fU BinOp.and u64 (b.getD 0 0) 1==(1:Int))))]else none)):=cJ aU
def sp(x:iW):Prop×List D:=(aW x,[.s (.sc (.bool true))])
theorem aQI{a:List Int}(h:M6.cI a)(hv:M6.val a%2=1):fU .and .u64 (a.getD 0 0) 1=1:=by
 have g:=h.gT.get 0;rw[Ya g.1 g.2 (by omega) (by omega)];have e:M6.val a=(a.getD 0 0).toNat+18446744073709551616*M6.val (a.drop 1):=by
  have:=M6.gB (a:=a) 0;rwa [cDT]at this
 have e1:(a.getD 0 0).toNat &&& (1:Int).toNat=(a.getD 0 0).toNat%2:=cFN _;rw[e1];omega
theorem spec:iD E f84 aF jE sp:=by
 intro x h;have h:aW x:=h;have hl:=h.len;have hf:=fY.mM h.Le;have hn:=h.Fh;obtain⟨b,a,e⟩:=x;obtain⟨hw,he,h0,h1⟩:=h;refine(start b a e).trans ?_
 try dsimp only at *
 unfold sp
 try dsimp only
 rw[gP,hf,bZH,bF,aN,aN,fB,gP trivial]
 try dsimp only
 by_cases hz:a.length=0
 ·rw[cL,h0 ((M6.cX hn).1 hz)];rfl
 ·rw[cO,if_pos ⟨by omega,by omega⟩,aQI hn (h1 (fun hv=>hz ((M6.cX hn).2 hv)))];rfl
def aJ:dG:=orc1 jE sp
theorem ok:OK 84 aJ:=(dZ E aF (aA fY.ok (aA pO.ok aE)) func84).oS rfl spec
end oR
namespace Clone
def Pn:Go.Shelf.Ren:=⟨fun |41=>129 |n=>n,fun |22=>31 |23=>23 |4=>4 |n=>n,fun |n=>n⟩
theorem Hv:Go.Proofs.SlLaysE0.n41 prog Pn:={
 mixed:=by kernel_rfl
 f41:=⟨f129.name,by decide,func129.trans (congrArg some (by kernel_rfl))⟩
 t4:=Tryz.underlying4
 a4:=Tryz.isAgg4
 z4:=Tryz.sizeOf4
 v4:=Tryz.zeroValue4
 t22:=Tryz.underlying31
 a22:=Tryz.isAgg31
 z22:=Tryz.sizeOf31
 v22:=Tryz.zeroValue31 }
def sp(a:List Int):Prop×List D:=(a.length<=1099511627776,[.s (.ints .u64 a)])
section
open Go.Shelf Go.RowKit Go.Lib
set_option maxHeartbeats 2000000
set_option maxRecDepth 100000
theorem zero{P:Program}{ρ:Ren}(L:SlLaysE0.n41 P ρ)(i0:TypeInfo)(z:Value)(bytes:Nat)(hi:P.info? (ρ.t 23)=some i0)(aQW:i0.zero=some z)(aTZ:i0.size=1)(aWM:i0.bytes=bytes)(aHL:z.cells.size=1)
  (z23:∀w,(Go.sizeOf (ρ.t 23)).run P w=.ok 1 w) (a:Addr) (c:Nat) (w:World) :
  Calls P (ρ.f 41) #[.slice (some a) 0 c] w fun e w'=>∃v',e=.returned v'/\w'.ownsRow w.heap.size (ρ.t 23) 1 v' 0 []/\Below w.heap.size w w':=by
 have mixed:=L.mixed;have t4:=L.t4;have a4:=L.a4;have z4:=L.z4;have v4:=L.v4;have t22:=L.t22;have a22:=L.a22;have z22:=L.z22;have v22:=L.v22;have q22:∀(w:World) (a:Option Addr) (n c n' c':Nat),(binOp .eql (ρ.t 22) (.slice a n c) (.slice none n' c')).run P w=.ok (.bool a.isNone) w:=fun w a n c n' c'=>Lib.run_eql_slice_nil w _ _ a n c n' c' L.t22
 have u22:∀w,Sem.run P (underlying (ρ.t 22)) w=.ok (TypeDesc.slice (ρ.t 23)) w:=run_underlying t22;obtain⟨_,_,FG⟩:=L.f41
 go_enter FG,SlBodyN.n41_ntmps ρ
 go_wp2_with (at_builtin;refine wpList_append_own _ rfl _ _ (ρ.t 22) rfl w.heap.size (ρ.t 23) i0 z 1 bytes t22 hi aQW aTZ aWM aHL (by decide) _ _ _ rfl (World.ownsRow_made w #[] 0 (bXK _) (cCR _) (by simp)) a 0 c [] rfl rfl (by intro j u hj;simp at hj) (by intro u hu;cases hu) (by unfold maxLen;omega) (by omega) (by simp) ?_)
 intro v' w1 tY bDW bDG
 go_wp2
 go_ret
 exact⟨v',rfl,by simpa using tY,((Below.refl _ w).alloc (bXK _) _).grown bDW (by simp) (by intro k hk;simp[Value.ownBlock]at hk;omega)⟩
end
theorem aJZ{X:Nat->Prop}{w:World}{base:Nat}{e:TypeId}{v:Value}{a:List Int}(hX:∀b,X b->b<base)(h:w.ownsRow base e 1 v a.length (a.map (Value.int .u64))):rH X w (.ints .u64 a) v:=by
 obtain⟨_,⟨rfl,h0⟩ |⟨g,cap,cur,rfl,hg,hb,hn,hm,hs,ht⟩⟩:=h
 ·have:a=[]:=List.length_eq_zero_iff.1 h0;subst this;exact⟨none,0,rfl,bXK _,fun i n hn=>by simp at hn⟩
 ·refine⟨some ⟨g,0,none⟩,cap,rfl,hn,fun i n hi=>⟨g,0,rfl,?_,fun hx=>?_,?_⟩⟩
  ·exact(Array.getElem?_eq_some_iff.1 hb).1
  ·have:=hX g hx;omega
  ·have jM:i<a.length:=(List.getElem?_eq_some_iff.1 hi).1;have e1:(cur.toList.take (a.length*1))[i]?=some (Value.int .u64 n):=by
    rw[ht,bXM,hi];rfl
   rw[List.getElem?_take,aT]at e1;simp only[World.cell?,hb,bXL];simpa using e1
theorem aQG{Y:Nat->Prop}{base:Nat}{w:World}{d:D}{v:Value}(hd:mA d=false)(h:oW Y w d v):aBB Y base w [d] [v]:=by
 refine⟨fun _=>0,rfl,fun i j d1 d2 h1 h2 o1 _ _=>?_,fun i d1 v1 h1 h2=>?_⟩
 ·have:d1=d:=by
   match i with
   |0=>simpa using h1.symm
   |i+1=>simp at h1
  rw[this,hd]at o1;cases o1
 ·have h3:d1=d/\v1=v:=by
   match i with
   |0=>exact⟨by simpa using h1.symm,by simpa using h2.symm⟩
   |i+1=>simp at h1
  obtain⟨rfl,rfl⟩:=h3;have e:(fun b=>Y b\/∃(j:Nat) (d':D),[d1][j]?=some d'/\mA d'=true/\(fun _:Nat=>0) j=b)=Y:=by
   funext b;refine propext ⟨fun hh=>?_,.inl⟩;rcases hh with hh |⟨j,d',h4,h5,_⟩
   ·exact hh
   ·match j with
    |0 =>
     have:d'=d1:=by simpa using h4.symm
     rw[this,hd]at h5;cases h5
    |j+1=>simp at h4
  rw[e];cases d1 with
  |own=>cases hd
  |_=>exact h
theorem aMS(a:List Int)(hl:a.length<=1099511627776):Contract prog base.glob 129 [(pI .u64).put a] [.s (.ints .u64 a)]:=by
 intro Y w vs hY hG hlen hargs;obtain⟨v,rfl⟩:∃v,vs=[v]:=by
  match vs,hlen with
  | [v],_=>exact⟨v,rfl⟩
 obtain⟨A,c,rfl,hc,kY⟩:rH Y w (.ints .u64 a) v:=hargs 0 _ _ rfl rfl;have t1:=oA gN _ rfl;obtain⟨i0,hi,hs,aXW,z,hz,Sw⟩:=t1.i;have z23:=fun w=>t1.run_sizeOf (w:=w)
 have fin:∀(e:Ending) (w':World),(∃v',e=.returned v'/\w'.ownsRow w.heap.size gN 1 v' a.length (a.map (Value.int .u64))/\RowKit.Below w.heap.size w w')->∃Ag,e=.returned (resV Ag)/\RowKit.Below w.heap.size w w'/\aBB Y w.heap.size w' [.s (.ints .u64 a)] Ag:=by
  rintro e w' ⟨v',rfl,ho,hb⟩;exact⟨[v'],rfl,hb,aQG rfl (aJZ hY ho)⟩
 have aHL:z.cells.size=1:=by
  have:=congrArg List.length Sw;simpa using this
 cases A with
 |none =>
  have ha:a=[]:=by
   cases a with
   |nil=>rfl
   |cons x r=>obtain⟨b,off,h1,_⟩:=kY 0 x rfl;cases h1
  subst ha;refine(AnyE.slices_Clone_nil Hv 0 c w).mono ?_;rintro e w' ⟨rfl,rfl⟩;exact fin _ _ ⟨_,rfl,⟨rfl,.inl ⟨rfl,rfl⟩⟩,RowKit.Below.refl _ _⟩
 |some ad =>
  cases a with
  |nil =>
   refine(zero Hv i0 z _ hi hz hs aXW aHL z23 ad c w).mono ?_;rintro e w' ⟨v',rfl,ho,hb⟩;exact fin _ _ ⟨v',rfl,ho,hb⟩
  |cons x r =>
   obtain⟨b,off,h1,_⟩:=kY 0 x rfl;cases h1;refine(AnyE.slices_Clone Hv i0 z 1 _ hi hz hs aXW aHL (by decide) z23 b off (x :: r).length c ((x :: r).map (Value.int .u64)) w (by simp) (by unfold maxLen;omega) (by show(x :: r).length*8<=_;omega) ?_ ?_).mono ?_
   ·intro j u hj;rw[bXM]at hj;obtain⟨n,hn,rfl⟩:=Option.map_eq_some_iff.1 hj;obtain⟨b',bCC,h2,_,_,h3⟩:=kY j n hn;cases h2;exact h3
   ·intro u hu;obtain⟨n,_,rfl⟩:=List.mem_map.1 hu;rfl
   ·rintro e w' ⟨v',rfl,ho,_,hb⟩;exact fin _ _ ⟨v',rfl,ho,hb⟩
theorem bKN:wY prog 129:=vQ func129 rfl rfl
def aJ:dG:=orc1 (pI .u64) sp
theorem ok:lT prog base.glob 129 aJ:=by
 intro ds g rs hd hg;unfold aJ orc1 at hd;split at hd
 ·split at hd
  ·rename_i x hx;have hd:=Option.some.inj hd;have e1:g=(sp x).1:=by rw[hd]
   have e2:rs=(sp x).2:=by rw[hd]
   subst e1;subst e2;exact⟨(aMS x hg).bHO ((pI .u64).le hx),bKN⟩
  ·cases hd
 ·cases hd
end Clone
namespace Pd
def E:=mE [(129,Clone.aJ)] 10 [] [] []
def aF:=bd f90
theorem aU:Nk E aF:=nk
theorem start a b c:aG E f90 aF [D.agg [sc (bool a),ints u64 b,sc (int i64 c)]]=aO (b.length<=1099511627776) (some [D.agg [sc (bool a),ints u64 b,sc (int i64 c)]]):=eJ aU
def sp(x:iW):Prop×List D:=(x.2.1.length<=1099511627776,[.agg [.sc (.bool x.1),.ints .u64 x.2.1,.sc (.int .i64 x.2.2)]])
theorem spec:iD E f90 aF jE sp:=fun x h=>(start x.1 x.2.1 x.2.2).trans (gP h)
def aJ:dG:=orc1 jE sp
theorem ok:OK 90 aJ:=(dZ E aF (aA Clone.ok aE) func90).oS rfl spec
end Pd
namespace Cb
def E:=mE [] 21 [] [(2,[0,3])] []
def aF:=bd f167
theorem aU:Nk E aF:=nk
def L2 a b:=nN E f167 aF 2 [iU a,bK b]
theorem start a:aG E f167 aF [D.s (ints u64 a)]=Cb.L2 a (a.length:Int):=eJ aU
theorem lG a b:L2 a b=letI B:=(a.length:Int);letI A:=ints u64 (cDH 0 (cDG b.toNat a));aD (decide (0<b)) (if 0<=i64.wrap (b-1)/\i64.wrap (b-1)<B then aD (a.getD (i64.wrap (b-1)).toNat 0==(0:Int)) (Cb.L2 a (i64.wrap (b-1))) (if(0:Int)<=(0:Int)/\0<=b/\b<=B then some [D.s A]else none)else none) (if(0:Int)<=(0:Int)/\0<=b/\b<=B then some [D.s A]else none):=lJ aU
def sp(a:List Int):Prop×List D:=(M6.bN a/\a.length<=1099511627776,[.s (.ints .u64 (M6.dg (M6.val a)))])
theorem L{xs:List Int}(hd:M6.bN xs)(hl:xs.length<=4398046511104):∀n:Nat,n<=xs.length->L2 xs n=some [D.s (.ints .u64 (M6.dg (M6.val (xs.take n))))]
 |0,h=>by
  rw[lG,aN,aT];simp[M6.val,M6.cG]
 |n+1,h=>by
  rw[lG];have e:i64.wrap (((n+1:Nat):Int)-1)=(n:Int):=by rw[wrap_i64];omega
  rw[e,aR,aT,cBF]
  by_cases hz:xs.getD n 0=0
  ·rw[cL hz,L hd hl n (by omega),M6.mQ (by omega),hz];simp
  ·rw[cO hz,aT,cBF,cDT];have:M6.cI (xs.take (n+1)):=M6.Bd (hd.take _) fun d hg=>by
    rw[M6.getLast_take (by omega)]at hg;cases hg;exact hz
   rw[<-this]
theorem spec:iD E f167 aF (pI .u64) sp:=by
 rintro a ⟨hd,hl⟩;refine(start a).trans ?_;rw[L hd (by omega) a.length (bXK _),cEH];rfl
def aJ:dG:=orc1 (pI .u64) sp
theorem ok:OK 167 aJ:=(dZ E aF aE func167).oS rfl spec
end Cb
namespace dO
def E:=mE [(167,Cb.aJ)] 10 [5] [] []
def aF:=bd f149
theorem aU:Nk E aF:=nk
theorem start a:aG E f149 aF [D.s (ints u64 a)]=aO (M6.bN a/\a.length<=1099511627776) (aD (decide (8192<(↑(M6.dg (M6.val a)).length:Int))) (some [D.s (sc (slice none 0 0)),D.s (sc (int i64 5))]) (some [D.s (ints u64 (M6.dg (M6.val a))),D.s (sc (int i64 0))])):=eJ aU
def oM(n:Nat):Bool:=decide ((M6.dg n).length<=8192)
def sp(a:List Int):Prop×List D:=(M6.bN a/\a.length<=1099511627776,[.s (.ints .u64 (bif oM (M6.val a)then M6.dg (M6.val a)else [])),.s (.sc (.int .i64 (bif oM (M6.val a)then 0 else 5)))])
theorem spec:aSP E f149 aF (pI .u64) sp:=by
 intro a h;have hl:=M6.lW h.1;have h2:=h.2;have e:=(start a).trans (gP h);unfold sp oM;simp only
 by_cases hc:(M6.dg (M6.val a)).length<=8192
 ·rw[aN]at e;rw[decide_eq_true hc];exact⟨_,e,iV.refl _⟩
 ·rw[aR]at e;rw[decide_eq_false hc];exact⟨_,e,.cons (De.nil _) (iV.refl _)⟩
def aJ:dG:=orc1 (pI .u64) sp
theorem ok:OK 149 aJ:=(dZ E aF (aA Cb.ok aE) func149).bFM rfl spec
end dO
namespace Gx
def aTD:ByteArray:=⟨((bYR 256).map fun n=>UInt8.ofNat (bl n)).toArray⟩
def E:=mE [] 25 [] [(4,[0,2]),(7,[0,2])] [4,7]
def aF:=bd f168
theorem aU:Nk E aF:=nk
def J4 a b:=lE E f168 aF 4 [dM a,bK b]
def J7 a b:=lE E f168 aF 7 [dM a,bK b]
theorem start a:aG E f168 aF [D.s (sc (int u64 a))]=aD (decide (4294967296<=a)) (Gx.J4 (a/4294967296) 32) (Gx.J4 a 0):=eJ aU
theorem aOB a b:J4 a b=aD (decide (65536<=a)) (Gx.J7 (a/65536) (i64.wrap (b+16))) (Gx.J7 a b):=cJ aU
theorem Gy a b:J7 a b=aD (decide (256<=a)) (if 0<=u8.wrap (a/256)/\u8.wrap (a/256)<256 then some [D.s (sc (int i64 (i64.wrap (i64.wrap (b+8)+i64.wrap (Iu aTD (u8.wrap (a/256)))))))]else none) (if 0<=u8.wrap a/\u8.wrap a<256 then some [D.s (sc (int i64 (i64.wrap (b+i64.wrap (Iu aTD (u8.wrap a))))))]else none):=cJ aU
theorem Rv:(bYR 256).all (fun n=>Iu aTD (n:Nat)==(bl n:Nat))=true:=by kernel_rfl
theorem Ru{x:Int}(h:0<=x)(h':x<256):Iu aTD x=(bl x.toNat:Nat):=by
 have:=List.all_eq_true.1 Rv x.toNat (List.mem_range.2 (by omega));rw[show((x.toNat:Nat):Int)=x from by omega]at this;exact eq_of_beq this
theorem wrap_u8{x:Int}(h:0<=x)(h':x<256):u8.wrap x=x:=by
 show(if(false&&decide (x%256>=128))=true then x%256-256 else x%256)=x;rw[Int.emod_eq_of_lt h h'];simp
theorem vU{x:Int}{k:Nat}(h:(2:Int)^k<=x):bl x.toNat=k+bl (x/2^k).toNat:=by
 have hp:(0:Int)<2^k:=Int.pow_pos (by omega);have bSW:((2^k:Nat):Int)=2^k:=by rw[Int.natCast_pow];rfl
 obtain⟨n,rfl⟩:=cCM (show 0<=x by omega);rw[<-bSW]at h ⊢;rw[<-cDA,cBF,cBF];have h1:=cCS n (2^k);have h2:=bZR n (cAH (n:=k) (show 0<2 by omega));have h3:n/2^k≠0:=by
  intro h0;have:=(Nat.div_eq_zero_iff_lt (cAH (n:=k) (show 0<2 by omega))).1 h0;omega
 have:=Bq h2 h3;rw[show n%2^k+2^k*(n/2^k)=n from by omega]at this;exact this
theorem bPP{x n:Int}(h:0<=x)(h':x<65536)(hn:0<=n)(aKX:n<=1000):J7 x n=some [D.s (.sc (.int .i64 (n+(bl x.toNat:Nat))))]:=by
 rw[Gy]
 by_cases hc:256<=x
 ·have hb:bl (x/256).toNat<=8:=dX.2 (by omega);have hs:=vU (x:=x) (k:=8) (by omega);rw[show((2:Int)^8)=256 from rfl]at hs;rw[aR hc,wrap_u8 (by omega) (by omega),if_pos ⟨by omega,by omega⟩,Ru (by omega) (by omega),wrap_i64 (n:=n+8),wrap_i64 (n:=((bl (x/256).toNat:Nat):Int)) (by omega) (by omega),wrap_i64,hs];congr 5;omega
 ·have hb:bl x.toNat<=8:=dX.2 (by omega);rw[aN hc,wrap_u8 (by omega) (by omega),if_pos ⟨by omega,by omega⟩,Ru (by omega) (by omega),wrap_i64 (n:=(bl x.toNat:Int)),wrap_i64]
theorem bPR{x n:Int}(h:0<=x)(h':x<4294967296)(hn:0<=n)(aKX:n<=500):J4 x n=some [D.s (.sc (.int .i64 (n+(bl x.toNat:Nat))))]:=by
 rw[aOB]
 by_cases hc:65536<=x
 ·have hs:=vU (x:=x) (k:=16) (by omega);rw[show((2:Int)^16)=65536 from rfl]at hs;rw[aR hc,wrap_i64 (n:=n+16),bPP (by omega) (by omega) (by omega) (by omega),hs];congr 5;omega
 ·rw[aN hc,bPP (by omega) (by omega) (by omega) (by omega)]
def sp(a:Int):Prop×List D:=(0<=a/\a<18446744073709551616,[.s (.sc (.int .i64 (bl a.toNat:Nat)))])
theorem spec:iD E f168 aF (pN .u64) sp:=by
 rintro a ⟨h1,h2⟩;refine(start a).trans ?_;show _=some [D.s (.sc (.int .i64 (bl a.toNat:Nat)))]
 by_cases hc:4294967296<=a
 ·have hs:=vU (x:=a) (k:=32) (by omega);rw[show((2:Int)^32)=4294967296 from rfl]at hs;rw[aR hc,bPR (by omega) (by omega) (by omega) (by omega),hs];congr 5
 ·rw[aN hc,bPR (by omega) (by omega) (by omega) (by omega)];congr 5;omega
def aJ:dG:=orc1 (pN .u64) sp
theorem ok:OK 168 aJ:=(dZ E aF aE func168).oS rfl spec
end Gx
namespace yK
def E:=mE [(167,Cb.aJ),(168,Gx.aJ)] 21 [] [] []
def aF:=bd f131
theorem aU:Nk E aF:=nk
theorem start a:aG E f131 aF [D.s (ints u64 a)]=letI B:=M6.dg (M6.val a);letI A:=(B.length:Int);letI C:=A-(1:Int);letI F:=i64.wrap C;aO (M6.bN a/\a.length<=1099511627776) (aD (A==(0:Int)) (some [D.s (sc (int i64 0))]) (if 0<=i64.wrap C/\i64.wrap C<A then aO (0<=B.getD F.toNat 0/\B.getD F.toNat 0<(18446744073709551616:Int)) (some [D.s (sc (int i64 (i64.wrap (i64.wrap ((64:Int)*i64.wrap C)+(↑(bl (B.getD F.toNat 0).toNat):Int)))))])else none)):=eJ aU
def sp(a:List Int):Prop×List D:=(M6.bN a/\a.length<=1099511627776,[.s (.sc (.int .i64 (bl (M6.val a):Nat)))])
theorem Fx(k:Nat):18446744073709551616^k=2^(64*k):=by rw[cDJ]
theorem spec:iD E f131 aF (pI .u64) sp:=by
 intro a h;refine(start a).trans ((gP h).trans ?_);show _=some [D.s (.sc (.int .i64 (bl (M6.val a):Nat)))];have hl:=M6.lW h.1;have h2:=h.2;have hn:=M6.bA (M6.val a);have hv:=M6.bD (M6.val a);generalize M6.dg (M6.val a)=d at *;rw[<-hv]
 by_cases hz:d.length=0
 ·rw[cL,(M6.cX hn).1 hz];rfl
 ·have hd:=hn.gT.get (d.length-1);have hv:=M6.bR (a:=d) (d.length-1);rw[show d.length-1+1=d.length from by omega,M6.cA (bXK _)]at hv;have ht:d.getD (d.length-1) 0≠0:=by
   have:=M6.getLast_take (a:=d) (n:=d.length-1) (by omega);rw[show d.length-1+1=d.length from by omega,cEH]at this;exact hn.top this
  have hb:bl (d.getD (d.length-1) 0).toNat<=64:=dX.2 (by omega);have e:((d.length:Int)-1).toNat=d.length-1:=by omega
  rw[cO,wrap_i64 (n:=(d.length:Int)-1),aT,e,gP hd,wrap_i64 (n:=64*((d.length:Int)-1)),wrap_i64,
   hv,Fx,Bq (by rw[<-Fx];exact M6.fR hn.gT _) (by omega)]
  congr 5;omega
def aJ:dG:=orc1 (pI .u64) sp
theorem ok:OK 131 aJ:=(dZ E aF (aA Cb.ok (aA Gx.ok aE)) func131).oS rfl spec
end yK
namespace mF
def E:=mE [(147,gV.aJ),(149,dO.aJ),(131,yK.aJ)] 71 [68] [(12,[0,6,7,8,34,35])] []
def aF:=bd f132
theorem aU:Nk E aF:=nk
def bBJ a b c (d:Nat) (e:List Int) f g:=nN E f132 aF 12 [iU a,bK b,bK c,Dg 3 d 23 e,bK f,bK g]
theorem start a b:aG E f132 aF [D.s (ints u64 a),D.s (sc (int i64 b))]=letI C:=(a.length:Int);letI B:=sc (slice none 0 0);letI A:=i64.wrap (i64.wrap (b.tdiv 64)+C)+1;aD (decide (b<0)) (some [D.s B,D.s (sc (int i64 1))]) (aO (a.length<=1099511627776) (aD (!gV.qO a) (some [D.s B,D.s (sc (int i64 2))]) (aD (C==(0:Int)) (some [D.s B,D.s (sc (int i64 0))]) (aO (M6.bN a/\a.length<=1099511627776) (aD (decide (i64.wrap ((524288:Int)-(↑(bl (M6.val a)):Int))<b)) (some [D.s B,D.s (sc (int i64 5))]) (if 0<=i64.wrap A/\i64.wrap A<=i64.wrap A/\i64.wrap A<=8796093022208 then mF.bBJ a (i64.wrap (b.tdiv 64)) (b.tmod 64) (i64.wrap A).toNat (bZK (i64.wrap A).toNat (0:Int)) C 0 else none)))))):=eJ aU
theorem aNX a b c d e f g:bBJ a b c d e f g=letI A:=i64.wrap (b+g)+1;aD (decide (g<f)) (if 0<=i64.wrap (b+g)/\i64.wrap (b+g)<(d:Int)then if 0<=g/\g<(a.length:Int)then if c<0 then none else if 0<=i64.wrap (b+g)/\i64.wrap (b+g)<(d:Int)then if 0<=g/\g<(a.length:Int)then if i64.wrap ((63:Int)-c)<0 then none else if 0<=i64.wrap A/\i64.wrap A<(d:Int)then mF.bBJ a b c d ((e.set (i64.wrap (b+g)).toNat (fU BinOp.or u64 (e.getD (i64.wrap (b+g)).toNat 0) (u64.wrap (a.getD g.toNat 0*(↑((2:Nat)^min c.toNat 64):Int))))).set (i64.wrap A).toNat (a.getD g.toNat 0/(2:Int)/(↑((2:Nat)^min (i64.wrap ((63:Int)-c)).toNat 64):Int))) f (i64.wrap (g+1))else none else none else none else none else none) (aO (M6.bN e/\e.length<=1099511627776) (some [D.s (ints u64 (bif dO.oM (M6.val e)then M6.dg (M6.val e)else [])),D.s (sc (int i64 (bif dO.oM (M6.val e)then(0:Int)else(5:Int))))])):=lJ aU
theorem step{a P:List Int}{c:Int}{q k i r:Nat}(ha:M6.bN a)(hP:P.length=q+i)(hi:i<a.length)(hl:a.length<=8192)(hq:q<=8192)(hk:k<64)(h0:0<=c)(h1:c<((2^k:Nat):Int))(hr:i+(r+1)=a.length) :
  bBJ a q k (q+a.length+1) (P ++ c :: bZK (r+1) 0) a.length i =
   bBJ a q k (q+a.length+1) ((P ++ [c+(((a.getD i 0).toNat*2^k%18446744073709551616:Nat):Int)]) ++ (((a.getD i 0).toNat/2^(64-k):Nat):Int) :: bZK r 0) a.length ((i+1:Nat):Int):=by
 have g:=ha.get i;have w1:i64.wrap ((q:Int)+i)=((q+i:Nat):Int):=by rw[wrap_i64];omega
 have w2:i64.wrap (((q+i:Nat):Int)+1)=((q+i+1:Nat):Int):=by rw[wrap_i64];omega
 have w3:i64.wrap (63-(k:Int))=((63-k:Nat):Int):=by rw[wrap_i64];omega
 have m1:min k 64=k:=by omega
 have m2:min (63-k) 64=63-k:=by omega
 have bCX:2^k<2^64:=cEE (by omega) hk;obtain⟨x,hx⟩:=cCM g.1;rw[aNX,aR,w1,if_pos ⟨by omega,by omega⟩,if_pos ⟨by omega,by omega⟩,bG,if_pos ⟨by omega,by omega⟩,if_pos ⟨by omega,by omega⟩,w3,bG,w2,if_pos ⟨by omega,by omega⟩,
  cBF,cBF,cBF,cBF,cBF,m1,m2,Hx hP,Hk hP,wrap_i64 (n:=(i:Int)+1),hx,cBF]
 have Uz:u64.wrap ((x:Int)*((2^k:Nat):Int))=((x*2^k%18446744073709551616:Nat):Int):=by
  rw[gA,<-cDY,cED];rfl
 have jM:x*2^k%18446744073709551616<18446744073709551616:=bZR _ (by omega);have bDA:fU .or .u64 c ((x*2^k%18446744073709551616:Nat):Int)=c+((x*2^k%18446744073709551616:Nat):Int):=by
  rw[aQF h0 (by generalize 2^k=p at *;omega) (by omega) (by omega),cBF,Kb x k hk,Sl (by omega)];omega
 have Wv:(x:Int)/2/((2^(63-k):Nat):Int)=((x/2^(64-k):Nat):Int):=by
  have e:2^(64-k)=2*2^(63-k):=by rw[show 64-k=(63-k)+1 from by omega,cCK,cCI]
  rw[e,<-cCT,cDA,cDA];rfl
 rw[Uz,bDA,Wv];have hs:=Hk (pre:=P ++ [c+((x*2^k%18446744073709551616:Nat):Int)]) (i:=q+i+1) (by simp[hP]) 0 ((x/2^(64-k):Nat):Int) (bZK r 0);rw[bYY,cEI,<-cCV]at hs;rw[hs];rfl
theorem L{a:List Int}{q k:Nat}(ha:M6.cI a)(hl:a.length<=8192)(hq:q<=8192)(hk:k<64)(Wo:dO.oM (M6.val a*2^k*18446744073709551616^q)=true):∀(r i:Nat) (P:List Int) (c:Int),i+r=a.length->P.length=q+i->M6.bN P->0<=c->c<((2^k:Nat):Int) ->
  M6.val P+18446744073709551616^(q+i)*c.toNat=18446744073709551616^q*(M6.val (a.take i)*2^k) ->
  bBJ a q k (q+a.length+1) (P ++ c :: bZK r 0) a.length i=some [D.s (.ints .u64 (M6.dg (M6.val a*2^k*18446744073709551616^q))),D.s (.sc (.int .i64 0))]:=by
 intro r;have bCX:2^k<2^64:=cEE (by omega) hk
 induction r with
 |zero =>
  intro i P c hi hP hd h0 h1 hv;have aFV:M6.val (P ++ c :: bZK 0 0)=M6.val a*2^k*18446744073709551616^q:=by
   rw[cEA,M6.kR,hP,hv,M6.cA (by omega),cCI]
  have aLF:M6.bN (P ++ c :: bZK 0 0):=by
   rw[cEA];exact M6.kU hd ⟨h0,by generalize 2^k=p at *;omega⟩
  rw[aNX,aN,gP ⟨aLF,by simp;omega⟩,aFV,Wo];rfl
 |succ r ih =>
  intro i P c hi hP hd h0 h1 hv;have g:=ha.gT.get i;rw[step ha.gT hP (by omega) hl hq hk h0 h1 (by omega)];have jM:(a.getD i 0).toNat*2^k%18446744073709551616<18446744073709551616:=bZR _ (by omega);have Zv:=Kb (a.getD i 0).toNat k hk;have aWU:=Hh (a.getD i 0).toNat k hk;have Wv:(a.getD i 0).toNat/2^(64-k)<2^k:=by
   apply cDC;rw[<-cCH,show 64-k+k=64 from by omega];omega
  have aQX:c.toNat+(a.getD i 0).toNat*2^k%18446744073709551616<18446744073709551616:=by
   rw[Zv];have hm:(a.getD i 0).toNat%2^(64-k)<2^(64-k):=bZR _ (cB);have e:(18446744073709551616:Nat)=2^k*2^(64-k):=by rw[<-cCH,show k+(64-k)=64 from by omega]
   have h3:2^k*((a.getD i 0).toNat%2^(64-k)+1)<=2^k*2^(64-k):=bZW _ hm;rw[<-e,cCO]at h3;omega
  refine ih (i+1) _ _ (by omega) (by simp[hP];omega) (M6.kU hd ⟨by omega,by omega⟩) (by omega) (by omega) ?_;rw[M6.kR,hP,M6.bR,cBF,show q+(i+1)=(q+i)+1 from by omega,cCK,cCN];have e1:(c+(((a.getD i 0).toNat*2^k%18446744073709551616:Nat):Int)).toNat=c.toNat+(a.getD i 0).toNat*2^k%18446744073709551616:=by omega
  rw[e1];have e2:18446744073709551616^(q+i)*(c.toNat+(a.getD i 0).toNat*2^k%18446744073709551616)+18446744073709551616^(q+i)*(18446744073709551616*((a.getD i 0).toNat/2^(64-k)))=18446744073709551616^(q+i)*c.toNat+18446744073709551616^(q+i)*((a.getD i 0).toNat*2^k):=by
   rw[<-cCO,<-cCO];congr 1;omega
  have e3:18446744073709551616^q*((M6.val (a.take i)+18446744073709551616^i*(a.getD i 0).toNat)*2^k)=18446744073709551616^q*(M6.val (a.take i)*2^k)+18446744073709551616^(q+i)*((a.getD i 0).toNat*2^k):=by
   rw[Nat.add_mul,cCO,cCH,cCN,cCN]
  rw[e3];omega
def kT(n k:Nat):Bool:=decide (n=0)||decide (bl n+k<=524288)
def sp(a:List Int)(n:Int):Prop×List D:=(M6.cI a/\a.length<=8192/\0<=n/\n<4611686018427387904,[.s (.ints .u64 (bif kT (M6.val a) n.toNat then M6.dg (M6.val a*2^n.toNat)else [])),.s (.sc (.int .i64 (bif kT (M6.val a) n.toNat then 0 else 5)))])
theorem spec:Ok E f132 aF (pI .u64) (pN .i64) sp:=by
 rintro a n ⟨ha,hl,h0,h1⟩;have e:=start a n;have hb:=Dc ha.gT hl;rw[aN,gP,gV.pD ha hl,bZH,bF]at e;unfold sp kT;simp only
 by_cases hz:a.length=0
 ·have hv:=(M6.cX ha).1 hz;rw[cL]at e;rw[hv,Nat.zero_mul,M6.cG,decide_eq_true rfl,cDL];exact⟨_,e,.cons (De.nil _) (iV.refl _)⟩
 ·have hv:M6.val a≠0:=fun h=>hz ((M6.cX ha).2 h)
  rw[cO,gP ⟨ha.gT,by omega⟩,wrap_i64 (n:=524288-(bl (M6.val a):Int))]at e;rw[decide_eq_false hv,bZI]
  by_cases hc:bl (M6.val a)+n.toNat<=524288
  ·have bKL:=oO hv;have eq:n/64=((n.toNat/64:Nat):Int):=by omega
   have ek:n%64=((n.toNat%64:Nat):Int):=by omega
   rw[aN,aIT h0,aIN h0,wrap_i64 (n:=n/64),wrap_i64 (n:=n/64+a.length),wrap_i64,if_pos ⟨by omega,by omega,by omega⟩,eq,ek,
    show(((n.toNat/64:Nat):Int)+(a.length:Int)+1).toNat=n.toNat/64+a.length+1 from by omega]at e
   have hval:M6.val a*2^n.toNat=M6.val a*2^(n.toNat%64)*18446744073709551616^(n.toNat/64):=by
    rw[Mb,cCN,cCI (2^(n.toNat%64))]
   have Wo:dO.oM (M6.val a*2^(n.toNat%64)*18446744073709551616^(n.toNat/64))=true:=by
    rw[<-hval];exact decide_eq_true (gD (k:=8192) (by rw[cCI,Ny hv];omega))
   have:=L (q:=n.toNat/64) (k:=n.toNat%64) ha hl (by omega) (by omega) Wo a.length 0 (bZK (n.toNat/64) 0) 0 (by omega) (by simp) (M6.gM _) (by omega) (by have:=cAH (n:=n.toNat%64) (show 0<2 by omega);omega) (by rw[M6.gW];simp[M6.val]);rw[show(bZK (n.toNat/64) (0:Int) ++ 0 :: bZK a.length 0)=bZK (n.toNat/64+a.length+1) 0 from by rw[<-cCV,List.replicate_append_replicate,cAY]]at this;rw[decide_eq_true hc,hval];exact⟨_,e.trans this,iV.refl _⟩
  ·rw[aR]at e;rw[decide_eq_false hc];exact⟨_,e,.cons (De.nil _) (iV.refl _)⟩
def aJ:dG:=orc2 (pI .u64) (pN .i64) sp
theorem ok:OK 132 aJ:=(dZ E aF (aA gV.ok (aA dO.ok (aA yK.ok aE))) func132).aHY rfl spec
end mF
namespace Fa
def E:=mE [] 13 [] [] []
def aF:=bd f107
theorem aU:Nk E aF:=nk
theorem start a b:aG E f107 aF [D.s (sc (bool a)),D.s (ints u64 b)]=aD a (some [D.agg [sc (bool (decide (0<(b.length:Int)))),ints u64 b]]) (some [D.agg [sc (bool false),ints u64 b]]):=eJ aU
def sp(a:Bool)(b:List Int):Prop×List D:=(M6.cI b/\b.length<=1099511627776,[wD (zs a (M6.val b))])
theorem spec:eR E f107 aF pB (pI .u64) sp:=by
 rintro a b ⟨hb,hl⟩;refine(start a b).trans ?_;show _=some [wD (zs a (M6.val b))];rw[aTB,<-hb];cases a with
 |false=>rfl
 |true =>
  rw[bT,cAJ];have:=M6.cX hb
  by_cases hz:b.length=0
  ·rw[decide_eq_false (show ¬(0<(b.length:Int)) by omega),decide_eq_false (show ¬(M6.val b≠0)from fun h=>h (this.1 hz))]
  ·rw[decide_eq_true (show(0<(b.length:Int)) by omega),decide_eq_true (show(M6.val b≠0)from fun h=>hz (this.2 h))]
def aJ:dG:=orc2 pB (pI .u64) sp
theorem ok:OK 107 aJ:=(dZ E aF aE func107).jR rfl spec
end Fa
namespace Cg
def E:=mE [(107,Fa.aJ)] 15 [] [] []
def aF:=bd f137
theorem aU:Nk E aF:=nk
theorem start a b c:aG E f137 aF [D.s (sc (bool a)),D.s (ints u64 b),D.s (sc (int i64 c))]=aD (c !=0) (some [D.agg [sc (bool false),sc (slice none 0 0)],D.s (sc (int i64 c))]) (aO (M6.cI b/\b.length<=1099511627776) (some [D.agg [sc (bool (isNeg (zs a (M6.val b)))),ints u64 (M6.dg (zs a (M6.val b)).natAbs)],D.s (sc (int i64 0))])):=eJ aU
def sp(a:Bool)(b:List Int)(c:Int):Prop×List D:=(M6.cI b/\b.length<=1099511627776,[wD (bif c==0 then zs a (M6.val b)else 0),.s (.sc (.int .i64 c))])
theorem spec:aZH E f137 aF pB (pI .u64) (pN .i64) sp:=by
 intro a b c h;have e:=start a b c;have hg:M6.cI b/\b.length<=1099511627776:=h;unfold sp;simp only
 by_cases hc:c=0
 ·subst hc;rw[gG rfl,gP hg]at e;exact⟨_,e,iV.refl _⟩
 ·rw[nD hc]at e;rw[beq_eq_false_iff_ne.2 hc,cond_false];refine⟨_,e,.cons ?_ (iV.refl _)⟩;unfold wD;rw[show(0:Int).natAbs=0 from rfl,M6.cG];exact De.agg (.cons (Ew.refl _) (.cons (Ew.nil _) .nil))
def aJ:dG:=orc3 pB (pI .u64) (pN .i64) sp
theorem ok:OK 137 aJ:=(dZ E aF (aA Fa.ok aE) func137).bHD rfl spec
end Cg
namespace Ir
def E:=mE [(104,fY.aJ),(132,mF.aJ),(137,Cg.aJ)] 29 [26] [] []
def aF:=bd f99
theorem aU:Nk E aF:=nk
theorem start a c b:aG E f99 aF [D.agg [sc (bool a),ints u64 c],D.s (sc (int i64 b))]=letI B:=bif mF.kT (M6.val c) b.toNat then(0:Int)else(5:Int);letI A:=bif mF.kT (M6.val c) b.toNat then M6.dg (M6.val c*(2:Nat)^b.toNat)else [];letI C:=bif B==0 then zs a (M6.val A)else(0:Int);aD (decide (b<0)) (some [D.agg [sc (bool false),sc (slice none 0 0)],D.s (sc (int i64 1))]) (aO (c.length<=1099511627776) (aD (!fY.pS (a,c)) (some [D.agg [sc (bool false),sc (slice none 0 0)],D.s (sc (int i64 2))]) (aO (M6.cI c/\c.length<=8192/\0<=b/\b<4611686018427387904) (aO (M6.cI A/\A.length<=1099511627776) (some [D.agg [sc (bool (isNeg C)),ints u64 (M6.dg C.natAbs)],D.s (sc (int i64 B))]))))):=eJ aU
theorem Kc(n k:Nat):mF.kT n k=fit (n*2^k):=by
 unfold mF.kT fit
 by_cases h:n=0
 ·subst h;rw[Nat.zero_mul];rfl
 ·rw[decide_eq_false h,bZI,cCI,Ny h,cDO]
def sp(x:Bool×List Int)(n:Int):Prop×List D:=(iY x/\0<=n/\n<4611686018427387904,wE (fit (M6.val x.2*2^n.toNat)) (wv x*((2^n.toNat:Nat):Int)))
theorem spec:eR E f99 aF qN (pN .i64) sp:=by
 rintro x n ⟨hx,h0,h1⟩;refine(start x.1 x.2 n).trans ?_;have l1:=hx.len;have f1:=fY.mM hx;obtain⟨p,a⟩:=x;have n1:M6.cI a:=hx.1
 try dsimp only at *
 unfold sp
 try dsimp only
 have hs:wv (p,a)*((2^n.toNat:Nat):Int)=zs p (M6.val a*2^n.toNat):=by
  unfold wv zs;cases p with
  |true=>simp[Int.neg_mul]
  |false=>simp
 rw[aN,gP,f1,bZH,bF,gP ⟨n1,l1,h0,h1⟩,gP (Kp (fun h=>by rw[Kc]at h;exact zG h)),Jy,Kc,hs]
def aJ:dG:=orc2 qN (pN .i64) sp
theorem ok:OK 99 aJ:=(dZ E aF (aA fY.ok (aA mF.ok (aA Cg.ok aE))) func99).jR rfl spec
end Ir
namespace wL
def E:=mE [(147,gV.aJ),(149,dO.aJ)] 65 [62] [(8,[0,1,6,7,30,31]),(3,[0,1]),(5,[0,1]),(13,[0,1,6,7,8,9,30,31])] [3,5,13]
def aF:=bd f134
theorem aU:Nk E aF:=nk
def J3 a b:=lE E f134 aF 3 [iU a,iU b]
def J5 a b:=lE E f134 aF 5 [iU a,iU b]
def L8 a b (c:Nat) (d:List Int) e f g:=nN E f134 aF 8 [iU a,iU b,Dg 2 c 23 d,dM e,bK f,bK g]
def Qf a b (c:Nat) (d:List Int) e f g x7 h:=lE E f134 aF 13 [iU a,iU b,Dg 2 c 23 d,dM e,bK f,dM g,bK x7,bK h]
theorem start a b:aG E f134 aF [D.s (ints u64 a),D.s (ints u64 b)]=letI A:=some [D.s (sc (slice none 0 0)),D.s (sc (int i64 2))];aO (a.length<=1099511627776) (aD (!gV.qO a) A (aO (b.length<=1099511627776) (aD (!gV.qO b) A (wL.J3 a b)))):=eJ aU
theorem fB a b:J3 a b=aD (decide ((a.length:Int)<(b.length:Int))) (wL.J5 b a) (wL.J5 a b):=cJ aU
theorem Oy a b:J5 a b=letI A:=(a.length:Int);letI B:=A+(1:Int);if 0<=i64.wrap B/\i64.wrap B<=i64.wrap B/\i64.wrap B<=8796093022208 then wL.L8 a b (i64.wrap B).toNat (bZK (i64.wrap B).toNat (0:Int)) 0 A 0 else none:=cJ aU
theorem yL a b c d e f g:L8 a b c d e f g=letI B:=(a.length:Int);letI A:=d.set B.toNat e;aD (decide (g<f)) (aD (decide (g<(b.length:Int))) (if 0<=g/\g<(b.length:Int)then wL.Qf a b c d e g (b.getD g.toNat 0) f g else none) (wL.Qf a b c d e g 0 f g)) (if 0<=B/\B<(c:Int)then aO (M6.bN A/\A.length<=1099511627776) (some [D.s (ints u64 (bif dO.oM (M6.val A)then M6.dg (M6.val A)else [])),D.s (sc (int i64 (bif dO.oM (M6.val A)then(0:Int)else(5:Int))))])else none):=lJ aU
theorem Ab a b c d e f g h i:Qf a b c d e f g h i=letI A:=a.getD f.toNat 0+g+e;if 0<=f/\f<(a.length:Int)then aO (0<=a.getD f.toNat 0/\0<=g/\0<=e/\e<=1) (if 0<=f/\f<(c:Int)then wL.L8 a b c (d.set f.toNat (A%18446744073709551616)) (A/18446744073709551616) h (i64.wrap (i+1))else none)else none:=cJ aU
theorem step{a b pre:List Int}{c:Int}{i k:Nat}(ha:M6.bN a)(hb:M6.bN b)(hp:pre.length=i)(hi:i<a.length)(hl:a.length<=8192)(h0:0<=c)(h1:c<=1) :
  L8 a b (i+(k+1)) (pre ++ bZK (k+1) 0) c a.length i=L8 a b ((i+1)+k) ((pre ++ [(a.getD i 0+b.getD i 0+c)%18446744073709551616]) ++ bZK k 0) ((a.getD i 0+b.getD i 0+c)/18446744073709551616) a.length ((i+1:Nat):Int):=by
 have g1:=ha.get i;have g2:=hb.get i;have hJ:∀y:Int,0<=y->Qf a b (i+(k+1)) (pre ++ bZK (k+1) 0) c i y a.length i=L8 a b ((i+1)+k) ((pre ++ [(a.getD i 0+y+c)%18446744073709551616]) ++ bZK k 0) ((a.getD i 0+y+c)/18446744073709551616) a.length ((i+1:Nat):Int):=by
  intro y hy;rw[Ab,aT,cBF,gP ⟨g1.1,hy,h0,h1⟩,aT,Bc hp,wrap_i64,show i+(k+1)=(i+1)+k from by omega];rfl
 rw[yL,aR]
 by_cases h:i<b.length
 ·rw[aR,aT,cBF,hJ _ g2.1]
 ·rw[aN,hJ 0 (by omega),M6.getD_none (a:=b) (by omega)]
theorem L{a b:List Int}(ha:M6.bN a)(hb:M6.bN b)(hl:a.length<=8192)(aRH:b.length<=a.length):∀(k i:Nat) (pre:List Int) (c:Int),i+k=a.length->pre.length=i->M6.bN pre->0<=c->c<=1 ->
  M6.val pre+18446744073709551616^i*c.toNat=M6.val (a.take i)+M6.val (b.take i) ->
  L8 a b (i+(k+1)) (pre ++ bZK (k+1) 0) c a.length i=some [D.s (.ints .u64 (bif dO.oM (M6.val a+M6.val b)then M6.dg (M6.val a+M6.val b)else [])),D.s (.sc (.int .i64 (bif dO.oM (M6.val a+M6.val b)then 0 else 5)))]:=by
 intro k
 induction k with
 |zero =>
  intro i pre c hi hp hd h0 h1 hv;have bJT:i=a.length:=by omega
  subst bJT;have hs:(pre ++ bZK (0+1) 0).set a.length c=pre ++ [c]:=by rw[Bc hp];simp
  have aFV:M6.val (pre ++ [c])=M6.val a+M6.val b:=by
   rw[M6.kR,hp,hv,M6.cA (bXK _),M6.cA (by omega)]
  rw[yL,aN,aT,cBF,hs,aFV,gP ⟨M6.kU hd (by omega),by simp;omega⟩]
 |succ k ih =>
  intro i pre c hi hp hd h0 h1 hv;have g1:=ha.get i;have g2:=hb.get i;rw[step ha hb hp (by omega) hl h0 h1];refine ih (i+1) _ _ (by omega) (by simp[hp]) (M6.kU hd (by omega)) (by omega) (by omega) ?_;rw[M6.kR,M6.bR,M6.bR,hp,cCK,cCN];generalize a.getD i 0=x at *;generalize b.getD i 0=y at *;generalize 18446744073709551616^i=B at *;have e:18446744073709551616*((x+y+c)/18446744073709551616).toNat+((x+y+c)%18446744073709551616).toNat=c.toNat+x.toNat+y.toNat:=by omega
  have e2:B*(18446744073709551616*((x+y+c)/18446744073709551616).toNat)+B*((x+y+c)%18446744073709551616).toNat=B*c.toNat+B*x.toNat+B*y.toNat:=by
   rw[<-cCO,e,cCO,cCO]
  omega
theorem bPQ{a b:List Int}(ha:M6.bN a)(hb:M6.bN b)(hl:a.length<=8192)(aRH:b.length<=a.length):J5 a b=some [D.s (.ints .u64 (bif dO.oM (M6.val a+M6.val b)then M6.dg (M6.val a+M6.val b)else [])),D.s (.sc (.int .i64 (bif dO.oM (M6.val a+M6.val b)then 0 else 5)))]:=by
 rw[Oy,wrap_i64,if_pos ⟨by omega,by omega,by omega⟩,show((a.length:Int)+1).toNat=0+(a.length+1)from by omega];have:=L ha hb hl aRH a.length 0 [] 0 (by omega) rfl M6.lB (by omega) (by omega) (by simp[M6.val]);rw[cBJ]at this;rw[show 0+(a.length+1)=a.length+1 from by omega]at this ⊢;exact this
def sp(a b:List Int):Prop×List D:=(M6.cI a/\M6.cI b/\a.length<=8192/\b.length<=8192,[.s (.ints .u64 (bif dO.oM (M6.val a+M6.val b)then M6.dg (M6.val a+M6.val b)else [])),.s (.sc (.int .i64 (bif dO.oM (M6.val a+M6.val b)then 0 else 5)))])
theorem spec:eR E f134 aF (pI .u64) (pI .u64) sp:=by
 rintro a b ⟨ha,hb,h1,h2⟩;refine(start a b).trans ?_;rw[gP,gP,gV.pD ha h1,gV.pD hb h2,bZH,bF,bF,fB]
 by_cases hl:a.length<b.length
 ·rw[aR,bPQ hb.gT ha.gT h2 (by omega),cDO];rfl
 ·rw[aN,bPQ ha.gT hb.gT h1 (by omega)];rfl
def aJ:dG:=orc2 (pI .u64) (pI .u64) sp
theorem ok:OK 134 aJ:=(dZ E aF (aA gV.ok (aA dO.ok aE)) func134).jR rfl spec
end wL
namespace Ce
def E:=mE [(167,Cb.aJ)] 47 [] [(7,[5,6,7])] []
def aF:=bd f139
theorem aU:Nk E aF:=nk
def L7 a b c:=nN E f139 aF 7 [iU a,iU b,bK c]
theorem start a b:aG E f139 aF [D.s (ints u64 a),D.s (ints u64 b)]=letI B:=M6.dg (M6.val b);letI A:=(↑(M6.dg (M6.val a)).length:Int);aO (M6.bN a/\a.length<=1099511627776) (aO (M6.bN b/\b.length<=1099511627776) (aD (A !=(B.length:Int)) (aD (decide (A<(B.length:Int))) (some [D.s (sc (int i64 (-1:Int)))]) (some [D.s (sc (int i64 1))])) (Ce.L7 (M6.dg (M6.val a)) B (i64.wrap (A-(1:Int)))))):=eJ aU
theorem yM a b c:L7 a b c=aD (decide (0<=c)) (if 0<=c/\c<(a.length:Int)then if 0<=c/\c<(b.length:Int)then aD (a.getD c.toNat 0 !=b.getD c.toNat 0) (if 0<=c/\c<(a.length:Int)then if 0<=c/\c<(b.length:Int)then aD (decide (a.getD c.toNat 0<b.getD c.toNat 0)) (some [D.s (sc (int i64 (-1:Int)))]) (some [D.s (sc (int i64 1))])else none else none) (Ce.L7 a b (i64.wrap (c-1)))else none else none) (some [D.s (sc (int i64 0))]):=lJ aU
def sp(a b:List Int):Prop×List D:=(M6.bN a/\M6.bN b/\a.length<=1099511627776/\b.length<=1099511627776,[.s (.sc (.int .i64 (iS (M6.val a) (M6.val b))))])
theorem L{a b:List Int}(ha:M6.bN a)(hb:M6.bN b)(hl:a.length=b.length)(hm:a.length<=4398046511104):∀n:Nat,n<=a.length->L7 a b ((n:Int)-1)=some [D.s (.sc (.int .i64 (iS (M6.val (a.take n)) (M6.val (b.take n)))))]
 |0,_=>by
  rw[yM,aN];simp[iS,M6.val]
 |n+1,h=>by
  have e:(((n+1:Nat):Int)-1)=(n:Int):=by omega
  rw[e,yM,aR,aT,aT,aT,aT,cBF,wrap_i64,L ha hb hl hm n (by omega)];have h1:=ha.get n;have h2:=hb.get n;have l1:=M6.fR ha n;have l2:=M6.fR hb n;rw[M6.bR,M6.bR];generalize a.getD n 0=x at *;generalize b.getD n 0=y at *;generalize M6.val (a.take n)=u at *;generalize M6.val (b.take n)=v at *;generalize 18446744073709551616^n=B at *
  by_cases aOR:x<y
  ·rw[nD,aR aOR];have:B*x.toNat+B<=B*y.toNat:=by
    have:B*(x.toNat+1)<=B*y.toNat:=bZW _ (by omega);rw[cCO]at this;omega
   unfold iS;rw[aT]
  ·by_cases bIE:y<x
   ·rw[nD,aN aOR];have:B*y.toNat+B<=B*x.toNat:=by
     have:B*(y.toNat+1)<=B*x.toNat:=bZW _ (by omega);rw[cCO]at this;omega
    unfold iS;rw[bG,aT]
   ·have:x=y:=by omega
    subst this;rw[gG rfl,Xr]
theorem spec:eR E f139 aF (pI .u64) (pI .u64) sp:=by
 rintro a b ⟨ha,hb,h1,h2⟩;refine(start a b).trans ?_;have la:=M6.lW ha;have lb:=M6.lW hb;rw[gP ⟨ha,h1⟩,gP ⟨hb,h2⟩];show _=some [D.s (.sc (.int .i64 (iS (M6.val a) (M6.val b))))];have na:=M6.bA (M6.val a);have nb:=M6.bA (M6.val b);have va:=M6.bD (M6.val a);have vb:=M6.bD (M6.val b);rw[<-va,<-vb];generalize M6.dg (M6.val a)=x at *;generalize M6.dg (M6.val b)=y at *;have e1:=M6.So na;have e2:=M6.So nb;rw[e1,e2]
 by_cases hl:x.length=y.length
 ·rw[gG,wrap_i64,L na.gT nb.gT hl (by omega) x.length (bXK _),M6.cA (bXK _),M6.cA (by omega)]
 ·rw[nD]
  by_cases jM:x.length<y.length
  ·have:=M6.nV na.gT nb jM;rw[aR];unfold iS;rw[if_pos this]
  ·have:=M6.nV nb.gT na (by omega);rw[aN];unfold iS;rw[bG,if_pos this]
def aJ:dG:=orc2 (pI .u64) (pI .u64) sp
theorem ok:OK 139 aJ:=(dZ E aF (aA Cb.ok aE) func139).jR rfl spec
end Ce
namespace uZ
def E:=mE [(147,gV.aJ),(149,dO.aJ),(139,Ce.aJ)] 56 [53] [(8,[0,1,6,7,26,27]),(3,[0,1]),(13,[0,1,6,7,8,9,26,27])] [3,13]
def aF:=bd f140
theorem aU:Nk E aF:=nk
def J3 a b:=lE E f140 aF 3 [iU a,iU b]
def L8 a b (c:Nat) (d:List Int) e f g:=nN E f140 aF 8 [iU a,iU b,Dg 2 c 23 d,dM e,bK f,bK g]
def Qf a b (c:Nat) (d:List Int) e f g x7 h:=lE E f140 aF 13 [iU a,iU b,Dg 2 c 23 d,dM e,bK f,dM g,bK x7,bK h]
theorem start a b:aG E f140 aF [D.s (ints u64 a),D.s (ints u64 b)]=letI A:=some [D.s (sc (slice none 0 0)),D.s (sc (int i64 2))];aO (a.length<=1099511627776) (aD (!gV.qO a) A (aO (b.length<=1099511627776) (aD (!gV.qO b) A (uZ.J3 a b)))):=eJ aU
theorem fB a b:J3 a b=letI A:=(a.length:Int);aO (M6.bN a/\M6.bN b/\a.length<=1099511627776/\b.length<=1099511627776) (aD (decide (iS (M6.val a) (M6.val b)<0)) (some [D.s (sc (slice none 0 0)),D.s (sc (int i64 3))]) (if 0<=A/\A<=A/\A<=(8796093022208:Int)then uZ.L8 a b A.toNat (bZK A.toNat (0:Int)) 0 A 0 else none)):=cJ aU
theorem yL a b c d e f g:L8 a b c d e f g=aD (decide (g<f)) (aD (decide (g<(b.length:Int))) (if 0<=g/\g<(b.length:Int)then uZ.Qf a b c d e g (b.getD g.toNat 0) f g else none) (uZ.Qf a b c d e g 0 f g)) (aO (M6.bN d/\d.length<=1099511627776) (some [D.s (ints u64 (bif dO.oM (M6.val d)then M6.dg (M6.val d)else [])),D.s (sc (int i64 (bif dO.oM (M6.val d)then(0:Int)else(5:Int))))])):=lJ aU
theorem Ab a b c d e f g h i:Qf a b c d e f g h i=if 0<=f/\f<(a.length:Int)then aO (0<=a.getD f.toNat 0/\0<=g/\g<18446744073709551616/\0<=e/\e<=1) (if 0<=f/\f<(c:Int)then uZ.L8 a b c (d.set f.toNat ((a.getD f.toNat 0-g-e)%18446744073709551616)) (if a.getD f.toNat 0<g+e then(1:Int)else(0:Int)) h (i64.wrap (i+1))else none)else none:=cJ aU
theorem step{a b pre:List Int}{o:Int}{i k:Nat}(ha:M6.bN a)(hb:M6.bN b)(hp:pre.length=i)(hi:i<a.length)(hl:a.length<=8192)(h0:0<=o)(h1:o<=1) :
  L8 a b (i+(k+1)) (pre ++ bZK (k+1) 0) o a.length i=L8 a b ((i+1)+k) ((pre ++ [(a.getD i 0-b.getD i 0-o)%18446744073709551616]) ++ bZK k 0) (if a.getD i 0<b.getD i 0+o then 1 else 0) a.length ((i+1:Nat):Int):=by
 have g1:=ha.get i;have g2:=hb.get i;have hJ:∀y:Int,0<=y->y<18446744073709551616->Qf a b (i+(k+1)) (pre ++ bZK (k+1) 0) o i y a.length i=L8 a b ((i+1)+k) ((pre ++ [(a.getD i 0-y-o)%18446744073709551616]) ++ bZK k 0) (if a.getD i 0<y+o then 1 else 0) a.length ((i+1:Nat):Int):=by
  intro y hy bIH;rw[Ab,aT,cBF,gP ⟨g1.1,hy,bIH,h0,h1⟩,aT,Bc hp,wrap_i64,show i+(k+1)=(i+1)+k from by omega];rfl
 rw[yL,aR]
 by_cases h:i<b.length
 ·rw[aR,aT,cBF,hJ _ g2.1 g2.2]
 ·rw[aN,hJ 0 (by omega) (by omega),M6.getD_none (a:=b) (by omega)]
theorem L{a b:List Int}(ha:M6.bN a)(hb:M6.bN b)(hl:a.length<=8192)(aLK:b.length<=a.length)(aRH:M6.val b<=M6.val a):∀(k i:Nat) (pre:List Int) (o:Int),i+k=a.length->pre.length=i->M6.bN pre->0<=o->o<=1 ->
  M6.val pre+M6.val (b.take i)=M6.val (a.take i)+18446744073709551616^i*o.toNat ->
  L8 a b (i+k) (pre ++ bZK k 0) o a.length i=some [D.s (.ints .u64 (M6.dg (M6.val a-M6.val b))),D.s (.sc (.int .i64 0))]:=by
 intro k
 induction k with
 |zero =>
  intro i pre o hi hp hd h0 h1 hv;have aWQ:=M6.cR hd;rw[hp]at aWQ;rw[M6.cA (by omega),M6.cA (by omega)]at hv;have:o=0:=by
   by_cases ho:o=0
   ·exact ho
   ·exfalso;have:o=1:=by omega
    subst this;rw[show(1:Int).toNat=1 from rfl,Nat.mul_one]at hv;omega
  subst this;simp only[cFP,cEB,bYI]at hv;have hlen:=M6.lW hd;have Wo:dO.oM (M6.val pre)=true:=decide_eq_true (by omega);rw[yL,aN,cEA,cAG,gP ⟨hd,by omega⟩,Wo,cond_true,cond_true,show M6.val pre=M6.val a-M6.val b from by omega]
 |succ k ih =>
  intro i pre o hi hp hd h0 h1 hv;have g1:=ha.get i;have g2:=hb.get i;rw[step ha hb hp (by omega) hl h0 h1];refine ih (i+1) _ _ (by omega) (by simp[hp]) (M6.kU hd (by omega)) (by split <;> omega) (by split <;> omega) ?_;rw[M6.kR,M6.bR,M6.bR,hp,cCK,cCN];generalize a.getD i 0=x at *;generalize b.getD i 0=y at *;have e:((x-y-o)%18446744073709551616).toNat+y.toNat+o.toNat=x.toNat+18446744073709551616*(if x<y+o then 1 else 0:Int).toNat:=by split <;> omega
  generalize 18446744073709551616^i=B at *;have e2:=congrArg (B*·) e;simp only[cCO]at e2;omega
def sp(a b:List Int):Prop×List D:=(M6.cI a/\M6.cI b/\a.length<=8192/\b.length<=8192,[.s (.ints .u64 (M6.dg (M6.val a-M6.val b))),.s (.sc (.int .i64 (if M6.val a<M6.val b then 3 else 0)))])
theorem spec:Ok E f140 aF (pI .u64) (pI .u64) sp:=by
 rintro a b ⟨ha,hb,h1,h2⟩;have e:=start a b;rw[gP,gP,gV.pD ha h1,gV.pD hb h2,bZH,bF,bF,fB,gP ⟨ha.gT,hb.gT,by omega,by omega⟩]at e;unfold sp;simp only
 by_cases hc:M6.val a<M6.val b
 ·rw[aR (by unfold iS;rw[if_pos hc];omega)]at e;rw[if_pos hc,show M6.val a-M6.val b=0 from by omega,M6.cG];exact⟨_,e,.cons (De.nil _) (iV.refl _)⟩
 ·have aLK:b.length<=a.length:=by
   rcases bXZ a.length b.length with h |h
   ·have:=M6.nV ha.gT hb h;omega
   ·exact h
  have:=L ha.gT hb.gT h1 aLK (by omega) a.length 0 [] 0 (by omega) rfl M6.lB (by omega) (by omega) (by simp[M6.val]);rw[aN (by unfold iS;rw[if_neg hc];split <;> omega),if_pos ⟨by omega,by omega,by omega⟩,cBF]at e;rw[cBJ,show 0+a.length=a.length from by omega]at this;rw[if_neg hc];exact⟨_,e.trans this,iV.refl _⟩
def aJ:dG:=orc2 (pI .u64) (pI .u64) sp
theorem ok:OK 140 aJ:=(dZ E aF (aA gV.ok (aA dO.ok (aA Ce.ok aE))) func140).aHY rfl spec
end uZ
namespace Gw
def E:=mE [(104,fY.aJ),(134,wL.aJ),(139,Ce.aJ),(140,uZ.aJ),(137,Cg.aJ)] 62 [36,59] [(3,[2,3,4]),(8,[2,3,4])] [3,8]
def aF:=bd f100
theorem aU:Nk E aF:=nk
def J3 a b c d e:=lE E f100 aF 3 [bM 0 33 [bC a,eF b],bM 1 33 [bC c,eF d],bM 2 33 [bC e,sc (slice none 0 0)]]
def J8 a b c d e:=lE E f100 aF 8 [bM 0 33 [bC a,eF b],bM 1 33 [bC c,eF d],bM 2 33 [bC e,sc (slice none 0 0)]]
theorem start a b c d:aG E f100 aF [D.agg [sc (bool a),ints u64 b],D.agg [sc (bool c),ints u64 d]]=letI A:=some [D.agg [sc (bool false),sc (slice none 0 0)],D.s (sc (int i64 2))];aO (b.length<=1099511627776) (aD (!fY.pS (a,b)) A (aO (d.length<=1099511627776) (aD (!fY.pS (c,d)) A (Gw.J3 a b c d false)))):=eJ aU
theorem fB a b c d e:J3 a b c d e=letI F:=M6.val b+M6.val d;letI B:=bif dO.oM F then(0:Int)else(5:Int);letI A:=bif dO.oM F then M6.dg F else [];letI C:=bif B==0 then zs a (M6.val A)else(0:Int);aD (a==c) (aO (M6.cI b/\M6.cI d/\b.length<=8192/\d.length<=8192) (aO (M6.cI A/\A.length<=1099511627776) (some [D.agg [sc (bool (isNeg C)),ints u64 (M6.dg C.natAbs)],D.s (sc (int i64 B))]))) (aO (M6.bN b/\M6.bN d/\b.length<=1099511627776/\d.length<=1099511627776) (aD (decide (iS (M6.val b) (M6.val d)<0)) (Gw.J8 c d a b e) (Gw.J8 a b c d e))):=cJ aU
theorem Am a b c d e:J8 a b c d e=letI B:=M6.dg (M6.val b-M6.val d);letI A:=bif (if M6.val b<M6.val d then(3:Int)else(0:Int))==0 then zs a (M6.val B)else(0:Int);aO (M6.cI b/\M6.cI d/\b.length<=8192/\d.length<=8192) (aO (M6.cI B/\B.length<=1099511627776) (some [D.agg [sc (bool (isNeg A)),ints u64 (M6.dg A.natAbs)],D.s (sc (int i64 (if M6.val b<M6.val d then(3:Int)else(0:Int))))])):=cJ aU
theorem aDF(n:Nat):dO.oM n=fit n:=Cu
def sp(x y:Bool×List Int):Prop×List D:=(iY x/\iY y,wE (fit (wv x+wv y).natAbs) (wv x+wv y))
theorem spec:eR E f100 aF qN qN sp:=by
 rintro x y ⟨hx,hy⟩;refine(start x.1 x.2 y.1 y.2).trans ?_;have l1:=hx.len;have l2:=hy.len;have f1:=fY.mM hx;have f2:=fY.mM hy;have b1:=hx.bl;have b2:=hy.bl;obtain⟨p,a⟩:=x;obtain⟨q,b⟩:=y;have n1:M6.cI a:=hx.1;have n2:M6.cI b:=hy.1
 try dsimp only at *
 unfold sp
 try dsimp only
 rw[gP,f1,bZH,bF,gP,f2,bZH,bF,fB];have one:∀(s:Bool) (m n:Nat),n<=m->bl m<=524288->some [D.agg [S.sc (.bool (isNeg (bif (if m<n then(3:Int)else 0)==0 then zs s (M6.val (M6.dg (m-n)))else 0))),S.ints .u64 (M6.dg (bif (if m<n then(3:Int)else 0)==0 then zs s (M6.val (M6.dg (m-n)))else 0).natAbs)],D.s (S.sc (.int .i64 (if m<n then 3 else 0)))]=some (wE (fit (zs s (m-n)).natAbs) (zs s (m-n))):=by
  intro s m n h hb;have:fit (zs s (m-n)).natAbs=true:=by
   rw[nA];exact decide_eq_true (bYC (fW (cDX _ _)) hb)
  rw[bG,this,show((0:Int)==0)=true from rfl,cond_true,M6.bD];rfl
 by_cases he:p=q
 ·subst he;have hs:wv (p,a)+wv (p,b)=zs p (M6.val a+M6.val b):=by
   unfold wv zs;cases p <;> simp <;> omega
  rw[Nz (by simp),gP ⟨n1,n2,l1,l2⟩,gP (Kp (fun h=>by rw[aDF]at h;exact zG h)),Jy,aDF,hs,nA]
 ·rw[Ii (by simpa using he),gP ⟨n1.gT,n2.gT,by omega,by omega⟩]
  by_cases hc:M6.val b<=M6.val a
  ·have hs:wv (p,a)+wv (q,b)=zs p (M6.val a-M6.val b):=by
    unfold wv zs;cases p <;> cases q <;> simp_all <;> omega
   have l3:=gD (n:=M6.val a-M6.val b) (k:=8192) (bYC (fW (cDX _ _)) b1);rw[aN (by have:=Kx.2 hc;omega),Am,gP ⟨n1,n2,l1,l2⟩,gP ⟨M6.bA _,by omega⟩,hs,one _ _ _ hc b1]
  ·have hs:wv (p,a)+wv (q,b)=zs q (M6.val b-M6.val a):=by
    unfold wv zs;cases p <;> cases q <;> simp_all <;> omega
   have l3:=gD (n:=M6.val b-M6.val a) (k:=8192) (bYC (fW (cDX _ _)) b2);rw[aR (by have:=(not_congr Kx).2 hc;omega),Am,gP ⟨n2,n1,l2,l1⟩,gP ⟨M6.bA _,by omega⟩,hs,one _ _ _ (by omega) b2]
def aJ:dG:=orc2 qN qN sp
theorem ok:OK 100 aJ:=(dZ E aF (aA fY.ok (aA wL.ok (aA Ce.ok (aA uZ.ok (aA Cg.ok aE))))) func100).jR rfl spec
end Gw
namespace aZF
def E:=mE [] 14 [] [] []
def aF:=bd f148
theorem aU:Nk E aF:=nk
theorem start a:aG E f148 aF [D.s (sc (int u64 a))]=letI A:=fU BinOp.and u64 a (u64.wrap ((0:Int)-a))*285870213051353865;aD (a==0) (some [D.s (sc (int i64 64))]) (if 0<=u64.wrap A/288230376151711744/\u64.wrap A/288230376151711744<(64:Int)then some [D.s (sc (int i64 (i64.wrap ([(0:Int),(1:Int),(56:Int),(2:Int),(57:Int),(49:Int),(28:Int),(3:Int),(61:Int),(58:Int),(42:Int),(50:Int),(38:Int),(29:Int),(17:Int),(4:Int),(62:Int),(47:Int),(59:Int),(36:Int),(45:Int),(43:Int),(51:Int),(22:Int),(53:Int),(39:Int),(33:Int),(30:Int),(24:Int),(18:Int),(12:Int),(5:Int),(63:Int),(55:Int),(48:Int),(27:Int),(60:Int),(41:Int),(37:Int),(16:Int),(46:Int),(35:Int),(44:Int),(21:Int),(52:Int),(32:Int),(23:Int),(11:Int),(54:Int),(26:Int),(40:Int),(15:Int),(34:Int),(20:Int),(31:Int),(10:Int),(25:Int),(14:Int),(19:Int),(9:Int),(13:Int),(8:Int),(7:Int),(6:Int)].getD (u64.wrap A/288230376151711744).toNat 0))))]else none):=eJ aU
def aTD:List Int:=[0,1,56,2,57,49,28,3,61,58,42,50,38,29,17,4,62,47,59,36,45,43,51,22,53,39,33,30,24,18,12,5,63,55,48,27,60,41,37,16,46,35,44,21,52,32,23,11,54,26,40,15,34,20,31,10,25,14,19,9,13,8,7,6]
theorem Rv:(bYR 64).all (fun k=>aTD.getD (((2^k*285870213051353865%18446744073709551616:Nat):Int)/288230376151711744).toNat 0==(k:Int))=true:=by kernel_rfl
theorem Ru{k:Nat}(h:k<64):aTD.getD (((2^k*285870213051353865%18446744073709551616:Nat):Int)/288230376151711744).toNat 0=(k:Int):=eq_of_beq (List.all_eq_true.1 Rv k (List.mem_range.2 h))
def sp(a:Int):Prop×List D:=(0<=a/\a<18446744073709551616,[.s (.sc (.int .i64 (if a=0 then 64 else(tz a.toNat:Int))))])
theorem spec:iD E f148 aF (pN .u64) sp:=by
 rintro a ⟨h1,h2⟩;refine(start a).trans ?_;show _=some [D.s (.sc (.int .i64 (if a=0 then 64 else(tz a.toNat:Int))))]
 by_cases hz:a=0
 ·rw[cL hz,if_pos hz]
 ·have jM:tz a.toNat<64:=by
   have:=aIF (n:=a.toNat) (by omega);rcases bXZ (tz a.toNat) 64 with h |h
   ·exact h
   ·have h3:2^64<=2^tz a.toNat:=cAI (by omega) h;omega
  have ew:u64.wrap (0-a)=18446744073709551616-a:=by rw[gA];omega
  have el:fU .and .u64 a (u64.wrap (0-a))=((2^tz a.toNat:Nat):Int):=by
   rw[ew,Ya h1 h2 (by omega) (by omega),Wh 64 a.toNat (18446744073709551616-a).toNat (by omega) (by omega) (by omega)]
  have em:u64.wrap (((2^tz a.toNat:Nat):Int)*285870213051353865)=((2^tz a.toNat*285870213051353865%18446744073709551616:Nat):Int):=by
   rw[gA];generalize 2^tz a.toNat=p;omega
  have ht:=Ru jM;have hm:2^tz a.toNat*285870213051353865%18446744073709551616<18446744073709551616:=bZR _ (by omega);rw[cO hz,if_neg hz,el,em];generalize 2^tz a.toNat*285870213051353865%18446744073709551616=q at *;rw[if_pos ⟨by omega,by omega⟩];have e3:([0,1,56,2,57,49,28,3,61,58,42,50,38,29,17,4,62,47,59,36,45,43,51,22,53,39,33,30,24,18,12,5,63,55,48,27,60,41,37,16,46,35,44,21,52,32,23,11,54,26,40,15,34,20,31,10,25,14,19,9,13,8,7,6]:List Int)=aTD:=rfl;rw[e3,ht,wrap_i64]
def aJ:dG:=orc1 (pN .u64) sp
theorem ok:OK 148 aJ:=(dZ E aF aE func148).oS rfl spec
end aZF
namespace Ez
def E:=mE [(148,aZF.aJ)] 23 [] [(2,[0,5,6])] []
def aF:=bd f105
theorem aU:Nk E aF:=nk
def L2 a b c:=nN E f105 aF 2 [iU a,bK b,bK c]
theorem start a:aG E f105 aF [D.s (ints u64 a)]=Ez.L2 a (a.length:Int) 0:=eJ aU
theorem lG a b c:L2 a b c=aD (decide (c<b)) (if 0<=c/\c<(a.length:Int)then aD (a.getD c.toNat 0 !=(0:Int)) (if 0<=c/\c<(a.length:Int)then aO (0<=a.getD c.toNat 0/\a.getD c.toNat 0<(18446744073709551616:Int)) (some [D.s (sc (int i64 (i64.wrap (i64.wrap ((64:Int)*c)+if a.getD c.toNat 0=(0:Int)then(64:Int)else(↑(tz (a.getD c.toNat 0).toNat):Int)))))])else none) (Ez.L2 a b (i64.wrap (c+1)))else none) (some [D.s (sc (int i64 0))]):=lJ aU
def sp(a:List Int):Prop×List D:=(M6.bN a/\a.length<=1099511627776,[.s (.sc (.int .i64 (tz (M6.val a):Nat)))])
theorem L{a:List Int}(ha:M6.bN a)(hl:a.length<=1099511627776):∀(d i:Nat),i+d=a.length->L2 a a.length i=some [D.s (.sc (.int .i64 (if M6.val (a.drop i)=0 then 0 else(((64*i+tz (M6.val (a.drop i)):Nat)):Int))))]:=by
 intro d
 induction d with
 |zero =>
  intro i hi;rw[lG,aN,cDD (by omega)];rfl
 |succ d ih =>
  intro i hi;have g:=ha.get i;have hv:=M6.gB (a:=a) i;have bTU:=ih (i+1) (by omega);rw[lG,aR,aT,cBF,aT,gP g,wrap_i64 (n:=(i:Int)+1),wrap_i64 (n:=64*(i:Int)),show(i:Int)+1=((i+1:Nat):Int)from by omega,bTU];generalize a.getD i 0=x at *;rw[hv]
  by_cases hz:x=0
  ·subst hz;rw[gG rfl];simp only[cFP,bXL]
   by_cases aWM:M6.val (a.drop (i+1))=0
   ·rw[if_pos aWM,aT]
   ·have:=Yt aWM 64;rw[show(2:Nat)^64=18446744073709551616 from rfl]at this;rw[if_neg aWM,bG,this];congr 5;omega
  ·have ht:=aIF (n:=x.toNat) (by omega);have bFY:tz x.toNat<64:=by
    rcases bXZ (tz x.toNat) 64 with h |h
    ·exact h
    ·have h3:2^64<=2^tz x.toNat:=cAI (by omega) h;omega
   have:=aVG (r:=x.toNat) (k:=64) (n:=M6.val (a.drop (i+1))) (by omega) (by omega);rw[show(2:Nat)^64=18446744073709551616 from rfl]at this;rw[nD hz,if_neg hz,bG,this,wrap_i64];congr 5
theorem spec:iD E f105 aF (pI .u64) sp:=by
 rintro a ⟨ha,hl⟩;refine(start a).trans ?_;have:=L ha hl a.length 0 (by omega);rw[show(0:Int)=((0:Nat):Int)from rfl,this,cDT];show _=some [D.s (.sc (.int .i64 (tz (M6.val a):Nat)))]
 by_cases hz:M6.val a=0
 ·rw[if_pos hz,hz];simp[tz]
 ·rw[if_neg hz];congr 5;omega
def aJ:dG:=orc1 (pI .u64) sp
theorem ok:OK 105 aJ:=(dZ E aF (aA aZF.ok aE) func105).oS rfl spec
end Ez
namespace Gv
def E:=mE [(147,gV.aJ),(149,dO.aJ)] 73 [70] [(10,[0,6,7,8,29,30])] []
def aF:=bd f106
theorem aU:Nk E aF:=nk
def Dl a b c (d:Nat) (e:List Int) f g:=nN E f106 aF 10 [iU a,bK b,bK c,Dg 3 d 23 e,bK f,bK g]
theorem start a b:aG E f106 aF [D.s (ints u64 a),D.s (sc (int i64 b))]=letI G:=b.tdiv 64;letI C:=sc (slice none 0 0);letI A:=(a.length:Int);letI B:=A-i64.wrap G;letI F:=i64.wrap B;aD (decide (b<0)) (some [D.s C,D.s (sc (int i64 1))]) (aO (a.length<=1099511627776) (aD (!gV.qO a) (some [D.s C,D.s (sc (int i64 2))]) (aD (decide (A<=i64.wrap G)) (some [D.s C,D.s (sc (int i64 0))]) (if 0<=i64.wrap B/\i64.wrap B<=i64.wrap B/\i64.wrap B<=8796093022208 then Gv.Dl a (i64.wrap G) (b.tmod 64) F.toNat (bZK F.toNat (0:Int)) (F.toNat:Int) 0 else none)))):=eJ aU
theorem qB a b c d e f g:Dl a b c d e f g=letI C:=(a.length:Int);letI B:=i64.wrap (b+g)+1;letI A:=e.set g.toNat (a.getD (i64.wrap (b+g)).toNat 0/(↑((2:Nat)^min c.toNat 64):Int));aD (decide (g<f)) (if 0<=i64.wrap (b+g)/\i64.wrap (b+g)<C then if c<0 then none else if 0<=g/\g<(d:Int)then aD (decide (i64.wrap B<C)) (if 0<=g/\g<(d:Int)then if 0<=i64.wrap B/\i64.wrap B<C then if i64.wrap ((63:Int)-c)<0 then none else if 0<=g/\g<(d:Int)then Gv.Dl a b c d (A.set g.toNat (fU BinOp.or u64 (A.getD g.toNat 0) (u64.wrap (u64.wrap (a.getD (i64.wrap B).toNat 0*(2:Int))*(↑((2:Nat)^min (i64.wrap ((63:Int)-c)).toNat 64):Int))))) f (i64.wrap (g+1))else none else none else none) (Gv.Dl a b c d A f (i64.wrap (g+1)))else none else none) (aO (M6.bN e/\e.length<=1099511627776) (some [D.s (ints u64 (bif dO.oM (M6.val e)then M6.dg (M6.val e)else [])),D.s (sc (int i64 (bif dO.oM (M6.val e)then(0:Int)else(5:Int))))])):=lJ aU
theorem aAC(a:List Int)(q i:Nat):(a.drop q).getD i 0=a.getD (q+i) 0:=by
 simp[cCQ,bXV]
theorem high{x k:Nat}(h:k<64):x*2^(64-k)%18446744073709551616=2^(64-k)*(x%2^k):=by
 rw[show(18446744073709551616:Nat)=2^(64-k)*2^k from by rw[<-cCH,show 64-k+k=64 from by omega],cCI x,Nat.mul_mod_mul_left]
theorem step{a P:List Int}{q k i r:Nat}(ha:M6.bN a)(hP:P.length=i)(hk:k<64)(hl:a.length<=8192)(hr:q+i+(r+1)=a.length) :
  Dl a q k (a.length-q) (P ++ bZK (r+1) 0) ((a.length-q:Nat):Int) i =
   Dl a q k (a.length-q) ((P ++ [(((a.getD (q+i) 0).toNat/2^k+2^(64-k)*((a.getD (q+i+1) 0).toNat%2^k):Nat):Int)]) ++ bZK r 0) ((a.length-q:Nat):Int) ((i+1:Nat):Int):=by
 have g:=ha.get (q+i);have g1:=ha.get (q+i+1);have w1:i64.wrap ((q:Int)+i)=((q+i:Nat):Int):=by rw[wrap_i64];omega
 have w2:i64.wrap (((q+i:Nat):Int)+1)=((q+i+1:Nat):Int):=by rw[wrap_i64];omega
 have w3:i64.wrap (63-(k:Int))=((63-k:Nat):Int):=by rw[wrap_i64];omega
 have m1:min k 64=k:=by omega
 have m2:min (63-k) 64=63-k:=by omega
 have aUA:(a.getD (q+i) 0)/((2^k:Nat):Int)=(((a.getD (q+i) 0).toNat/2^k:Nat):Int):=by
  obtain⟨x,hx⟩:=cCM g.1;rw[hx,cBF,cDA]
 have Zv:(a.getD (q+i) 0).toNat/2^k<2^(64-k):=by
  apply cDC;rw[<-cCH,show k+(64-k)=64 from by omega];omega
 rw[qB,aR,w1,if_pos ⟨by omega,by omega⟩,bG,if_pos ⟨by omega,by omega⟩,w2,w3,wrap_i64 (n:=(i:Int)+1),
  cBF,cBF,cBF,cBF,cBF,m1,m2,cCV,Hk hP,Hx hP,aUA]
 by_cases hn:q+i+1<a.length
 ·rw[aR,if_pos ⟨by omega,by omega⟩,if_pos ⟨by omega,by omega⟩,bG,if_pos ⟨by omega,by omega⟩,Hk hP];have hw:u64.wrap (u64.wrap (a.getD (q+i+1) 0*2)*((2^(63-k):Nat):Int))=((2^(64-k)*((a.getD (q+i+1) 0).toNat%2^k):Nat):Int):=by
   obtain⟨x,hx⟩:=cCM g1.1;have aDK:u64.wrap ((x:Int)*2)=((x*2%18446744073709551616:Nat):Int):=by rw[gA];omega
   have bII:∀p:Nat,u64.wrap (((x*2%18446744073709551616:Nat):Int)*(p:Int))=((x*2*p%18446744073709551616:Nat):Int):=by
    intro p;rw[gA,<-cDY,show(18446744073709551616:Int)=((18446744073709551616:Nat):Int)from rfl,<-cED,cDW,Nat.mod_mod,<-cDW]
   rw[hx,aDK,bII,cBF,<-high hk,show 64-k=(63-k)+1 from by omega,cCK,cCN,cCI 2]
  have hh:2^(64-k)*((a.getD (q+i+1) 0).toNat%2^k)<18446744073709551616:=by rw[<-high hk];exact bZR _ (by omega)
  have bKZ:2^(64-k)<=2^64:=fM;have bDA:fU .or .u64 (((a.getD (q+i) 0).toNat/2^k:Nat):Int) ((2^(64-k)*((a.getD (q+i+1) 0).toNat%2^k):Nat):Int)=(((a.getD (q+i) 0).toNat/2^k+2^(64-k)*((a.getD (q+i+1) 0).toNat%2^k):Nat):Int):=by
   have:=Sl (n:=(a.getD (q+i+1) 0).toNat%2^k) Zv;rw[<-this];generalize 2^(64-k)*((a.getD (q+i+1) 0).toNat%2^k)=Y at *;generalize (a.getD (q+i) 0).toNat/2^k=X at *;generalize 2^(64-k)=p at *;rw[aQF (by omega) (by omega) (by omega) (by omega),cBF,cBF]
  rw[hw,bDA,bYY,cEI];rfl
 ·rw[aN,M6.getD_none (a:=a) (n:=q+i+1) (by omega),show((0:Int).toNat%2^k)=0 from Nat.zero_mod _,cEB,bYI,bYY,cEI];rfl
theorem L{a:List Int}{q k:Nat}(ha:M6.cI a)(hl:a.length<=8192)(hq:q<a.length)(hk:k<64):∀(r i:Nat) (P:List Int),q+i+r=a.length->P.length=i->M6.bN P ->
  2^k*M6.val P+(a.getD q 0).toNat%2^k=M6.val ((a.drop q).take i)+18446744073709551616^i*((a.getD (q+i) 0).toNat%2^k) ->
  Dl a q k (a.length-q) (P ++ bZK r 0) ((a.length-q:Nat):Int) i=some [D.s (.ints .u64 (M6.dg (M6.val (a.drop q)/2^k))),D.s (.sc (.int .i64 0))]:=by
 intro r;have bCX:0<2^k:=cB
 induction r with
 |zero =>
  intro i P hi hP hd hv;rw[M6.getD_none (a:=a) (n:=q+i) (by omega),show((0:Int).toNat%2^k)=0 from Nat.zero_mod _,cEB,bYI,M6.cA (by rw[cEY];omega)]at hv;have bNF:M6.val P=M6.val (a.drop q)/2^k:=by
   rw[<-hv,Nat.mul_add_div bCX,cCW (bZR _ bCX),bYI]
  have Wo:dO.oM (M6.val (a.drop q)/2^k)=true:=by
   refine decide_eq_true ?_;rw[<-bNF];have:=M6.lW hd;omega
  rw[cEA,cAG,qB,aN,gP ⟨hd,by omega⟩,bNF,Wo];rfl
 |succ r ih =>
  intro i P hi hP hd hv;have g:=ha.gT.get (q+i);have Zv:(a.getD (q+i) 0).toNat/2^k<2^(64-k):=by
   apply cDC;rw[<-cCH,show k+(64-k)=64 from by omega];omega
  have aGM:2^(64-k)*2^k=18446744073709551616:=by rw[<-cCH,show 64-k+k=64 from by omega]
  have hs:(a.getD (q+i) 0).toNat/2^k+2^(64-k)*((a.getD (q+i+1) 0).toNat%2^k)<18446744073709551616:=by
   have hm:(a.getD (q+i+1) 0).toNat%2^k<2^k:=bZR _ bCX;have h3:2^(64-k)*((a.getD (q+i+1) 0).toNat%2^k+1)<=2^(64-k)*2^k:=bZW _ hm;rw[aGM,cCO]at h3;omega
  rw[step ha.gT hP hk hl (by omega)];refine ih (i+1) _ (by omega) (by simp[hP]) (M6.kU hd ⟨Int.natCast_nonneg _,by have:=Int.ofNat_lt.2 hs;exact this⟩) ?_;rw[M6.kR,hP,M6.bR,aAC,cBF,<-cAY q i 1,cCO,cEX,hv];have hx:=cCS (a.getD (q+i) 0).toNat (2^k);generalize (a.getD (q+i) 0).toNat=x at *;generalize (a.getD (q+i+1) 0).toNat%2^k=y at *;generalize M6.val ((a.drop q).take i)=v at *;have e1:2^k*(18446744073709551616^i*(x/2^k+2^(64-k)*y))=18446744073709551616^i*(2^k*(x/2^k))+18446744073709551616^(i+1)*y:=by
   rw[cCK];generalize (18446744073709551616^i)=B;rw[cEJ,cCO,<-cCN (2^k) (2^(64-k)),cCI (2^k) (2^(64-k)),aGM,cCO,cCN B]
  rw[e1];have e2:18446744073709551616^i*x=18446744073709551616^i*(2^k*(x/2^k))+18446744073709551616^i*(x%2^k):=by rw[<-cCO,hx]
  rw[e2];omega
def sp(a:List Int)(n:Int):Prop×List D:=(M6.cI a/\a.length<=8192/\0<=n/\n<4611686018427387904,[.s (.ints .u64 (M6.dg (M6.val a/2^n.toNat))),.s (.sc (.int .i64 0))])
theorem spec:Ok E f106 aF (pI .u64) (pN .i64) sp:=by
 rintro a n ⟨ha,hl,h0,h1⟩;have e:=start a n;have eq:n/64=((n.toNat/64:Nat):Int):=by omega
 have ek:n%64=((n.toNat%64:Nat):Int):=by omega
 rw[aN,gP,gV.pD ha hl,bZH,bF,aIT h0,aIN h0,wrap_i64 (n:=n/64),eq,ek]at e;unfold sp;simp only;rw[Mb,<-cCT];generalize hqq:n.toNat/64=q at *;have hk:n.toNat%64<64:=bZR _ (by omega);generalize n.toNat%64=k at *
 by_cases hz:a.length<=q
 ·have hv:M6.val a/18446744073709551616^q=0:=cCW (bYH (M6.cR ha.gT) (cAI (by omega) hz));rw[aR]at e;rw[hv,cEK,M6.cG];exact⟨_,e,.cons (De.nil _) (iV.refl _)⟩
 ·have hval:M6.val a/18446744073709551616^q=M6.val (a.drop q):=by
   rw[M6.eZ a (n:=q) (by omega),cDI _ _ (cB),cCW (M6.fR ha.gT _),bXL]
  have w:i64.wrap ((a.length:Int)-(q:Int))=((a.length-q:Nat):Int):=by rw[wrap_i64];omega
  rw[aN,w,if_pos ⟨by omega,by omega,by omega⟩,cBF]at e;have:=L (q:=q) (k:=k) ha hl (by omega) hk (a.length-q) 0 [] (by omega) rfl M6.lB (by simp[M6.val]);rw[hval];exact⟨_,e.trans this,iV.refl _⟩
def aJ:dG:=orc2 (pI .u64) (pN .i64) sp
theorem ok:OK 106 aJ:=(dZ E aF (aA gV.ok (aA dO.ok aE)) func106).aHY rfl spec
end Gv
namespace mD
def E:=mE [(104,fY.aJ),(105,Ez.aJ),(106,Gv.aJ)] 55 [] [(8,[1,2,4,6])] [8]
def aF:=bd f67
theorem aU:Nk E aF:=nk
def J8 a b c d e f:=lE E f67 aF 8 [bK a,bM 1 33 [bC b,eF c],bM 2 35 [bC d,sc (slice none 0 0),cV e],bK f]
theorem start a c b:aG E f67 aF [D.agg [sc (bool a),ints u64 c],D.s (sc (int i64 b))]=letI G:=bool false;letI F:=int i64 0;letI C:=slice none 0 0;letI B:=(↑(tz (M6.val c)):Int);letI A:=some [D.agg [sc G,sc C,sc F],D.s (sc (int i64 5))];aO (c.length<=1099511627776) (aD (!fY.pS (a,c)) (some [D.agg [sc G,sc C,sc F],D.s (sc (int i64 2))]) (aD ((c.length:Int)==(0:Int)) (some [D.agg [sc G,sc C,sc F],D.s (sc F)]) (aO (M6.bN c/\c.length<=1099511627776) (aD (decide (1048576<b)) A (aD (decide (b<(-1572864:Int))) A (aD (decide (i64.wrap (b+B)<(-1048576:Int))) A (aD (decide (1048576<i64.wrap (b+B))) A (mD.J8 b a c false 0 B)))))))):=eJ aU
theorem Am a b c d e f:J8 a b c d e f=aO (M6.cI c/\c.length<=8192/\0<=f/\f<4611686018427387904) (some [D.agg [sc (bool b),ints u64 (M6.dg (M6.val c/(2:Nat)^f.toNat)),sc (int i64 (i64.wrap (a+f)))],D.s (sc (int i64 0))]):=cJ aU
def sp(x:Bool×List Int)(e:Int):Prop×List D:=(iY x/\-9223372036854775808<=e/\e<9223372036854775808,dE (jD (wv x) e) (bV (wv x) e))
theorem tR(p:Int×Int):iV [D.agg [.sc (.bool false),.sc (.slice none 0 0),.sc (.int .i64 0)],.s (.sc (.int .i64 5))] (dE false p):=by
 refine .cons ?_ (iV.refl _);show De _ (M.dD (0,0));unfold dD;rw[show((0,0):Int×Int).1.natAbs=0 from rfl,M6.cG];exact De.agg (.cons (Ew.refl _) (.cons (Ew.nil _) (Ae.refl _)))
theorem spec:Ok E f67 aF qN (pN .i64) sp:=by
 rintro x e ⟨hw,h1,h2⟩;have s:=start x.1 x.2 e;have hl:=hw.len;have hf:=fY.mM hw;have hb:=hw.bl;obtain⟨b,a⟩:=x;have hn:M6.cI a:=hw.1
 try dsimp only at *
 unfold sp
 try dsimp only
 rw[gP,hf,bZH,bF]at s;have aLL:=iT (b,a)
 try dsimp only at aLL
 by_cases hz:a.length=0
 ·have hv:=(M6.cX hn).1 hz;have Zr:wv (b,a)=0:=by omega
  rw[cL]at s;refine⟨_,s,?_⟩;rw[Zr];refine .cons ?_ (iV.refl _);show De _ (M.dD (0,0));unfold dD;rw[show((0,0):Int×Int).1.natAbs=0 from rfl,M6.cG];exact De.agg (.cons (Ew.refl _) (.cons (Ew.nil _) (Ae.refl _)))
 ·have hv:M6.val a≠0:=fun h=>hz ((M6.cX hn).2 h)
  have Zr:wv (b,a)≠0:=by omega
  have ht:=Qg hv;have hs:=yT _ hv;have Cw:∀p:Bool,(p=(decide (-1048576<=e+(tz (M6.val a):Nat))&&decide (e+(tz (M6.val a):Nat)<=1048576)))->jD (wv (b,a)) e=p:=by
   intro p hp;unfold jD;rw[aLL,decide_eq_false Zr,bZI,hp]
  rw[cO,gP ⟨hn.gT,by omega⟩]at s
  by_cases c1:1048576<e
  ·rw[aR c1]at s;rw[Cw false (by rw[decide_eq_false (show ¬(e+(tz (M6.val a):Nat)<=1048576) by omega),cDB])];exact⟨_,s,tR _⟩
  ·rw[aN c1]at s
   by_cases c2:e < -1572864
   ·rw[aR c2]at s;rw[Cw false (by rw[decide_eq_false (show ¬(-1048576<=e+(tz (M6.val a):Nat)) by omega),cCU])];exact⟨_,s,tR _⟩
   ·have w:i64.wrap (e+(tz (M6.val a):Int))=e+(tz (M6.val a):Int):=wrap_i64;rw[aN c2,w]at s
    by_cases c3:e+(tz (M6.val a):Int) < -1048576
    ·rw[aR c3]at s;rw[Cw false (by rw[decide_eq_false (show ¬(-1048576<=e+(tz (M6.val a):Nat)) by omega),cCU])];exact⟨_,s,tR _⟩
    ·rw[aN c3]at s
     by_cases c4:1048576<e+(tz (M6.val a):Int)
     ·rw[aR c4]at s;rw[Cw false (by rw[decide_eq_false (show ¬(e+(tz (M6.val a):Nat)<=1048576) by omega),cDB])];exact⟨_,s,tR _⟩
     ·rw[aN c4,Am,gP ⟨hn,hl,by omega,by omega⟩,w,cBF]at s;rw[Cw true (by rw[decide_eq_true (show(e+(tz (M6.val a):Nat)<=1048576) by omega),decide_eq_true (show(-1048576<=e+(tz (M6.val a):Nat)) by omega)];rfl)];refine⟨_,s,?_⟩;have:bV (wv (b,a)) e=(zs b (M6.val a/2^tz (M6.val a)),e+(tz (M6.val a):Nat)):=by
       unfold bV;rw[if_neg Zr,aLL];have:=aVE (b:=b) (cAH (n:=tz (M6.val a)) (show 0<2 by decide)) hs.1;rw[<-this];rfl
      rw[this];have hq:M6.val a/2^tz (M6.val a)≠0:=by omega
      show iV _ [M.dD (zs b (M6.val a/2^tz (M6.val a)),e+(tz (M6.val a):Nat)),_];unfold dD
      try dsimp only
      rw[Lc,nA,decide_eq_true hq,Bool.and_true];exact iV.refl _
def aJ:dG:=orc2 qN (pN .i64) sp
theorem ok:OK 67 aJ:=(dZ E aF (aA fY.ok (aA Ez.ok (aA Gv.ok aE))) func67).aHY rfl spec
end mD
namespace bY
def E:=mE [(84,oR.aJ),(91,pO.aJ),(90,Pd.aJ),(99,Ir.aJ),(100,Gw.aJ),(67,mD.aJ)] 79 [44,67,76] [(7,[2,3,4]),(12,[4,6,7,9])] [7,12]
def aF:=bd f61
theorem aU:Nk E aF:=nk
def J7 a b c d e f g h:=lE E f61 aF 7 [bM 0 35 [bC a,eF b,cV c],bM 1 35 [bC d,eF e,cV f],bM 2 35 [bC g,sc (slice none 0 0),cV h]]
def bPT a b c d e f g:=lE E f61 aF 12 [bM 0 35 [bC a,sc (slice none 0 0),cV b],bK c,bM 2 33 [bC d,eF e],bM 3 33 [bC f,eF g]]
theorem start a b c d e f:aG E f61 aF [D.agg [sc (bool a),ints u64 b,sc (int i64 c)],D.agg [sc (bool d),ints u64 e,sc (int i64 f)]]=aO (aW (a,b,c)) (aO (aW (d,e,f)) (aO True (aD ((b.length:Int)==(0:Int)) (aO (e.length<=1099511627776) (some [D.agg [sc (bool d),ints u64 e,sc (int i64 f)],D.s (sc (int i64 0))])) (aO True (aD ((e.length:Int)==(0:Int)) (aO (b.length<=1099511627776) (some [D.agg [sc (bool a),ints u64 b,sc (int i64 c)],D.s (sc (int i64 0))])) (bY.J7 a b c d e f false 0)))))):=eJ aU
theorem Gy a b c d e f g h:J7 a b c d e f g h=letI G:=i64.wrap (c-if f<c then f else c);letI I:=M6.val b*(2:Nat)^G.toNat;letI F:=i64.wrap (f-if f<c then f else c);letI H:=M6.val e*(2:Nat)^F.toNat;letI C:=some [D.agg [sc (bool false),sc (slice none 0 0),sc (int i64 0)],D.s (sc (int i64 5))];letI B:=bif fit H then wv (d,e)*(↑((2:Nat)^F.toNat):Int)else(0:Int);letI A:=bif fit I then wv (a,b)*(↑((2:Nat)^G.toNat):Int)else(0:Int);aO (iY (a,b)/\0<=i64.wrap (c-if f<c then f else c)/\i64.wrap (c-if f<c then f else c)<4611686018427387904) (aO (iY (d,e)/\0<=i64.wrap (f-if f<c then f else c)/\i64.wrap (f-if f<c then f else c)<4611686018427387904) (aD ((bif fit I then(0:Int)else(5:Int)) !=0) C (aD ((bif fit H then(0:Int)else(5:Int)) !=0) C (bY.bPT g h (if f<c then f else c) (isNeg A) (M6.dg A.natAbs) (isNeg B) (M6.dg B.natAbs))))):=cJ aU
theorem aZZ a b c d e f g:bPT a b c d e f g=letI G:=wv (d,e)+wv (f,g);letI F:=bif fit G.natAbs then(0:Int)else(5:Int);letI C:=bif fit G.natAbs then wv (d,e)+wv (f,g)else(0:Int);letI A:=(isNeg C,M6.dg C.natAbs);letI B:=bif jD (wv A) c then bV (wv A) c else((0:Int),(0:Int));aO (iY (d,e)/\iY (f,g)) (aD (F !=0) (some [D.agg [sc (bool false),sc (slice none 0 0),sc (int i64 0)],D.s (sc (int i64 F))]) (aO (iY A/\(-9223372036854775808:Int)<=c/\c<9223372036854775808) (some [D.agg [sc (bool (isNeg B.fst)),ints u64 (M6.dg B.fst.natAbs),sc (int i64 B.snd)],D.s (sc (int i64 (bif jD (wv A) c then(0:Int)else(5:Int))))]))):=cJ aU
def iP(p q:Int×Int):Int:=if q.2<p.2 then q.2 else p.2
def pK(p q:Int×Int):Int:=p.1*((2^(p.2-iP p q).toNat:Nat):Int)
def pJ(p q:Int×Int):Int:=q.1*((2^(q.2-iP p q).toNat:Nat):Int)
def kB(p q:Int×Int):Int×Int:=if p.1=0 then q else if q.1=0 then p else bV (pK p q+pJ p q) (iP p q)
def jG(p q:Int×Int):Bool:=decide (p.1=0)||(decide (q.1=0)||(fit (pK p q).natAbs&&(fit (pJ p q).natAbs&&(fit (pK p q+pJ p q).natAbs&&jD (pK p q+pJ p q) (iP p q)))))
def sp(x y:iW):Prop×List D:=(aW x/\aW y,dE (jG (dv x) (dv y)) (kB (dv x) (dv y)))
theorem spec:Ok E f61 aF jE jE sp:=by
 rintro x y ⟨hx,hy⟩;have s:=start x.1 x.2.1 x.2.2 y.1 y.2.1 y.2.2;have dx:=hx.dD;have dy:=hy.dD;have lx:=hx.len;have ly:=hy.len;have rx:=hx.2.1;have ry:=hy.2.1;have zx:=M6.cX hx.Fh;have zy:=M6.cX hy.Fh;have wx:=hx.Le;have wy:=hy.Le;obtain⟨b,a,e⟩:=x;obtain⟨c,d,f⟩:=y
 try dsimp only at *
 unfold sp
 try dsimp only
 have ax:=iT (b,a);have ay:=iT (c,d)
 try dsimp only at ax ay
 rw[gP hx,gP hy,gP trivial]at s
 by_cases h0:a.length=0
 ·have hw:(dv (b,a,e)).1=0:=by have:=zx.1 h0;show wv (b,a)=0;omega
  rw[cL,gP]at s;refine⟨_,s,?_⟩;unfold jG kB;rw[decide_eq_true hw,cDL,if_pos hw];show iV _ [M.dD (dv (c,d,f)),_];rw[dy];exact iV.refl _
 ·have hw:(dv (b,a,e)).1≠0:=by have:M6.val a≠0:=fun h=>h0 (zx.2 h);show wv (b,a)≠0;omega
  rw[cO,gP trivial]at s
  by_cases g0:d.length=0
  ·have hv:(dv (c,d,f)).1=0:=by have:=zy.1 g0;show wv (c,d)=0;omega
   rw[cL,gP]at s;refine⟨_,s,?_⟩;unfold jG kB;rw[decide_eq_false hw,bZI,decide_eq_true hv,cDL,if_neg hw,if_pos hv];show iV _ [M.dD (dv (b,a,e)),_];rw[dx];exact iV.refl _
  ·have hv:(dv (c,d,f)).1≠0:=by have:M6.val d≠0:=fun h=>g0 (zy.2 h);show wv (c,d)≠0;omega
   have i1:iP (dv (b,a,e)) (dv (c,d,f))<=e/\iP (dv (b,a,e)) (dv (c,d,f))<=f/\-1048576<=iP (dv (b,a,e)) (dv (c,d,f)):=by
    unfold iP dv
    try dsimp only
    split <;> omega
   have u1:i64.wrap (e-iP (dv (b,a,e)) (dv (c,d,f)))=e-iP (dv (b,a,e)) (dv (c,d,f)):=wrap_i64;have u2:i64.wrap (f-iP (dv (b,a,e)) (dv (c,d,f)))=f-iP (dv (b,a,e)) (dv (c,d,f)):=wrap_i64;have e1:(if f<e then f else e)=iP (dv (b,a,e)) (dv (c,d,f)):=rfl;have f1:M6.val a*2^(e-iP (dv (b,a,e)) (dv (c,d,f))).toNat=(pK (dv (b,a,e)) (dv (c,d,f))).natAbs:=by
    show _=(wv (b,a)*_).natAbs;rw[cDE,ax,cDF];rfl
   have f2:M6.val d*2^(f-iP (dv (b,a,e)) (dv (c,d,f))).toNat=(pJ (dv (b,a,e)) (dv (c,d,f))).natAbs:=by
    show _=(wv (c,d)*_).natAbs;rw[cDE,ay,cDF];rfl
   have f3:wv (b,a)*((2^(e-iP (dv (b,a,e)) (dv (c,d,f))).toNat:Nat):Int)=pK (dv (b,a,e)) (dv (c,d,f)):=rfl;have f4:wv (c,d)*((2^(f-iP (dv (b,a,e)) (dv (c,d,f))).toNat:Nat):Int)=pJ (dv (b,a,e)) (dv (c,d,f)):=rfl;rw[cO,Gy,e1,u1,u2]at s
   try dsimp only at s
   rw[f1,f2,f3,f4,gP ⟨wx,by omega,by omega⟩,gP ⟨wy,by omega,by omega⟩]at s;have ao:jG (dv (b,a,e)) (dv (c,d,f))=(fit (pK (dv (b,a,e)) (dv (c,d,f))).natAbs&&(fit (pJ (dv (b,a,e)) (dv (c,d,f))).natAbs&&(fit (pK (dv (b,a,e)) (dv (c,d,f))+pJ (dv (b,a,e)) (dv (c,d,f))).natAbs&&jD (pK (dv (b,a,e)) (dv (c,d,f))+pJ (dv (b,a,e)) (dv (c,d,f))) (iP (dv (b,a,e)) (dv (c,d,f)))))):=by
    unfold jG;rw[decide_eq_false hw,bZI,decide_eq_false hv,bZI]
   have ad:kB (dv (b,a,e)) (dv (c,d,f))=bV (pK (dv (b,a,e)) (dv (c,d,f))+pJ (dv (b,a,e)) (dv (c,d,f))) (iP (dv (b,a,e)) (dv (c,d,f))):=by
    unfold kB;rw[if_neg hw,if_neg hv]
   rw[ao,ad];generalize pK (dv (b,a,e)) (dv (c,d,f))=X at *;generalize pJ (dv (b,a,e)) (dv (c,d,f))=Y at *;generalize iP (dv (b,a,e)) (dv (c,d,f))=k at *;cases c1:fit X.natAbs with
   |false =>
    rw[c1,cond_false,nD]at s;rw[cCU];exact⟨_,s,mD.tR _⟩
   |true =>
    rw[c1,cond_true,gG rfl]at s;cases c2:fit Y.natAbs with
    |false =>
     rw[c2,cond_false,nD]at s;rw[cCU,cDB];exact⟨_,s,mD.tR _⟩
    |true =>
     rw[c2,cond_true,gG rfl,aZZ,gP ⟨gY (zG c1),gY (zG c2)⟩]at s
     try dsimp only[cond_true]at s
     rw[tB,tB]at s;cases c3:fit (X+Y).natAbs with
     |false =>
      rw[c3]at s
      try dsimp only[cond_false]at s
      rw[nD]at s;rw[cCU,cDB,cDB];exact⟨_,s,mD.tR _⟩
     |true =>
      rw[c3]at s
      try dsimp only[cond_true]at s
      rw[gG rfl,gP ⟨gY (zG c3),by omega,by omega⟩,tB]at s;rw[cAJ,cAJ,cAJ];exact⟨_,s,iV.refl _⟩
def aJ:dG:=orc2 jE jE sp
theorem ok:OK 61 aJ:=(dZ E aF (aA oR.ok (aA pO.ok (aA Pd.ok (aA Ir.ok (aA Gw.ok (aA mD.ok aE)))))) func61).aHY rfl spec
end bY
namespace xI
def E:=mE [(84,oR.aJ),(91,pO.aJ),(90,Pd.aJ)] 45 [] [(7,[1,2,4])] [7]
def aF:=bd f88
theorem aU:Nk E aF:=nk
def J7 a b c d e f:=lE E f88 aF 7 [bK a,bM 1 35 [bC b,eF c,cV d],bM 2 35 [bC e,sc (slice none 0 0),cV f]]
theorem start a c d b:aG E f88 aF [D.agg [sc (bool a),ints u64 c,sc (int i64 d)],D.s (sc (int i64 b))]=letI B:=int i64 0;letI A:=some [D.agg [sc (bool false),sc (slice none 0 0),sc B],D.s (sc (int i64 5))];aO (aW (a,c,d)) (aO True (aD ((c.length:Int)==(0:Int)) (some [D.agg [sc (bool false),sc (slice none 0 0),sc B],D.s (sc B)]) (aD (decide (2097152<b)) A (aD (decide (b<(-2097152:Int))) A (aD (decide (1048576<i64.wrap (d+b))) A (aD (decide (i64.wrap (d+b)<(-1048576:Int))) A (xI.J7 b a c d false 0))))))):=eJ aU
theorem Gy a b c d e f:J7 a b c d e f=aO (c.length<=1099511627776) (some [D.agg [sc (bool b),ints u64 c,sc (int i64 (i64.wrap (d+a)))],D.s (sc (int i64 0))]):=cJ aU
def bAJ(p:Int×Int)(n:Int):Int×Int:=if p.1=0 then(0,0)else(p.1,p.2+n)
def Zd(p:Int×Int)(n:Int):Bool:=decide (p.1=0)||(decide (-1048576<=p.2+n)&&decide (p.2+n<=1048576))
def sp(x:iW)(n:Int):Prop×List D:=(aW x/\-9223372036854775808<=n/\n<9223372036854775808,dE (Zd (dv x) n) (bAJ (dv x) n))
theorem spec:Ok E f88 aF jE (pN .i64) sp:=by
 rintro x n ⟨h,h1,h2⟩;have hl:=h.len;have hd:=h.dD;have hr:=h.2.1;have s:=start x.1 x.2.1 x.2.2 n;obtain⟨b,a,e⟩:=x
 try dsimp only at *
 unfold sp
 try dsimp only
 have hz:=M6.cX h.Fh;have ha:=iT (b,a)
 try dsimp only at ha hz
 rw[gP h,gP trivial]at s
 by_cases h0:a.length=0
 ·have hw:(dv (b,a,e)).1=0:=by have:=hz.1 h0;show wv (b,a)=0;omega
  rw[cL]at s;refine⟨_,s,?_⟩;unfold Zd bAJ;rw[decide_eq_true hw,cDL,if_pos hw];refine .cons ?_ (iV.refl _);show De _ (M.dD (0,0));unfold M.dD;rw[show((0,0):Int×Int).1.natAbs=0 from rfl,M6.cG];exact De.agg (.cons (Ew.refl _) (.cons (Ew.nil _) (Ae.refl _)))
 ·have hw:(dv (b,a,e)).1≠0:=by have:M6.val a≠0:=fun h=>h0 (hz.2 h);show wv (b,a)≠0;omega
  have Cw:∀p:Bool,(p=(decide (-1048576<=e+n)&&decide (e+n<=1048576)))->Zd (dv (b,a,e)) n=p:=by
   intro p hp;unfold Zd;rw[decide_eq_false hw,bZI,hp];rfl
  rw[cO]at s
  by_cases c1:2097152<n
  ·rw[aR c1]at s;rw[Cw false (by rw[decide_eq_false (show ¬(e+n<=1048576) by omega),cDB])];exact⟨_,s,mD.tR _⟩
  ·rw[aN c1]at s
   by_cases c2:n < -2097152
   ·rw[aR c2]at s;rw[Cw false (by rw[decide_eq_false (show ¬(-1048576<=e+n) by omega),cCU])];exact⟨_,s,mD.tR _⟩
   ·have w:i64.wrap (e+n)=e+n:=wrap_i64;rw[aN c2,w]at s
    by_cases c3:1048576<e+n
    ·rw[aR c3]at s;rw[Cw false (by rw[decide_eq_false (show ¬(e+n<=1048576) by omega),cDB])];exact⟨_,s,mD.tR _⟩
    ·rw[aN c3]at s
     by_cases c4:e+n < -1048576
     ·rw[aR c4]at s;rw[Cw false (by rw[decide_eq_false (show ¬(-1048576<=e+n) by omega),cCU])];exact⟨_,s,mD.tR _⟩
     ·rw[aN c4,Gy]at s
      try dsimp only at s
      rw[gP,w]at s;rw[Cw true (by rw[decide_eq_true (show(e+n<=1048576) by omega),decide_eq_true (show(-1048576<=e+n) by omega)];rfl)];refine⟨_,s,?_⟩;unfold bAJ;rw[if_neg hw];have hc:=h.Le.cells;show iV _ [M.dD (wv (b,a),e+n),_];unfold M.dD
      try dsimp only
      rw[hc.1,hc.2];exact iV.refl _
def aJ:dG:=orc2 jE (pN .i64) sp
theorem ok:OK 88 aJ:=(dZ E aF (aA oR.ok (aA pO.ok (aA Pd.ok aE))) func88).aHY rfl spec
end xI
namespace aNP
def E:=mE [(131,yK.aJ)] 11 [] [] []
def aF:=bd f125
theorem aU:Nk E aF:=nk
theorem start a b:aG E f125 aF [D.agg [sc (bool a),ints u64 b]]=aO (M6.bN b/\b.length<=1099511627776) (aD ((↑(bl (M6.val b)):Int)==(0:Int)) (some [D.s (sc (int i64 0))]) (aD a (some [D.s (sc (int i64 (-1:Int)))]) (some [D.s (sc (int i64 1))]))):=eJ aU
def sp(x:Bool×List Int):Prop×List D:=(iY x,[.s (.sc (.int .i64 (cT (wv x) 0)))])
theorem spec:iD E f125 aF qN sp:=by
 intro x h;refine(start x.1 x.2).trans ?_;have h:iY x:=h;have hl:=h.len;obtain⟨h1,h2,h3⟩:=h;unfold sp;simp only;rw[gP ⟨h1.gT,by omega⟩]
 by_cases hz:M6.val x.2=0
 ·rw[hz,wV,cL (a:=((0:Nat):Int)) (b:=0) rfl];cases hx:x.1 with
  |true=>exact(h2 hx hz).elim
  |false=>rw[Hd hx,hz];rfl
 ·have:=oO hz;rw[cO];cases hx:x.1 with
  |true=>rw[bT,Rp hx];unfold cT;rw[aT]
  |false=>rw[bF,Hd hx];unfold cT;rw[bG,aT]
def aJ:dG:=orc1 qN sp
theorem ok:OK 125 aJ:=(dZ E aF (aA yK.ok aE) func125).oS rfl spec
end aNP
namespace aOG
def E:=mE [(131,yK.aJ)] 11 [] [] []
def aF:=bd f127
theorem aU:Nk E aF:=nk
theorem start a b c:aG E f127 aF [D.agg [sc (bool a),ints u64 b,sc (int i64 c)]]=aO (M6.bN b/\b.length<=1099511627776) (some [D.s (sc (int i64 (i64.wrap (i64.wrap (c+(↑(bl (M6.val b)):Int))-1))))]):=eJ aU
def sp(x:iW):Prop×List D:=(aW x,[.s (.sc (.int .i64 (x.2.2+(bl (M6.val x.2.1):Nat)-1)))])
theorem spec:iD E f127 aF jE sp:=by
 intro x h;have h:aW x:=h;have hl:=h.len;have hb:=h.Le.bl;refine(start x.1 x.2.1 x.2.2).trans ?_;have he:=h.2.1
 try dsimp only at hb
 rw[gP ⟨h.Fh.gT,by omega⟩,wrap_i64 (n:=x.2.2+_),wrap_i64];rfl
def aJ:dG:=orc1 jE sp
theorem ok:OK 127 aJ:=(dZ E aF (aA yK.ok aE) func127).oS rfl spec
end aOG
namespace aOH
def E:=mE [(127,aOG.aJ),(132,mF.aJ),(139,Ce.aJ)] 54 [53] [] []
def aF:=bd f126
theorem aU:Nk E aF:=nk
theorem start a b c d e f:aG E f126 aF [D.agg [sc (bool a),ints u64 b,sc (int i64 c)],D.agg [sc (bool d),ints u64 e,sc (int i64 f)]]=letI H:=(↑(bl (M6.val e)):Int);letI G:=(↑(bl (M6.val b)):Int);letI F:=i64.wrap (c-if f<c then f else c);letI C:=i64.wrap (f-if f<c then f else c);letI B:=bif mF.kT (M6.val e) C.toNat then M6.dg (M6.val e*(2:Nat)^C.toNat)else [];letI A:=bif mF.kT (M6.val b) F.toNat then M6.dg (M6.val b*(2:Nat)^F.toNat)else [];aO (aW (a,b,c)) (aO (aW (d,e,f)) (aD (decide (c+G-(1:Int)<f+H-(1:Int))) (some [D.s (sc (int i64 (-1:Int)))]) (aD (decide (f+H-(1:Int)<c+G-(1:Int))) (some [D.s (sc (int i64 1))]) (aO (M6.cI b/\b.length<=8192/\0<=i64.wrap (c-if f<c then f else c)/\i64.wrap (c-if f<c then f else c)<4611686018427387904) (aO (M6.cI e/\e.length<=8192/\0<=i64.wrap (f-if f<c then f else c)/\i64.wrap (f-if f<c then f else c)<4611686018427387904) (aO (M6.bN A/\M6.bN B/\A.length<=1099511627776/\B.length<=1099511627776) (some [D.s (sc (int i64 (iS (M6.val A) (M6.val B))))]))))))):=eJ aU
def sp(x y:iW):Prop×List D:=((aW x/\aW y)/\x.2.1.length≠0/\y.2.1.length≠0,[.s (.sc (.int .i64 (iS (bY.pK (dv x) (dv y)).natAbs (bY.pJ (dv x) (dv y)).natAbs)))])
theorem spec:eR E f126 aF jE jE sp:=by
 rintro x y ⟨⟨hx,hy⟩,h0,g0⟩;refine(start x.1 x.2.1 x.2.2 y.1 y.2.1 y.2.2).trans ?_;have lx:=hx.len;have ly:=hy.len;have nx:=hx.Fh;have ny:=hy.Fh;have bx:=hx.Le.bl;have bWJ:=hy.Le.bl
 have rx:=hx.2.1;have ry:=hy.2.1;obtain⟨b,a,e⟩:=x;obtain⟨c,d,f⟩:=y
 try dsimp only at *
 unfold sp
 try dsimp only
 have ax:=iT (b,a);have ay:=iT (c,d)
 try dsimp only at ax ay
 have vx:M6.val a≠0:=fun h=>h0 ((M6.cX nx).2 h)
 have vy:M6.val d≠0:=fun h=>g0 ((M6.cX ny).2 h)
 rw[gP hx,gP hy];have i1:bY.iP (dv (b,a,e)) (dv (c,d,f))<=e/\bY.iP (dv (b,a,e)) (dv (c,d,f))<=f/\-1048576<=bY.iP (dv (b,a,e)) (dv (c,d,f))/\(bY.iP (dv (b,a,e)) (dv (c,d,f))=e\/bY.iP (dv (b,a,e)) (dv (c,d,f))=f):=by
  unfold bY.iP dv
  try dsimp only
  split <;> omega
 have u1:i64.wrap (e-bY.iP (dv (b,a,e)) (dv (c,d,f)))=e-bY.iP (dv (b,a,e)) (dv (c,d,f)):=wrap_i64;have u2:i64.wrap (f-bY.iP (dv (b,a,e)) (dv (c,d,f)))=f-bY.iP (dv (b,a,e)) (dv (c,d,f)):=wrap_i64;have e1:(if f<e then f else e)=bY.iP (dv (b,a,e)) (dv (c,d,f)):=rfl;have f1:(bY.pK (dv (b,a,e)) (dv (c,d,f))).natAbs=M6.val a*2^(e-bY.iP (dv (b,a,e)) (dv (c,d,f))).toNat:=by
  show(wv (b,a)*_).natAbs=_;rw[cDE,ax,cDF];rfl
 have f2:(bY.pJ (dv (b,a,e)) (dv (c,d,f))).natAbs=M6.val d*2^(f-bY.iP (dv (b,a,e)) (dv (c,d,f))).toNat:=by
  show(wv (c,d)*_).natAbs=_;rw[cDE,ay,cDF];rfl
 rw[f1,f2,e1,u1,u2];generalize bY.iP (dv (b,a,e)) (dv (c,d,f))=k at *;have m1:bl (M6.val a*2^(e-k).toNat)=(e-k).toNat+bl (M6.val a):=by rw[cCI,Ny vx]
 have m2:bl (M6.val d*2^(f-k).toNat)=(f-k).toNat+bl (M6.val d):=by rw[cCI,Ny vy]
 have lt:∀m n:Nat,bl m<bl n->m<n:=fun m n h=>Nat.lt_of_not_le fun hc=>by have:=fW hc;omega
 by_cases c1:e+(bl (M6.val a):Int)-1<f+(bl (M6.val d):Int)-1
 ·have:=lt (M6.val a*2^(e-k).toNat) (M6.val d*2^(f-k).toNat) (by rw[m1,m2];omega);rw[aR c1];unfold iS;rw[if_pos this]
 ·rw[aN c1]
  by_cases c2:f+(bl (M6.val d):Int)-1<e+(bl (M6.val a):Int)-1
  ·have:=lt (M6.val d*2^(f-k).toNat) (M6.val a*2^(e-k).toNat) (by rw[m1,m2];omega);rw[aR c2];unfold iS;rw[bG,if_pos this]
  ·have o1:mF.kT (M6.val a) (e-k).toNat=true:=by
    unfold mF.kT;rw[decide_eq_true (show bl (M6.val a)+(e-k).toNat<=524288 by omega),cDZ]
   have o2:mF.kT (M6.val d) (f-k).toNat=true:=by
    unfold mF.kT;rw[decide_eq_true (show bl (M6.val d)+(f-k).toNat<=524288 by omega),cDZ]
   have k1:=gD (n:=M6.val a*2^(e-k).toNat) (k:=8192) (by rw[m1];omega);have k2:=gD (n:=M6.val d*2^(f-k).toNat) (k:=8192) (by rw[m2];omega);rw[aN c2,gP ⟨nx,lx,by omega,by omega⟩,gP ⟨ny,ly,by omega,by omega⟩,o1,o2,cond_true,cond_true,gP ⟨M6.bZ _,M6.bZ _,by omega,by omega⟩,M6.bD,M6.bD]
def aJ:dG:=orc2 jE jE sp
theorem ok:OK 126 aJ:=(dZ E aF (aA aOG.ok (aA mF.ok (aA Ce.ok aE))) func126).jR rfl spec
end aOH
namespace Jx
def E:=mE [(84,oR.aJ),(125,aNP.aJ),(126,aOH.aJ)] 38 [] [(3,[2,3])] [3]
def aF:=bd f86
theorem aU:Nk E aF:=nk
def J3 a b c d e f:=lE E f86 aF 3 [bM 0 35 [bC a,eF b,cV c],bM 1 35 [bC d,eF e,cV f]]
theorem start a b c d e f:aG E f86 aF [D.agg [sc (bool a),ints u64 b,sc (int i64 c)],D.agg [sc (bool d),ints u64 e,sc (int i64 f)]]=aO (aW (a,b,c)) (aO (aW (d,e,f)) (Jx.J3 a b c d e f)):=eJ aU
theorem fB a b c d e f:J3 a b c d e f=letI B:=wv (a,b);letI A:=sc (int i64 0);aO (iY (a,b)) (aO (iY (d,e)) (aD (decide (cT B 0<cT (wv (d,e)) 0)) (some [D.s (sc (int i64 (-1:Int))),D.s A]) (aD (decide (cT (wv (d,e)) 0<cT B 0)) (some [D.s (sc (int i64 1)),D.s A]) (aD (cT B 0==(0:Int)) (some [D.s A,D.s A]) (aO ((aW (a,b,c)/\aW (d,e,f))/\b.length≠0/\e.length≠0) (some [D.s (sc (int i64 (i64.wrap (cT B 0*iS (bY.pK (dv (a,b,c)) (dv (d,e,f))).natAbs (bY.pJ (dv (a,b,c)) (dv (d,e,f))).natAbs)))),D.s A])))))):=cJ aU
def sp(x y:iW):Prop×List D:=(aW x/\aW y,[.s (.sc (.int .i64 (cT (bY.pK (dv x) (dv y)) (bY.pJ (dv x) (dv y))))),.s (.sc (.int .i64 0))])
theorem bMQ(z:Int)(P:Nat)(h:0<P):(0<z->0<z*(P:Int))/\(z<0->z*(P:Int)<0)/\(z=0->z*(P:Int)=0) :=
 ⟨fun hz=>Int.mul_pos hz (by omega),fun hz=>Int.mul_neg_of_neg_of_pos hz (by omega),fun hz=>by rw[hz,cEL]⟩
theorem cz(z:Int):(0<z/\cT z 0=1)\/(z<0/\cT z 0=-1)\/(z=0/\cT z 0=0):=by
 unfold cT
 by_cases h:z<0
 ·rw[if_pos h];omega
 ·rw[if_neg h]
  by_cases h':0<z
  ·rw[if_pos h'];omega
  ·rw[if_neg h'];omega
theorem spec:eR E f86 aF jE jE sp:=by
 rintro x y ⟨hx,hy⟩;refine(start x.1 x.2.1 x.2.2 y.1 y.2.1 y.2.2).trans ?_;have wx:=hx.Le;have wy:=hy.Le;have nx:=hx.Fh;have ny:=hy.Fh;obtain⟨b,a,e⟩:=x;obtain⟨c,d,f⟩:=y
 try dsimp only at *
 unfold sp
 try dsimp only
 have ax:=iT (b,a);have ay:=iT (c,d)
 try dsimp only at ax ay
 have zx:=M6.cX nx;have zy:=M6.cX ny;have sX:(0<wv (b,a)->0<bY.pK (dv (b,a,e)) (dv (c,d,f)))/\(wv (b,a)<0->bY.pK (dv (b,a,e)) (dv (c,d,f))<0)/\(wv (b,a)=0->bY.pK (dv (b,a,e)) (dv (c,d,f))=0):=bMQ _ _ (cAH (by decide));have sY:(0<wv (c,d)->0<bY.pJ (dv (b,a,e)) (dv (c,d,f)))/\(wv (c,d)<0->bY.pJ (dv (b,a,e)) (dv (c,d,f))<0)/\(wv (c,d)=0->bY.pJ (dv (b,a,e)) (dv (c,d,f))=0):=bMQ _ _ (cAH (by decide));rw[gP hx,gP hy,fB,gP wx,gP wy];have guard:wv (b,a)≠0->wv (c,d)≠0->(aW (b,a,e)/\aW (c,d,f))/\a.length≠0/\d.length≠0:=fun h1 h2=>⟨⟨hx,hy⟩,fun h=>h1 (by have:=zx.1 h;omega),fun h=>h2 (by have:=zy.1 h;omega)⟩
 generalize bY.pK (dv (b,a,e)) (dv (c,d,f))=X at *;generalize bY.pJ (dv (b,a,e)) (dv (c,d,f))=Y at *;have aZA:∀n:Int,cT X Y=n->some [D.s (.sc (.int .i64 n)),D.s (.sc (.int .i64 0))]=some [D.s (.sc (.int .i64 (cT X Y))),D.s (.sc (.int .i64 0))]:=fun n h=>by rw[h]
 rcases cz (wv (b,a))with ⟨h1,c1⟩ |⟨h1,c1⟩ |⟨h1,c1⟩ <;> rcases cz (wv (c,d))with ⟨h2,c2⟩ |⟨h2,c2⟩ |⟨h2,c2⟩ <;> rw[c1,c2]
 ·rw[aN,aN,cO,gP (guard (by omega) (by omega))];have:=sX.1 h1;have:=sY.1 h2;refine(congrArg (fun n=>some [D.s (.sc (.int .i64 n)),D.s (.sc (.int .i64 0))]) ?_);unfold iS cT;split <;> split <;> (try split) <;> (try split) <;> first |rfl |omega
 ·rw[aN,aR];refine aZA _ ?_;have:=sX.1 h1;have:=sY.2.1 h2;unfold cT;rw[bG,aT]
 ·rw[aN,aR];refine aZA _ ?_;have:=sX.1 h1;have:=sY.2.2 h2;unfold cT;rw[bG,aT]
 ·rw[aR];refine aZA _ ?_;have:=sX.2.1 h1;have:=sY.1 h2;unfold cT;rw[aT]
 ·rw[aN,aN,cO,gP (guard (by omega) (by omega))];have:=sX.2.1 h1;have:=sY.2.1 h2;refine(congrArg (fun n=>some [D.s (.sc (.int .i64 n)),D.s (.sc (.int .i64 0))]) ?_);unfold iS cT;split <;> split <;> (try split) <;> (try split) <;> first |rfl |omega
 ·rw[aR];refine aZA _ ?_;have:=sX.2.1 h1;have:=sY.2.2 h2;unfold cT;rw[aT]
 ·rw[aR];refine aZA _ ?_;have:=sX.2.2 h1;have:=sY.1 h2;unfold cT;rw[aT]
 ·rw[aN,aR];refine aZA _ ?_;have:=sX.2.2 h1;have:=sY.2.1 h2;unfold cT;rw[bG,aT]
 ·rw[aN,aN,cL rfl];refine aZA _ ?_;have:=sX.2.2 h1;have:=sY.2.2 h2;unfold cT;rw[bG,bG]
def aJ:dG:=orc2 jE jE sp
theorem ok:OK 86 aJ:=(dZ E aF (aA oR.ok (aA aNP.ok (aA aOH.ok aE))) func86).jR rfl spec
end Jx
end W
namespace M
open Go AI W
def p2(n:Int):Int:=((2^n.toNat:Nat):Int)
theorem Sj(k:Nat):p2 (k:Int)=((2^k:Nat):Int):=by unfold p2;rw[cBF]
theorem iR(e:Int):bV 0 e=(0,0):=by unfold bV;rw[if_pos rfl]
theorem sT{z e:Int}:(bV z e).1=0↔z=0:=by
 constructor
 ·intro h;unfold bV at h
  by_cases hz:z=0
  ·exact hz
  ·rw[if_neg hz]at h;dsimp only at h;have hs:=(yT z.natAbs (by omega)).1;have hd:((2^tz z.natAbs:Nat):Int)∣z:=Int.ofNat_dvd_left.2 (cEM hs);have:=cFR hd;rw[h,cEL]at this;omega
 ·rintro rfl;rw[iR]
theorem xT{z e:Int}(hz:z≠0):z=(bV z e).1*p2 (tz z.natAbs:Nat)/\(bV z e).2=e+(tz z.natAbs:Nat):=by
 unfold bV;rw[if_neg hz];dsimp only;have hs:=(yT z.natAbs (by omega)).1;have hd:((2^tz z.natAbs:Nat):Int)∣z:=Int.ofNat_dvd_left.2 (cEM hs);rw[Sj,cFR hd];exact⟨rfl,rfl⟩
theorem aQJ(z e:Int){k:Int}(hk:0<=k):bV (z*p2 k) e=bV z (e+k):=by
 obtain⟨n,rfl⟩:=cCM hk;rw[Sj]
 by_cases hz:z=0
 ·subst hz;rw[cEL,iR,iR]
 ·have hp:0<2^n:=cAH (by decide);have hn:z*((2^n:Nat):Int)≠0:=Int.mul_ne_zero hz (by omega);have ht:tz (z*((2^n:Nat):Int)).natAbs=n+tz z.natAbs:=by
   rw[cDE,cDF,cCI,Yt (by omega)]
  unfold bV;rw[if_neg hz,if_neg hn,ht,cCH,cDY,Int.mul_comm z,Int.mul_ediv_mul_of_pos _ _ (by omega)];congr 1;omega
theorem Qo{p:Int×Int}(h0:p.1=0->p.2=0)(h1:p.1≠0->p.1%2=1):bV p.1 p.2=p:=by
 unfold bV
 by_cases hz:p.1=0
 ·rw[if_pos hz];exact Prod.ext hz.symm (h0 hz).symm
 ·rw[if_neg hz,He (by have:=h1 hz;omega)];refine Prod.ext ?_ ?_
  ·show p.1/((2^0:Nat):Int)=p.1;rw[cEN];omega
  ·show p.2+((0:Nat):Int)=p.2;omega
theorem mU.same{p:Int×Int}(h:mU p):bV p.1 p.2=p:=Qo h.2.2.1 h.2.2.2
theorem Ml{z e:Int}(h:(bV z e).1≠0):(bV z e).1%2=1:=by
 have hz:z≠0:=fun hz=>h (sT.2 hz)
 have hs:=(yT z.natAbs (by omega));have hv:=(xT (e:=e) hz).1;have ha:z.natAbs=(bV z e).1.natAbs*2^tz z.natAbs:=by
  rw[Sj]at hv;have:=congrArg Int.natAbs hv;rwa [cDE,cDF]at this
 have:z.natAbs/2^tz z.natAbs=(bV z e).1.natAbs:=by
  have hp:0<2^tz z.natAbs:=cAH (by decide);generalize tz z.natAbs=t at *;rw[ha,Nat.mul_div_cancel _ hp]
 rw[this]at hs;omega
theorem Ek{z e:Int}(h:(bV z e).1=0):(bV z e).2=0:=by rw[sT.1 h,iR]
theorem wM{z e:Int}(hz:z≠0):e<=(bV z e).2:=by have:=(xT (e:=e) hz).2;omega
theorem Wa(z e:Int):bV (-z) e=(-(bV z e).1,(bV z e).2):=by
 by_cases hz:z=0
 ·subst hz;rw[Int.neg_zero,iR];rfl
 ·have h:=xT (e:=e) hz;unfold bV;rw[if_neg hz,bG,cFM];have hs:=(yT z.natAbs (by omega)).1;have hd:((2^tz z.natAbs:Nat):Int)∣z:=Int.ofNat_dvd_left.2 (cEM hs);rw[Int.neg_ediv_of_dvd hd]
theorem aQP{p q:Int×Int}:bY.iP p q<=p.2/\bY.iP p q<=q.2:=by unfold bY.iP;split <;> omega
theorem mS{z e:Int}(h1:-1048576<=e)(h2:e+(bl z.natAbs:Int)<=1048577):jD z e=true:=by
 unfold jD
 by_cases hz:z=0
 ·rw[decide_eq_true hz,cDL]
 ·have:=Qg (n:=z.natAbs) (by omega);rw[decide_eq_true (show -1048576<=e+(tz z.natAbs:Int) by omega),decide_eq_true (show e+(tz z.natAbs:Int)<=1048576 by omega),cAJ,cDZ]
theorem Wb(z e:Int):(bV z e).1.natAbs<=z.natAbs:=by
 unfold bV;split
 ·simp
 ·exact qI (cAH (by decide))
theorem jQ{z e:Int}(hi:jD z e=true)(hf:bl z.natAbs<=524288):mU (bV z e):=by
 refine⟨bYC (fW (Wb z e)) hf,?_,Ek,Ml⟩
 by_cases hz:z=0
 ·subst hz;rw[iR];exact⟨by show(-1048576:Int)<=0;omega,by show(0:Int)<=1048576;omega⟩
 ·rw[(xT hz).2];unfold jD at hi;rw[decide_eq_false hz,bZI,bXN]at hi;exact⟨of_decide_eq_true hi.1,of_decide_eq_true hi.2⟩
theorem aAP:bl (1:Int).natAbs<=1:=dX.2 (by decide)
theorem vl{α R:Type}(x:α)(k:α->Option R):aC x k=k x:=rfl
end M
namespace AI
open Go Go.RowKit
def allB:Nat->(Nat->Bool)->Bool
 |0,_=>true
 |n+1,f=>f n&&allB n f
theorem Yc{f:Nat->Bool}:∀{n:Nat},allB n f=true->∀i,i<n->f i=true
 |0,_,i,hi=>absurd hi (by omega)
 |n+1,h,i,hi=>by
  simp only[allB,bXN]at h
  by_cases hc:i=n
  ·subst hc;exact h.1
  ·exact Yc h.2 i (by omega)
def pR{β:Type}(p:SPar β)(d:β):oH (Nat×(Nat->β)) where
 put x:=.rows p.n x.1 fun i=>p.put (x.2 i)
 get
  | .rows sz n g=>if sz=p.n/\allB n (fun i=>(p.get (g i)).isSome)=true then some (n,fun i=>(p.get (g i)).getD d)else none
  |_=>none
 le:=by
  intro dd x h
  match dd,h with
  | .rows sz n g,h =>
   dsimp only at h;split at h
   ·rename_i hc;cases h;obtain⟨rfl,En⟩:=hc;rintro Y w v ⟨A,c,hv,hle,aWZ⟩;refine⟨A,c,hv,hle,fun i hi=>?_⟩;obtain⟨h1,b,off,hA,h2⟩:=aWZ i hi;have hs:=Yc En i hi;obtain⟨y,hy⟩:=Option.isSome_iff_exists.1 hs;obtain⟨a1,a2,a3⟩:=p.le hy;dsimp only;rw[hy];refine⟨a2,b,off,hA,fun j s hj=>?_⟩;obtain⟨s0,Pk⟩:=cK (l:=g i) (i:=j) (by have:=bJ hj;simp only[Option.getD_some]at this;omega);obtain⟨b1,b2,u,hu,hr⟩:=h2 j s0 Pk;exact⟨b1,b2,u,hu,a3 j s0 s Pk hj Y w u hr⟩
   ·cases h
def pFn(id:FuncId):oH Unit where
 put _:=.s (.sc (.func (.func id) #[] #[]))
 get
  | .s (.sc (.func (.func g) ⟨[]⟩ ⟨[]⟩))=>if g=id then some ()else none
  |_=>none
 le:=by
  intro dd x h;split at h
  ·split at h
   ·rename_i hg;subst hg;exact Fk.refl _
   ·cases h
  ·cases h
end AI
namespace R
def sum(f:Nat->Rat):Nat->Rat
 |0=>0
 |n+1=>sum f n+f n
theorem dV(f:Nat->Rat)(n:Nat):sum f (n+1)=sum f n+f n:=rfl
theorem lN{f g:Nat->Rat}{n:Nat}(h:∀k,k<n->f k=g k):sum f n=sum g n:=by
 induction n with
 |zero=>rfl
 |succ n ih=>rw[dV,dV,ih fun k hk=>h k (by omega),h n (by omega)]
theorem sum_add(f g:Nat->Rat)(n:Nat):sum (fun k=>f k+g k) n=sum f n+sum g n:=by
 induction n with
 |zero=>simp only[sum];grind
 |succ n ih=>simp only[dV,ih];grind
theorem Cl(f g:Nat->Rat)(n:Nat):sum (fun k=>f k-g k) n=sum f n-sum g n:=by
 induction n with
 |zero=>simp only[sum];grind
 |succ n ih=>simp only[dV,ih];grind
theorem oQ(c:Rat)(f:Nat->Rat)(n:Nat):sum (fun k=>c*f k) n=c*sum f n:=by
 induction n with
 |zero=>simp only[sum];grind
 |succ n ih=>simp only[dV,ih];grind
theorem xA{f g:Nat->Rat}{n:Nat}(h:∀k,k<n->f k<=g k):sum f n<=sum g n:=by
 induction n with
 |zero=>simp only[sum];grind
 |succ n ih=>simp only[dV];have:=ih fun k hk=>h k (by omega);have:=h n (by omega);grind
def ab(x:Rat):Rat:=if 0<=x then x else -x
theorem bB(x:Rat):0<=ab x:=by unfold ab;split <;> grind
theorem Ah(x:Rat):x<=ab x:=by unfold ab;split <;> grind
theorem mG(x:Rat):-x<=ab x:=by unfold ab;split <;> grind
theorem dJ{x a:Rat}:ab x<=a↔-a<=x/\x<=a:=by unfold ab;split <;> grind
theorem iB(x:Rat):ab (-x)=ab x:=by unfold ab;split <;> split <;> grind
theorem xG(x y:Rat):ab (x+y)<=ab x+ab y:=by unfold ab;split <;> split <;> split <;> grind
theorem aM{a b:Rat}(h:0<=a)(h':0<=b):0<=a*b:=Rat.mul_nonneg h h'
theorem eA(x y:Rat):ab (x*y)=ab x*ab y:=by
 unfold ab
 by_cases hx:0<=x <;> by_cases hy:0<=y
 ·rw[if_pos hx,if_pos hy,if_pos (aM hx hy)]
 ·rw[if_pos hx,if_neg hy];have:=aM hx (show 0<=-y by grind);split <;> grind
 ·rw[if_neg hx,if_pos hy];have:=aM (show 0<=-x by grind) hy;split <;> grind
 ·rw[if_neg hx,if_neg hy];have:=aM (show 0<=-x by grind) (show 0<=-y by grind);split <;> grind
theorem dW{a b c d:Rat}(h1:0<=a)(h2:a<=b)(h3:0<=c)(h4:c<=d):a*c<=b*d:=by
 have:=aM h1 (show 0<=d-c by grind);have:=aM (show 0<=b-a by grind) (show 0<=d by grind);grind
theorem zR(f:Nat->Rat)(n:Nat):ab (sum f n)<=sum (fun k=>ab (f k)) n:=by
 induction n with
 |zero=>simp[sum,ab]
 |succ n ih=>simp only[dV];have:=xG (sum f n) (f n);grind
theorem aIY{f:Nat->Rat}{n:Nat}(h:∀k,0<=f k):0<=sum f n:=by
 induction n with
 |zero=>simp only[sum];grind
 |succ n ih=>simp only[dV];have:=h n;grind
def conv(f g:Nat->Rat)(m:Nat):Rat:=sum (fun j=>f j*g (m-j)) (m+1)
theorem aIZ(f g:Nat->Rat)(n:Nat):sum (conv f g) n=sum (fun j=>f j*sum g (n-j)) n:=by
 induction n with
 |zero=>rfl
 |succ n ih =>
  rw[dV,ih,conv,dV,dV];rw[show n+1-n=1 by omega,cBM];have:sum (fun j=>f j*sum g (n+1-j)) n=sum (fun j=>f j*sum g (n-j)+f j*g (n-j)) n :=
   lN fun k hk=>by rw[show n+1-k=(n-k)+1 by omega,dV];grind
  rw[this,sum_add];have:sum g 1=g 0:=by simp only[sum];grind
  grind
theorem Fw(f g:Nat->Rat)(n:Nat):sum f n*sum g n=sum (conv f g) n+sum (fun j=>f j*(sum g n-sum g (n-j))) n:=by
 rw[aIZ,<-sum_add];have:sum (fun k=>f k*sum g (n-k)+f k*(sum g n-sum g (n-k))) n=sum (fun k=>sum g n*f k) n:=lN fun k _=>by grind
 rw[this,oQ];grind
def tm(x:Rat):Nat->Rat
 |0=>1
 |k+1=>tm x k*x/((k+1:Nat):Rat)
theorem cast_pos(k:Nat):(0:Rat)<((k+1:Nat):Rat):=by
 exact_mod_cast Nat.succ_pos k
theorem lV(x:Rat)(k:Nat):((k+1:Nat):Rat)*tm x (k+1)=x*tm x k:=by
 have:=cast_pos k;rw[tm];grind
theorem Rs(x y:Rat):∀m,conv (tm x) (tm y) m=tm (x+y) m
 |0=>by simp only[conv,sum,tm,Nat.sub_zero];grind
 |m+1=>by
  have ih:=Rs x y m;have hp:=cast_pos m;have e:=lV (x+y) m;have h:((m+1:Nat):Rat)*conv (tm x) (tm y) (m+1)=(x+y)*conv (tm x) (tm y) m:=by
   unfold conv;rw[<-oQ];have h1:sum (fun k=>((m+1:Nat):Rat)*(tm x k*tm y (m+1-k))) (m+1+1)=sum (fun k=>(k:Rat)*tm x k*tm y (m+1-k)) (m+1+1)+sum (fun k=>tm x k*(((m+1-k:Nat):Rat)*tm y (m+1-k))) (m+1+1):=by
    rw[<-sum_add];refine lN fun k hk=>?_
    have:((m+1:Nat):Rat)=(k:Rat)+((m+1-k:Nat):Rat):=by
     rw[<-Rat.natCast_add];congr 1;omega
    rw[this];grind
   have h2:∀n,sum (fun k=>(k:Rat)*tm x k*tm y (m+1-k)) (n+1)=x*sum (fun k=>tm x k*tm y (m-k)) n:=by
    intro n
    induction n with
    |zero=>simp only[sum];grind
    |succ n ih =>
     rw[dV,ih,dV,show m+1-(n+1)=m-n by omega];have:=lV x n;grind
   have h3:sum (fun k=>tm x k*(((m+1-k:Nat):Rat)*tm y (m+1-k))) (m+1+1)=y*sum (fun k=>tm x k*tm y (m-k)) (m+1):=by
    rw[dV,cBM];have:sum (fun k=>tm x k*(((m+1-k:Nat):Rat)*tm y (m+1-k))) (m+1)=sum (fun k=>y*(tm x k*tm y (m-k))) (m+1):=by
     refine lN fun k hk=>?_
     have:=lV y (m-k);rw[show m+1-k=m-k+1 by omega];grind
    rw[this,oQ];grind
   rw[h1,h2,h3];grind
  rw[ih]at h;generalize ((m+1:Nat):Rat)=q at *;generalize conv (tm x) (tm y) (m+1)=u at *;generalize tm (x+y) (m+1)=v at *;have:q*u=q*v:=by rw[h,e]
  have hq:q≠0:=by grind
  clear h e ih;grind
theorem lM(f:Nat->Rat)(a n:Nat):sum f (a+n)=sum f a+sum (fun i=>f (a+i)) n:=by
 induction n with
 |zero=>simp only[sum,bYI];grind
 |succ n ih=>rw[<-cAY,dV,ih,dV];grind
theorem Vl{f:Nat->Rat}(h:∀k,0<=f k){a b:Nat}(aRI:a<=b):sum f a<=sum f b:=by
 obtain⟨n,rfl⟩:=bYQ aRI;rw[lM];have:=aIY (f:=fun i=>f (a+i)) (n:=n) fun k=>h _
 grind
def hf:Nat->Rat
 |0=>1
 |k+1=>hf k/2
theorem zF:∀k,0<hf k
 |0=>by simp only[hf];grind
 |k+1=>by have:=zF k;simp only[hf];grind
theorem Te(a:Nat):∀b,hf (a+b)=hf a*hf b
 |0=>by simp only[hf,bYI];grind
 |b+1=>by rw[<-cAY,hf,Te a b,hf];grind
theorem aUM{a b:Nat}(h:a<=b):hf b<=hf a:=by
 obtain⟨n,rfl⟩:=bYQ h;clear h
 induction n with
 |zero=>grind
 |succ n ih=>rw[<-cAY,hf];have:=zF (a+n);grind
theorem Nc(k:Nat):hf k*(2^k:Nat)=1:=by
 induction k with
 |zero=>simp only[hf];grind
 |succ k ih=>rw[hf,cCK,cCP];grind
theorem bLE(n:Nat):sum hf n<=2:=by
 have:sum hf n=2-2*hf n:=by
  induction n with
  |zero=>simp only[sum,hf];grind
  |succ n ih=>rw[dV,ih,hf];grind
 have:=zF n;grind
theorem oP{x:Rat}(h:0<=x):∀k,0<=tm x k
 |0=>by simp only[tm];grind
 |k+1=>by
  have h1:=aM h (oP h k);have h2:=lV x k;have h3:=cast_pos k;refine Rat.not_lt.1 fun hn=>?_
  have:=cCX h3 (show 0 < -(tm x (k+1)) by grind);grind
theorem Qi(x:Rat):∀k,ab (tm x k)=tm (ab x) k
 |0=>by simp only[tm,ab];grind
 |k+1=>by
  have h3:=cast_pos k;have h1:=Qi x k;have h2:=lV x k;have h4:=lV (ab x) k;have h5:ab (((k+1:Nat):Rat)*tm x (k+1))=ab x*ab (tm x k):=by rw[h2,eA]
  rw[eA,h1]at h5;have h6:ab ((k+1:Nat):Rat)=((k+1:Nat):Rat):=by unfold ab;rw[if_pos (by grind)]
  rw[h6]at h5;generalize ((k+1:Nat):Rat)=q at *;generalize ab (tm x (k+1))=u at *;generalize tm (ab x) (k+1)=v at *;have hq:q≠0:=by grind
  have:q*u=q*v:=by grind
  clear h1 h2 h4 h5 h6;grind
theorem aBW{x y:Rat}(h:0<=x)(aOR:x<=y):∀k,tm x k<=tm y k
 |0=>by simp only[tm];grind
 |k+1=>by
  have h1:=dW (oP h k) (aBW h aOR k) h aOR;have h2:=lV x k;have h4:=lV y k;have h3:=cast_pos k;refine Rat.not_lt.1 fun hn=>?_
  have:=cCX h3 (show 0<tm x (k+1)-tm y (k+1) by grind);grind
theorem aIQ(j:Nat):tm 4 (8+j)<=2*hf j:=by
 induction j with
 |zero =>
  have:tm 4 8=65536/40320:=by simp only[tm];grind
  simp only[hf,bYI,this];grind
 |succ j ih =>
  have h2:=lV 4 (8+j);have h3:(8:Rat)<=((8+j+1:Nat):Rat):=by exact_mod_cast(show 8<=8+j+1 by omega)
  have h4:=oP (x:=4) (by grind) (8+j+1);rw[<-cAY,hf];have:=aM (show 0<=((8+j+1:Nat):Rat)-8 by grind) h4;grind
theorem Aw(m n:Nat):sum (fun i=>tm 4 (8+m+i)) n<=4*hf m:=by
 have h1:sum (fun i=>tm 4 (8+m+i)) n<=sum (fun i=>2*hf m*hf i) n:=xA fun k _=>by
  have:=aIQ (m+k);rw[Te,<-cAY]at this;grind
 rw[oQ]at h1;have:=aM (show 0<=2*hf m by have:=zF m;grind) (show 0<=2-sum hf n by have:=bLE n;grind);grind
theorem aBX(n:Nat):sum (tm 4) n<=64:=by
 have h0:∀k,0<=tm 4 k:=oP (by grind);have h1:=Vl h0 (show n<=8+n by omega);have h2:=lM (tm 4) 8 n;have h3:=Aw 0 n;have h4:sum (tm 4) 8<=52:=by
  simp only[sum,tm];grind
 simp only[hf,bYI]at h3;grind
theorem Ke{f g:Nat->Rat}(aUN:∀k,ab (f k)<=tm 4 k)(hg:∀k,ab (g k)<=tm 4 k)(m:Nat) :
  ab (sum (fun j=>f j*(sum g (2*(8+m))-sum g (2*(8+m)-j))) (2*(8+m)))<=512*hf m:=by
 have hG:∀a n,ab (sum g (a+n)-sum g a)<=sum (fun i=>tm 4 (a+i)) n:=fun a n=>by
  rw[lM,show sum g a+sum (fun i=>g (a+i)) n-sum g a=sum (fun i=>g (a+i)) n by grind];exact cCL (zR _ _) (xA fun k _=>hg _)
 have h0:∀k,0<=tm 4 k:=oP (by grind);refine cCL (zR _ _) ?_;have hp:=zF m;have e:2*(8+m)=(8+m)+(8+m):=by omega
 rw[show sum (fun k=>ab (f k*(sum g (2*(8+m))-sum g (2*(8+m)-k)))) (2*(8+m))=sum (fun k=>ab (f k*(sum g (2*(8+m))-sum g (2*(8+m)-k)))) ((8+m)+(8+m)) by rw[<-e],lM];have p1:sum (fun k=>ab (f k*(sum g (2*(8+m))-sum g (2*(8+m)-k)))) (8+m)<=sum (fun k=>4*hf m*tm 4 k) (8+m):=xA fun k hk=>by
  rw[eA];have h1:=hG (2*(8+m)-k) k;rw[show 2*(8+m)-k+k=2*(8+m) by omega]at h1;have h2:=Aw (8+m-k) k;rw[show 8+(8+m-k)=2*(8+m)-k-m by omega]at h2;have h3:=Aw (m+(8+m-k)-8+8-8+8) k;have h5:sum (fun i=>tm 4 (2*(8+m)-k+i)) k<=4*hf (2*(8+m)-k-8):=by
   have:=Aw (2*(8+m)-k-8) k;rwa [show 8+(2*(8+m)-k-8)=2*(8+m)-k by omega]at this
  have h6:=aUM (show m<=2*(8+m)-k-8 by omega);have:=dW (bB _) (aUN k) (bB _) (show ab (sum g (2*(8+m))-sum g (2*(8+m)-k))<=4*hf m by grind);grind
 have p2:sum (fun i=>ab (f (8+m+i)*(sum g (2*(8+m))-sum g (2*(8+m)-(8+m+i))))) (8+m)<=sum (fun i=>64*tm 4 (8+m+i)) (8+m):=xA fun k hk=>by
  rw[eA];have h1:=hG (2*(8+m)-(8+m+k)) (8+m+k);rw[show 2*(8+m)-(8+m+k)+(8+m+k)=2*(8+m) by omega]at h1;have h2:=lM (tm 4) (2*(8+m)-(8+m+k)) (8+m+k);have h3:=aBX (2*(8+m)-(8+m+k)+(8+m+k));have h4:=aIY (n:=2*(8+m)-(8+m+k)) h0;have:=dW (bB _) (aUN (8+m+k)) (bB _) (show ab (sum g (2*(8+m))-sum g (2*(8+m)-(8+m+k)))<=64 by grind);grind
 rw[oQ]at p1 p2;have t1:=aBX (8+m);have t2:=Aw m (8+m);have:=aM (show 0<=4*hf m by grind) (show 0<=64-sum (tm 4) (8+m) by grind);grind
def cc(k:Nat):Rat:=if k%4=0 then 1 else if k%4=2 then -1 else 0
def ss(k:Nat):Rat:=if k%4=1 then 1 else if k%4=3 then -1 else 0
theorem aYZ(j l:Nat):cc j*cc l-ss j*ss l=cc (j+l):=by
 unfold cc ss;rw[cDV];have h1:=bZR j (show 4>0 by omega);have h2:=bZR l (show 4>0 by omega);generalize j%4=a at *;generalize l%4=b at *;have h3:a=0\/a=1\/a=2\/a=3:=by omega
 have h4:b=0\/b=1\/b=2\/b=3:=by omega
 rcases h3 with rfl |rfl |rfl |rfl <;> rcases h4 with rfl |rfl |rfl |rfl <;> simp <;> grind
theorem aVL(j l:Nat):ss j*cc l+cc j*ss l=ss (j+l):=by
 unfold cc ss;rw[cDV];have h1:=bZR j (show 4>0 by omega);have h2:=bZR l (show 4>0 by omega);generalize j%4=a at *;generalize l%4=b at *;have h3:a=0\/a=1\/a=2\/a=3:=by omega
 have h4:b=0\/b=1\/b=2\/b=3:=by omega
 rcases h3 with rfl |rfl |rfl |rfl <;> rcases h4 with rfl |rfl |rfl |rfl <;> simp <;> grind
theorem aMW(k:Nat):ab (cc k)<=1:=by
 unfold cc ab;split <;> split <;> grind
theorem aCB(k:Nat):ab (ss k)<=1:=by
 unfold ss ab;split <;> split <;> grind
def uW(x:Rat)(n:Nat):Rat:=sum (fun k=>cc k*tm x k) n
def uM(x:Rat)(n:Nat):Rat:=sum (fun k=>ss k*tm x k) n
theorem aEK{x:Rat}(h:ab x<=4)(k:Nat):ab (cc k*tm x k)<=tm 4 k:=by
 rw[eA,Qi];have:=dW (bB _) (aMW k) (oP (bB x) k) (aBW (bB x) h k);grind
theorem aCA{x:Rat}(h:ab x<=4)(k:Nat):ab (ss k*tm x k)<=tm 4 k:=by
 rw[eA,Qi];have:=dW (bB _) (aCB k) (oP (bB x) k) (aBW (bB x) h k);grind
theorem aYW(x y:Rat)(m:Nat):conv (fun k=>cc k*tm x k) (fun k=>cc k*tm y k) m-conv (fun k=>ss k*tm x k) (fun k=>ss k*tm y k) m=cc m*tm (x+y) m:=by
 rw[<-Rs];unfold conv;rw[<-Cl,<-oQ];refine lN fun k hk=>?_
 have:=aYZ k (m-k);rw[show k+(m-k)=m by omega]at this;rw[<-this];grind
theorem aYV(x y:Rat)(m:Nat):conv (fun k=>ss k*tm x k) (fun k=>cc k*tm y k) m+conv (fun k=>cc k*tm x k) (fun k=>ss k*tm y k) m=ss m*tm (x+y) m:=by
 rw[<-Rs];unfold conv;rw[<-sum_add,<-oQ];refine lN fun k hk=>?_
 have:=aVL k (m-k);rw[show k+(m-k)=m by omega]at this;rw[<-this];grind
theorem aMP{x y:Rat}(hx:ab x<=4)(hy:ab y<=4)(m:Nat):ab (uW (x+y) (2*(8+m))-(uW x (2*(8+m))*uW y (2*(8+m))-uM x (2*(8+m))*uM y (2*(8+m))))<=1024*hf m:=by
 have h1:=Ke (aEK hx) (aEK hy) m;have h2:=Ke (aCA hx) (aCA hy) m;unfold uW uM;rw[Fw,Fw];have h3:sum (fun k=>cc k*tm (x+y) k) (2*(8+m))=sum (conv (fun k=>cc k*tm x k) (fun k=>cc k*tm y k)) (2*(8+m))-sum (conv (fun k=>ss k*tm x k) (fun k=>ss k*tm y k)) (2*(8+m)):=by
  rw[<-Cl];exact lN fun k _=>(aYW x y k).symm
 rw[h3];rw[dJ]at *;grind
theorem aJH{x y:Rat}(hx:ab x<=4)(hy:ab y<=4)(m:Nat):ab (uM (x+y) (2*(8+m))-(uM x (2*(8+m))*uW y (2*(8+m))+uW x (2*(8+m))*uM y (2*(8+m))))<=1024*hf m:=by
 have h1:=Ke (aCA hx) (aEK hy) m;have h2:=Ke (aEK hx) (aCA hy) m;unfold uW uM;rw[Fw,Fw];have h3:sum (fun k=>ss k*tm (x+y) k) (2*(8+m))=sum (conv (fun k=>ss k*tm x k) (fun k=>cc k*tm y k)) (2*(8+m))+sum (conv (fun k=>cc k*tm x k) (fun k=>ss k*tm y k)) (2*(8+m)):=by
  rw[<-sum_add];exact lN fun k _=>(aYV x y k).symm
 rw[h3];rw[dJ]at *;grind
theorem aMQ(x:Rat)(n:Nat):uW (-x) n=uW x n:=by
 refine lN fun k _=>?_
 have:∀k,cc k*tm (-x) k=cc k*tm x k/\ss k*tm (-x) k=- (ss k*tm x k):=by
  intro k;have h:∀j,tm (-x) (2*j)=tm x (2*j)/\tm (-x) (2*j+1)=- tm x (2*j+1):=by
   intro j
   induction j with
   |zero=>simp only[tm];grind
   |succ j ih =>
    rw[show 2*(j+1)=2*j+1+1 by omega];obtain⟨h1,h2⟩:=ih;have e:tm (-x) (2*j+1+1)=tm x (2*j+1+1):=by rw[tm,h2];grind [tm]
    refine⟨e,?_⟩;rw[tm,e];grind [tm]
  have:=h (k/2);unfold cc ss
  by_cases hk:k%2=0
  ·rw[show 2*(k/2)=k by omega]at this;rw[if_neg (show ¬k%4=1 by omega),if_neg (show ¬k%4=3 by omega),this.1];grind
  ·rw[show 2*(k/2)+1=k by omega]at this;rw[if_neg (show ¬k%4=0 by omega),if_neg (show ¬k%4=2 by omega),this.2];grind
 exact(this k).1
theorem aJI(x:Rat)(n:Nat):uM (-x) n=- uM x n:=by
 unfold uM;rw[show -sum (fun k=>ss k*tm x k) n=(-1)*sum (fun k=>ss k*tm x k) n by grind,<-oQ];refine lN fun k _=>?_
 have h:∀j,tm (-x) (2*j)=tm x (2*j)/\tm (-x) (2*j+1)=- tm x (2*j+1):=by
  intro j
  induction j with
  |zero=>simp only[tm];grind
  |succ j ih =>
   rw[show 2*(j+1)=2*j+1+1 by omega];obtain⟨h1,h2⟩:=ih;have e:tm (-x) (2*j+1+1)=tm x (2*j+1+1):=by rw[tm,h2];grind [tm]
   refine⟨e,?_⟩;rw[tm,e];grind [tm]
 have:=h (k/2);unfold ss
 by_cases hk:k%2=0
 ·rw[if_neg (show ¬k%4=1 by omega),if_neg (show ¬k%4=3 by omega)];grind
 ·rw[show 2*(k/2)+1=k by omega]at this;rw[this.2];grind
theorem Lk{x:Rat}(h0:0<=x)(h1:x<=1)(a:Nat)(ha:1<=a)(n:Nat):sum (fun i=>tm x (a+i)) n<=2*tm x a:=by
 have hh:∀i,tm x (a+i)<=tm x a*hf i:=by
  intro i
  induction i with
  |zero=>simp only[hf,bYI];grind
  |succ i ih =>
   have h2:=lV x (a+i);have h3:(2:Rat)<=((a+i+1:Nat):Rat):=by exact_mod_cast(show 2<=a+i+1 by omega)
   have h4:=oP h0 (a+i+1);have h5:=oP h0 (a+i);have:=aM (show 0<=((a+i+1:Nat):Rat)-2 by grind) h4;have:=aM (show 0<=1-x by grind) h5;rw[<-cAY,hf];grind
 have h1:sum (fun i=>tm x (a+i)) n<=sum (fun i=>tm x a*hf i) n:=xA fun k _=>hh k
 rw[oQ]at h1;have:=aM (oP h0 a) (show 0<=2-sum hf n by have:=bLE n;grind);grind
theorem aMO{x:Rat}(h:ab x<=1){a n:Nat}(ha:1<=a)(hn:a<=n):ab (uW x n-uW x a)<=2*tm (ab x) a:=by
 obtain⟨m,rfl⟩:=bYQ hn;unfold uW;rw[lM,show sum (fun k=>cc k*tm x k) a+sum (fun i=>cc (a+i)*tm x (a+i)) m-sum (fun k=>cc k*tm x k) a=sum (fun i=>cc (a+i)*tm x (a+i)) m by grind];refine cCL (zR _ _) (cCL (xA fun k _=>?_) (Lk (bB x) h a ha m));rw[eA,Qi];have:=dW (bB _) (aMW (a+k)) (oP (bB x) (a+k)) cDM;grind
theorem aJF{x:Rat}(h:ab x<=1){a n:Nat}(ha:1<=a)(hn:a<=n):ab (uM x n-uM x a)<=2*tm (ab x) a:=by
 obtain⟨m,rfl⟩:=bYQ hn;unfold uM;rw[lM,show sum (fun k=>ss k*tm x k) a+sum (fun i=>ss (a+i)*tm x (a+i)) m-sum (fun k=>ss k*tm x k) a=sum (fun i=>ss (a+i)*tm x (a+i)) m by grind];refine cCL (zR _ _) (cCL (xA fun k _=>?_) (Lk (bB x) h a ha m));rw[eA,Qi];have:=dW (bB _) (aCB (a+k)) (oP (bB x) (a+k)) cDM;grind
theorem bFH:∃k:Nat,k=1048576:=⟨_,rfl⟩
def K:Nat:=Classical.choose bFH
theorem aZU:K=1048576:=Classical.choose_spec bFH
def aSL:Nat:=2*(8+(K+10))
def uU:Rat:=hf K
def sn(x:Rat):Rat:=uM x aSL
def cs(x:Rat):Rat:=uW x aSL
theorem uT:0<uU:=zF K
theorem aLZ:1024*hf (K+10)=uU:=by
 have:=Te K 10;have h:hf 10=1/1024:=by simp only[hf];grind
 unfold uU;grind
theorem yA{n:Nat}(h:n<=1048576):uU<=hf n:=aUM (by rw[aZU];exact h)
theorem Xh:uU<=1/1048576:=by
 have:=yA (n:=20) (by omega);simp only[hf]at this;grind
theorem Nr{x y:Rat}(hx:ab x<=4)(hy:ab y<=4):ab (cs (x+y)-(cs x*cs y-sn x*sn y))<=uU:=by
 rw[<-aLZ];exact aMP hx hy _
theorem aVO{x y:Rat}(hx:ab x<=4)(hy:ab y<=4):ab (sn (x+y)-(sn x*cs y+cs x*sn y))<=uU:=by
 rw[<-aLZ];exact aJH hx hy _
theorem Nq(x:Rat):cs (-x)=cs x:=aMQ x _
theorem xB(x:Rat):sn (-x)=- sn x:=aJI x _
theorem aPN(k:Nat):tm 0 (k+1)=0:=by rw[tm];grind
theorem aPT:sn 0=0:=by
 have:=xB 0;rw[show(-0:Rat)=0 by grind]at this;grind
theorem Tw{a:Nat}(h:a<=1048576):a<=aSL:=by unfold aSL;rw[aZU];omega
theorem Kw{x:Rat}(h:ab x<=1){a:Nat}(ha:1<=a)(hn:a<=1048576):ab (cs x-uW x a)<=2*tm (ab x) a:=aMO h ha (Tw hn)
theorem Ry{x:Rat}(h:ab x<=1){a:Nat}(ha:1<=a)(hn:a<=1048576):ab (sn x-uM x a)<=2*tm (ab x) a:=aJF h ha (Tw hn)
theorem aEL:cs 0=1:=by
 have h:=Kw (x:=0) (by simp only[ab];grind) (a:=1) (by omega) (by omega);rw[show ab 0=0 by simp only[ab];grind,show(1:Nat)=0+1 by rfl,aPN]at h;have h2:uW 0 (0+1)=1:=by simp[uW,sum,cc,tm];grind
 rw[dJ,h2]at h;grind
theorem aQD{x:Rat}(hx:ab x<=4):ab (sn x*sn x+cs x*cs x-1)<=uU:=by
 have:=Nr hx (show ab (-x)<=4 by rwa [iB]);rw[show x+-x=0 by grind,aEL,Nq,xB]at this;rw[dJ]at *;grind
theorem aFJ{x:Rat}(hx:ab x<=4):ab (sn (2*x)-2*sn x*cs x)<=uU:=by
 have:=aVO hx hx;rw[show x+x=2*x by grind]at this;rw[dJ]at *;grind
theorem Ra{x:Rat}(hx:ab x<=4):ab (cs (2*x)-(1-2*(sn x*sn x)))<=2*uU:=by
 have:=Nr hx hx;have:=aQD hx;rw[show x+x=2*x by grind]at *;rw[dJ]at *;grind
theorem xP{a b:Rat}(h:a*a<=b*b)(hb:0<=b):ab a<=b:=by
 rw[dJ];constructor
 ·refine Rat.not_lt.1 fun hn=>?_
  have:=cCX (show 0 < -a-b by grind) (show 0 < -a+b by grind);grind
 ·refine Rat.not_lt.1 fun hn=>?_
  have:=cCX (show 0<a-b by grind) (show 0<a+b by grind);grind
theorem bMO(a:Rat):0<=a*a:=by
 by_cases h:0<=a
 ·exact aM h h
 ·have:=aM (show 0<=-a by grind) (show 0<=-a by grind);grind
theorem aTF{x:Rat}(hx:ab x<=4):ab (sn x)<=1+uU:=by
 have h:=aQD hx;have h1:=uT;have h2:=bMO (cs x);have h3:=aM (show 0<=uU by grind) (show 0<=uU by grind);refine xP ?_ (by grind);rw[dJ]at h;grind
theorem aUV{x:Rat}(hx:ab x<=4):ab (cs x)<=1+uU:=by
 have h:=aQD hx;have h1:=uT;have h2:=bMO (sn x);have h3:=aM (show 0<=uU by grind) (show 0<=uU by grind);refine xP ?_ (by grind);rw[dJ]at h;grind
theorem bW{x:Rat}(h:0<=x):ab x=x:=by unfold ab;rw[if_pos h]
theorem Eb(x:Rat):tm x 1=x/\tm x 2=x*x/2/\tm x 3=x*x*x/6/\tm x 4=x*x*x*x/24/\tm x 5=x*x*x*x*x/120/\tm x 6=x*x*x*x*x*x/720:=by
 simp only[tm];refine⟨?_,?_,?_,?_,?_,?_⟩ <;> grind
theorem Fq{x:Rat}(h0:0<=x)(h1:x<=1):x-x*x*x/6<=sn x/\sn x<=x-x*x*x/6+x*x*x*x*x/60:=by
 have a1:ab x<=1:=by rwa [bW h0]
 have t5:=Ry a1 (a:=5) (by omega) (by omega);have t7:=Ry a1 (a:=7) (by omega) (by omega);rw[bW h0]at t5 t7;obtain⟨e1,e2,e3,e4,e5,e6⟩:=Eb x;have p5:uM x 5=x-x*x*x/6:=by simp[uM,sum,ss];rw[e1,e3];grind
 have p7:uM x 7=x-x*x*x/6+x*x*x*x*x/120:=by simp[uM,sum,ss];rw[e1,e3,e5];grind
 have e7:tm x 7<=tm x 5/4:=by
  have h2:=lV x 6;have h3:=lV x 5;have:=oP h0 7;have:=oP h0 6;have:=oP h0 5;have:=aM (show 0<=1-x by grind) (oP h0 6);have:=aM (show 0<=1-x by grind) (oP h0 5);norm_cast at h2 h3;grind
 rw[dJ,p5,e5]at t5;rw[dJ,p7]at t7;rw[e5]at e7;grind
theorem Np{x:Rat}(h0:0<=x)(h1:x<=1):1-x*x/2<=cs x/\cs x<=1-x*x/2+x*x*x*x/12:=by
 have a1:ab x<=1:=by rwa [bW h0]
 have t5:=Kw a1 (a:=4) (by omega) (by omega);have t7:=Kw a1 (a:=6) (by omega) (by omega);rw[bW h0]at t5 t7;obtain⟨e1,e2,e3,e4,e5,e6⟩:=Eb x;have p5:uW x 4=1-x*x/2:=by simp[uW,sum,cc];rw[e2,tm];grind
 have p7:uW x 6=1-x*x/2+x*x*x*x/24:=by simp[uW,sum,cc];rw[e2,e4,tm];grind
 have e7:tm x 6<=tm x 4/4:=by
  have h2:=lV x 5;have h3:=lV x 4;have:=oP h0 6;have:=oP h0 5;have:=oP h0 4;have:=aM (show 0<=1-x by grind) (oP h0 5);have:=aM (show 0<=1-x by grind) (oP h0 4);norm_cast at h2 h3;grind
 rw[dJ,p5,e4]at t5;rw[dJ,p7]at t7;rw[e4]at e7;grind
theorem aIP{x y:Rat}(hx:ab x<=1)(hy:ab y<=1):∀k,ab (tm y (k+1)-tm x (k+1))<=ab (y-x)*tm 1 k
 |0=>by
  obtain⟨e1,_⟩:=Eb x;obtain⟨e2,_⟩:=Eb y;rw[show 0+1=1 by rfl,e1,e2,tm];grind
 |k+1=>by
  have ih:=aIP hx hy k;have h2:=lV x (k+1);have h3:=lV y (k+1);have h1:=lV 1 k;have hp:=cast_pos (k+1);have e:((k+1+1:Nat):Rat)*(tm y (k+1+1)-tm x (k+1+1))=(y-x)*tm y (k+1)+x*(tm y (k+1)-tm x (k+1)):=by grind
  have e2:=congrArg ab e;have e3:=xG ((y-x)*tm y (k+1)) (x*(tm y (k+1)-tm x (k+1)));rw[eA,bW (show(0:Rat)<=((k+1+1:Nat):Rat) by grind)]at e2;rw[eA,eA,Qi]at e3;have b1:=dW (bB (y-x)) cDM (oP (bB y) (k+1)) (aBW (bB y) hy (k+1));have b2:=dW (bB x) hx (bB _) ih;have hc:((k+1+1:Nat):Rat)=((k+1:Nat):Rat)+1:=by norm_cast
  refine Rat.not_lt.1 fun hn=>?_
  have:=cCX hp (show 0<ab (tm y (k+1+1)-tm x (k+1+1))-ab (y-x)*tm 1 (k+1) by grind);have aDW:tm 1 k=((k+1:Nat):Rat)*tm 1 (k+1):=by grind
  rw[aDW]at b2;rw[hc]at this e2;clear e h2 h3 h1 ih aDW hc hp hx hy;generalize ((k+1:Nat):Rat)=q at *;generalize ab (tm y (k+1+1)-tm x (k+1+1))=A at *;generalize ab ((y-x)*tm y (k+1)+x*(tm y (k+1)-tm x (k+1)))=B at *;generalize ab (y-x)=d at *;generalize tm 1 (k+1)=T at *;grind
theorem aIR(a:Nat)(ha:1<=a)(n:Nat):sum (fun i=>tm 1 (a+i)) n<=2*tm 1 a:=Lk (by grind) (by grind) a ha n
theorem Yw{x y:Rat}(hx:ab x<=1)(hy:ab y<=1):ab (sn y-sn x-(y-x))<=3/4*ab (y-x):=by
 have hN:=Tw (a:=3) (by omega);obtain⟨n,hn⟩:=bYQ hN;unfold sn uM;rw[hn,lM,lM];obtain⟨e1,_⟩:=Eb x;obtain⟨e2,_⟩:=Eb y;have p:sum (fun k=>ss k*tm x k) 3=x:=by simp[sum,ss];rw[e1];grind
 have q:sum (fun k=>ss k*tm y k) 3=y:=by simp[sum,ss];rw[e2];grind
 rw[p,q,show y+sum (fun i=>ss (3+i)*tm y (3+i)) n-(x+sum (fun i=>ss (3+i)*tm x (3+i)) n)-(y-x)=sum (fun i=>ss (3+i)*tm y (3+i)) n-sum (fun i=>ss (3+i)*tm x (3+i)) n by grind,<-Cl];refine cCL (zR _ _) ?_;have h1:sum (fun k=>ab (ss (3+k)*tm y (3+k)-ss (3+k)*tm x (3+k))) n<=sum (fun k=>ab (y-x)*tm 1 (2+k)) n:=xA fun k _=>by
  have:=aIP hx hy (2+k);rw[show 2+k+1=3+k by omega]at this;rw[show ss (3+k)*tm y (3+k)-ss (3+k)*tm x (3+k)=ss (3+k)*(tm y (3+k)-tm x (3+k)) by grind,eA];have:=dW (bB _) (aCB (3+k)) (bB _) this;grind
 rw[oQ]at h1;have h2:sum (fun k=>tm 1 (2+k)) n<=3/4:=by
  have h3:=Vl (f:=fun k=>tm 1 (2+k)) (fun k=>oP (by grind) _) (show n<=2+n by omega);have h4:=lM (fun k=>tm 1 (2+k)) 2 n;have h5:=aIR 4 (by omega) n;obtain⟨_,f2,f3,f4,_⟩:=Eb 1;have h6:sum (fun k=>tm 1 (2+k)) 2=2/3:=by simp[sum];rw[f2,f3];grind
  have h7:sum (fun i=>tm 1 (2+(2+i))) n=sum (fun i=>tm 1 (4+i)) n:=lN fun k _=>by rw[show 2+(2+k)=4+k by omega]
  rw[f4]at h5;grind
 have:=aM (bB (y-x)) (show 0<=3/4-sum (fun k=>tm 1 (2+k)) n by grind);grind
theorem aEN{a b:Rat}(ha:ab a<=4)(hb:ab b<=4):ab (cs (a-b)-cs (a+b)-2*(sn a*sn b))<=2*uU:=by
 have h1:=Nr ha hb;have h2:=Nr ha (show ab (-b)<=4 by rwa [iB]);rw[Nq,xB,show a+-b=a-b by grind]at h2;rw[dJ]at *;grind
theorem Ls{x:Rat}(h0:0<=x)(h1:x<=1):0<=sn x:=by
 have:=(Fq h0 h1).1;have h2:=dW h0 h1 h0 h1;have h3:=aM h0 (show 0<=1*1-x*x by grind);grind
theorem aCG{x:Rat}(h0:0<=x)(h1:x<=1):sn x<=x:=by
 have:=(Fq h0 h1).2;have h2:=dW h0 h1 h0 h1;have h4:=aM (aM h0 h0) h0;have h3:=aM h4 (show 0<=1*1-x*x by grind);grind
theorem Yy{x:Rat}(h:ab x<=1):ab (sn x)<=ab x:=by
 by_cases h0:0<=x
 ·rw[bW h0]at *;have:=Ls h0 h;have:=aCG h0 h;rw[dJ];grind
 ·have e:ab x=-x:=by unfold ab;rw[if_neg h0]
  rw[e]at h;rw[e];have h1:=Ls (show 0<=-x by grind) h;have h2:=aCG (show 0<=-x by grind) h;rw[xB]at h1 h2;rw[dJ];grind
theorem aEM{x y:Rat}(h0:0<=x)(h:x<=y)(h1:y<=1):cs y<=cs x+2*uU:=by
 have h2:=aEN (a:=(x+y)/2) (b:=(y-x)/2) (by rw[dJ];grind) (by rw[dJ];grind);rw[show(x+y)/2-(y-x)/2=x by grind,show(x+y)/2+(y-x)/2=y by grind,dJ]at h2;have h3:=aM (Ls (x:=(x+y)/2) (by grind) (by grind)) (Ls (x:=(y-x)/2) (by grind) (by grind));grind
theorem aAI{x y:Rat}(hx:ab x<=1)(hy:ab y<=1):ab (cs y-cs x)<=ab (y-x)+2*uU:=by
 have b1:ab ((x+y)/2)<=1:=by rw[dJ]at *;grind
 have b2:ab ((y-x)/2)<=1:=by rw[dJ]at *;grind
 have h2:=aEN (a:=(x+y)/2) (b:=(y-x)/2) (by grind) (by grind);rw[show(x+y)/2-(y-x)/2=x by grind,show(x+y)/2+(y-x)/2=y by grind]at h2;have h3:=dW (bB _) (Yy b1) (bB _) (Yy b2);have h4:=dW (bB _) b1 (bB _) (show ab ((y-x)/2)<=ab ((y-x)/2)from cDM);rw[<-eA]at h3;have h5:ab ((y-x)/2)=ab (y-x)/2:=by unfold ab;split <;> split <;> grind
 rw[h5]at h3 h4;have h6:=Ah (sn ((x+y)/2)*sn ((y-x)/2));have h7:=mG (sn ((x+y)/2)*sn ((y-x)/2));rw[dJ]at h2 ⊢;clear h5 b1 b2 hx hy;generalize sn ((x+y)/2)*sn ((y-x)/2)=P at *;generalize ab ((x+y)/2)*(ab (y-x)/2)=Q at *;grind
theorem Rz{x y:Rat}(hx:ab x<=1)(hy:ab y<=1):ab (sn y-sn x)<=2*ab (y-x):=by
 have h:=Yw hx hy;have h1:=Ah (y-x);have h2:=mG (y-x);rw[dJ]at h ⊢;grind
theorem aCF{x y:Rat}(hx:ab x<=1)(hy:ab y<=1)(h:x<=y):sn x<=sn y:=by
 have h1:=Yw hx hy;rw[bW (show 0<=y-x by grind),dJ]at h1;grind
theorem rN(a:Nat){b:Nat}(_hb:0<b):(b:Rat)*((a/b:Nat):Rat)<=(a:Rat)/\(a:Rat)<(b:Rat)*((a/b:Nat):Rat)+(b:Rat):=by
 have h1:=cCS a b;have h2:=bZR a _hb;constructor
 ·exact_mod_cast(show b*(a/b)<=a by omega)
 ·exact_mod_cast(show a<b*(a/b)+b by omega)
theorem bP{q a b:Rat}(hq:0<q)(h:q*a<=q*b):a<=b:=by
 refine Rat.not_lt.1 fun hn=>?_
 have:=cCX hq (show 0<a-b by grind);grind
theorem qQ{q a b:Rat}(hq:0<q)(h:q*a<q*b):a<b:=by
 refine Rat.not_le.1 fun hn=>?_
 have:=aM (cCJ hq) (show 0<=a-b by grind);grind
def sq(u W:Nat):Nat->Nat
 |0=>W
 |k+1=>sq u W k*u/W/(k+1)
theorem Lo{u W:Nat}(hW:0<W){x:Rat}(hx:x*(W:Rat)=(u:Rat))(h0:0<=x)(h1:x<=1/2):∀k,0<=tm x k*W-sq u W k/\tm x k*W-sq u W k<=2
 |0=>by simp only[tm,sq];grind
 |k+1=>by
  obtain⟨i1,i2⟩:=Lo hW hx h0 h1 k;obtain⟨d1,d2⟩:=rN (sq u W k*u) (b:=W*(k+1)) (cEO hW (by omega));rw[sq,cCT];rw[cCP,cCP,<-hx]at d1 d2;have hc:=lV x k;have hp:=cast_pos k;have h1k:(1:Rat)<=((k+1:Nat):Rat):=by exact_mod_cast(show 1<=k+1 by omega)
  have aLN:(0:Rat)<(W:Rat):=by exact_mod_cast hW
  generalize ((sq u W k*u/(W*(k+1)):Nat):Rat)=t' at *;generalize (sq u W k:Rat)=t at *;generalize ((k+1:Nat):Rat)=q at *;have bWG:q*t'<=t*x:=bP aLN (by grind);have bWF:t*x<q*t'+q:=qQ aLN (by grind);have hcW:q*tm x (k+1)*(W:Rat)=x*tm x k*(W:Rat):=by rw[hc]
  have e1:=aM h0 i1;have e2:=aM (show 0<=1/2-x by grind) i1;refine⟨bP hp ?_,bP hp ?_⟩ <;> grind
theorem aIX{u W:Nat}(hW:0<W){x:Rat}(hx:x*(W:Rat)=(u:Rat))(h0:0<=x)(h1:x<=1/2){n:Nat}(hn:1<=n)(aKX:n<=1048576)(hz:sq u W n=0) :
  ab (sum (fun k=>cc k*(sq u W k:Rat)) n-W*cs x)<=2*(n:Rat)+4:=by
 have hs:ab (sum (fun k=>cc k*(sq u W k:Rat)) n-W*uW x n)<=2*(n:Rat):=by
  unfold uW;rw[<-oQ,<-Cl];refine cCL (zR _ _) ?_;have:∀m,sum (fun k=>ab (cc k*(sq u W k:Rat)-W*(cc k*tm x k))) m<=2*(m:Rat):=by
   intro m
   induction m with
   |zero=>simp only[sum];grind
   |succ m ih =>
    rw[dV];obtain⟨a1,a2⟩:=Lo hW hx h0 h1 m;have:ab (cc m*(sq u W m:Rat)-W*(cc m*tm x m))<=2:=by
     rw[show cc m*(sq u W m:Rat)-W*(cc m*tm x m)=cc m*(sq u W m-tm x m*W) by grind,eA];have b1:ab (sq u W m-tm x m*W)<=2:=by rw[dJ];grind
     have:=dW (bB _) (aMW m) (bB _) b1;grind
    have hc:((m+1:Nat):Rat)=(m:Rat)+1:=by norm_cast
    rw[hc];grind
  exact this n
 have ht:=Kw (x:=x) (by rw[bW h0];grind) hn aKX;obtain⟨a1,a2⟩:=Lo hW hx h0 h1 n;rw[hz]at a2;rw[bW h0]at ht;have aLN:(0:Rat)<(W:Rat):=by exact_mod_cast hW
 rw[dJ]at *;have b1:=aM (cCJ aLN) (show 0<=2*tm x n-(cs x-uW x n) by grind);have b2:=aM (cCJ aLN) (show 0<=2*tm x n+(cs x-uW x n) by grind);have aQW:((0:Nat):Rat)=0:=by norm_cast
 rw[aQW]at a2;grind
theorem aIW{u W:Nat}(hW:0<W){x:Rat}(hx:x*(W:Rat)=(u:Rat))(h0:0<=x)(h1:x<=1/2){n:Nat}(hn:1<=n)(aKX:n<=1048576)(hz:sq u W n=0) :
  ab (sum (fun k=>ss k*(sq u W k:Rat)) n-W*sn x)<=2*(n:Rat)+4:=by
 have hs:ab (sum (fun k=>ss k*(sq u W k:Rat)) n-W*uM x n)<=2*(n:Rat):=by
  unfold uM;rw[<-oQ,<-Cl];refine cCL (zR _ _) ?_;have:∀m,sum (fun k=>ab (ss k*(sq u W k:Rat)-W*(ss k*tm x k))) m<=2*(m:Rat):=by
   intro m
   induction m with
   |zero=>simp only[sum];grind
   |succ m ih =>
    rw[dV];obtain⟨a1,a2⟩:=Lo hW hx h0 h1 m;have:ab (ss m*(sq u W m:Rat)-W*(ss m*tm x m))<=2:=by
     rw[show ss m*(sq u W m:Rat)-W*(ss m*tm x m)=ss m*(sq u W m-tm x m*W) by grind,eA];have b1:ab (sq u W m-tm x m*W)<=2:=by rw[dJ];grind
     have:=dW (bB _) (aCB m) (bB _) b1;grind
    have hc:((m+1:Nat):Rat)=(m:Rat)+1:=by norm_cast
    rw[hc];grind
  exact this n
 have ht:=Ry (x:=x) (by rw[bW h0];grind) hn aKX;obtain⟨a1,a2⟩:=Lo hW hx h0 h1 n;rw[hz]at a2;rw[bW h0]at ht;have aLN:(0:Rat)<(W:Rat):=by exact_mod_cast hW
 rw[dJ]at *;have b1:=aM (cCJ aLN) (show 0<=2*tm x n-(sn x-uM x n) by grind);have b2:=aM (cCJ aLN) (show 0<=2*tm x n+(sn x-uM x n) by grind);have aQW:((0:Nat):Rat)=0:=by norm_cast
 rw[aQW]at a2;grind
theorem kQ{W x e s c s' c':Rat}(hW:1<=W)(hx:ab x<=1)(hs:ab (s-W*sn x)<=e)(hc:ab (c-W*cs x)<=e)(he:8*(e*e)<=W)(bIU:(8*e+4*W)*uU<=1/4)
  (h1:ab (W*s'-2*(s*c))<=2*W) (h2:ab (W*c'-(W*W-2*(s*s)))<=2*W):ab (s'-W*sn (2*x))<=4*e+4/\ab (c'-W*cs (2*x))<=4*e+4:=by
 have bFU:ab x<=4:=by grind
 have d1:=aFJ bFU;have d2:=Ra bFU;have bs:=aTF bFU;have bc:=aUV bFU;have bAU:0<=e:=cCL (bB _) hs;have aXP:=uT;generalize sn (2*x)=S2 at *;generalize cs (2*x)=C2 at *;generalize sn x=S at *;generalize cs x=C at *;obtain⟨a,ha⟩:∃a,a=s-W*S:=⟨_,rfl⟩;obtain⟨b,hb⟩:∃b,b=c-W*C:=⟨_,rfl⟩;rw[<-ha]at hs;rw[<-hb]at hc;have es:s=W*S+a:=by grind
 have ec:c=W*C+b:=by grind
 subst es;subst ec;have q1:=dW (bB S) bs (bB b) hc;have q2:=dW (bB C) bc (bB a) hs;have q3:=dW (bB a) hs (bB b) hc;have q4:=dW (bB S) bs (bB a) hs;have q5:=dW (bB a) hs (bB a) hs;rw[<-eA]at q1 q2 q3 q4 q5;have bBA:0<=W:=by grind
 have w1:∀{t r:Rat},ab t<=r->-(W*r)<=W*t/\W*t<=W*r:=fun {t r} h=>by
  rw[dJ]at h;have:=aM bBA (show 0<=r-t by grind);have:=aM bBA (show 0<=r+t by grind);constructor <;> grind
 have k1:=w1 q1;have k2:=w1 q2;have k4:=w1 q4;have k6:=w1 (r:=W*uU) (t:=W*(S2-2*S*C)) (by
  have:=w1 d1;rw[dJ];grind)
 have k7:=w1 (r:=W*(2*uU)) (t:=W*(C2-(1-2*(S*S)))) (by
  have:=w1 d2;rw[dJ];grind)
 have hq:0<W:=by grind
 have z1:=aM bBA (show 0<=1/4-(8*e+4*W)*uU by grind);rw[dJ]at h1 h2 q3 q5;constructor
 ·rw[dJ];constructor
  ·refine bP hq ?_;grind
  ·refine bP hq ?_;grind
 ·rw[dJ];constructor
  ·refine bP hq ?_;grind
  ·refine bP hq ?_;grind
def sg(j:Nat):Rat:=if j%2=0 then 1 else -1
theorem aTG(j:Nat):ab (sg j)=1:=by unfold sg ab;split <;> split <;> grind
def iN(n w j:Nat):Nat:=2^w/n^(2*j+1)/(2*j+1)
def apart(n j:Nat):Rat:=1/((n^(2*j+1)*(2*j+1):Nat):Rat)
def Oa(n:Nat):Rat:=sum (fun j=>sg j*apart n j) K
theorem yH{n:Nat}(hn:0<n)(j:Nat):0<apart n j/\apart n j*((n^(2*j+1)*(2*j+1):Nat):Rat)=1:=by
 unfold apart;have h:0<n^(2*j+1)*(2*j+1):=cEO (cAH hn) (by omega);have h':(0:Rat)<((n^(2*j+1)*(2*j+1):Nat):Rat):=by exact_mod_cast h
 generalize ((n^(2*j+1)*(2*j+1):Nat):Rat)=q at *;have:q≠0:=by grind
 constructor
 ·have:=Rat.inv_pos.2 h';grind
 ·grind
theorem Ri{n:Nat}(hn:0<n)(w j:Nat):0<=((2^w:Nat):Rat)*apart n j-iN n w j/\((2^w:Nat):Rat)*apart n j-iN n w j<=1:=by
 obtain⟨h1,h2⟩:=yH hn j;have h:0<n^(2*j+1)*(2*j+1):=cEO (cAH hn) (by omega);obtain⟨d1,d2⟩:=rN (2^w) h;unfold iN;rw[cCT];have h':(0:Rat)<((n^(2*j+1)*(2*j+1):Nat):Rat):=by exact_mod_cast h
 generalize ((n^(2*j+1)*(2*j+1):Nat):Rat)=q at *;generalize ((2^w/(n^(2*j+1)*(2*j+1)):Nat):Rat)=t at *;generalize ((2^w:Nat):Rat)=W at *;have e:q*(W*apart n j)=W:=by
  rw[show q*(W*apart n j)=W*(apart n j*q) by grind,h2];grind
 refine⟨?_,?_⟩
 ·have:t<=W*apart n j:=bP h' (by grind);grind
 ·have:W*apart n j<=t+1:=bP h' (by grind);grind
theorem aAU{n:Nat}(hn:2<=n)(j:Nat):apart n (j+1)<=apart n j/2:=by
 obtain⟨h1,h2⟩:=yH (show 0<n by omega) j;obtain⟨h3,h4⟩:=yH (show 0<n by omega) (j+1);have hle:2*(n^(2*j+1)*(2*j+1))<=n^(2*(j+1)+1)*(2*(j+1)+1):=by
  have e:n^(2*(j+1)+1)=n^(2*j+1)*(n*n):=by
   rw[show 2*(j+1)+1=(2*j+1)+2 by omega,cCH,cEP]
  have bLB:4<=n*n:=Nat.mul_le_mul hn hn;rw[e,cCN,cEJ];refine bZW _ ?_;have:4*(2*(j+1)+1)<=n*n*(2*(j+1)+1):=cBK _ bLB;omega
 have hle':(2:Rat)*((n^(2*j+1)*(2*j+1):Nat):Rat)<=((n^(2*(j+1)+1)*(2*(j+1)+1):Nat):Rat):=by exact_mod_cast hle
 generalize ((n^(2*j+1)*(2*j+1):Nat):Rat)=p at *;generalize ((n^(2*(j+1)+1)*(2*(j+1)+1):Nat):Rat)=q at *;have hp:0<p:=by
  refine Rat.not_le.1 fun hn=>?_
  have:=aM (cCJ h1) (show 0<=-p by grind);grind
 have:=aM (cCJ h3) (show 0<=q-2*p by grind);refine bP hp ?_;grind
theorem aAT{n:Nat}(hn:2<=n)(a m:Nat):sum (fun i=>apart n (a+i)) m<=2*apart n a:=by
 have hh:∀i,apart n (a+i)<=apart n a*hf i:=by
  intro i
  induction i with
  |zero=>simp only[hf,bYI];grind
  |succ i ih =>
   have:=aAU hn (a+i);rw[<-cAY,hf];grind
 have h1:sum (fun i=>apart n (a+i)) m<=sum (fun i=>apart n a*hf i) m:=xA fun k _=>hh k
 rw[oQ]at h1;have h2:=(yH (show 0<n by omega) a).1;have:=aM (cCJ h2) (show 0<=2-sum hf m by have:=bLE m;grind);grind
theorem aEV{n:Nat}(hn:2<=n)(w:Nat){J:Nat}(hJ:J<=1048576)(hz:iN n w J=0):ab (sum (fun j=>sg j*(iN n w j:Rat)) J-((2^w:Nat):Rat)*Oa n)<=(J:Rat)+2:=by
 obtain⟨m,hm⟩:=bYQ (show J<=K by rw[aZU];exact hJ);unfold Oa;rw[hm,lM];have h1:∀i,ab (sum (fun j=>sg j*(iN n w j:Rat)) i-((2^w:Nat):Rat)*sum (fun j=>sg j*apart n j) i)<=(i:Rat):=by
  intro i;rw[<-oQ,<-Cl];refine cCL (zR _ _) ?_
  induction i with
  |zero=>simp only[sum];grind
  |succ i ih =>
   rw[dV];obtain⟨a1,a2⟩:=Ri (show 0<n by omega) w i;have:ab (sg i*(iN n w i:Rat)-((2^w:Nat):Rat)*(sg i*apart n i))<=1:=by
    rw[show sg i*(iN n w i:Rat)-((2^w:Nat):Rat)*(sg i*apart n i)=sg i*(iN n w i-((2^w:Nat):Rat)*apart n i) by grind,eA,aTG];have b1:ab (iN n w i-((2^w:Nat):Rat)*apart n i)<=1:=by rw[dJ];grind
    grind
   have hc:((i+1:Nat):Rat)=(i:Rat)+1:=by norm_cast
   rw[hc];grind
 have h2:ab (sum (fun i=>sg (J+i)*apart n (J+i)) m)<=2*apart n J:=by
  refine cCL (zR _ _) (cCL (xA fun k _=>?_) (aAT hn J m));rw[eA,aTG,bW (cCJ (yH (show 0<n by omega) _).1)];grind
 have h3:=(Ri (show 0<n by omega) w J).2;have h4:=h1 J;have h0:(0:Rat)<=((2^w:Nat):Rat):=by exact_mod_cast cCR _
 rw[hz]at h3;have aQW:((0:Nat):Rat)=0:=by norm_cast
 rw[aQW]at h3;rw[dJ]at *;have b1:=aM h0 (show 0<=2*apart n J-sum (fun i=>sg (J+i)*apart n (J+i)) m by grind);have b2:=aM h0 (show 0<=2*apart n J+sum (fun i=>sg (J+i)*apart n (J+i)) m by grind);grind
end R
namespace R
def gQ{α:Type}(n:Nat)(k:Nat->α):α:=Nat.rec (motive:=fun _=>α) (k 0) (fun m _=>k (m+1)) n
theorem fJ{α:Type}(n:Nat)(k:Nat->α):gQ n k=k n:=by cases n <;> rfl
def inner(q:Nat)(f:Nat):Nat->Nat->Nat->Nat×Nat:=Nat.rec (motive:=fun _=>Nat->Nat->Nat->Nat×Nat) (fun t s _=>(t,s))
 (fun _ ih t s i=>gQ (t/q) fun u=>gQ (u/q) fun v=>gQ (s+t/i-u/(i+2)) fun s'=>gQ (i+4) fun i'=>ih v s' i') f
def outer(q:Nat)(g:Nat)(f:Nat):Nat->Nat->Nat->Nat×Nat:=Nat.rec (motive:=fun _=>Nat->Nat->Nat->Nat×Nat) (fun t s _=>(t,s))
 (fun _ ih t s i=>Prod.rec (motive:=fun _=>Nat×Nat) (fun t' s'=>ih t' s' (i+4*g)) (inner q g t s i)) f
theorem aNB(n w:Nat){j:Nat}(hn:0<n):iN n w (j+1)<=iN n w j:=by
 unfold iN;refine bYC (cFT (show 2*j+1<=2*(j+1)+1 by omega) (by omega)) (Nat.div_le_div_right ?_);exact cFT (cAI hn (by omega)) (cAH hn)
def At(n w:Nat)(j:Nat)(t s:Nat):Prop:=t=2^w/n^(2*j+1)/\(s:Rat)=sum (fun j=>sg j*(iN n w j:Rat)) j/\j%2=0
theorem aSM{n w j t s:Nat}(hn:0<n)(h:At n w j t s):At n w (j+2) (t/(n*n)/(n*n)) (s+t/(2*j+1)-t/(n*n)/(2*j+1+2)):=by
 obtain⟨h1,h2,h3⟩:=h;have e1:t/(n*n)=2^w/n^(2*(j+1)+1):=by
  rw[h1,cCT,show 2*(j+1)+1=2*j+1+2 by omega,cCH _ (2*j+1) 2,cEP]
 have e2:t/(n*n)/(n*n)=2^w/n^(2*(j+2)+1):=by
  rw[e1,cCT,show 2*(j+2)+1=2*(j+1)+1+2 by omega,cCH _ (2*(j+1)+1) 2,cEP]
 refine⟨e2,?_,by omega⟩;have a1:t/(2*j+1)=iN n w j:=by rw[h1];rfl
 have a2:t/(n*n)/(2*j+1+2)=iN n w (j+1):=by rw[e1];rfl
 rw[a1,a2,dV,dV,<-h2];have hle:=aNB n w (j:=j) hn;have:((s+iN n w j-iN n w (j+1):Nat):Rat)+(iN n w (j+1):Rat)=(s:Rat)+(iN n w j:Rat):=by
  exact_mod_cast(show s+iN n w j-iN n w (j+1)+iN n w (j+1)=s+iN n w j by omega)
 have g1:sg j=1:=by unfold sg;rw[if_pos h3]
 have g2:sg (j+1)=-1:=by unfold sg;rw[bG]
 rw[g1,g2];grind
theorem Zq(q f t s i:Nat):inner q (f+1) t s i=gQ (t/q) fun u=>gQ (u/q) fun v=>gQ (s+t/i-u/(i+2)) fun s'=>gQ (i+4) fun i'=>inner q f v s' i':=rfl
theorem Zi(q g f t s i:Nat):outer q g (f+1) t s i=outer q g f (inner q g t s i).1 (inner q g t s i).2 (i+4*g):=rfl
theorem aKN{n w:Nat}(hn:0<n):∀(f j t s:Nat),At n w j t s->At n w (j+2*f) (inner (n*n) f t s (2*j+1)).1 (inner (n*n) f t s (2*j+1)).2:=by
 intro f
 induction f with
 |zero=>intro j t s h;exact h
 |succ f ih =>
  intro j t s h;have e:inner (n*n) (f+1) t s (2*j+1)=inner (n*n) f (t/(n*n)/(n*n)) (s+t/(2*j+1)-t/(n*n)/(2*j+1+2)) (2*(j+2)+1):=by
   rw[Zq,fJ,fJ,fJ,fJ];rfl
  rw[e,show j+2*(f+1)=(j+2)+2*f by omega];exact ih _ _ _ (aSM hn h)
theorem aKA{n w:Nat}(hn:0<n)(g:Nat):∀(f j t s:Nat),At n w j t s->At n w (j+2*(g*f)) (outer (n*n) g f t s (2*j+1)).1 (outer (n*n) g f t s (2*j+1)).2:=by
 intro f
 induction f with
 |zero=>intro j t s h;exact h
 |succ f ih =>
  intro j t s h;have e:outer (n*n) g (f+1) t s (2*j+1)=outer (n*n) g f (inner (n*n) g t s (2*j+1)).1 (inner (n*n) g t s (2*j+1)).2 (2*(j+2*g)+1):=by
   rw[Zi,show 2*j+1+4*g=2*(j+2*g)+1 by omega]
  rw[e,show j+2*(g*(f+1))=(j+2*g)+2*(g*f) by rw[Nat.mul_succ];omega];exact ih _ _ _ (aKN hn g j t s h)
def Yo(n w g f:Nat):Nat×Nat:=outer (n*n) g f (2^w/n) 0 1
theorem Ij{n:Nat}(hn:2<=n)(w g f:Nat)(hJ:2*(g*f)<=1048576)(hz:(Yo n w g f).1=0):ab (((Yo n w g f).2:Rat)-((2^w:Nat):Rat)*Oa n)<=((2*(g*f):Nat):Rat)+2:=by
 have h:=aKA (n:=n) (w:=w) (by omega) g f 0 (2^w/n) 0 ⟨by rw[cEB,Nat.pow_one],by simp only[sum];norm_cast,rfl⟩;obtain⟨h1,h2,_⟩:=h;rw[bXL]at h1 h2;have h3:(Yo n w g f).2=(outer (n*n) g f (2^w/n) 0 (2*0+1)).2:=rfl;have h4:(Yo n w g f).1=(outer (n*n) g f (2^w/n) 0 (2*0+1)).1:=rfl;rw[h3,h2];rw[h4,h1]at hz;rw[bXL]at hz ⊢;refine aEV hn w hJ ?_;unfold iN;rw[hz,cEK]
def Rt(u w:Nat)(f:Nat):Nat->Nat->Nat->Nat->Nat×Nat×Nat:=Nat.rec (motive:=fun _=>Nat->Nat->Nat->Nat->Nat×Nat×Nat) (fun t c s _=>(t,c,s))
 (fun _ ih t c s k=>gQ (t*u/w/(k+1)) fun t1=>gQ (t1*u/w/(k+2)) fun t2=>gQ (t2*u/w/(k+3)) fun t3=>gQ (t3*u/w/(k+4)) fun t4=>gQ (c+t-t2) fun c'=>gQ (s+t1-t3) fun s'=>gQ (k+4) fun k'=>ih t4 c' s' k') f
def pZ(w:Nat)(h:Nat):Nat->Nat->Nat×Nat:=Nat.rec (motive:=fun _=>Nat->Nat->Nat×Nat) (fun s c=>(s,c))
 (fun _ ih s c=>gQ (2*(s*c/w)) fun s'=>gQ (w-2*(s*s/w)) fun c'=>ih s' c') h
def aPW(x:Nat):Bool :=
 gQ (x &&& (x >>> 1)) fun x=>gQ (x &&& (x >>> 2)) fun x=>gQ (x &&& (x >>> 4)) fun x=>gQ (x &&& (x >>> 8)) fun x=>bXI (x &&& (x >>> 8)) 0
def aVP(P w:Nat):Bool :=
 gQ (P/2^102) fun u=>gQ (2^w) fun W =>
 Prod.rec (motive:=fun _=>Bool) (fun t r=>Prod.rec (motive:=fun _=>Bool) (fun c s=>bXI t 0 &&
  Prod.rec (motive:=fun _=>Bool) (fun s' c'=>bXS (2*s'*s') (W*W+2^(w+240))&&(bXS (W*W) (2*s'*s'+2^(w+240))&&bXS 1 c')) (pZ W 100 s c)) r) (Rt u W 320 W 0 0 0)
def aYY(w:Nat):Bool :=
 Prod.rec (motive:=fun _=>Bool) (fun t5 s5=>Prod.rec (motive:=fun _=>Bool) (fun t239 nS=>Prod.rec (motive:=fun _=>Bool) (fun t18 aON=>Prod.rec (motive:=fun _=>Bool) (fun t57 aOM =>
  bXI t5 0&&(bXI t239 0&&(bXI t18 0&&(bXI t57 0 &&
  gQ (16*s5-4*nS) fun P=>gQ (48*aON+32*aOM-20*nS) fun G =>
  bXS P (G+2^24)&&(bXS G (P+2^24)&&gQ (P/2^64) fun Q =>
  bXI ((P+2^40)/2^64) Q&&(bXI ((P-2^40)/2^64) Q&&(bXI (Q/2^(w-104)) 3454217652357&&(aPW Q&&(aPW (2^(w-62)-1-Q)&&aVP P w)))))))))
  (Yo 57 w 78 78)) (Yo 18 w 92 92)) (Yo 239 w 66 66)) (Yo 5 w 122 122)
def Mn(x n:Nat):Prop:=∀p,∃i,i<n/\x.testBit (p+i)=false
theorem xU{x a n:Nat}(h:Mn (x &&& (x >>> a)) n):Mn x (n+a):=by
 intro p;obtain⟨i,hi,hb⟩:=h p;rw[Nat.testBit_and,Nat.testBit_shiftRight,Bool.and_eq_false_iff]at hb;rcases hb with hb |hb
 ·exact⟨i,by omega,hb⟩
 ·exact⟨i+a,by omega,by rwa [show p+(i+a)=a+(p+i) by omega]⟩
theorem aCP{x:Nat}(h:aPW x=true):Mn x 24:=by
 unfold aPW at h;rw[fJ,fJ,fJ,fJ]at h;have h0:=bXT h;have n0:Mn ((((x &&& x >>> 1) &&& (x &&& x >>> 1) >>> 2) &&& ((x &&& x >>> 1) &&& (x &&& x >>> 1) >>> 2) >>> 4) &&& (((x &&& x >>> 1) &&& (x &&& x >>> 1) >>> 2) &&& ((x &&& x >>> 1) &&& (x &&& x >>> 1) >>> 2) >>> 4) >>> 8 &&& ((((x &&& x >>> 1) &&& (x &&& x >>> 1) >>> 2) &&& ((x &&& x >>> 1) &&& (x &&& x >>> 1) >>> 2) >>> 4) &&& (((x &&& x >>> 1) &&& (x &&& x >>> 1) >>> 2) &&& ((x &&& x >>> 1) &&& (x &&& x >>> 1) >>> 2) >>> 4) >>> 8) >>> 8) 1:=by
  rw[h0];exact fun p=>⟨0,by omega,by simp⟩
 exact xU (a:=1) (n:=23) (xU (a:=2) (n:=21) (xU (a:=4) (n:=17) (xU (a:=8) (n:=9) (xU (a:=8) (n:=1) n0))))
theorem Qq{x n:Nat}(h:Mn x n)(p:Nat):x/2^p%2^n≠2^n-1:=by
 intro hc;obtain⟨i,hi,hb⟩:=h p;have h1:(x/2^p%2^n).testBit i=true:=by
  rw[hc,cFU];exact decide_eq_true hi
 rw[cEQ,cER]at h1;rw[show p+i=i+p by omega]at hb;rw[hb]at h1;simp at h1
theorem aGP{x L n p:Nat}(hx:x<2^L)(hp:p+n<=L)(h:(2^L-1-x)/2^p%2^n≠2^n-1):x/2^p%2^n≠0:=by
 intro hc;apply h;apply Nat.eq_of_testBit_eq;intro i;rw[cFU,cEQ,cER,show 2^L-1-x=2^L-(x+1) by omega,Nat.testBit_two_pow_sub_succ hx];have h1:(x/2^p%2^n).testBit i=false:=by rw[hc];simp
 rw[cEQ,cER]at h1
 by_cases hi:i<n
 ·simp[hi]at h1 ⊢;exact⟨by omega,h1⟩
 ·simp[hi]
theorem aDD(h:Nat):((4^(h+1):Nat):Rat)=4*((4^h:Nat):Rat):=by
 rw[cCK,cCP];grind
theorem Kk(h:Nat):((2^(h+1):Nat):Rat)=2*((2^h:Nat):Rat):=by
 rw[cCK,cCP];grind
theorem Mc(b h:Nat)(hb:0<b):(1:Rat)<=((b^h:Nat):Rat):=by exact_mod_cast cAH hb
theorem yD(w h s c:Nat):pZ w (h+1) s c=pZ w h (2*(s*c/w)) (w-2*(s*s/w)):=by
 show gQ _ (fun s'=>gQ _ fun c'=>pZ w h s' c')=_;rw[fJ,fJ]
theorem aMK{W s c:Nat}{x e:Rat}(hW:1<=W)(h0:0<=x)(h1:x<=1/2)(hs:ab ((s:Rat)-W*sn x)<=e)(hc:ab ((c:Rat)-W*cs x)<=e)(he:100*(e*e)<=(W:Rat))(bIU:(8*e+4*(W:Rat))*uU<=1/4) :
  ab (((2*(s*c/W):Nat):Rat)-W*sn (2*x))<=4*e+4/\ab (((W-2*(s*s/W):Nat):Rat)-W*cs (2*x))<=4*e+4/\2*(s*s/W)<=W:=by
 have bUU:(1:Rat)<=(W:Rat):=by exact_mod_cast hW
 have bAU:0<=e:=cCL (bB _) hs;have aUA:ab x<=1:=by rw[bW h0];grind
 have aWS:2*(s*s/W)<=W:=by
  have h2:=aCG h0 (by grind);have h3:=Ls h0 (by grind);rw[dJ]at hs;have e1:e<=(W:Rat)/10:=by
   have:=xP (a:=10*e) (b:=(W:Rat)) (by have:=aM (show 0<=(W:Rat)-1 by grind) (show 0<=(W:Rat) by grind);grind) (by grind);rw[bW (by grind)]at this;grind
  have e2:=aM (show 0<=(W:Rat) by grind) (show 0<=1/2-sn x by grind);have e3:(s:Rat)<=3/5*(W:Rat):=by grind
  have e4:(0:Rat)<=(s:Rat):=by exact_mod_cast cCR _
  have e5:=dW e4 e3 e4 e3;have d:=(rN (s*s) (b:=W) (by omega)).1;rw[cCP]at d;have e6:(W:Rat)*(2*((s*s/W:Nat):Rat))<=(W:Rat)*(W:Rat):=by
   have:=aM (show 0<=(W:Rat) by grind) (show 0<=(W:Rat) by grind);grind
  have e7:=bP (show 0<(W:Rat) by grind) e6;exact_mod_cast e7
 have aDW:ab ((W:Rat)*((2*(s*c/W):Nat):Rat)-2*((s:Rat)*(c:Rat)))<=2*(W:Rat):=by
  obtain⟨d1,d2⟩:=rN (s*c) (b:=W) (by omega);rw[cCP]at d1 d2;rw[cCP,dJ];have:((2:Nat):Rat)=2:=by norm_cast
  rw[this];constructor <;> grind
 have aYH:ab ((W:Rat)*((W-2*(s*s/W):Nat):Rat)-((W:Rat)*(W:Rat)-2*((s:Rat)*(s:Rat))))<=2*(W:Rat):=by
  obtain⟨d1,d2⟩:=rN (s*s) (b:=W) (by omega);have aUQ:((W-2*(s*s/W):Nat):Rat)+2*((s*s/W:Nat):Rat)=(W:Rat):=by
   exact_mod_cast(show W-2*(s*s/W)+2*(s*s/W)=W by omega)
  rw[cCP]at d1 d2;generalize ((W-2*(s*s/W):Nat):Rat)=z at *;generalize ((s*s/W:Nat):Rat)=y at *;have:z=(W:Rat)-2*y:=by grind
  subst this;rw[dJ];constructor <;> grind
 obtain⟨r1,r2⟩:=kQ bUU aUA hs hc (by have:=aM bAU bAU;grind) bIU aDW aYH;exact⟨r1,r2,aWS⟩
theorem aEH{W:Nat}(hW:1<=W){E:Rat}(hE:100*(E*E)<=(W:Rat))(bIU:(8*E+4*(W:Rat))*uU<=1/4):∀(h:Nat) (x e:Rat) (s c:Nat),0<=x->((2^h:Nat):Rat)*x<=1->ab ((s:Rat)-W*sn x)<=e->ab ((c:Rat)-W*cs x)<=e->((4^h:Nat):Rat)*(e+2)<=E ->
  ab (((pZ W h s c).1:Rat)-W*sn (((2^h:Nat):Rat)*x))<=((4^h:Nat):Rat)*(e+2)-2/\ab (((pZ W h s c).2:Rat)-W*cs (((2^h:Nat):Rat)*x))<=((4^h:Nat):Rat)*(e+2)-2:=by
 intro h
 induction h with
 |zero =>
  intro x e s c h0 h1 hs hc bGS;rw[cEN,show((1:Nat):Rat)*x=x by grind];have:((1:Nat):Rat)=1:=by norm_cast
  rw[this];exact⟨by show ab ((s:Rat)-_)<=_;grind,by show ab ((c:Rat)-_)<=_;grind⟩
 |succ h ih =>
  intro x e s c h0 h1 hs hc bGS;rw[Kk]at h1;rw[aDD]at bGS;have bAU:0<=e:=cCL (bB _) hs;have g2:=Mc 2 h (by omega);have g4:=Mc 4 h (by omega);have aDK:x<=1/2:=by
   have:=aM (show 0<=((2^h:Nat):Rat)-1 by grind) h0;grind
  have aRE:e<=E:=by
   have:=aM (show 0<=((4^h:Nat):Rat)-1 by grind) (show 0<=e+2 by grind);grind
  have hsq:=dW bAU aRE bAU aRE;have aXP:=uT;have hsm2:=aM (show 0<=E-e by grind) (cCJ aXP);obtain⟨r1,r2,_⟩:=aMK hW h0 aDK hs hc (by grind) (by grind);have:=ih (2*x) (4*e+4) _ _ (by grind) (by grind) r1 r2 (by grind);rw[yD,Kk,aDD,show 2*((2^h:Nat):Rat)*x=((2^h:Nat):Rat)*(2*x) by grind];refine⟨cCL this.1 ?_,cCL this.2 ?_⟩ <;> grind
theorem Ln{u W:Nat}(h:u<=W)(k:Nat):sq u W (k+1)<=sq u W k:=by
 rw[sq];refine bYC (cDK _ _) ?_
 by_cases hW:W=0
 ·rw[hW,Nat.div_zero];omega
 ·exact Nat.div_le_of_le_mul (by rw[cCI];exact cBK _ h)
theorem aFI(u w f t c s k:Nat):Rt u w (f+1) t c s k=gQ (t*u/w/(k+1)) fun t1=>gQ (t1*u/w/(k+2)) fun t2=>gQ (t2*u/w/(k+3)) fun t3=>gQ (t3*u/w/(k+4)) fun t4=>gQ (c+t-t2) fun c'=>gQ (s+t1-t3) fun s'=>gQ (k+4) fun k'=>Rt u w f t4 c' s' k':=rfl
theorem aPQ{u W:Nat}(hu:u<=W):∀(f k t c s:Nat),k%4=0->t=sq u W k->(c:Rat)=sum (fun k=>cc k*(sq u W k:Rat)) k->(s:Rat)=sum (fun k=>ss k*(sq u W k:Rat)) k ->
  (Rt u W f t c s k).1=sq u W (k+4*f)/\(((Rt u W f t c s k).2.1:Nat):Rat)=sum (fun k=>cc k*(sq u W k:Rat)) (k+4*f)/\(((Rt u W f t c s k).2.2:Nat):Rat)=sum (fun k=>ss k*(sq u W k:Rat)) (k+4*f):=by
 intro f
 induction f with
 |zero=>intro k t c s _ h1 h2 h3;exact⟨h1,h2,h3⟩
 |succ f ih =>
  intro k t c s hk h1 h2 h3;have e:Rt u W (f+1) t c s k=Rt u W f (sq u W (k+4)) (c+sq u W k-sq u W (k+2)) (s+sq u W (k+1)-sq u W (k+3)) (k+4):=by
   rw[aFI,fJ,fJ,fJ,fJ,fJ,fJ,fJ,h1];rfl
  have l1:sq u W (k+1)<=sq u W k:=Ln hu k;have l2:sq u W (k+2)<=sq u W (k+1):=Ln hu (k+1);have l3:sq u W (k+3)<=sq u W (k+2):=Ln hu (k+2);rw[e,show k+4*(f+1)=k+4+4*f by omega];have c0:cc k=1/\cc (k+1)=0/\cc (k+2)=-1/\cc (k+3)=0:=by
   unfold cc;refine⟨?_,?_,?_,?_⟩
   ·rw[if_pos hk]
   ·rw[bG,bG]
   ·rw[bG,aT]
   ·rw[bG,bG]
  have s0:ss k=0/\ss (k+1)=1/\ss (k+2)=0/\ss (k+3)=-1:=by
   unfold ss;refine⟨?_,?_,?_,?_⟩
   ·rw[bG,bG]
   ·rw[aT]
   ·rw[bG,bG]
   ·rw[bG,aT]
  refine ih (k+4) _ _ _ (by omega) rfl ?_ ?_
  ·rw[dV,dV,dV,dV,<-h2,c0.1,c0.2.1,c0.2.2.1,c0.2.2.2];have:((c+sq u W k-sq u W (k+2):Nat):Rat)+(sq u W (k+2):Rat)=(c:Rat)+(sq u W k:Rat):=by exact_mod_cast(show c+sq u W k-sq u W (k+2)+sq u W (k+2)=c+sq u W k by omega)
   grind
  ·rw[dV,dV,dV,dV,<-h3,s0.1,s0.2.1,s0.2.2.1,s0.2.2.2];have:((s+sq u W (k+1)-sq u W (k+3):Nat):Rat)+(sq u W (k+3):Rat)=(s:Rat)+(sq u W (k+1):Rat):=by exact_mod_cast(show s+sq u W (k+1)-sq u W (k+3)+sq u W (k+3)=s+sq u W (k+1) by omega)
   grind
set_option maxRecDepth 10000
def pi:Rat:=16*Oa 5-4*Oa 239
def aTP:Rat:=48*Oa 18+32*Oa 57-20*Oa 239
theorem fX{a b:Bool}(h:(a&&b)=true):a=true/\b=true:=by simpa using h
structure Ui(w:Nat)(Q:Nat):Prop where
 lo:(Q:Rat)<=((2^(w-64):Nat):Rat)*pi
 hi:((2^(w-64):Nat):Rat)*pi<(Q:Rat)+1
 bEJ:ab (((2^w:Nat):Rat)*(pi-aTP))<=33554432
 top:Q/2^(w-104)=3454217652357
 ones:Mn Q 24
 aQK:Mn (2^(w-62)-1-Q) 24
 cos:ab (((2^w:Nat):Rat)*cs (pi/2))<=((2^250:Nat):Rat)
theorem Vh(w:Nat)(hw:64<=w):2^w=2^64*2^(w-64):=by rw[<-cCH];congr 1;omega
theorem aDE{u W:Nat}(hW:0<W):∃x:Rat,x*(W:Rat)=(u:Rat)/\0<=x:=by
 have h:(0:Rat)<(W:Rat):=by exact_mod_cast hW
 have h1:(W:Rat)≠0:=by grind
 refine⟨(u:Rat)/(W:Rat),cFV h1,?_⟩;have hu:(0:Rat)<=(u:Rat):=by exact_mod_cast cCR _
 refine Rat.not_lt.1 fun hn=>?_
 have:=cCX h (show 0 < -((u:Rat)/(W:Rat)) by grind);have e:(u:Rat)/(W:Rat)*(W:Rat)=u:=cFV h1;grind
theorem aEF{w:Nat}(hw:w<=1000000):((2^w:Nat):Rat)*uU<=1/1048576:=by
 have h1:=yA (n:=w+20) (by omega);have h2:=Nc w;have h3:=Te w 20;have h4:hf 20=1/1048576:=by simp only[hf];grind
 have h5:(0:Rat)<=((2^w:Nat):Rat):=by exact_mod_cast cCR _
 have h6:=aM h5 (show 0<=hf (w+20)-uU by grind);rw[h3,h4]at h6;generalize ((2^w:Nat):Rat)=W at *;generalize hf w=H at *;clear h1 h3 h4;grind
theorem Vn{W E:Rat}(h:E<=W)(aXP:W*uU<=1/1048576):(8*E+4*W)*uU<=1/4:=by
 have:=aM (show 0<=W-E by grind) (cCJ uT);grind
theorem aRY{W u P p x y:Rat}(hx:x*W=u)(hy:y=1267650600228229401496703205376*x)(v1:u*5070602400912917605986812821504<=P)(v2:P<u*5070602400912917605986812821504+5070602400912917605986812821504)(hp:ab (P-W*p)<=524288):ab (W*(p/2-2*y))<=10141204801825835211973625643008:=by
 rw[dJ]at hp ⊢;subst hy;have:W*(p/2-2*(1267650600228229401496703205376*x))=W*p/2-2535301200456458802993406410752*u:=by rw[<-hx];grind
 rw[this];grind
theorem aYT{w P:Nat}(hw:1000<=w)(aUB:w<=1000000)(hP:P<3454217652358*2^(w-40)){p:Rat}(hp:ab ((P:Rat)-((2^w:Nat):Rat)*p)<=524288)(h:aVP P w=true):ab (((2^w:Nat):Rat)*cs (p/2))<=((2^250:Nat):Rat):=by
 unfold aVP at h;rw[fJ,fJ]at h;have aOX:0<2^w:=cB;have aHM:P/2^102*2^102<=P:=cES P (2^102);have bAM:P<P/2^102*2^102+2^102:=cET (cB);have bWB:2^w=2^40*2^(w-40):=by rw[<-cCH];congr 1;omega
 have bNI:P/2^102*2^100<=2^w:=by
  rw[show 2^102=4*2^100 from rfl,show 2^40=1099511627776 from rfl]at *;generalize 2^100=b at *;generalize 2^(w-40)=q at *;generalize P/(4*b)=u at *;have:u*(4*b)=4*(u*b):=by rw[cEJ]
  omega
 obtain⟨x,hx,Kt⟩:=aDE (u:=P/2^102) aOX;have ht:=aPQ (u:=P/2^102) (W:=2^w) (by omega) 320 0 (2^w) 0 0 rfl rfl (by simp only[sum];norm_cast) (by simp only[sum];norm_cast);generalize Rt (P/2^102) (2^w) 320 (2^w) 0 0 0=T at *;obtain⟨t,c,s⟩:=T;dsimp only at h ht;rw[bXL,show 4*320=1280 from rfl]at ht;obtain⟨ht0,bNL,bNK⟩:=ht;obtain⟨z0,h⟩:=fX h;have z0:=bXT z0;rw[z0]at ht0;have hW:(0:Rat)<((2^w:Nat):Rat):=by exact_mod_cast aOX
 have bFX:((2^100:Nat):Rat)*x<=1:=by
  refine bP hW ?_;have h1:((P/2^102:Nat):Rat)*((2^100:Nat):Rat)<=((2^w:Nat):Rat):=by exact_mod_cast bNI
  grind
 have aDK:x<=1/2:=by
  have n1:((2^100:Nat):Rat)=1267650600228229401496703205376:=by norm_cast
  rw[n1]at bFX;grind
 have ec:=aIX aOX hx Kt aDK (n:=1280) (by omega) (by omega) ht0.symm;have es:=aIW aOX hx Kt aDK (n:=1280) (by omega) (by omega) ht0.symm;rw[<-bNL]at ec;rw[<-bNK]at es;have aTT:((1280:Nat):Rat)=1280:=by norm_cast
 rw[aTT]at ec es;have aXP:=aEF aUB;have n4:((4^100:Nat):Rat)=1606938044258990275541962092341162602522202993782792835301376:=by norm_cast
 have bEC:(100000000000000000000000000000000000000000000000000000000000000000000000000000000000000000000000000000000000000000000000000000000000000000000000000000000000000000000000000000000000000000000000000000000:Rat)<=((2^w:Nat):Rat):=by
  have e:2^w=2^200*(2^200*(2^200*(2^200*2^(w-800)))):=by simp only[<-cCH];congr 1;omega
  have h1:100000000000000000000000000000000000000000000000000000000000000000000000000000000000000000000000000000000000000000000000000000000000000000000000000000000000000000000000000000000000000000000000000000000<=2^200*(2^200*(2^200*(2^200*1))):=bZF rfl;have h2:100000000000000000000000000000000000000000000000000000000000000000000000000000000000000000000000000000000000000000000000000000000000000000000000000000000000000000000000000000000000000000000000000000000<=2^w:=by
   rw[e];exact bYC h1 (bZW _ (bZW _ (bZW _ (bZW _ (cB)))))
  exact_mod_cast h2
 have hepp:=uT;have hept:=Xh;have hd:=aEH (W:=2^w) aOX (E:=4499426523925172771517493858555255287062168382591819938843852800) (cCL (by grind) bEC) (Vn (cCL (by grind) bEC) aXP) 100 x 2564 s c Kt bFX (by grind) (by grind) (by rw[n4];grind);generalize pZ (2^w) 100 s c=R at *;obtain⟨s',c'⟩:=R;dsimp only at h hd;obtain⟨k1,h⟩:=fX h;obtain⟨k2,k3⟩:=fX h;have k1:=bZF k1;have k2:=bZF k2;have tW:=hd.1;rw[n4]at tW;have bCH:((2^100:Nat):Rat)=1267650600228229401496703205376:=by norm_cast
 rw[bCH]at tW bFX;obtain⟨y,hy⟩:∃y:Rat,y=1267650600228229401496703205376*x:=⟨_,rfl⟩;rw[<-hy]at tW bFX;have aKR:0<=y:=by grind
 have bOM:=Ra (x:=y) (by rw[bW aKR];grind);have bNA:2*(s':Rat)*(s':Rat)<=((2^w:Nat):Rat)*((2^w:Nat):Rat)+((2^w:Nat):Rat)*((2^240:Nat):Rat):=by
  rw[cCH]at k1;exact_mod_cast k1
 have bMZ:((2^w:Nat):Rat)*((2^w:Nat):Rat)<=2*(s':Rat)*(s':Rat)+((2^w:Nat):Rat)*((2^240:Nat):Rat):=by
  rw[cCH]at k2;exact_mod_cast k2
 have bCG:((2^240:Nat):Rat)=1766847064778384329583297500742918515827483896875618958121606201292619776:=by norm_cast
 have bCF:((2^250:Nat):Rat)=1809251394333065553493296640760748560207343510400633813116524750123642650624:=by norm_cast
 rw[bCG]at bNA bMZ;rw[bCF];have aDR:ab (((2^w:Nat):Rat)*(p/2-2*y))<=10141204801825835211973625643008:=by
  have v1:((P/2^102:Nat):Rat)*((2^102:Nat):Rat)<=(P:Rat):=by exact_mod_cast aHM
  have v2:(P:Rat)<((P/2^102:Nat):Rat)*((2^102:Nat):Rat)+((2^102:Nat):Rat):=by exact_mod_cast bAM
  have bHQ:((2^102:Nat):Rat)=5070602400912917605986812821504:=by norm_cast
  rw[bHQ]at v1 v2;exact aRY hx hy v1 v2 hp
 generalize ((2^w:Nat):Rat)=W at *;have Pk:(0:Rat)<=(s':Rat):=by exact_mod_cast cCR _
 generalize (s':Rat)=S at *;clear hd k1 k2 k3 ec es bNL bNK aTT Kt aDK aHM bAM bNI bWB hx n4 bCH bCG bCF;have bVC:S<=W:=by
  refine Rat.not_lt.1 fun hn=>?_
  have:=dW (cCJ hW) (cCJ hn) (cCJ hW) (cCJ hn);have:=aM (cCJ hW) (show 0<=W-1000000000000000000000000000000000000000000000000000000000000000000000000000000000000000000 by grind);grind
 have bOO:ab (W*cs (2*y))<=56539106072908298546665520023773392506479484700019806659891398441363832832:=by
  obtain⟨a,ha⟩:∃a,a=S-W*sn y:=⟨_,rfl⟩;rw[<-ha]at tW;have eS:W*sn y=S-a:=by grind
  have q1:=dW (bB S) (show ab S<=W by rwa [bW Pk]) (bB a) tW;have q2:=dW (bB a) tW (bB a) tW;rw[<-eA]at q1 q2;have e2:W*(W*(1-2*(sn y*sn y)))=W*W-2*((S-a)*(S-a)):=by rw[<-eS];grind
  have w1:=aM (cCJ hW) (cCJ hW);rw[dJ]at bOM q1 q2 ⊢;have w2:=aM w1 (show 0<=2*uU-(cs (2*y)-(1-2*(sn y*sn y))) by grind);have w3:=aM w1 (show 0<=2*uU+(cs (2*y)-(1-2*(sn y*sn y))) by grind);have w4:=aM (cCJ hW) (show 0<=1/1048576-W*uU by grind);generalize cs (2*y)=C2 at *;generalize sn y=Sy at *;constructor
  ·refine bP hW ?_;grind
  ·refine bP hW ?_;grind
 have aLF:ab (p/2-2*y)<=1:=by
  have e3:ab (W*(p/2-2*y))=W*ab (p/2-2*y):=by rw[eA,bW (cCJ hW)]
  rw[e3]at aDR;refine bP hW ?_;grind
 have aWO:ab (2*y)<=4:=by rw[bW (by grind)];grind
 have bED:=Nr aWO (show ab (p/2-2*y)<=4 by grind);rw[show 2*y+(p/2-2*y)=p/2 by grind]at bED;have b1:=Yy aLF;have b2:=aUV (show ab (p/2-2*y)<=4 by grind);have b3:=aTF aWO;have m1:=dW (bB _) bOO (bB _) b2;have m2:=dW (bB _) b3 (bB _) b1;have m3:W*ab (p/2-2*y)<=10141204801825835211973625643008:=by
  rw[eA,bW (cCJ hW)]at aDR;exact aDR
 rw[<-eA]at m1 m2;have m4:=aM (cCJ hW) (show 0<=(1+uU)*ab (p/2-2*y)-ab (sn (2*y)*sn (p/2-2*y)) by grind);have m5:=aM (show 0<=1+uU by grind) (show 0<=10141204801825835211973625643008-W*ab (p/2-2*y) by grind);have l1:=Ah (sn (2*y)*sn (p/2-2*y));have l2:=mG (sn (2*y)*sn (p/2-2*y));have m6:=aM (cCJ hW) (show 0<=ab (sn (2*y)*sn (p/2-2*y))-sn (2*y)*sn (p/2-2*y) by grind);have m7:=aM (cCJ hW) (show 0<=ab (sn (2*y)*sn (p/2-2*y))+sn (2*y)*sn (p/2-2*y) by grind);rw[dJ]at bED m1 ⊢;have m8:=aM (cCJ hW) (show 0<=uU-(cs (p/2)-(cs (2*y)*cs (p/2-2*y)-sn (2*y)*sn (p/2-2*y))) by grind);have m9:=aM (cCJ hW) (show 0<=uU+(cs (p/2)-(cs (2*y)*cs (p/2-2*y)-sn (2*y)*sn (p/2-2*y))) by grind);generalize cs (2*y)=C2 at *;generalize sn (2*y)*sn (p/2-2*y)=SS at *;generalize ab SS=aS at *;generalize cs (p/2-2*y)=Cd at *;generalize ab (p/2-2*y)=dd at *;generalize cs (p/2)=X at *;clear bOM tW bNA bMZ bVC aDR aLF b1 b2 b3 aWO bOO;constructor <;> grind
theorem aLU{w:Nat}(hw:1000<=w)(aUB:w<=1000000)(h:aYY w=true):∃Q,Ui w Q:=by
 unfold aYY at h;have h5:=Ij (n:=5) (by omega) w 122 122 (by omega);have Tg:=Ij (n:=239) (by omega) w 66 66 (by omega);have bLD:=Ij (n:=18) (by omega) w 92 92 (by omega);have bLA:=Ij (n:=57) (by omega) w 78 78 (by omega);generalize Yo 5 w 122 122=A at *;generalize Yo 239 w 66 66=B at *;generalize Yo 18 w 92 92=C at *;generalize Yo 57 w 78 78=D at *;obtain⟨t5,s5⟩:=A;obtain⟨t239,nS⟩:=B;obtain⟨t18,aON⟩:=C;obtain⟨t57,aOM⟩:=D;dsimp only at *;obtain⟨z5,h⟩:=fX h;obtain⟨aVF,h⟩:=fX h;obtain⟨bPZ,h⟩:=fX h;obtain⟨bPX,h⟩:=fX h;rw[fJ,fJ]at h;obtain⟨g1,h⟩:=fX h;obtain⟨g2,h⟩:=fX h;rw[fJ]at h;obtain⟨q1,h⟩:=fX h;obtain⟨q2,h⟩:=fX h;obtain⟨q3,h⟩:=fX h;obtain⟨r1,h⟩:=fX h;obtain⟨r2,bIV⟩:=fX h;have g1:=bZF g1;have g2:=bZF g2;have q1:=bXT q1;have q2:=bXT q2;have q3:=bXT q3;have h5:=h5 (bXT z5);have Tg:=Tg (bXT aVF);have bLD:=bLD (bXT bPZ);have bLA:=bLA (bXT bPX);have aPA:ab (((16*s5-4*nS:Nat):Rat)-((2^w:Nat):Rat)*pi)<=524288:=by
  have qJ:4*nS<=16*s5:=by
   refine cFW fun hn=>?_
   rw[show 16*s5-4*nS=0 by omega]at q3;simp at q3
  have hc:((16*s5-4*nS:Nat):Rat)+4*(nS:Rat)=16*(s5:Rat):=by exact_mod_cast(show 16*s5-4*nS+4*nS=16*s5 by omega)
  have n1:((2*(122*122):Nat):Rat)=29768:=by norm_cast
  have n2:((2*(66*66):Nat):Rat)=8712:=by norm_cast
  rw[n1]at h5;rw[n2]at Tg;unfold pi;rw[dJ]at *;generalize ((2^w:Nat):Rat)=W at *;grind
 have bOX:20*nS<=48*aON+32*aOM->ab (((48*aON+32*aOM-20*nS:Nat):Rat)-((2^w:Nat):Rat)*aTP)<=2097152:=by
  intro hle;have hc:((48*aON+32*aOM-20*nS:Nat):Rat)+20*(nS:Rat)=48*(aON:Rat)+32*(aOM:Rat):=by exact_mod_cast(show 48*aON+32*aOM-20*nS+20*nS=48*aON+32*aOM by omega)
  have n1:((2*(92*92):Nat):Rat)=16928:=by norm_cast
  have n3:((2*(78*78):Nat):Rat)=12168:=by norm_cast
  have n2:((2*(66*66):Nat):Rat)=8712:=by norm_cast
  rw[n1]at bLD;rw[n2]at Tg;rw[n3]at bLA;unfold aTP;rw[dJ]at *;generalize ((2^w:Nat):Rat)=W at *;grind
 have hple:2^104<=16*s5-4*nS:=by
  refine cFW fun hn=>?_
  have:(16*s5-4*nS)/2^64<2^40:=cDC (by rw[<-cCH];exact hn);have h2:(16*s5-4*nS)/2^64/2^(w-104)<=(16*s5-4*nS)/2^64:=cDK _ _;omega
 have bKX:20*nS<=48*aON+32*aOM:=by omega
 have bOX:=bOX bKX;generalize hP:16*s5-4*nS=P at *;generalize 48*aON+32*aOM-20*nS=G at *;have aGM:=Vh w (by omega);refine⟨P/2^64,?_,?_,?_,q3,aCP r1,aCP r2,?_⟩
 ·have:2^64*(P/2^64)<=P-2^40:=by
   have:=Nat.mul_div_le (P-2^40) (2^64);rwa [q2]at this
  have h2:2^64*(P/2^64)+2^40<=P:=by omega
  have h3:((2^64:Nat):Rat)*((P/2^64:Nat):Rat)+((2^40:Nat):Rat)<=(P:Rat):=by exact_mod_cast h2
  rw[aGM,cCP,dJ]at aPA;have n1:((2^64:Nat):Rat)=18446744073709551616:=by norm_cast
  have n2:((2^40:Nat):Rat)=1099511627776:=by norm_cast
  rw[n1]at aPA h3;rw[n2]at h3;refine bP (q:=18446744073709551616) (by grind) ?_;generalize ((2^(w-64):Nat):Rat)=W at *;grind
 ·have:P+2^40<2^64*(P/2^64+1):=by
   have:=cFX (P+2^40) (show 0<2^64 by omega);rwa [q1]at this
  have h3:(P:Rat)+((2^40:Nat):Rat)<((2^64:Nat):Rat)*(((P/2^64:Nat):Rat)+1):=by exact_mod_cast this
  rw[aGM,cCP,dJ]at aPA;have n1:((2^64:Nat):Rat)=18446744073709551616:=by norm_cast
  have n2:((2^40:Nat):Rat)=1099511627776:=by norm_cast
  rw[n1]at aPA h3;rw[n2]at h3;refine qQ (q:=18446744073709551616) (by grind) ?_;generalize ((2^(w-64):Nat):Rat)=W at *;grind
 ·have c1:(P:Rat)<=(G:Rat)+((2^24:Nat):Rat):=by exact_mod_cast g1
  have c2:(G:Rat)<=(P:Rat)+((2^24:Nat):Rat):=by exact_mod_cast g2
  have n1:((2^24:Nat):Rat)=16777216:=by norm_cast
  rw[n1]at c1 c2;rw[dJ]at *;generalize ((2^w:Nat):Rat)=W at *;grind
 ·refine aYT hw aUB ?_ aPA bIV;have h1:P/2^64/2^(w-104)<3454217652358:=by omega
  have h2:P/2^64<2^(w-104)*3454217652358:=(cFY (cB)).1 h1 |> fun h=>by rwa [cCI]at h
  have h3:P<2^64*(2^(w-104)*3454217652358):=by
   have:=(cFY (show 0<2^64 by omega)).1 h2;rwa [cCI]at this
  have e:2^(w-40)=2^64*2^(w-104):=by rw[<-cCH];congr 1;omega
  rw[e,cCI,cCN];exact h3
theorem bWI:aYY 136064=true:=by kernel_rfl
theorem aCW:∃w,w=136064/\∃Q,Ui w Q:=⟨136064,rfl,aLU (by omega) (by omega) bWI⟩
def pw:Nat:=Classical.choose aCW
theorem aCX:pw=136064:=(Classical.choose_spec aCW).1
def pq:Nat:=Classical.choose (Classical.choose_spec aCW).2
theorem Hp:Ui pw pq:=Classical.choose_spec (Classical.choose_spec aCW).2
theorem mR:314159/100000<pi/\pi<314160/100000:=by
 have h:=Hp;have h1:=h.lo;have h2:=h.hi;have h3:=h.top;have e:2^(pw-64)=2^40*2^(pw-104):=by have:=aCX;rw[<-cCH];congr 1;omega
 have hp:0<2^(pw-104):=cB;have l1:=cES pq (2^(pw-104));have l2:=cET hp (a:=pq);rw[h3]at l1 l2;have bRR:(3454217652357:Rat)*((2^(pw-104):Nat):Rat)<=(pq:Rat):=by exact_mod_cast l1
 have bRP:(pq:Rat)+1<=(3454217652357:Rat)*((2^(pw-104):Nat):Rat)+((2^(pw-104):Nat):Rat):=by exact_mod_cast l2
 rw[e,cCP]at h1 h2;have n40:((2^40:Nat):Rat)=1099511627776:=by norm_cast
 rw[n40]at h1 h2;have hq:(0:Rat)<((2^(pw-104):Nat):Rat):=by exact_mod_cast hp
 generalize ((2^(pw-104):Nat):Rat)=W at *;generalize (pq:Rat)=Q at *;clear h h3 e hp l1 l2 n40;constructor
 ·refine qQ hq ?_;grind
 ·refine qQ hq ?_;grind
def rs(k:Int)(s c:Rat):Rat:=if k%4=0 then s else if k%4=1 then c else if k%4=2 then -s else -c
def rc(k:Int)(s c:Rat):Rat:=if k%4=0 then c else if k%4=1 then -s else if k%4=2 then -c else s
def Sf(x:Rat)(k:Int):Rat:=rs k (sn (x-(k:Rat)*(pi/2))) (cs (x-(k:Rat)*(pi/2)))
def Cf(x:Rat)(k:Int):Rat:=rc k (sn (x-(k:Rat)*(pi/2))) (cs (x-(k:Rat)*(pi/2)))
end R
namespace R
def pF(q:Nat):Nat:=pq/2^(pw-64-q)
theorem aGD{x:Rat}{Q m:Nat}(h1:(Q:Rat)<=((2^m:Nat):Rat)*x)(h2:((2^m:Nat):Rat)*x<(Q:Rat)+1):((Q/2^m:Nat):Rat)<=x/\x<((Q/2^m:Nat):Rat)+1:=by
 have hp:0<2^m:=cB;obtain⟨d1,d2⟩:=rN Q hp;have hq:(0:Rat)<((2^m:Nat):Rat):=by exact_mod_cast hp
 have hs:(Q:Rat)+1<=((2^m:Nat):Rat)*((Q/2^m:Nat):Rat)+((2^m:Nat):Rat):=by
  have:=cFX Q hp;exact_mod_cast(show Q+1<=2^m*(Q/2^m)+2^m by rw[cCO,Nat.mul_one]at this;omega)
 constructor
 ·exact bP hq (by grind)
 ·exact qQ hq (by grind)
theorem Fy{q:Nat}(hq:q<=136000):(pF q:Rat)<=((2^q:Nat):Rat)*pi/\((2^q:Nat):Rat)*pi<(pF q:Rat)+1:=by
 have h:=Hp;have h1:=h.lo;have h2:=h.hi;have hw:=aCX;have e:2^(pw-64)=2^(pw-64-q)*2^q:=by rw[<-cCH];congr 1;omega
 rw[e,cCP,cEU]at h1 h2;exact aGD h1 h2
theorem aVX{q:Nat}(hq:q+24<=136000):16777216*(pF q:Rat)+1<=((2^(q+24):Nat):Rat)*pi/\((2^(q+24):Nat):Rat)*pi<16777216*(pF q:Rat)+16777215:=by
 obtain⟨h1,h2⟩:=Fy hq;have hw:=aCX;have e:pF q=pF (q+24)/2^24:=by
  unfold pF;rw[cCT,<-cCH];congr 2;omega
 have bNY:pF (q+24)%2^24≠2^24-1:=Qq Hp.ones _;have hx:pq<2^(pw-62):=by
  have h3:=Hp.top;have hp:0<2^(pw-104):=cB;have l2:=cET hp (a:=pq);rw[h3]at l2;have e:2^(pw-62)=4398046511104*2^(pw-104):=by
   rw[show 4398046511104=2^42 from rfl,<-cCH];congr 1;omega
  omega
 have aXF:pF (q+24)%2^24≠0:=aGP hx (by omega) (Qq Hp.aQK _);have hd:=cCS (pF (q+24)) (2^24);rw[<-e]at hd;have l1:16777216*pF q+1<=pF (q+24):=by omega
 have bNW:=bZR (pF (q+24)) (show 0<2^24 by omega);have l2:pF (q+24)+1<=16777216*pF q+16777215:=by omega
 have bRR:(16777216:Rat)*(pF q:Rat)+1<=(pF (q+24):Rat):=by exact_mod_cast l1
 have bRP:(pF (q+24):Rat)+1<=(16777216:Rat)*(pF q:Rat)+16777215:=by exact_mod_cast l2
 grind
theorem aTQ{q g X off:Nat}(hq:q+24<=136000)(hg:24<=g)(bDB:2*off<=2^(g-24))(hX:ab ((X:Rat)-((2^(q+g):Nat):Rat)*pi)<=(off:Rat)):off<=X/\(X-off)/2^g=pF q/\(X+off)/2^g=pF q:=by
 obtain⟨h1,h2⟩:=aVX hq;have e:2^(q+g)=2^(g-24)*2^(q+24):=by rw[<-cCH];congr 1;omega
 have eg:2^g=2^(g-24)*16777216:=by rw[show 16777216=2^24 from rfl,<-cCH];congr 1;omega
 rw[e,cCP,cEU,dJ]at hX;have hG:(0:Rat)<=((2^(g-24):Nat):Rat):=by exact_mod_cast cCR _
 have ho:(2:Rat)*(off:Rat)<=((2^(g-24):Nat):Rat):=by exact_mod_cast bDB
 have m1:=aM hG (show 0<=((2^(q+24):Nat):Rat)*pi-(16777216*(pF q:Rat)+1) by grind);have bVJ:(0:Rat)<((2^(g-24):Nat):Rat):=by exact_mod_cast cB
 have m2:=cCX bVJ (show 0<16777216*(pF q:Rat)+16777215-((2^(q+24):Nat):Rat)*pi by grind);have r1:2^(g-24)*16777216*pF q+off<=X:=by
  have:((2^(g-24):Nat):Rat)*16777216*(pF q:Rat)+(off:Rat)<=(X:Rat):=by grind
  exact_mod_cast this
 have r2:X+off<2^(g-24)*16777216*(pF q+1):=by
  have:(X:Rat)+(off:Rat)<((2^(g-24):Nat):Rat)*16777216*((pF q:Rat)+1):=by grind
  exact_mod_cast this
 rw[eg];generalize 2^(g-24)*16777216=B at *;refine⟨by omega,?_,?_⟩
 ·refine cFZ ?_ ?_
  ·rw[cCI];omega
  ·rw[cCI];omega
 ·refine cFZ ?_ ?_
  ·rw[cCI];omega
  ·rw[cCI];omega
theorem aCE{u W:Nat}(h:2*u<=W)(hW:0<W):∀k,sq u W k*2^k<=W
 |0=>by simp[sq]
 |k+1=>by
  have ih:=aCE h hW k;have h1:sq u W (k+1)<=sq u W k/2:=by
   rw[sq];refine bYC (cDK _ _) ?_;rw[Nat.le_div_iff_mul_le (by omega)];have h2:=cES (sq u W k*u) W;have h3:sq u W k*u*2<=sq u W k*W:=by
    rw[cCN];exact bZW _ (by omega)
   generalize sq u W k*u/W=z at *;have h4:z*2*W<=sq u W k*W:=by
    rw[Nat.mul_right_comm];omega
   exact Nat.le_of_mul_le_mul_right h4 hW
  have h2:sq u W (k+1)*2<=sq u W k:=by omega
  rw[cCK,cCI (2^k) 2,<-cCN];exact bYC (cBK _ h2) ih
theorem Rx{u w:Nat}(h:2*u<=2^w):sq u (2^w) (w+1)=0:=by
 have h1:=aCE h (cB) (w+1);refine Nat.eq_zero_of_not_pos fun hp=>?_
 have:1*2^(w+1)<=sq u (2^w) (w+1)*2^(w+1):=cBK _ hp;rw[cCK]at this h1;have:=cAH (n:=w) (show 0<2 by omega);omega
theorem Lq{u W m:Nat}(h:sq u W m=0):∀k,sq u W (m+k)=0
 |0=>h
 |k+1=>by rw[<-cAY,sq,Lq h k];simp
theorem Bn(h:Nat):4^h=2^(2*h):=by rw[cDJ]
theorem aES{T:Rat}(hT0:0<=T)(bVB:T<=1){w1 h u s0 c0:Nat}(aHM:(u:Rat)<=((2^w1:Nat):Rat)*T)(bAM:((2^w1:Nat):Rat)*T<(u:Rat)+1)(hh:1<=h)(hw:w1+h<=1000000)(bFV:4*h+50<=w1+h)
  (Pk:(s0:Rat)=sum (fun k=>ss k*(sq u (2^(w1+h)) k:Rat)) (w1+h+1)) (bGL:(c0:Rat)=sum (fun k=>cc k*(sq u (2^(w1+h)) k:Rat)) (w1+h+1)) :
  ab (((pZ (2^(w1+h)) h s0 c0).1:Rat)-((2^(w1+h):Nat):Rat)*sn T)<=((4^h*(2*(w1+h)+10):Nat):Rat)/\ab (((pZ (2^(w1+h)) h s0 c0).2:Rat)-((2^(w1+h):Nat):Rat)*cs T)<=((4^h*(2*(w1+h)+10):Nat):Rat):=by
 have aOX:0<2^(w1+h):=cB;have bEE:(0:Rat)<((2^w1:Nat):Rat):=by exact_mod_cast cB
 have eW:((2^(w1+h):Nat):Rat)=((2^w1:Nat):Rat)*((2^h:Nat):Rat):=by rw[cCH,cCP]
 have g2:=Mc 2 h (by omega);have g2':(2:Rat)<=((2^h:Nat):Rat):=by
  exact_mod_cast(show 2<=2^h from cAI (n:=2) (by omega) hh)
 have bIN:u<=2^w1:=by
  have:=aM (cCJ bEE) (show 0<=1-T by grind);have:(u:Rat)<=((2^w1:Nat):Rat):=by grind
  exact_mod_cast this
 have bIQ:2*u<=2^(w1+h):=by
  have e:2^(w1+h)=2^w1*2^h:=cCH _ _ _;have:2^w1*2<=2^w1*2^h:=bZW _ (cAI (n:=2) (by omega) hh);omega
 obtain⟨x,hx,Kt⟩:=aDE (u:=u) aOX;have bRY:((2^h:Nat):Rat)*x*((2^w1:Nat):Rat)=(u:Rat):=by rw[eW]at hx;grind
 have bCQ:((2^h:Nat):Rat)*x<=1:=by
  have:(u:Rat)<=((2^w1:Nat):Rat):=by exact_mod_cast bIN
  refine bP bEE ?_;grind
 have aDK:x<=1/2:=by
  have:=aM (show 0<=((2^h:Nat):Rat)-2 by grind) Kt;grind
 have hz:=Rx bIQ;have ec:=aIX aOX hx Kt aDK (n:=w1+h+1) (by omega) (by omega) hz;have es:=aIW aOX hx Kt aDK (n:=w1+h+1) (by omega) (by omega) hz;rw[<-bGL]at ec;rw[<-Pk]at es;have hn:((w1+h+1:Nat):Rat)=((w1+h:Nat):Rat)+1:=by norm_cast
 have bAO:((w1+h:Nat):Rat)<=1000000:=by exact_mod_cast hw
 have aHQ:(0:Rat)<=((w1+h:Nat):Rat):=by exact_mod_cast cCR _
 rw[hn]at ec es;have aXP:=aEF (w:=w1+h) (by omega);have e4:((4^h*(2*(w1+h)+10):Nat):Rat)=((4^h:Nat):Rat)*(2*((w1+h:Nat):Rat)+10):=by
  rw[cCP];congr 1;push_cast;grind
 have aLO:((4^h:Nat):Rat)*((4^h:Nat):Rat)*1125899906842624<=((2^(w1+h):Nat):Rat):=by
  have:4^h*4^h*2^50<=2^(w1+h):=by
   rw[Bn,<-cCH,<-cCH];exact fM
  have bRG:(2^50:Nat)=1125899906842624:=by rfl
  rw[bRG]at this;exact_mod_cast this
 have g4:=Mc 4 h (by omega);have g42:((2^h:Nat):Rat)<=((4^h:Nat):Rat):=by exact_mod_cast Nat.pow_le_pow_left (show 2<=4 by omega) h
 have hq4:=aM (show 0<=((4^h:Nat):Rat) by grind) (show 0<=((4^h:Nat):Rat)-1 by grind);have hE:((4^h:Nat):Rat)*(2*((w1+h:Nat):Rat)+8)<=((4^h:Nat):Rat)*2097152:=by
  have:=aM (show 0<=((4^h:Nat):Rat) by grind) (show 0<=2097152-(2*((w1+h:Nat):Rat)+8) by grind);grind
 have bOY:0<=((4^h:Nat):Rat)*(2*((w1+h:Nat):Rat)+8):=aM (by grind) (by grind);have Je:100*(((4^h:Nat):Rat)*(2*((w1+h:Nat):Rat)+8)*(((4^h:Nat):Rat)*(2*((w1+h:Nat):Rat)+8)))<=((2^(w1+h):Nat):Rat):=by
  refine cCL ?_ aLO;have:=dW bOY hE bOY hE;grind
 have bGN:((4^h:Nat):Rat)*(2*((w1+h:Nat):Rat)+8)<=((2^(w1+h):Nat):Rat):=by
  refine cCL (cCL hE ?_) aLO;grind
 have hd:=aEH (W:=2^(w1+h)) aOX Je (Vn bGN aXP) h x (2*((w1+h:Nat):Rat)+6) s0 c0 Kt bCQ (cCL es (by grind)) (cCL ec (by grind)) (by grind);have hT:ab T<=1:=by rw[bW hT0];exact bVB
 have hX:ab (((2^h:Nat):Rat)*x)<=1:=by rw[bW (aM (by grind) Kt)];exact bCQ
 have l1:=Rz hX hT;have l2:=aAI hX hT;have hd0:0<=T-((2^h:Nat):Rat)*x:=by
  have:((2^w1:Nat):Rat)*(((2^h:Nat):Rat)*x)<=((2^w1:Nat):Rat)*T:=by grind
  have:=bP bEE this;grind
 have bGK:((2^(w1+h):Nat):Rat)*(T-((2^h:Nat):Rat)*x)<=((2^h:Nat):Rat):=by
  rw[eW];have:((2^w1:Nat):Rat)*(T-((2^h:Nat):Rat)*x)<=1:=by grind
  have:=aM (show 0<=((2^h:Nat):Rat) by grind) (show 0<=1-((2^w1:Nat):Rat)*(T-((2^h:Nat):Rat)*x) by grind);grind
 rw[bW hd0]at l1 l2;have hW:(0:Rat)<=((2^(w1+h):Nat):Rat):=by exact_mod_cast cCR _
 obtain⟨r1,r2⟩:=hd;rw[e4];clear aHM bAM Je bGN aLO bRY hx eW ec es Pk bGL hz;generalize ((2^(w1+h):Nat):Rat)=W at *;generalize ((w1+h:Nat):Rat)=wr at *;generalize ((4^h:Nat):Rat)=F at *;generalize ((2^h:Nat):Rat)*x=y at *;generalize ((2^h:Nat):Rat)=H at *;rw[dJ]at l1 l2 r1 r2;have m1:=aM hW (show 0<=2*(T-y)-(sn T-sn y) by grind);have m2:=aM hW (show 0<=2*(T-y)+(sn T-sn y) by grind);have m3:=aM hW (show 0<=(T-y+2*uU)-(cs T-cs y) by grind);have m4:=aM hW (show 0<=(T-y+2*uU)+(cs T-cs y) by grind);rw[dJ,dJ];refine⟨⟨?_,?_⟩,?_,?_⟩ <;> grind
end R
namespace R
def pz(e:Int):Rat:=if 0<=e then((2^e.toNat:Nat):Rat)else hf (-e).toNat
theorem iF(k:Nat):pz (k:Int)=((2^k:Nat):Rat):=by unfold pz;rw[aT,cBF]
theorem vJ(k:Nat):pz (-(k:Int))=hf k:=by
 unfold pz
 by_cases h:k=0
 ·subst h;simp[hf]
 ·rw[bG,Int.neg_neg,cBF]
theorem fA:pz 0=1:=by rw[show(0:Int)=((0:Nat):Int)from rfl,iF];norm_cast
theorem cY(e:Int):0<pz e:=by
 unfold pz;split
 ·exact_mod_cast cB
 ·exact zF _
theorem jJ(e:Int):pz (e+1)=2*pz e:=by
 by_cases h:0<=e
 ·obtain⟨k,rfl⟩:=cCM h;rw[show(k:Int)+1=((k+1:Nat):Int) by omega,iF,iF,Kk]
 ·obtain⟨k,hk⟩:=cCM (show 0<=-e by omega);have e1:e=-(k:Int):=by omega
  subst e1;obtain⟨j,rfl⟩:∃j,k=j+1:=⟨k-1,by omega⟩;rw[show -((j+1:Nat):Int)+1=-(j:Int) by omega,vJ,vJ,hf];grind
theorem dT(a:Int):∀k:Nat,pz (a+k)=pz a*((2^k:Nat):Rat)
 |0=>by rw[show a+((0:Nat):Int)=a by omega,cEN];grind
 |k+1=>by
  rw[show a+((k+1:Nat):Int)=(a+k)+1 by omega,jJ,dT a k,Kk];grind
theorem iG(a b:Int):pz (a+b)=pz a*pz b:=by
 by_cases h:0<=b
 ·obtain⟨k,rfl⟩:=cCM h;rw[dT,iF]
 ·obtain⟨k,hk⟩:=cCM (show 0<=-b by omega);have h1:=dT (a+b) k;rw[show a+b+(k:Int)=a by omega]at h1;have e1:b=-(k:Int):=by omega
  have h2:=Nc k;rw[show pz b=hf k by rw[e1,vJ],h1];rw[cEU,Rat.mul_comm ((2^k:Nat):Rat),h2];grind
theorem cN{a b:Int}(h:a<=b):pz a<=pz b:=by
 obtain⟨k,hk⟩:=cCM (show 0<=b-a by omega);rw[show b=a+(k:Int) by omega,dT];have h1:=cY a;have:=aM (cCJ h1) (show 0<=((2^k:Nat):Rat)-1 by have:=Mc 2 k (by omega);grind);grind
theorem aTO(k:Nat):hf k=pz (-(k:Int)):=(vJ k).symm
theorem Ma(e:Int):pz e*pz (-e)=1:=by rw[<-iG,Int.add_right_neg,fA]
def qz(p:Int×Int):Rat:=(p.1:Rat)*pz p.2
theorem qH{p:Int×Int}(h:p.1=0):qz p=0:=by
 unfold qz;rw[h];have:((0:Int):Rat)=0:=by norm_cast
 rw[this];grind
theorem aCT{p q:Int×Int}{g:Int}(hp:g<=p.2)(hq:g<=q.2):qz p<=qz q↔p.1*((2^(p.2-g).toNat:Nat):Int)<=q.1*((2^(q.2-g).toNat:Nat):Int):=by
 unfold qz;have e1:pz p.2=pz g*((2^(p.2-g).toNat:Nat):Rat):=by
  rw[<-dT];congr 1;omega
 have e2:pz q.2=pz g*((2^(q.2-g).toNat:Nat):Rat):=by
  rw[<-dT];congr 1;omega
 have hg:=cY g;have c1:((p.1*((2^(p.2-g).toNat:Nat):Int):Int):Rat)=(p.1:Rat)*((2^(p.2-g).toNat:Nat):Rat):=by push_cast;rfl
 have c2:((q.1*((2^(q.2-g).toNat:Nat):Int):Int):Rat)=(q.1:Rat)*((2^(q.2-g).toNat:Nat):Rat):=by push_cast;rfl
 rw[<-Rat.intCast_le_intCast,c1,c2,e1,e2];generalize ((2^(p.2-g).toNat:Nat):Rat)=x;generalize ((2^(q.2-g).toNat:Nat):Rat)=y;constructor
 ·intro h;exact bP hg (by grind)
 ·intro h;have:=aM (cCJ hg) (show 0<=(q.1:Rat)*y-(p.1:Rat)*x by grind);grind
end R
namespace M
open Go AI W
def dQ(p q:Int×Int):Int:=cT (bY.pK p q) (bY.pJ p q)
def bI(p:Int×Int):Int:=p.2+(bl p.1.natAbs:Nat)-1
abbrev vF:=Bool×List Int×Int×Bool×List Int×Int
def fL(s:vF):iW:=(s.1,s.2.1,s.2.2.1)
def fO(s:vF):iW:=(s.2.2.2.1,s.2.2.2.2.1,s.2.2.2.2.2)
def dR(s:vF):Prop:=aW (fL s)/\aW (fO s)/\dQ (dv (fL s)) (dv (fO s))<=0
def Dn(a b:Int×Int):D:=.agg [.sc (.bool (isNeg a.1)),.ints .u64 (M6.dg a.1.natAbs),.sc (.int .i64 a.2),.sc (.bool (isNeg b.1)),.ints .u64 (M6.dg b.1.natAbs),.sc (.int .i64 b.2)]
def uF(a b:Int×Int):vF:=(isNeg a.1,M6.dg a.1.natAbs,a.2,isNeg b.1,M6.dg b.1.natAbs,b.2)
theorem jU(a b:Int×Int):dv (fL (uF a b))=a:=gF a
theorem jV(a b:Int×Int):dv (fO (uF a b))=b:=gF b
theorem Fp{a b:Int×Int}(ha:mU a)(hb:mU b)(h:dQ a b<=0):dR (uF a b):=by
 refine⟨eI ha,eI hb,?_⟩;rw[jU,jV];exact h
theorem dR.Dn{s:vF}(h:dR s):M.Dn (dv (fL s)) (dv (fO s))=.agg [.sc (.bool s.1),.ints .u64 s.2.1,.sc (.int .i64 s.2.2.1),.sc (.bool s.2.2.2.1),.ints .u64 s.2.2.2.2.1,.sc (.int .i64 s.2.2.2.2.2)]:=by
 have h1:=h.1.Le.cells;have h2:=h.2.1.Le.cells;unfold M.Dn;have e1:(dv (fL s)).1=wv ((fL s).1,(fL s).2.1):=rfl;have e2:(dv (fO s)).1=wv ((fO s).1,(fO s).2.1):=rfl;rw[e1,e2,h1.1,h1.2,h2.1,h2.2];rfl
theorem aSE{a b:Int}:cT a b<=0↔a<=b:=by unfold cT;split <;> (try split) <;> omega
theorem aSF{a b:Int}:cT a b=0↔a=b:=by unfold cT;split <;> (try split) <;> omega
theorem Kz(p q:Int×Int):bY.iP p q<=p.2/\bY.iP p q<=q.2:=aQP
theorem lC{p q:Int×Int}:dQ p q<=0↔R.qz p<=R.qz q:=by
 obtain⟨h1,h2⟩:=Kz p q;unfold dQ;rw[aSE,R.aCT h1 h2];rfl
theorem uY{p q:Int×Int}:0<dQ p q↔R.qz q<R.qz p:=by
 have:=lC (p:=p) (q:=q);constructor
 ·intro h;refine Rat.not_le.1 fun hn=>?_;have:=this.2 hn;omega
 ·intro h;refine Int.not_le.1 fun hn=>?_;exact Rat.not_lt.2 (this.1 hn) h
theorem Ib(p:Int×Int):dQ p p<=0:=lC.2 cDM
theorem rL(z e:Int):R.qz (bV z e)=(z:Rat)*R.pz e:=by
 by_cases hz:z=0
 ·subst hz;rw[iR,R.qH rfl];have:((0:Int):Rat)=0:=by norm_cast
  rw[this];grind
 ·obtain⟨h1,h2⟩:=xT (e:=e) hz;unfold R.qz;rw[h2]
  conv=>rhs;rw[h1]
  rw[Sj,R.dT,cEV,cEW];grind
theorem nU(p:Int×Int):R.qz (-p.1,p.2)=- R.qz p:=by
 unfold R.qz;rw[Rat.intCast_neg];grind
theorem Eg(p q:Int×Int):R.qz (bY.kB p q)=R.qz p+R.qz q:=by
 unfold bY.kB;split
 ·rename_i h;rw[R.qH h];grind
 ·split
  ·rename_i h;rw[R.qH h];grind
  ·obtain⟨h1,h2⟩:=Kz p q;rw[rL];unfold bY.pK bY.pJ R.qz;have e1:R.pz p.2=R.pz (bY.iP p q)*((2^(p.2-bY.iP p q).toNat:Nat):Rat):=by rw[<-R.dT];congr 1;omega
   have e2:R.pz q.2=R.pz (bY.iP p q)*((2^(q.2-bY.iP p q).toNat:Nat):Rat):=by rw[<-R.dT];congr 1;omega
   rw[e1,e2,Rat.intCast_add,cEV,cEV,cEW,cEW];grind
end M
namespace W
open Go AI M
namespace aHA
def E:=mE [] 24 [] [(3,[0,1])] [3]
def aF:=bd f194
theorem aU:Nk E aF:=nk
def J3 a b:=lE E f194 aF 3 [iU a,bK b]
theorem start a b:aG E f194 aF [D.s (ints u64 a),D.s (sc (int i64 b))]=letI A:=some [D.s (sc (bool false))];aD (decide (b<0)) A (aD (decide ((a.length:Int)<=i64.wrap (b.tdiv 64))) A (aHA.J3 a b)):=eJ aU
theorem fB a b:J3 a b=letI A:=b.tdiv 64;if 0<=i64.wrap A/\i64.wrap A<(a.length:Int)then if b.tmod 64<(0:Int)then none else some [D.s (sc (bool (fU BinOp.and u64 (a.getD (i64.wrap A).toNat 0/(↑((2:Nat)^min (b.tmod 64).toNat 64):Int)) 1==(1:Int))))]else none:=cJ aU
def sp(a:List Int)(i:Int):Prop×List D:=(M6.bN a/\a.length<=1099511627776/\-9223372036854775808<=i/\i<9223372036854775808,[.s (.sc (.bool (decide (0<=i)&&decide (M6.val a/2^i.toNat%2=1))))])
theorem aSN{x:Int}(h:0<=x)(h':x<18446744073709551616):fU .and .u64 x 1=x%2:=by
 rw[Ya h h' (by omega) (by omega)];have:x.toNat &&& 1=x.toNat%2:=cFN _;show((x.toNat &&& 1:Nat):Int)=_;rw[this];omega
theorem spec:eR E f194 aF (pI .u64) (pN .i64) sp:=by
 rintro a i ⟨ha,hl,h1,h2⟩;refine(start a i).trans ?_;show _=some [D.s (.sc (.bool (decide (0<=i)&&decide (M6.val a/2^i.toNat%2=1))))]
 by_cases hn:i<0
 ·rw[aR hn,decide_eq_false (show ¬0<=i by omega),cCU]
 ·have t1:i.tdiv 64=i/64:=cEF (by omega);have t2:i.tmod 64=i%64:=cEG (by omega);have e1:(i/64).toNat=i.toNat/64:=by omega
  have e2:(i%64).toNat=i.toNat%64:=by omega
  have ps:2^i.toNat=18446744073709551616^(i.toNat/64)*2^(i.toNat%64):=by
   rw[show(18446744073709551616:Nat)=2^64 from rfl,<-cDJ,<-cCH];congr 1;omega
  rw[aN hn,decide_eq_true (show 0<=i by omega),cAJ,t1,wrap_i64 (n:=i/64),ps,<-cCT]
  by_cases hz:(a.length:Int)<=i/64
  ·have hv:M6.val a/18446744073709551616^(i.toNat/64)=0:=by
    apply cCW;exact bYH (M6.cR ha) (fM)
   rw[aR hz,hv,cEK];rfl
  ·have g:=ha.get (i.toNat/64);have hv:=M6.eZ a (n:=i.toNat/64) (by omega);have hq:M6.val a/18446744073709551616^(i.toNat/64)=M6.val (a.drop (i.toNat/64)):=by
    rw[hv,cDI _ _ (cB),cCW (M6.fR ha _),bXL]
   rw[aN hz,fB,t1,t2,wrap_i64 (n:=i/64),aT,bG,e1,e2,hq,M6.gB];have em:min (i.toNat%64) 64=i.toNat%64:=by omega
   have jM:i.toNat%64<64:=bZR _ (by omega);rw[em];generalize i.toNat%64=k at *;generalize a.getD (i.toNat/64) 0=x at *;generalize M6.val (a.drop (i.toNat/64+1))=r at *;have hp:0<2^k:=cB;have e3:(x.toNat+18446744073709551616*r)/2^k%2=x.toNat/2^k%2:=by
    have:18446744073709551616*r=2^k*(2*(2^(63-k)*r)):=by
     rw[show(18446744073709551616:Nat)=2^64 from rfl,show 64=k+(1+(63-k))from by omega,cCH,cCH,cCN,cCN]
    rw[this,cDI _ _ hp];omega
   rw[e3];have ex:x/((2^k:Nat):Int)=((x.toNat/2^k:Nat):Int):=by
    obtain⟨n,rfl⟩:=cCM g.1;rw[<-cDA];rfl
   have hle:x.toNat/2^k<=x.toNat:=cDK _ _;rw[ex];clear ex e3 hq hv ps;generalize x.toNat/2^k=q at *;rw[aSN (by omega) (by omega)];congr 4
   by_cases h:q%2=1
   ·rw[decide_eq_true h];have:((q:Int)%2)=1:=by omega
    rw[this];rfl
   ·rw[decide_eq_false h];have:((q:Int)%2)=0:=by omega
    rw[this];rfl
def aJ:dG:=orc2 (pI .u64) (pN .i64) sp
theorem ok:OK 194 aJ:=(dZ E aF aE func194).jR rfl spec
end aHA
namespace qF
def E:=mE [] 34 [] [] []
def aF:=bd f225
theorem aU:Nk E aF:=nk
theorem start a b c d e:aG E f225 aF [D.s (sc (int i64 a)),D.s (sc (bool b)),D.s (sc (bool c)),D.s (sc (bool d)),D.s (sc (int i64 e))]=letI B:=some [D.s (sc (bool d))];letI A:=some [D.s (sc (bool false))];aD (a==0) (aD b B A) (aD (a==1) (aD (!b) B A) (aD (decide (0<e)) (some [D.s (sc (bool true))]) (aD (e==0) (some [D.s (sc (bool c))]) A))):=eJ aU
def qE(w:Int)(neg bRA rest:Bool)(half:Int):Bool:=bif w==0 then neg&&rest else bif w==1 then !neg&&rest else(decide (0<half)||(half==0&&bRA))
def sp(a:Int)(b c d:Bool)(e:Int):Prop×List D:=(True,[.s (.sc (.bool (qE a b c d e)))])
theorem spec(a:Int)(b c d:Bool)(e:Int)(h:(sp a b c d e).1):aG E f225 aF [(pN .i64).put a,pB.put b,pB.put c,pB.put d,(pN .i64).put e]=some (sp a b c d e).2:=by
 refine(start a b c d e).trans ?_;show _=some [D.s (.sc (.bool (qE a b c d e)))];unfold qE aD;cases (a==0) <;> cases (a==1) <;> cases b <;> cases c <;> cases d <;> cases (decide (0<e)) <;> cases (e==0) <;> rfl
def aJ:dG:=orc5 (pN .i64) pB pB pB (pN .i64) sp
theorem ok:OK 225 aJ:=(dZ E aF aE func225).bCB rfl spec
end qF
namespace rZ
def E:=mE [] 7 [] [] []
def aF:=bd f108
theorem aU:Nk E aF:=nk
theorem start a:aG E f108 aF [D.s (sc (int u64 a))]=aD (a==0) (some [D.s (sc (slice none 0 0))]) (some [D.own 23 u64 [a]]):=eJ aU
def sp(w:Int):Prop×List D:=(0<=w/\w<18446744073709551616,[.s (.ints .u64 (M6.dg w.toNat))])
theorem spec:aSP E f108 aF (pN .u64) sp:=by
 intro w h;have e:=start w;obtain⟨h1,h2⟩:=h;unfold sp;simp only
 by_cases hz:w=0
 ·rw[cL hz]at e;subst hz;rw[show(0:Int).toNat=0 from rfl,M6.cG];exact⟨_,e,.cons (De.nil _) .nil⟩
 ·rw[cO hz]at e;have:M6.dg w.toNat=[w]:=by
   rw[M6.oV (by omega),Nat.mod_eq_of_lt (by omega),cCW (by omega),M6.cG];congr 1;omega
  rw[this];exact⟨_,e,.cons (De.own _ _ _) .nil⟩
def aJ:dG:=orc1 (pN .u64) sp
theorem ok:OK 108 aJ:=(dZ E aF aE func108).bFM rfl spec
end rZ
namespace Ye
def E:=mE [(194,aHA.aJ),(225,qF.aJ),(137,Cg.aJ),(108,rZ.aJ),(134,wL.aJ)] 39 [24,36] [] []
def aF:=bd f195
theorem aU:Nk E aF:=nk
theorem start a b c d e:aG E f195 aF [D.s (sc (int i64 a)),D.s (sc (bool b)),D.s (ints u64 c),D.s (sc (bool d)),D.s (sc (int i64 e))]=letI C:=M6.val c+M6.val (M6.dg 1);letI B:=bif dO.oM C then(0:Int)else(5:Int);letI A:=bif dO.oM C then M6.dg C else [];letI F:=bif B==0 then zs b (M6.val A)else(0:Int);aO (M6.bN c/\c.length<=1099511627776/\(-9223372036854775808:Int)<=(0:Int)/\(0:Int)<(9223372036854775808:Int)) (aO True (aD (!qF.qE a b (true&&decide (M6.val c/1%(2:Nat)=(1:Nat))) d e) (aO (M6.cI c/\c.length<=1099511627776) (some [D.agg [sc (bool (isNeg (zs b (M6.val c)))),ints u64 (M6.dg (zs b (M6.val c)).natAbs)],D.s (sc (int i64 0))])) (aO ((0:Int)<=(1:Int)/\(1:Int)<(18446744073709551616:Int)) (aO (M6.cI c/\M6.cI (M6.dg 1)/\c.length<=8192/\(M6.dg 1).length<=8192) (aO (M6.cI A/\A.length<=1099511627776) (some [D.agg [sc (bool (isNeg F)),ints u64 (M6.dg F.natAbs)],D.s (sc (int i64 B))])))))):=eJ aU
def sp(w:Int)(neg:Bool)(q:List Int)(rest:Bool)(half:Int):Prop×List D:=(M6.cI q/\q.length<=8192,
 wE (fit (M6.val q+bif qF.qE w neg (decide (M6.val q%2=1)) rest half then 1 else 0)) (zs neg (M6.val q+bif qF.qE w neg (decide (M6.val q%2=1)) rest half then 1 else 0)))
theorem spec(w:Int)(neg:Bool)(q:List Int)(rest:Bool)(half:Int)(h:(sp w neg q rest half).1):aG E f195 aF [(pN .i64).put w,pB.put neg,(pI .u64).put q,pB.put rest,(pN .i64).put half]=some (sp w neg q rest half).2:=by
 obtain⟨h1,h2⟩:=h;have hb:=Dc h1.gT h2;refine(start w neg q rest half).trans ?_;unfold sp
 try dsimp only
 rw[gP ⟨h1.gT,by omega,by omega,by omega⟩,gP trivial,Nat.div_one,cAJ];cases hm:qF.qE w neg (decide (M6.val q%2=1)) rest half with
 |false =>
  have hf:fit (M6.val q+0)=true:=decide_eq_true (by rw[bYI];omega);rw[Bool.not_false,bT,gP ⟨h1,by omega⟩,cond_false,hf];rfl
 |true =>
  have o1:=gD (n:=1) (k:=1) (dX.2 (by omega));rw[bZH,bF,gP ⟨by omega,by omega⟩,gP ⟨h1,M6.bA _,h2,by omega⟩,M6.bD,gP (Kp (fun h=>by rw[show dO.oM _=_ from Cu]at h;exact zG h)),Jy,show dO.oM _=_ from Cu,cond_true]
def aJ:dG:=orc5 (pN .i64) pB (pI .u64) pB (pN .i64) sp
theorem ok:OK 195 aJ:=(dZ E aF (aA aHA.ok (aA qF.ok (aA Cg.ok (aA rZ.ok (aA wL.ok aE))))) func195).bCB rfl spec
end Ye
end W
end Go.Proofs.YtaajbopgknekmaaGreatDoor
end
